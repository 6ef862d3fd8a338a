/- A part of it. -/
import Derived.Test.YtjodhcdmhobmoaaGreatDoorDF2
import Derived.RangeFuncWrites
import Derived.RangeFuncBox
import Derived.RangeFuncLeaves
import Derived.WalkKit
import Derived.OwnWalkIn
import Derived.TacticsInMore
import Derived.RegionIn
import Derived.LoopNIn
import Derived.LoopIn
import Derived.Shelf.Abstract
import Derived.IntWalk
import Derived.Lib.Hide
import Derived.Laws.Closers25b
import Derived.RangeFuncCalls
import Derived.Maps.AppendAt
set_option linter.unusedVariables false
set_option linter.unusedSimpArgs false
namespace Go.Proofs.YtjodhcdmhobmoaaGreatDoor
open Tryz
open Go Go.Proofs.YtjodhcdmhobmoaaGreatDoor.Le
set_option maxRecDepth 100000
noncomputable section
inductive xX where
 | b0 (a:List Int) (b:AL)
def Zi9:xX->Tr U (UG⊕xX)
 | .b0 a b=>.chk (kI (0:Int) a) (.bind 25 (a[(Int.toNat 0)]?) (fun(c:Int)=>AA (⟨({ b with CE:=c }:AL)⟩:UG)))
def yC (a:List Int) (b:AL):Option UG:=AY Zi9 (.b0 a b)
def Z5r:Shape:=⟨[PQ 0,OV 254],[VA 156 15]⟩
def Zg6:Shape:=⟨[],[VA 156 15]⟩
noncomputable def Zi1:HMod U:=⟨[KP,[.s 25 1]],[.var k0],Z5r,Zg6,false,1377,fun(y:UG)=>((),((y.q0,()),())),fun x=>yC x.1.2.1.1 x.2.1.1,okS rfl⟩
def ZgE:xX->Ae U
 | .b0 a b=>E5 f311 Z5r (((),((a,()),())),((b,()),()))
theorem ZgF:DU Tryz.prog B0 311 Zi1:=okR Af Ah AN [] [.var k0] 1 ZgE func311 (fun p=>by cases p<;>kernel_rfl) (by kernel_rfl) fun x=>by kernel_rfl
inductive yH where
 | b0 (a:List Int) (b:AL)
def ZiS:yH->Tr U (UI⊕yH)
 | .b0 a b=>.chk (kI (0:Int) a) (.bind 25 (a[(Int.toNat 0)]?) (fun(c:Int)=>AA (⟨({ b with Dx:=(AV (c)) }:AL)⟩:UI)))
def yK (a:List Int) (b:AL):Option UI:=AY ZiS (.b0 a b)
def Z5v:Shape:=⟨[PQ 0,OV 254],[VA 156 15]⟩
def Zg3:Shape:=⟨[],[VA 156 15]⟩
noncomputable def ZhL:HMod U:=⟨[KP,[.s 25 1]],[.var k0],Z5v,Zg3,false,1378,fun(y:UI)=>((),((y.q0,()),())),fun x=>yK x.1.2.1.1 x.2.1.1,okS rfl⟩
def Zh7:yH->Ae U
 | .b0 a b=>E5 f313 Z5v (((),((a,()),())),((b,()),()))
theorem Zhj:DU Tryz.prog B0 313 ZhL:=okR Af Ah AN [] [.var k0] 1 Zh7 func313 (fun p=>by cases p<;>kernel_rfl) (by kernel_rfl) fun x=>by kernel_rfl
inductive xU where
 | b0 (a:List Int) (b:AL)
def Zit:xU->Tr U (UE⊕xU)
 | .b0 a b=>.chk (kI (0:Int) a) (.bind 25 (a[(Int.toNat 0)]?) (fun(c:Int)=>AA (⟨({ b with Version:=(AV (c)) }:AL)⟩:UE)))
def yD (a:List Int) (b:AL):Option UE:=AY Zit (.b0 a b)
def Z5J:Shape:=⟨[PQ 0,OV 254],[VA 156 15]⟩
def Zg9:Shape:=⟨[],[VA 156 15]⟩
noncomputable def ZiQ:HMod U:=⟨[KP,[.s 25 1]],[.var k0],Z5J,Zg9,false,1379,fun(y:UE)=>((),((y.q0,()),())),fun x=>yD x.1.2.1.1 x.2.1.1,okS rfl⟩
def ZgW:xU->Ae U
 | .b0 a b=>E5 f316 Z5J (((),((a,()),())),((b,()),()))
theorem Zhm:DU Tryz.prog B0 316 ZiQ:=okR Af Ah AN [] [.var k0] 1 ZgW func316 (fun p=>by cases p<;>kernel_rfl) (by kernel_rfl) fun x=>by kernel_rfl
inductive zL where
 | b0 (a:List Int) (b:AL)
def Zie:zL->Tr U (UF⊕zL)
 | .b0 a b=>.chk (kI (0:Int) a) (.bind 25 (a[(Int.toNat 0)]?) (fun(c:Int)=>.chk (kI (1:Int) a) (.bind 25 (a[(Int.toNat 1)]?) (fun(d:Int)=>AA (⟨({ b with Bq:=(AV (c)),Dx:=(AV (d)) }:AL)⟩:UF)))))
def yT (a:List Int) (b:AL):Option UF:=AY Zie (.b0 a b)
def Z5I:Shape:=⟨[PQ 0,OV 254],[VA 156 15]⟩
def Zg1:Shape:=⟨[],[VA 156 15]⟩
noncomputable def ZiE:HMod U:=⟨[KP,[.s 25 1]],[.var k0],Z5I,Zg1,false,1380,fun(y:UF)=>((),((y.q0,()),())),fun x=>yT x.1.2.1.1 x.2.1.1,okS rfl⟩
def ZgU:zL->Ae U
 | .b0 a b=>E5 f319 Z5I (((),((a,()),())),((b,()),()))
theorem ZgA:DU Tryz.prog B0 319 ZiE:=okR Af Ah AN [] [.var k0] 1 ZgU func319 (fun p=>by cases p<;>kernel_rfl) (by kernel_rfl) fun x=>by kernel_rfl
inductive zY where
 | b0 (a:List Int) (b:AL)
def Zjr:zY->Tr U (Oi⊕zY)
 | .b0 b a=>AA (⟨a⟩:Oi)
def UK (a:List Int) (b:AL):Option Oi:=AY Zjr (.b0 a b)
def Z5W:Shape:=⟨[PQ 0,OV 254],[VA 156 15]⟩
def Zgg:Shape:=⟨[],[VA 156 15]⟩
noncomputable def Zjg:HMod U:=⟨[KP,[.s 25 1]],[.var k0],Z5W,Zgg,false,1369,fun(y:Oi)=>((),((y.q0,()),())),fun x=>UK x.1.2.1.1 x.2.1.1,okS rfl⟩
def ZiP:zY->Ae U
 | .b0 a b=>E5 f349 Z5W (((),((a,()),())),((b,()),()))
theorem Zis:DU Tryz.prog B0 349 Zjg:=okR Af Ah AN [] [.var k0] 1 ZiP func349 (fun p=>by cases p<;>kernel_rfl) (by kernel_rfl) fun x=>by kernel_rfl
inductive wY where
 | b0 (a:List Int) (b:AL)
def Zgi:wY->Tr U (RV⊕wY)
 | .b0 a b=>.chk (kI (0:Int) a) (.bind 25 (a[(Int.toNat 0)]?) (fun(c:Int)=>AA (⟨({ b with DK:=c }:AL)⟩:RV)))
def jA (a:List Int) (b:AL):Option RV:=AY Zgi (.b0 a b)
def Z5d:Shape:=⟨[PQ 0,OV 254],[VA 156 15]⟩
def ZfE:Shape:=⟨[],[VA 156 15]⟩
noncomputable def Zgf:HMod U:=⟨[KP,[.s 25 1]],[.var k0],Z5d,ZfE,false,1370,fun(y:RV)=>((),((y.q0,()),())),fun x=>jA x.1.2.1.1 x.2.1.1,okS rfl⟩
def Zg7:wY->Ae U
 | .b0 a b=>E5 f351 Z5d (((),((a,()),())),((b,()),()))
theorem Zg8:DU Tryz.prog B0 351 Zgf:=okR Af Ah AN [] [.var k0] 1 Zg7 func351 (fun p=>by cases p<;>kernel_rfl) (by kernel_rfl) fun x=>by kernel_rfl
inductive yM where
 | b0 (a:List Int) (b:AL)
def ZiO:yM->Tr U (RZ⊕yM)
 | .b0 a b=>.chk (kI (0:Int) a) (.bind 25 (a[(Int.toNat 0)]?) (fun(c:Int)=>AA (⟨({ b with Length:=(AV (c)) }:AL)⟩:RZ)))
def jK (a:List Int) (b:AL):Option RZ:=AY ZiO (.b0 a b)
def Z5B:Shape:=⟨[PQ 0,OV 254],[VA 156 15]⟩
def Zg4:Shape:=⟨[],[VA 156 15]⟩
noncomputable def Zj1:HMod U:=⟨[KP,[.s 25 1]],[.var k0],Z5B,Zg4,false,1371,fun(y:RZ)=>((),((y.q0,()),())),fun x=>jK x.1.2.1.1 x.2.1.1,okS rfl⟩
def Zgy:yM->Ae U
 | .b0 a b=>E5 f353 Z5B (((),((a,()),())),((b,()),()))
theorem ZhC:DU Tryz.prog B0 353 Zj1:=okR Af Ah AN [] [.var k0] 1 Zgy func353 (fun p=>by cases p<;>kernel_rfl) (by kernel_rfl) fun x=>by kernel_rfl
inductive ZZ where
 | b0 (a:AL)
def IL:ZZ->Tr U (Int⊕ZZ)
 | .b0 a=>let M:=AA (1:Int);let L:=AA (12:Int);let K:=(⟨a.Kind,Ba,0,0,0,0,0,0,0,0,0⟩:AL);.bind 249 (QP) (fun(J:Unit)=>.br (a.Kind==5) (.br (!true) L (.bind 254 (UJ a) (fun(E:List Int)=>.bind 1369 (UK E K) (fun(y3:Oi)=>.br (!(Gi y3.q0 a)) M (.bind 45 (Nc a) (fun(F:Int)=>AA F)))))) (.br (a.Kind==6) (.br (!true) L (.bind 254 (UJ a) (fun(G:List Int)=>.bind 1369 (UK G K) (fun(y6:Oi)=>.br (!(Gi y6.q0 a)) M (.bind 45 (Nc a) (fun(H:Int)=>AA H)))))) (.br (a.Kind==18) (.br (!true) L (.bind 254 (UJ a) (fun(I:List Int)=>.bind 1369 (UK I K) (fun(y9:Oi)=>.br (!(Gi y9.q0 a)) M (.bind 45 (Nc a) (fun(b:Int)=>AA b)))))) (.br (a.Kind==19) (.br (!true) L (.bind 254 (UJ a) (fun(c:List Int)=>.bind 1369 (UK c K) (fun(N:Oi)=>.br (!(Gi N.q0 a)) M (.bind 45 (Nc a) (fun(d:Int)=>AA d)))))) (.br (a.Kind==8) (.br (!true) L (.bind 254 (jE a) (fun(e:List Int)=>.bind 1370 (jA e K) (fun(O:RV)=>.br (!(Gi O.q0 a)) M (.bind 45 (Nc a) (fun(f:Int)=>AA f)))))) (.br (a.Kind==9) (.br (!true) L (.bind 254 (jE a) (fun(g:List Int)=>.bind 1370 (jA g K) (fun(Q:RV)=>.br (!(Gi Q.q0 a)) M (.bind 45 (Nc a) (fun(h:Int)=>AA h)))))) (.br (a.Kind==20) (.br (!true) L (.bind 254 (jT a) (fun(i:List Int)=>.bind 1371 (jK i K) (fun(S:RZ)=>.br (!(Gi S.q0 a)) M (.bind 45 (jS a) (fun(j:Int)=>AA j)))))) (.br (a.Kind==21) (.br (!true) L (.bind 254 (jT a) (fun(k:List Int)=>.bind 1371 (jK k K) (fun(Y:RZ)=>.br (!(Gi Y.q0 a)) M (.bind 45 (jS a) (fun(l:Int)=>AA l)))))) (.br (a.Kind==0) (.br (!true) L (.bind 254 (Zy a) (fun(m:List Int)=>.bind 1372 (Zb m K) (fun(y27:UN)=>.br (!(Gi y27.q0 a)) M (.bind 45 (Zr a) (fun(n:Int)=>AA n)))))) (.br (a.Kind==1) (.br (!true) L (.bind 254 (Z7 a) (fun(o:List Int)=>.bind 1373 (Zq o K) (fun(y30:UM)=>.br (!(Gi y30.q0 a)) M (.bind 45 (Zj a) (fun(p:Int)=>AA p)))))) (.br (a.Kind==15) (.br (!true) L (.bind 254 (Z9 a) (fun(q:List Int)=>.bind 1374 (Zv q K) (fun(y33:UL)=>.br (!(Gi y33.q0 a)) M (.bind 45 (Zg a) (fun(r:Int)=>AA r)))))) (.br (a.Kind==2) (.br (!true) L (.bind 254 (yV a) (fun(s:List Int)=>.bind 1375 (yY s K) (fun(y36:UH)=>.br (!(Gi y36.q0 a)) M (.bind 45 (yR a) (fun(t:Int)=>AA t)))))) (.br (a.Kind==3) (.br (!true) L (.bind 254 (xY a) (fun(u:List Int)=>.bind 1376 (zJ u K) (fun(y39:UD)=>.br (!(Gi y39.q0 a)) M (.bind 45 (Nc a) (fun(v:Int)=>AA v)))))) (.br (a.Kind==4) (.br (!true) L (.bind 254 (yB a) (fun(w:List Int)=>.bind 1377 (yC w K) (fun(y42:UG)=>.br (!(Gi y42.q0 a)) M (.bind 45 (Nc a) (fun(y:Int)=>AA y)))))) (.br (a.Kind==7) (.br (!true) L (.bind 254 (xR a) (fun(z:List Int)=>.bind 1378 (yK z K) (fun(y45:UI)=>.br (!(Gi y45.q0 a)) M (.bind 45 (zO a) (fun(x:Int)=>AA x)))))) (.br (a.Kind==12) (.br (!true) L (.bind 254 (yE a) (fun(A:List Int)=>.bind 1379 (yD A K) (fun(y48:UE)=>.br (!(Gi y48.q0 a)) M (.bind 45 (xQ a) (fun(B:Int)=>AA B)))))) (.br (a.Kind==13) (.br (!true) L (.bind 254 (yJ a) (fun(C:List Int)=>.bind 1380 (yT C K) (fun(y51:UF)=>.br (!(Gi y51.q0 a)) M (.bind 45 (yQ a) (fun(D:Int)=>AA D)))))) (.br (!false) L (.fail)))))))))))))))))))
def XB (a:AL):Option Int:=AY IL (.b0 a)
def Zkw:ZZ->Ae U
 | .b0 a=>Am f228 [156] (a,())
theorem Zkk:AA1 228 [156] 45 (fun x=>XB x.1) rfl:=Ap (mc Zkd (mc Zi5 (mc Zjd (mc ZhF (mc Ziy (mc Ziw (mc ZhV (mc Zhb (mc Zhk (mc ZgJ (mc Zly (mc Zh6 (mc Zhp (mc Zh2 (mc Zhf (mc ZgC (mc ZhA (mc Zhe (mc ZhW (mc Zga (mc Zht (mc Zhw Af)))))))))))))))))))))) (hc [] Zih (hc [] ZiU (hc [] Ziz (hc [] Zhq (hc [] Zh3 (hc [] ZgF (hc [] Zhj (hc [] Zhm (hc [] ZgA (hc [] Zis (hc [] Zg8 (hc [] ZhC Ah)))))))))))) AN Zkw func228 (fun p=>by cases p<;>kernel_rfl) (by kernel_rfl) fun _=>rfl
inductive xE where
 | b0 (a:Int)
 | b1 (a b:Int)
 | b2 (a b:Int)
 | b3 (a b:Int)
 | b4 (a b:Int)
def xC:xE->Tr U (Int⊕xE)
 | .b0 a=>let c:=AA (8:Int);let b:=AP (xE.b1 a a);.br (a==8) (.br (a==8) c b) (.br (a==9) c b)
 | .b1 b a=>let d:=AA (3:Int);let c:=AP (xE.b2 b a);.br (a==3) (.br (a==3) d c) (.br (a==4) (.br (a==4) d c) (.br (a==5) (.br (a==5) d c) (.br (a==6) d c)))
 | .b2 b a=>let d:=AA (18:Int);let c:=AP (xE.b3 b a);.br (a==18) (.br (a==18) d c) (.br (a==19) d c)
 | .b3 b a=>let d:=AA (20:Int);let c:=AP (xE.b4 b a);.br (a==20) (.br (a==20) d c) (.br (a==21) d c)
 | .b4 b a=>let c:=AA (-1:Int);.br (a==0) (.br (a==0) (AA b) c) (.br (a==1) (.br (a==1) (AA b) c) (.br (a==2) (.br (a==2) (AA b) c) (.br (a==12) (.br (a==12) (AA b) c) (.br (a==15) (AA b) c))))
def WM (a:Int):Option Int:=AY xC (.b0 a)
def QF:Lay:=⟨[0,3],[KP,KP],[],⟨[OV 3,OV 3],[]⟩⟩
def ZgX:Nat->Option Lay
 | 5=>some QF
 | 10=>some QF
 | 13=>some QF
 | 16=>some QF
 | _=>none
def Zgp:xE->Ae U
 | .b0 a=>Am f335 [3] (a,())
 | .b1 a b=>AA3 f335 [1,0,1,0,1,1,0,0] QF (a,b,())
 | .b2 a b=>AA3 f335 [1,0,1,0,1,1,1,1,0,0] QF (a,b,())
 | .b3 a b=>AA3 f335 [1,0,1,0,1,1,1,1,1,1,0,0] QF (a,b,())
 | .b4 a b=>AA3 f335 [1,0,1,0,1,1,1,1,1,1,1,1,0,0] QF (a,b,())
theorem Zgk:AA1 335 [3] 3 (fun x=>WM x.1) rfl:=Ap Af Ah ZgX Zgp func335 (fun p=>by cases p<;>kernel_rfl) (by kernel_rfl) fun _=>rfl
inductive Z0f where
 | b0 (a:A7) (b c:Int)
def Z09:Z0f->Tr U (Rk⊕Z0f)
 | .b0 a b c=>.bind 1345 (RS a.Aa) (fun(q:QD)=>.bind 1346 (QG a.Ak) (fun(z:QE)=>.chk (kL q.q0&&(kL z.q0&&(true&&true))) (AA (⟨(⟨({ a with Aa:=q.q0,Ak:=z.q0 }:A7),b,c,([]:List AL),([]:List BD)⟩:DF)⟩:Rk))))
def XF (a:A7) (b c:Int):Option Rk:=AY Z09 (.b0 a b c)
def Z6M:Shape:=⟨[.agg [.v 39 20 true],OV 30,OV 3],[]⟩
def Zk1:Shape:=⟨[PQ 0],[.var 211 24 (JU 1),.row 156 true,.row 138 true,.row 156 true,.row 148 true]⟩
noncomputable def ZmI:HMod U:=⟨[k1,KP,KP],[],Z6M,Zk1,true,1362,fun(y:Rk)=>(((),()),(JR y.q0)),fun x=>XF x.1.1.1 x.1.2.1.1 x.1.2.2.1.1,okS rfl⟩
def ZlI:Z0f->Ae U
 | .b0 a b c=>E5 f177 Z6M (((a,()),((b,()),((c,()),()))),())
theorem Z77:DU Tryz.prog B0 177 ZmI:=okR Af (hc [] Z5b (hc [] wU Ah)) AN [KP] [.var k7,.row true,.row true,.row true,.row true] 0 ZlI func177 (fun p=>by cases p<;>kernel_rfl) (by kernel_rfl) fun x=>by kernel_rfl
inductive Z0c where
 | b0 (a b:Int)
def Z06:Z0c->Tr U (Int⊕Z0c)
 | .b0 b a=>let d:=(if (0:Int)>a then (0:Int) else a);.bind 30 (UX b (AV ((6:Int)+(if (499:Int)<d then (499:Int) else d)))) (fun(c:Int)=>AA c)
def kT (a b:Int):Option Int:=AY Z06 (.b0 a b)
def ZkU:Z0c->Ae U
 | .b0 a b=>Am f253 [30,3] (a,b,())
theorem ZlE:AA1 253 [30,3] 30 (fun x=>kT x.1 x.2.1) rfl:=Ap (mc Z7Y Af) Ah AN ZkU func253 (fun p=>by cases p<;>kernel_rfl) (by kernel_rfl) fun _=>rfl
inductive Z0A where
 | b0 (a b:Int)
def Z8E:Z0A->Tr U (Int⊕Z0A)
 | .b0 a b=>AA (AV ((IntKind.wrap .i16 ((IntKind.wrap .u16 (b - a))))))
def lJ (a b:Int):Option Int:=AY Z8E (.b0 a b)
def ZmC:Z0A->Ae U
 | .b0 a b=>Am f331 [30,30] (a,b,())
theorem ZlR:AA1 331 [30,30] 3 (fun x=>lJ x.1 x.2.1) rfl:=Ap Af Ah AN ZmC func331 (fun p=>by cases p<;>kernel_rfl) (by kernel_rfl) fun _=>rfl
inductive ZP where
 | b0 (a b:Int)
def ZR:ZP->Tr U (Bool⊕ZP)
 | .b0 a b=>.bind 3 (lJ b a) (fun(c:Int)=>AA (decide (c>=0)))
def kG (a b:Int):Option Bool:=AY ZR (.b0 a b)
def Zkl:ZP->Ae U
 | .b0 a b=>Am f252 [30,30] (a,b,())
theorem ZkH:AA1 252 [30,30] 4 (fun x=>kG x.1 x.2.1) rfl:=Ap (mc ZlR Af) Ah AN Zkl func252 (fun p=>by cases p<;>kernel_rfl) (by kernel_rfl) fun _=>rfl
inductive Z00 where
 | b0 (a:Int) (b:BF)
 | b1 (a:Int) (b:BF)
def Rj:Z00->Tr U (Int⊕Z00)
 | .b0 b a=>let c:=AP (Z00.b1 b a);.br (a.Kind != 0) (.br (a.Kind != 1) (AA (12:Int)) c) c
 | .b1 a b=>.bind 4 (kG a b.CP) (fun(c:Bool)=>.br c (AA (18:Int)) (AA (0:Int)))
def kS (a:Int) (b:BF):Option Int:=AY Rj (.b0 a b)
def Z6x:Lay:=⟨[0,3],[KP,KP],[.var k14],⟨[OV 30,PQ 0],[VA 138 8]⟩⟩
def Zl1:Nat->Option Lay
 | 3=>some Z6x
 | _=>none
def ZkN:Z00->Ae U
 | .b0 a b=>Am f332 [30,138] (a,b,())
 | .b1 a b=>AA3 f332 [1,1,0,0] Z6x (a,b,())
theorem Zkz:AA1 332 [30,138] 45 (fun x=>kS x.1 x.2.1) rfl:=Ap (mc ZkH Af) Ah Zl1 ZkN func332 (fun p=>by cases p<;>kernel_rfl) (by kernel_rfl) fun _=>rfl
inductive Z0q where
 | b0 (a:List BF) (b:Int) (c:BF)
def Z0B:Z0q->Tr U (((List BF)×Int)⊕Z0q)
 | .b0 a d b=>.bind 45 (kS d b) (fun(c:Int)=>.br (c != 0) (.bind 1346 (QG a) (fun(q:QE)=>kl q.q0 (AA (q.q0,c)))) (.br (decide ((↑a.length:Int)>0)) (.bind 1346 (QG a) (fun(z:QE)=>kl z.q0 (AA (z.q0,20)))) (.chk true (AA ([b],(0:Int))))))
def lC (a:List BF) (b:Int) (c:BF):Option ((List BF)×Int):=AY Z0B (.b0 a b c)
def Zmb:Z0q->Ae U
 | .b0 a b c=>Am f254 [37,30,138] (a,b,c,())
theorem Zmu:AA1 254 [37,30,138] 269 (fun x=>lC x.1 x.2.1 x.2.2.1) rfl:=Ap (mc Zkz Af) (hc [] wU Ah) AN Zmb func254 (fun p=>by cases p<;>kernel_rfl) (by kernel_rfl) fun _=>rfl
inductive zQ where
 | b0 (a:AL)
def Zja:zQ->Tr U (BF⊕zQ)
 | .b0 a=>AA (⟨a.Kind,a.CP,a.BG,a.Map⟩:BF)
def xZ (a:AL):Option BF:=AY Zja (.b0 a)
def ZgO:zQ->Ae U
 | .b0 a=>Am f255 [156] (a,())
theorem Zhh:AA1 255 [156] 138 (fun x=>xZ x.1) rfl:=Ap Af Ah AN ZgO func255 (fun p=>by cases p<;>kernel_rfl) (by kernel_rfl) fun _=>rfl
inductive wS where
 | b0 (a:AL) (b:DF)
def Z5f:wS->Tr U (Tn⊕wS)
 | .b0 b a=>let c:=a.f_out++[b];.chk true (kl a.f_out (.chk (kA (a.f_out.length+1) 120) (.chk (kL a.AB.Aa&&(kL c&&kL a.DJ)) (AA (⟨({ a with f_out:=c }:DF)⟩:Tn)))))
def wQ (a:AL) (b:DF):Option Tn:=AY Z5f (.b0 a b)
def Z59:Shape:=⟨[PQ 0,.agg [.v 156 15 true]],[.var 211 24 (ag5 1),.row 156 true,.row 156 true,.row 148 true]⟩
def Zfl:Shape:=⟨[],[.var 211 24 (ag5 1),.row 156 true,.row 156 true,.row 148 true]⟩
noncomputable def ZfP:HMod U:=⟨[KP,k0],[.var k11,.row true,.row true,.row true],Z59,Zfl,false,1368,fun(y:Tn)=>((),(tu5 y.q0)),fun x=>wQ x.1.2.1.1 (match x with|⟨_,⟨Y,v2,v4,v6,v7,v8,v9,q,z,A,C,D,F,G,I,J,M,N,O,Q,S,_⟩,v1,v3,v5,_⟩=>(⟨(⟨Y,v2,v4,v1,v6,v7,v8,v9,q,z,A,C,D,F,G,I,J,M,N,O⟩:A7),Q,S,v3,v5⟩:DF)),okS rfl⟩
def ZfF:wS->Ae U
 | .b0 a b=>E5 f256 Z59 (((),((a,()),())),(tu5 b))
theorem ZfM:DU Tryz.prog B0 256 ZfP:=okR Af Ah AN [] [.var k11,.row true,.row true,.row true] 4 ZfF func256 (fun p=>by cases p<;>kernel_rfl) (by kernel_rfl) fun x=>by kernel_rfl
inductive wV where
 | b0 (a:AL) (b:DF)
 | b1 (a:DF) (b:AL)
 | b2 (a:Int) (b:DF) (c:AL)
 | b3 (a:DF) (b:AL) (c:List BF)
 | b4 (a:DF) (b:AL) (c:List BF)
def Oh:wV->Tr U (RU⊕wV)
 | .b0 b a=>let g:=b.Kind==0;let d:=kL a.AB.Aa&&(kL a.AB.Ak&&(kL a.f_out&&kL a.DJ));let c:=({ a with AB:=({ a.AB with Own:=b.Kind,Since:=a.IE }:A7) }:DF);let f:=Tr.chk d (AP (wV.b1 c b));let e:=Tr.chk d (AP (wV.b2 b.Kind c b));.br g (.br g f e) (.br (b.Kind==1) f e)
 | .b1 a b=>let h:=kL a.AB.Aa&&(kL a.f_out&&(kL a.DJ&&kL a.AB.Ak));.bind 30 (kT a.KW (0:Int)) (fun(c:Int)=>let i:=({ b with CP:=c }:AL);.bind 138 (xZ i) (fun(e:BF)=>kl a.AB.Ak (.bind 269 (lC a.AB.Ak a.KW e) (fun(d:(List BF)×Int)=>let g:=({ a with AB:=({ a.AB with Ak:=d.1,Told:=false }:A7) }:DF);let f:=Tr.chk h (AP (wV.b4 g i a.AB.Ak));.br (b.Kind==0) (.br (a.AB.Other==15) (.chk h (AP (.b3 g i a.AB.Ak))) f) f))))
 | .b2 c a b=>let d:=kL a.AB.Aa&&(kL a.f_out&&(kL a.DJ&&kL a.AB.Ak));.br (c==3) (kl a.AB.Ak (.chk d (AP (.b4 ({ a with AB:=({ a.AB with CE:=b.CE,Mark:=b.Mark,CJ:=1 }:A7) }:DF) b a.AB.Ak)))) (.br (c==12) (kl a.AB.Ak (.chk d (AP (.b4 ({ a with AB:=({ a.AB with FX:=true }:A7) }:DF) b a.AB.Ak)))) (.br (c==20) (kl a.AB.Ak (.chk d (AP (.b4 ({ a with AB:=({ a.AB with Limit:=b.Length }:A7) }:DF) b a.AB.Ak)))) (kl a.AB.Ak (.chk d (AP (.b4 a b a.AB.Ak))))))
 | .b3 a c b=>.chk (kL a.AB.Aa&&(kL a.f_out&&(kL a.DJ&&kL b))) (AP (.b4 ({ a with AB:=({ a.AB with Other:=-1 }:A7) }:DF) c b))
 | .b4 a c b=>.chk (kL a.AB.Aa&&(kL a.f_out&&kL a.DJ)) (.bind 1368 (wQ c a) (fun(q:Tn)=>.chk (kL q.q0.AB.Aa&&(kL q.q0.f_out&&(kL q.q0.DJ&&kL b))) (AA (⟨q.q0,b⟩:RU))))
def WH (a:AL) (b:DF):Option RU:=AY Oh (.b0 a b)
def Z55:Shape:=⟨[PQ 0,.agg [.v 156 15 true]],[.var 211 24 (JU 1),.row 156 true,.row 138 true,.row 156 true,.row 148 true]⟩
def Zfp:Shape:=⟨[],[.var 211 24 (ag6 1 3 4),.row 156 true,.row 138 false,.row 156 true,.row 148 true]⟩
noncomputable def ZfS:HMod U:=⟨[KP,k0],[.var k7,.row true,.row true,.row true,.row true],Z55,Zfp,false,1367,fun(y:RU)=>((),((tu6 y.q0),(y.q0.AB.Aa,(y.q1,(y.q0.f_out,(y.q0.DJ,())))))),fun x=>WH x.1.2.1.1 (match x with|⟨_,⟨Y,v2,v4,v6,v8,v9,q,z,A,C,D,F,G,I,J,M,N,O,Q,S,_⟩,v1,v3,v5,v7,_⟩=>(⟨(⟨Y,v2,v4,v1,v6,v8,v3,v9,q,z,A,C,D,F,G,I,J,M,N,O⟩:A7),Q,S,v5,v7⟩:DF)),okS rfl⟩
def Z56:Lay:=⟨[0,3],[KP,KP],[.var k7,.row true,.row true,.row true,.row true,.var k0],⟨[PQ 0,PQ 5],[.var 211 24 (JU 1),.row 156 true,.row 138 true,.row 156 true,.row 148 true,VA 156 15]⟩⟩
def Z57:Lay:=⟨[0,3,19],[KP,KP,KP],[.var k7,.row true,.row true,.row true,.row true,.var k0],⟨[PQ 0,PQ 5,OV 3],[.var 211 24 (JU 1),.row 156 true,.row 138 true,.row 156 true,.row 148 true,VA 156 15]⟩⟩
def iQ:Lay:=⟨[0,3],[KP,KP],[.var k11,.row true,.row false,.row true,.row true,.var k0],⟨[PQ 0,PQ 5],[.var 211 24 (ag6 1 3 4),.row 156 true,.row 138 false,.row 156 true,.row 148 true,VA 156 15]⟩⟩
def ZfO:Nat->Option Lay
 | 5=>some Z56
 | 10=>some Z57
 | 9=>some iQ
 | 16=>some iQ
 | _=>none
def ZfJ:wV->Ae U
 | .b0 a b=>E5 f183 Z55 (((),((a,()),())),(JR b))
 | .b1 a b=>Ad f183 [1,1,0,1,0,1,0,0] Z56 (((),((),())),((tu3 a),(a.AB.Aa,(a.AB.Ak,(a.f_out,(a.DJ,((b,()),())))))))
 | .b2 b a c=>Ad f183 [1,1,0,1,0,1,1,0] Z57 (((),((),((b,()),()))),((tu3 a),(a.AB.Aa,(a.AB.Ak,(a.f_out,(a.DJ,((c,()),())))))))
 | .b3 a b c=>Ad f183 [1,1,0,1,0,1,0,1,1,1,1,0] iQ (((),((),())),((tu6 a),(a.AB.Aa,(c,(a.f_out,(a.DJ,((b,()),())))))))
 | .b4 a b c=>Ad f183 [1,1,1] iQ (((),((),())),((tu6 a),(a.AB.Aa,(c,(a.f_out,(a.DJ,((b,()),())))))))
theorem ZfI:DU Tryz.prog B0 183 ZfS:=okR (mc ZlE (mc Zmu (mc Zhh Af))) (hc [] ZfM Ah) ZfO [] [.var k11,.row true,.row false,.row true,.row true] 5 ZfJ func183 (fun p=>by cases p<;>kernel_rfl) (by kernel_rfl) fun x=>by kernel_rfl
end
noncomputable section
inductive wL where
 | b0 (a:AL) (b:DF)
 | b1 (a:DF) (b c:AL)
def iR:wL->Tr U (N8⊕wL)
 | .b0 b a=>let f:=b.Kind==0;let c:=kL a.AB.Aa&&(kL a.AB.Ak&&(kL a.f_out&&kL a.DJ));let e:=Tr.chk c (AA (⟨b,a⟩:N8));let d:=Tr.chk c (AP (wL.b1 a b Fp));.br (b.Kind==8) (.chk c (AA (⟨({ b with DK:=a.AB.DK }:AL),a⟩:N8))) (.br (b.Kind==12) (.chk c (AA (⟨({ b with Version:=11 }:AL),a⟩:N8))) (.br f (.br f d e) (.br (b.Kind==1) d e)))
 | .b1 a b c=>.chk (kL a.AB.Aa&&(kL a.AB.Ak&&(kL a.f_out&&kL a.DJ))) (AA (⟨({ b with CP:=0 }:AL),a⟩:N8))
def wO (a:AL) (b:DF):Option N8:=AY iR (.b0 a b)
def Z52:Shape:=⟨[PQ 0,.agg [.v 156 15 true]],[.var 211 24 (JU 1),.row 156 true,.row 138 true,.row 156 true,.row 148 true]⟩
def Zfe:Shape:=⟨[.agg [.v 156 15 true]],[.var 211 24 (JU 1),.row 156 true,.row 138 true,.row 156 true,.row 148 true]⟩
noncomputable def ZfD:HMod U:=⟨[KP,k0],[.var k7,.row true,.row true,.row true,.row true],Z52,Zfe,true,1363,fun(y:N8)=>(((y.q0,()),()),(JR y.q1)),fun x=>wO x.1.2.1.1 (match x with|⟨_,⟨Y,v2,v4,v6,v8,v9,q,z,A,C,D,F,G,I,J,M,N,O,Q,S,_⟩,v1,v3,v5,v7,_⟩=>(⟨(⟨Y,v2,v4,v1,v6,v8,v3,v9,q,z,A,C,D,F,G,I,J,M,N,O⟩:A7),Q,S,v5,v7⟩:DF)),okS rfl⟩
def Z4Z:Lay:=⟨[3,4],[KP,KP],[.var k7,.row true,.row true,.row true,.row true,.var k0,.var k0],⟨[PQ 5,PQ 6],[.var 211 24 (JU 1),.row 156 true,.row 138 true,.row 156 true,.row 148 true,VA 156 15,VA 156 15]⟩⟩
def ZfL:Nat->Option Lay
 | 8=>some Z4Z
 | _=>none
def Zft:wL->Ae U
 | .b0 a b=>E5 f336 Z52 (((),((a,()),())),(JR b))
 | .b1 a b c=>Ad f336 [1,0,1,0,1,1,1,1,1,0] Z4Z (((),((),())),((tu3 a),(a.AB.Aa,(a.AB.Ak,(a.f_out,(a.DJ,((b,()),((c,()),()))))))))
theorem Zfw:DU Tryz.prog B0 336 ZfD:=okR Af Ah ZfL [k0] [.var k7,.row true,.row true,.row true,.row true] 5 Zft func336 (fun p=>by cases p<;>kernel_rfl) (by kernel_rfl) fun x=>by kernel_rfl
inductive wH where
 | b0 (a:QM)
def ZfC:wH->Tr U (Bool⊕wH)
 | .b0 a=>AA (a.AB.BR != 1)
def WG (a:QM):Option Bool:=AY ZfC (.b0 a)
def Zfm:wH->Ae U
 | .b0 a=>Am f179 [206] (a,())
theorem Z50:AA1 179 [206] 4 (fun x=>WG x.1) rfl:=Ap Af Ah AN Zfm func179 (fun p=>by cases p<;>kernel_rfl) (by kernel_rfl) fun _=>rfl
inductive vZ where
 | b0 (a:AL)
def Zfh:vZ->Tr U (Bool⊕vZ)
 | .b0 a=>AA (a.Kind==3)
def wC (a:AL):Option Bool:=AY Zfh (.b0 a)
def Zf9:vZ->Ae U
 | .b0 a=>Am f362 [156] (a,())
theorem Zfb:AA1 362 [156] 4 (fun x=>wC x.1) rfl:=Ap Af Ah AN Zf9 func362 (fun p=>by cases p<;>kernel_rfl) (by kernel_rfl) fun _=>rfl
inductive wB where
 | b0 (a:List AL)
 | b1 (a:List AL) (b c:Int)
def RP:wB->Tr U (RQ⊕wB)
 | .b0 a=>kl a (kl a (AP (.b1 a (↑a.length:Int) (0:Int))))
 | .b1 a c b=>.br (decide (b<c)) (kl a (.chk (kI b a) (kl a (.bind 156 (a[(Int.toNat b)]?) (fun(d:AL)=>.bind 4 (wC d) (fun(e:Bool)=>.br e (AA (⟨b,a⟩:RQ)) (kl a (AP (.b1 a c (AV (b+1))))))))))) (AA (⟨-1,a⟩:RQ))
def iP (a:List AL):Option RQ:=AY RP (.b0 a)
def Z4U:Shape:=⟨[.one (.own 156 0),.one (.fn 362 [] [])],[.row 156 true]⟩
def Zf8:Shape:=⟨[OV 3],[.row 156 true]⟩
noncomputable def Zfi:HMod U:=⟨[[.own 156 15],KP],[.row true],Z4U,Zf8,true,1366,fun(y:RQ)=>(((y.q0,()),()),(y.q1,())),fun x=>iP x.2.1,okS rfl⟩
def Z4V:Lay:=⟨[0,1,7,8],[[.own 156 15],KP,KP,KP],[.row true],⟨[.one (.own 156 0),.one (.fn 362 [] []),OV 3,OV 3],[.row 156 true]⟩⟩
def Zfk:Nat->Option Lay
 | 2=>some Z4V
 | _=>none
def Zfc:wB->Ae U
 | .b0 a=>E5 f385 Z4U (((),((),())),(a,()))
 | .b1 a b c=>AA3 f385 [1,0,1,0,0,0] Z4V (b,c,a,())
theorem Zfa:DU Tryz.prog B0 385 Zfi:=okR (mc Zfb Af) Ah Zfk [KP] [.row true] 1 Zfc func385 (fun p=>by cases p<;>kernel_rfl) (by kernel_rfl) fun x=>by kernel_rfl
inductive vX where
 | b0 (a:List AL)
def Z4T:vX->Tr U (Tj⊕vX)
 | .b0 a=>kl a (.bind 1366 (iP a) (fun(q:RQ)=>AA (⟨(decide (q.q0>=0)),q.q1⟩:Tj)))
def vY (a:List AL):Option Tj:=AY Z4T (.b0 a)
def Z4S:Shape:=⟨[.one (.own 156 0),.one (.fn 362 [] [])],[.row 156 true]⟩
def Zf4:Shape:=⟨[OV 4],[.row 156 true]⟩
noncomputable def Zf7:HMod U:=⟨[[.own 156 15],KP],[.row true],Z4S,Zf4,true,1365,fun(y:Tj)=>(((y.q0,()),()),(y.q1,())),fun x=>vY x.2.1,okS rfl⟩
def Zf5:vX->Ae U
 | .b0 a=>E5 f361 Z4S (((),((),())),(a,()))
theorem Zf6:DU Tryz.prog B0 361 Zf7:=okR Af (hc [362] Zfa Ah) AN [KP] [.row true] 1 Zf5 func361 (fun p=>by cases p<;>kernel_rfl) (by kernel_rfl) fun x=>by kernel_rfl
inductive wF where
 | b0 (a:Int) (b:DF)
 | b1 (a:Int) (b:Bool) (c:DF)
 | b2 (a:Int) (b:Bool) (c:DF)
 | b3 (a:Int) (b:DF)
def QC:wF->Tr U (Jr⊕wF)
 | .b0 b a=>kl a.AB.Aa (.bind 1365 (vY a.AB.Aa) (fun(q:Tj)=>let e:=({ a with AB:=({ a.AB with Aa:=q.q1 }:A7) }:DF);let d:=(q.q1.length==a.AB.Aa.length)&&(kL a.AB.Ak&&(kL a.f_out&&kL a.DJ));let c:=Tr.chk d (AA (⟨true,e⟩:Jr));.br (a.AB.ER != 0) c (.br (a.AB.Own==2) c (.chk d (AP (.b1 b q.q0 e))))))
 | .b1 b c a=>let e:=kL a.AB.Aa&&(kL a.AB.Ak&&(kL a.f_out&&kL a.DJ));let f:=Tr.chk e (AP (wF.b2 b c a));.bind 4 (jF b) (fun(d:Bool)=>.br d f (.br (b==3) f (.chk e (AP (.b3 b a)))))
 | .b2 b c a=>let e:=kL a.AB.Aa&&(kL a.AB.Ak&&(kL a.f_out&&kL a.DJ));let f:=Tr.chk e (AA (⟨true,a⟩:Jr));.bind 4 (WG (ZM a)) (fun(d:Bool)=>.br (!d) f (.br (b==3) (.br (a.AB.CJ != 0) f (.chk e (AA (⟨c,a⟩:Jr)))) (.chk e (AA (⟨false,a⟩:Jr)))))
 | .b3 b a=>let d:=kL a.AB.Aa&&(kL a.AB.Ak&&(kL a.f_out&&kL a.DJ));.br (b==15) (.bind 4 (WG (ZM a)) (fun(c:Bool)=>.chk d (AA (⟨c,a⟩:Jr)))) (.chk d (AA (⟨false,a⟩:Jr)))
def wG (a:Int) (b:DF):Option Jr:=AY QC (.b0 a b)
def Z4X:Shape:=⟨[PQ 0,OV 3],[.var 211 24 (JU 1),.row 156 true,.row 138 true,.row 156 true,.row 148 true]⟩
def Zfd:Shape:=⟨[OV 4],[.var 211 24 (JU 1),.row 156 true,.row 138 true,.row 156 true,.row 148 true]⟩
noncomputable def Zfx:HMod U:=⟨[KP,KP],[.var k7,.row true,.row true,.row true,.row true],Z4X,Zfd,true,1364,fun(y:Jr)=>(((y.q0,()),()),(JR y.q1)),fun x=>wG x.1.2.1.1 (match x with|⟨_,⟨Y,v2,v4,v6,v8,v9,q,z,A,C,D,F,G,I,J,M,N,O,Q,S,_⟩,v1,v3,v5,v7,_⟩=>(⟨(⟨Y,v2,v4,v1,v6,v8,v3,v9,q,z,A,C,D,F,G,I,J,M,N,O⟩:A7),Q,S,v5,v7⟩:DF)),okS rfl⟩
def iO:Lay:=⟨[0,1,5],[KP,KP,KP],[.var k7,.row true,.row true,.row true,.row true],⟨[PQ 0,OV 3,OV 4],[.var 211 24 (JU 1),.row 156 true,.row 138 true,.row 156 true,.row 148 true]⟩⟩
def Z4W:Lay:=⟨[0,1],[KP,KP],[.var k7,.row true,.row true,.row true,.row true],⟨[PQ 0,OV 3],[.var 211 24 (JU 1),.row 156 true,.row 138 true,.row 156 true,.row 148 true]⟩⟩
def Zfu:Nat->Option Lay
 | 4=>some iO
 | 5=>some iO
 | 6=>some Z4W
 | _=>none
def Zfn:wF->Ae U
 | .b0 a b=>E5 f337 Z4X (((),((a,()),())),(JR b))
 | .b1 a b c=>Ad f337 [1,1,0,0,1,1,0] iO (((),((a,()),((b,()),()))),(JR c))
 | .b2 a b c=>Ad f337 [1,1,0,0,1,1,1,0,0] iO (((),((a,()),((b,()),()))),(JR c))
 | .b3 a b=>Ad f337 [1,1,0,0,1,1,1,1,0] Z4W (((),((a,()),())),(JR b))
theorem Zfo:DU Tryz.prog B0 337 Zfx:=okR (mc Z50 (mc Z5A Af)) (hc [362] Zf6 Ah) Zfu [KP] [.var k7,.row true,.row true,.row true,.row true] 5 Zfn func337 (fun p=>by cases p<;>kernel_rfl) (by kernel_rfl) fun x=>by kernel_rfl
inductive zW where
 | b0 (a:A7) (b:AL) (c d:Int)
 | b1 (a:A7) (b:DF)
 | b2 (a:AL) (b:A7) (c:DF)
 | b3 (a:A7) (b:DF)
 | b4 (a:AL) (b:A7) (c:DF)
 | b5 (a:AL) (b:A7) (c:DF)
def Kv:zW->Tr U ((A7×(List AL)×Int)⊕zW)
 | .b0 c a d e=>let i:=([]:List AL);.bind 1362 (XF c d e) (fun(q:Rk)=>.bind 3 (WM a.Kind) (fun(f:Int)=>.br (f != a.Kind) (kl q.q0.AB.Aa (kl q.q0.AB.Ak (.chk true (AA (q.q0.AB,i,(12:Int)))))) (.chk (kL q.q0.AB.Aa&&(kL q.q0.AB.Ak&&(kL q.q0.f_out&&kL q.q0.DJ))) (.bind 1363 (wO a q.q0) (fun(z:N8)=>.bind 45 (XB z.q0) (fun(b:Int)=>.br (b != 0) (kl z.q1.AB.Aa (kl z.q1.AB.Ak (.chk true (AA (z.q1.AB,i,b))))) (.chk (kL z.q1.AB.Aa&&(kL z.q1.AB.Ak&&(kL z.q1.f_out&&kL z.q1.DJ))) (.bind 1364 (wG z.q0.Kind z.q1) (fun(A:Jr)=>let g:=kL A.q1.AB.Aa&&(kL A.q1.AB.Ak&&(kL A.q1.f_out&&kL A.q1.DJ));let h:=Tr.chk g (AP (zW.b2 z.q0 Dv A.q1));.br A.q0 (kl A.q1.AB.Aa (kl A.q1.AB.Ak (.chk true (AA (A.q1.AB,i,(9:Int)))))) (.br (z.q0.Kind==12) (.br A.q1.AB.FX (.chk g (AP (.b1 Dv A.q1))) h) h))))))))))
 | .b1 b a=>kl a.AB.Aa (kl a.AB.Ak (.chk true (AA (a.AB,([]:List AL),(0:Int)))))
 | .b2 b c a=>let g:=kL a.AB.Ak&&(kL a.f_out&&kL a.DJ);let e:=kL a.AB.Aa&&g;let h:=Tr.chk e (AP (zW.b4 b c a));let f:=Tr.chk e (AP (zW.b5 b c a));.br (b.Kind==2) (.chk (true&&g) (.bind 1367 (WH b ({ a with AB:=({ a.AB with Aa:=([]:List AL) }:A7) }:DF)) (fun(q:RU)=>.chk (kL q.q0.AB.Aa&&(kL q.q0.f_out&&kL q.q0.DJ)) (AP (.b3 c q.q0))))) (.br (a.AB.Own == -1) (kl a.AB.Aa (.br ((↑a.AB.Aa.length:Int)==0) (.bind 4 (jF b.Kind) (fun(d:Bool)=>.br d (kl a.AB.Ak (.br (!(decide ((↑a.AB.Ak.length:Int)>0))) h f)) (.br (!false) h f))) f)) f)
 | .b3 b a=>kl a.AB.Aa (kl a.f_out (AA (a.AB,a.f_out,(0:Int))))
 | .b4 b c a=>.chk (kL a.AB.Aa&&(kL a.AB.Ak&&(kL a.f_out&&kL a.DJ))) (.bind 1367 (WH b a) (fun(q:RU)=>.chk (kL q.q0.AB.Aa&&(kL q.q0.f_out&&kL q.q0.DJ)) (AP (.b3 c q.q0))))
 | .b5 b c a=>let d:=a.AB.Aa++[b];kl a.AB.Aa (.br (decide ((↑a.AB.Aa.length:Int)>=8)) (kl a.AB.Aa (kl a.AB.Ak (.chk true (AA (a.AB,([]:List AL),(8:Int)))))) (.chk true (kl a.AB.Aa (.chk (kA (a.AB.Aa.length+1) 120) (kl a.AB.Ak (.chk (kL d&&(kL a.f_out&&kL a.DJ)) (AP (.b3 c ({ a with AB:=({ a.AB with Aa:=d }:A7) }:DF)))))))))
def jU (a:A7) (b:AL) (c d:Int):Option (A7×(List AL)×Int):=AY Kv (.b0 a b c d)
def Z5M:Lay:=⟨[8,11],[KP,KP],[.var k1,.var k7,.row true,.row true,.row true,.row true],⟨[PQ 0,PQ 1],[VA 39 20,.var 211 24 (JU 2),.row 156 true,.row 138 true,.row 156 true,.row 148 true]⟩⟩
def UA:Lay:=⟨[5,8,11],[KP,KP,KP],[.var k0,.var k1,.var k7,.row true,.row true,.row true,.row true],⟨[PQ 0,PQ 1,PQ 2],[VA 156 15,VA 39 20,.var 211 24 (JU 3),.row 156 true,.row 138 true,.row 156 true,.row 148 true]⟩⟩
def Z5R:Lay:=⟨[8,11],[KP,KP],[.var k1,.var k11,.row true,.row true,.row true],⟨[PQ 0,PQ 1],[VA 39 20,.var 211 24 (ag5 2),.row 156 true,.row 156 true,.row 148 true]⟩⟩
def Zka:Nat->Option Lay
 | 12=>some Z5M
 | 13=>some UA
 | 20=>some Z5R
 | 17=>some UA
 | 18=>some UA
 | _=>none
def ZhO:zW->Ae U
 | .b0 a b c d=>Am f263 [39,156,30,3] (a,b,c,d,())
 | .b1 a b=>Ad f263 [1,1,1,1,1,0,0,1,1,1,0,0] Z5M (((),((),())),((a,()),(JR b)))
 | .b2 a b c=>Ad f263 [1,1,1,1,1,0,0,1,1,1,1,0] UA (((),((),((),()))),((a,()),((b,()),(JR c))))
 | .b3 a b=>Ad f263 [1,1,1,1,1,1,0] Z5R (((),((),())),((a,()),(tu5 b)))
 | .b4 a b c=>Ad f263 [1,1,1,1,1,0,0,1,1,1,1,1,1,1,0] UA (((),((),((),()))),((a,()),((b,()),(JR c))))
 | .b5 a b c=>Ad f263 [1,1,1,1,1,0,0,1,1,1,1,1,1,1,1,0] UA (((),((),((),()))),((a,()),((b,()),(JR c))))
theorem Z69:AA1 263 [39,156,30,3] 222 (fun x=>jU x.1 x.2.1 x.2.2.1 x.2.2.2.1) rfl:=Ap (mc Z5A (mc Zkk (mc Zgk Af))) (hc [] Z77 (hc [] ZfI (hc [] Zfw (hc [] Zfo Ah)))) Zka ZhO func263 (fun p=>by cases p<;>kernel_rfl) (by kernel_rfl) fun _=>rfl
inductive Zm where
 | b0 (a:AL) (b:Int) (c:EM)
def Z6D:Zm->Tr U (JE⊕Zm)
 | .b0 c d a=>let f:=kL a.C9&&(kL a.Link.AB.Aa&&kL a.Link.AB.Ak);.bind 30 (iZ (nM a)) (fun(e:Int)=>kl a.Link.AB.Aa (kl a.Link.AB.Ak (.bind 222 (jU a.Link.AB c e d) (fun(b:A7×(List AL)×Int)=>let g:=a.Link.Aw++b.2.1;.br (b.2.2 != 0) (kl a.Link.AB.Aa (kl a.Link.AB.Ak (.chk (kL a.Link.Ag.Aq&&(kL a.Link.BI&&(kL a.Link.Aw&&f))) (AA (⟨b.2.2,a,a.Link.AB.Aa,a.Link.AB.Ak⟩:JE))))) (kl a.Link.Aw (.chk (kA (a.Link.Aw.length+b.2.1.length) 120) (.chk (kL a.Link.Ag.Aq&&(kL a.Link.BI&&(kL g&&f))) (AA (⟨0,(⟨({ a.Link with AB:=b.1,Aw:=g }:Ac),a.C9⟩:EM),a.Link.AB.Aa,a.Link.AB.Ak⟩:JE)))))))))
def Mc (a:AL) (b:Int) (c:EM):Option JE:=AY Z6D (.b0 a b c)
def Z5K:Shape:=⟨[PQ 0,.agg [.v 156 15 true],OV 3],[.var 118 67 (Oe 1),.row 68 true,.row 156 true,.row 138 true,.row 99 true,.row 156 true,.row 148 true]⟩
def Zgw:Shape:=⟨[OV 45],[.var 118 67 (vU 1 4 5 6),.row 68 true,.row 156 false,.row 138 false,.row 99 true,.row 156 true,.row 148 true]⟩
noncomputable def ZjU:HMod U:=⟨[KP,k0,KP],[.var k9,.row true,.row true,.row true,.row true,.row true,.row true],Z5K,Zgw,true,1356,fun(y:JE)=>(((y.q0,()),()),((y.q1.Link.BR,(y.q1.Link.CZ,(y.q1.Link.Clock,(y.q1.Link.Event,(y.q1.Link.Last,(y.q1.Link.Fq,(y.q1.Link.Size,(y.q1.Link.Sync,(y.q1.Link.Hf,(y.q1.Link.Gq,(y.q1.Link.Hm,(y.q1.Link.Good,(y.q1.Link.Ec,(y.q1.Link.More,(y.q1.Link.Ag.SN,(y.q1.Link.Ag.Ee,(y.q1.Link.Ag.Open,(y.q1.Link.Ag.Empty,(y.q1.Link.Ag.Ec,(y.q1.Link.Ag.Taken,(y.q1.Link.FZ,(y.q1.Link.AB,(y.q1.Link.Dk,(y.q1.Link.Key,(y.q1.Link.Bq,(y.q1.Link.Eg,())))))))))))))))))))))))))),(y.q1.Link.Ag.Aq,(y.q2,(y.q3,(y.q1.Link.BI,(y.q1.Link.Aw,(y.q1.C9,())))))))),fun x=>Mc x.1.2.1.1 x.1.2.2.1.1 (match x with|⟨_,⟨v0,v2,v4,v6,v8,q,A,C,D,F,G,I,J,M,N,O,Q,S,Y,v25,v26,v27,v28,v29,v30,v31,v32,v33,v34,v35,v36,v37,v38,v39,v40,v41,v42,v43,v44,v45,v46,v47,v48,_⟩,v1,v3,v5,v7,v9,z,_⟩=>(⟨(⟨v0,v2,v4,v6,v8,q,A,C,D,F,G,I,J,M,(⟨N,O,v1,Q,S,Y,v25⟩:Bd),v26,(⟨v27,v28,v29,v3,v30,v31,v5,v32,v33,v34,v35,v36,v37,v38,v39,v40,v41,v42,v43,v44⟩:A7),v45,v46,v7,v9,v47,v48⟩:Ac),z⟩:EM)),okS rfl⟩
def Zia:Zm->Ae U
 | .b0 a b c=>E5 f194 Z5K (((),((a,()),((b,()),()))),(Px c))
theorem Z66:DU Tryz.prog B0 194 ZjU:=okR (mc Z5l (mc Z69 Af)) Ah AN [KP] [.var k13,.row true,.row false,.row false,.row true,.row true,.row true] 7 Zia func194 (fun p=>by cases p<;>kernel_rfl) (by kernel_rfl) fun x=>by kernel_rfl
inductive xG where
 | b0 (a:EN) (b:Int) (c:EM)
def xB:xG->Tr U (QI⊕xG)
 | .b0 b c a=>.br (b.Key==0) (kl a.Link.AB.Aa (kl a.Link.AB.Ak (.chk (kL a.Link.Ag.Aq&&(kL a.Link.BI&&(kL a.Link.Aw&&(kL a.C9&&(kL a.Link.AB.Aa&&kL a.Link.AB.Ak))))) (AA (⟨17,a,a.Link.AB.Aa,a.Link.AB.Ak⟩:QI))))) (.chk (kL a.Link.Ag.Aq&&(kL a.Link.AB.Aa&&(kL a.Link.AB.Ak&&(kL a.Link.BI&&(kL a.Link.Aw&&kL a.C9))))) (.bind 1356 (Mc (⟨3,Ba,0,0,0,0,a.Link.Eg,b.Number,0,0,0⟩:AL) c a) (fun(q:JE)=>let d:=kL q.q1.Link.Ag.Aq&&(kL q.q1.Link.BI&&(kL q.q1.Link.Aw&&(kL q.q1.C9&&(kL q.q2&&kL q.q3))));.br (q.q0==0) (.chk d (AA (⟨q.q0,(⟨({ q.q1.Link with Key:=b.Key }:Ac),q.q1.C9⟩:EM),q.q2,q.q3⟩:QI))) (.chk d (AA (⟨q.q0,q.q1,q.q2,q.q3⟩:QI))))))
def xM (a:EN) (b:Int) (c:EM):Option QI:=AY xB (.b0 a b c)
def Z5j:Shape:=⟨[PQ 0,.agg [.v 83 12 true],OV 3],[.var 118 67 (Oe 1),.row 68 true,.row 156 true,.row 138 true,.row 99 true,.row 156 true,.row 148 true]⟩
def ZfR:Shape:=⟨[OV 45],[.var 118 67 (vU 1 4 5 6),.row 68 true,.row 156 false,.row 138 false,.row 99 true,.row 156 true,.row 148 true]⟩
noncomputable def Zh9:HMod U:=⟨[KP,k12,KP],[.var k9,.row true,.row true,.row true,.row true,.row true,.row true],Z5j,ZfR,true,1357,fun(y:QI)=>(((y.q0,()),()),((y.q1.Link.BR,(y.q1.Link.CZ,(y.q1.Link.Clock,(y.q1.Link.Event,(y.q1.Link.Last,(y.q1.Link.Fq,(y.q1.Link.Size,(y.q1.Link.Sync,(y.q1.Link.Hf,(y.q1.Link.Gq,(y.q1.Link.Hm,(y.q1.Link.Good,(y.q1.Link.Ec,(y.q1.Link.More,(y.q1.Link.Ag.SN,(y.q1.Link.Ag.Ee,(y.q1.Link.Ag.Open,(y.q1.Link.Ag.Empty,(y.q1.Link.Ag.Ec,(y.q1.Link.Ag.Taken,(y.q1.Link.FZ,(y.q1.Link.AB,(y.q1.Link.Dk,(y.q1.Link.Key,(y.q1.Link.Bq,(y.q1.Link.Eg,())))))))))))))))))))))))))),(y.q1.Link.Ag.Aq,(y.q2,(y.q3,(y.q1.Link.BI,(y.q1.Link.Aw,(y.q1.C9,())))))))),fun x=>xM x.1.2.1.1 x.1.2.2.1.1 (match x with|⟨_,⟨v0,v2,v4,v6,v8,q,A,C,D,F,G,I,J,M,N,O,Q,S,Y,v25,v26,v27,v28,v29,v30,v31,v32,v33,v34,v35,v36,v37,v38,v39,v40,v41,v42,v43,v44,v45,v46,v47,v48,_⟩,v1,v3,v5,v7,v9,z,_⟩=>(⟨(⟨v0,v2,v4,v6,v8,q,A,C,D,F,G,I,J,M,(⟨N,O,v1,Q,S,Y,v25⟩:Bd),v26,(⟨v27,v28,v29,v3,v30,v31,v5,v32,v33,v34,v35,v36,v37,v38,v39,v40,v41,v42,v43,v44⟩:A7),v45,v46,v7,v9,v47,v48⟩:Ac),z⟩:EM)),okS rfl⟩
def Zgc:xG->Ae U
 | .b0 a b c=>E5 f195 Z5j (((),((a,()),((b,()),()))),(Px c))
theorem Zgn:DU Tryz.prog B0 195 Zh9:=okR Af (hc [] Z66 Ah) AN [KP] [.var k13,.row true,.row false,.row false,.row true,.row true,.row true] 7 Zgc func195 (fun p=>by cases p<;>kernel_rfl) (by kernel_rfl) fun x=>by kernel_rfl
inductive Z0e where
 | b0 (a:Cm) (b c:Bool)
def Zmd:Z0e->Tr U (Cm⊕Z0e)
 | .b0 a b c=>AA ({ a with Jq:=b,Jl:=c }:Cm)
def Z0h (a:Cm) (b c:Bool):Option Cm:=AY Zmd (.b0 a b c)
def ZkV:Z0e->Ae U
 | .b0 a b c=>Am f209 [41,4,4] (a,b,c,())
theorem ZlD:AA1 209 [41,4,4] 41 (fun x=>Z0h x.1 x.2.1 x.2.2.1) rfl:=Ap Af Ah AN ZkV func209 (fun p=>by cases p<;>kernel_rfl) (by kernel_rfl) fun _=>rfl
inductive yI where
 | b0 (a:A7) (b:Bool) (c:Int)
 | b1 (a:A7) (b:DF)
 | b2 (a:Bool) (b:Int) (c:A7) (d:DF)
def UC:yI->Tr U ((A7×(List AL))⊕yI)
 | .b0 a b c=>.bind 1362 (XF a (0:Int) (0:Int)) (fun(q:Rk)=>let e:=kL q.q0.AB.Aa&&(kL q.q0.AB.Ak&&(kL q.q0.f_out&&kL q.q0.DJ));let f:=Tr.chk e (AP (yI.b1 Dv q.q0));.bind 4 (WG (ZM q.q0)) (fun(d:Bool)=>.br d f (.br (q.q0.AB.ER != 0) f (.br (q.q0.AB.CJ != 1) f (.chk e (AP (.b2 b c Dv q.q0)))))))
 | .b1 b a=>kl a.AB.Aa (kl a.AB.Ak (.chk true (AA (a.AB,([]:List AL)))))
 | .b2 c b d a=>.br (!c) (kl a.AB.Aa (kl a.AB.Ak (.chk true (AA (({ a.AB with Other:=-1,CJ:=0 }:A7),[(⟨13,Ba,0,0,6,3,0,0,0,0,0⟩:AL)]))))) (kl a.AB.Aa (kl a.AB.Ak (.chk true (AA (({ a.AB with CE:=b,CJ:=3 }:A7),[(⟨4,Ba,0,0,0,0,b,0,0,0,0⟩:AL),(⟨5,Ba,0,0,0,0,0,0,0,0,0⟩:AL)])))))
def yL (a:A7) (b:Bool) (c:Int):Option (A7×(List AL)):=AY UC (.b0 a b c)
def Z5H:Lay:=⟨[6,8],[KP,KP],[.var k1,.var k7,.row true,.row true,.row true,.row true],⟨[PQ 0,PQ 1],[VA 39 20,.var 211 24 (JU 2),.row 156 true,.row 138 true,.row 156 true,.row 148 true]⟩⟩
def Z5p:Lay:=⟨[1,2,6,8],[KP,KP,KP,KP],[.var k1,.var k7,.row true,.row true,.row true,.row true],⟨[OV 4,OV 25,PQ 0,PQ 1],[VA 39 20,.var 211 24 (JU 2),.row 156 true,.row 138 true,.row 156 true,.row 148 true]⟩⟩
def ZiC:Nat->Option Lay
 | 3=>some Z5H
 | 4=>some Z5p
 | _=>none
def Zhg:yI->Ae U
 | .b0 a b c=>Am f264 [39,4,25] (a,b,c,())
 | .b1 a b=>Ad f264 [1,1,0,1,0,0] Z5H (((),((),())),((a,()),(JR b)))
 | .b2 a b c d=>Ad f264 [1,1,1,0,0] Z5p (((a,()),((b,()),((),((),())))),((c,()),(JR d)))
theorem Zha:AA1 264 [39,4,25] 140 (fun x=>yL x.1 x.2.1 x.2.2.1) rfl:=Ap (mc Z50 Af) (hc [] Z77 Ah) ZiC Zhg func264 (fun p=>by cases p<;>kernel_rfl) (by kernel_rfl) fun _=>rfl
inductive Z0z where
 | b0 (a:List (List Int))
 | b1 (a:List Int) (b:List (List Int)) (c d:Int)
def XU:Z0z->Tr U ((List Int)⊕Z0z)
 | .b0 a=>.chk true (AP (.b1 ([]:List Int) a (↑a.length:Int) (0:Int)))
 | .b1 a c e b=>.br (decide (b<e)) (.chk (kI b c) (.bind 62 (c[(Int.toNat b)]?) (fun(d:List Int)=>kl a (.chk (kA (a.length+d.length) 1) (kl (a++d) (AP (.b1 (a++d) c e (AV (b+1))))))))) (kl a (AA a))
def Z0C (a:List (List Int)):Option (List Int):=AY XU (.b0 a)
def Z7b:Lay:=⟨[3,6,7,8],[[.own 5 1],[.s 62 1],KP,KP],[.row true],⟨[.one (.own 5 0),OV 256,OV 3,OV 3],[.row 5 true]⟩⟩
def ZnZ:Nat->Option Lay
 | 3=>some Z7b
 | _=>none
def ZlY:Z0z->Ae U
 | .b0 a=>Am f155 [256] (a,())
 | .b1 a b c d=>AA3 f155 [1,1,0,1,0,0,0] Z7b (b,c,d,a,())
theorem Zm7:AA1 155 [256] 62 (fun x=>Z0C x.1) rfl:=Ap Af Ah ZnZ ZlY func155 (fun p=>by cases p<;>kernel_rfl) (by kernel_rfl) fun _=>rfl
inductive Z0i where
 | b0 (a:Int)
def Z7y:Z0i->Tr U (Bool⊕Z0i)
 | .b0 a=>.br (decide (a>=1)) (AA (decide (a<=8))) (AA false)
def Z08 (a:Int):Option Bool:=AY Z7y (.b0 a)
def ZlF:Z0i->Ae U
 | .b0 a=>Am f321 [3] (a,())
theorem Zlz:AA1 321 [3] 4 (fun x=>Z08 x.1) rfl:=Ap Af Ah AN ZlF func321 (fun p=>by cases p<;>kernel_rfl) (by kernel_rfl) fun _=>rfl
inductive Z0M where
 | b0 (a:List Eh)
 | b1 (a:List Int) (b:List Eh) (c d:Int)
 | b2 (a:List Int) (b:List Eh) (c d:Int) (e:Eh)
 | b3 (a:List Int) (b:List Eh) (c d e f:Int) (g:Eh)
def LC:Z0M->Tr U (((List Int)×Int)⊕Z0M)
 | .b0 a=>.chk true (AP (.b1 ([]:List Int) a (↑a.length:Int) (0:Int)))
 | .b1 b d e c=>let g:=Tr.chk true (AA (([]:List Int),(5:Int)));.br (decide (c<e)) (.chk (kI c d) (.bind 252 (d[(Int.toNat c)]?) (fun(a:Eh)=>let i:=AV ((8:Int)*a.Size);let h:=kl b (AP (Z0M.b2 b d e c a));.bind 4 (Z08 a.Size) (fun(f:Bool)=>.br (!f) g (.br (decide (a.Size<8)) (.chk (decide (0<=i)) (.br ((Int.fdiv a.Value (2 ^ (min (Int.toNat i) (IntKind.bits .u64)))) != 0) g h)) h))))) (kl b (AA (b,0)))
 | .b2 a c d e b=>kl a (AP (.b3 a c d e b.Size (0:Int) b))
 | .b3 a d e f g b c=>let i:=AV ((8:Int)*b);let h:=a++[(IntKind.wrap .u8 ((Int.fdiv c.Value (2 ^ (min (Int.toNat i) (IntKind.bits .u64))))))];.br (decide (b<g)) (.chk (decide (0<=i)) (.chk true (kl a (.chk (kA (a.length+1) 1) (kl h (AP (.b3 h d e f g (AV (b+1)) c))))))) (kl a (AP (.b1 a d e (AV (f+1)))))
def lX (a:List Eh):Option ((List Int)×Int):=AY LC (.b0 a)
def Z7p:Lay:=⟨[4,8,9,10],[[.own 5 1],[.s 252 2],KP,KP],[.row true],⟨[.one (.own 5 0),OV 253,OV 3,OV 3],[.row 5 true]⟩⟩
def Z7i:Lay:=⟨[4,6,8,9,10],[[.own 5 1],KP,[.s 252 2],KP,KP],[.row true,.var [.keep,.keep]],⟨[.one (.own 5 0),PQ 1,OV 253,OV 3,OV 3],[.row 5 true,VA 252 2]⟩⟩
def Z7C:Lay:=⟨[4,6,8,9,10,33,34],[[.own 5 1],KP,[.s 252 2],KP,KP,KP,KP],[.row true,.var [.keep,.keep]],⟨[.one (.own 5 0),PQ 1,OV 253,OV 3,OV 3,OV 3,OV 3],[.row 5 true,VA 252 2]⟩⟩
def ZpD:Nat->Option Lay
 | 3=>some Z7p
 | 7=>some Z7i
 | 8=>some Z7C
 | _=>none
def Zo9:Z0M->Ae U
 | .b0 a=>Am f230 [253] (a,())
 | .b1 a b c d=>AA3 f230 [1,1,0,1,0,0,0] Z7p (b,c,d,a,())
 | .b2 a b c d e=>AA3 f230 [1,1,0,1,0,0,1,1,0,0,1,1,0] Z7i (b,c,d,a,e,())
 | .b3 a b c d e f g=>AA3 f230 [1,1,0,1,0,0,1,1,0,0,1,1,1,0,0,0] Z7C (b,c,d,e,f,a,g,())
theorem ZnX:AA1 230 [253] 120 (fun x=>lX x.1) rfl:=Ap (mc Zlz Af) Ah ZpD Zo9 func230 (fun p=>by cases p<;>kernel_rfl) (by kernel_rfl) fun _=>rfl
end
noncomputable section
inductive Z1E where
 | b0 (a:List Int)
 | b1 (a:List Eh) (b:List Int) (c d:Int)
def Xr:Z1E->Tr U ((List Int)⊕Z1E)
 | .b0 a=>.chk true (AP (.b1 ([]:List Eh) a (↑a.length:Int) (0:Int)))
 | .b1 a c d b=>.br (decide (b<d)) (.chk (kI b c) (.bind 25 (c[(Int.toNat b)]?) (fun(e:Int)=>let g:=a++[(⟨8,e⟩:Eh)];.chk true (kl a (.chk (kA (a.length+1) 16) (kl g (AP (.b1 g c d (AV (b+1)))))))))) (kl a (.bind 120 (lX a) (fun(f:(List Int)×Int)=>AA f.1)))
def Z1z (a:List Int):Option (List Int):=AY Xr (.b0 a)
def Z7W:Lay:=⟨[3,8,9,10],[[.own 252 2],[.s 25 1],KP,KP],[.row true],⟨[.one (.own 252 0),OV 254,OV 3,OV 3],[.row 252 true]⟩⟩
def ZsW:Nat->Option Lay
 | 3=>some Z7W
 | _=>none
def ZoP:Z1E->Ae U
 | .b0 a=>Am f323 [254] (a,())
 | .b1 a b c d=>AA3 f323 [1,1,0,1,0,0,0] Z7W (b,c,d,a,())
theorem ZoG:AA1 323 [254] 62 (fun x=>Z1z x.1) rfl:=Ap (mc ZnX Af) Ah ZsW ZoP func323 (fun p=>by cases p<;>kernel_rfl) (by kernel_rfl) fun _=>rfl
inductive Z0L where
 | b0 (a b:Int)
def Z0O:Z0L->Tr U (Int⊕Z0L)
 | .b0 b a=>.br (decide (a<=0)) (AA (0:Int)) (.br (decide (a>=64)) (AA b) (.chk (decide (0<=a)) (AA (bits .and .u64 b (IntKind.wrap .u64 ((IntKind.wrap .u64 ((1:Int)*2 ^ (min (Int.toNat a) (IntKind.bits .u64)))) - 1))))))
def QS (a b:Int):Option Int:=AY Z0O (.b0 a b)
def Zp0:Aj U:=⟨[25,3],25,fun x=>QS x.1 x.2.1,by decide⟩
def Znp:Z0L->Ae U
 | .b0 a b=>Am f379 [25,3] (a,b,())
inductive Z0r where
 | b0 (a:Int)
def Z0p:Z0r->Tr U (J5⊕Z0r)
 | .b0 a=>.bind 25 (QS a (32:Int)) (fun(b:Int)=>AA (⟨(IntKind.wrap .u32 ((Int.fdiv a (2 ^ (32:Nat))))),(IntKind.wrap .u32 (b))⟩:J5))
def lG (a:Int):Option J5:=AY Z0p (.b0 a)
def Zn8:Aj U:=⟨[25],312,fun x=>lG x.1,by decide⟩
def Zmf:Z0r->Ae U
 | .b0 a=>Am f355 [25] (a,())
inductive wI where
 | b0 (a b:Int)
def Z54:wI->Tr U (Int⊕wI)
 | .b0 b a=>let e:=IntKind.bits .u64;let c:=(bits .and .u64 (IntKind.wrap .u64 (a)) (63:Int));let d:=IntKind.wrap .u64 ((64:Int) - c);.chk (decide (0<=c)) (.chk (decide (0<=d)) (AA (bits .or .u64 (IntKind.wrap .u64 (b*2 ^ (min (Int.toNat c) e))) (Int.fdiv b (2 ^ (min (Int.toNat d) e))))))
def Tm (a b:Int):Option Int:=AY Z54 (.b0 a b)
def Zfz:Aj U:=⟨[25,3],25,fun x=>Tm x.1 x.2.1,by decide⟩
def Zfq:wI->Ae U
 | .b0 a b=>Am f380 [25,3] (a,b,())
inductive wJ where
 | b0 (a b:Int)
def Z58:wJ->Tr U (Int⊕wJ)
 | .b0 b a=>let e:=IntKind.bits .u32;let c:=(bits .and .u64 (IntKind.wrap .u64 (a)) (31:Int));let d:=IntKind.wrap .u64 ((32:Int) - c);.chk (decide (0<=c)) (.chk (decide (0<=d)) (AA (bits .or .u32 (IntKind.wrap .u32 (b*2 ^ (min (Int.toNat c) e))) (Int.fdiv b (2 ^ (min (Int.toNat d) e))))))
def QB (a b:Int):Option Int:=AY Z58 (.b0 a b)
def Zfy:Aj U:=⟨[22,3],22,fun x=>QB x.1 x.2.1,by decide⟩
def Zfr:wJ->Ae U
 | .b0 a b=>Am f381 [22,3] (a,b,())
inductive Z0o where
 | b0 (a b c:Int)
def Z0u:Z0o->Tr U (Int⊕Z0o)
 | .b0 b c d=>.bind 25 (Tm b (Int.tmod (AV ((11:Int)*(Int.tmod c 64))) (64:Int))) (fun(e:Int)=>.bind 25 (QS e (32:Int)) (fun(a:Int)=>let h:=IntKind.wrap .u32 (a);.bind 22 (QB (IntKind.wrap .u32 (d+h)) (7:Int)) (fun(f:Int)=>.bind 22 (QB h (16:Int)) (fun(g:Int)=>AA (bits .xor .u32 (IntKind.wrap .u32 (f*2654435761)) g)))))
def XJ (a b c:Int):Option Int:=AY Z0u (.b0 a b c)
def ZnA:Aj U:=⟨[29,3,22],22,fun x=>XJ x.1 x.2.1 x.2.2.1,by decide⟩
def ZlP:Z0o->Ae U
 | .b0 a b c=>Am f356 [29,3,22] (a,b,c,())
inductive xH where
 | b0 (a:J5)
def xK:xH->Tr U (Int⊕xH)
 | .b0 a=>AA (bits .or .u64 (IntKind.wrap .u64 ((IntKind.wrap .u64 (a.x0))*2 ^ (32:Nat))) (IntKind.wrap .u64 (a.x1)))
def jJ (a:J5):Option Int:=AY xK (.b0 a)
def ZgD:Aj U:=⟨[312],25,fun x=>jJ x.1,by decide⟩
def Zgq:xH->Ae U
 | .b0 a=>Am f357 [312] (a,())
inductive Z1g where
 | b0 (a b:Int)
 | b1 (a b:Int) (c:J5)
def Jt:Z1g->Tr U (Int⊕Z1g)
 | .b0 a b=>.bind 312 (lG b) (fun(c:J5)=>AP (.b1 a (0:Int) c))
 | .b1 c b a=>.br (decide (b<8)) (.bind 22 (XJ c b a.x1) (fun(d:Int)=>AP (.b1 c (AV (b+1)) (⟨a.x1,(bits .xor .u32 a.x0 d)⟩:J5)))) (.bind 25 (jJ a) (fun(e:Int)=>AA e))
def Np (a b:Int):Option Int:=AY Jt (.b0 a b)
def Z1y:Aj U:=⟨[29,25],25,fun x=>Np x.1 x.2.1,by decide⟩
def Z8h:Lay:=⟨[0,5,9],[KP,KP,KP],[.var [.keep,.keep]],⟨[OV 29,PQ 0,OV 3],[VA 312 2]⟩⟩
def Zsk:Nat->Option Lay
 | 3=>some Z8h
 | _=>none
def Zpx:Z1g->Ae U
 | .b0 a b=>Am f322 [29,25] (a,b,())
 | .b1 a b c=>AA3 f322 [1,1,0,1,0,0,0] Z8h (a,b,c,())
end
end Go.Proofs.YtjodhcdmhobmoaaGreatDoor
namespace Go.Proofs.YtjodhcdmhobmoaaGreatDoor
open Tryz
set_option maxRecDepth 100000
noncomputable section
attribute [local go_sem] Go.Oper.semAt_some
open Go Go.RowKit Go.Shelf
def JQ (ys:List Int):Nat->Int
 | 0=>0
 | m+1=>bits .or .u64 (JQ ys m) (IntKind.wrap .u64 (ys[m]?.getD 0*2 ^ (8*m)))
def Iy (xs:List Int) (k:Nat):Int:=JQ ((xs.drop (8*k)).take 8) ((xs.drop (8*k)).take 8).length
def gN (xs:List Int):Nat:=(xs.length+7) / 8
theorem Zcj {a b:Nat} (h:a<=b):List.range a <+: List.range b:=by
 obtain⟨d,rfl⟩:∃d,b=a+d:=⟨b - a,by omega⟩;rw[List.range_add];exact List.prefix_append _ _
theorem meas {L k:Nat} {a b:Int} (h:8*k<L) (q:a=8*(k:Int)) (hb:b=8*(k:Int)+8):L+8 - (intOf (.int .i64 b)).toNat<L+8 - (intOf (.int .i64 a)).toNat:=by
 subst q hb;simp only[intOf];omega
structure BytesAt (W:World) (Bm b o cap:Nat) (a:Option Addr) (xs:List Int):Prop where
 box:W.cell? ⟨Bm,0,none⟩=some (.slice a xs.length cap)
 Vy:xs≠[]->a=some ⟨b,o,none⟩
 cells:∀j (h:j<xs.length),W.cell? ⟨b,o+j,none⟩=some (.int .u8 xs[j])
 len:xs.length<=cap
 max:cap<=maxLen
 bd:∀x∈xs,0<=x/\x<256
set_option maxHeartbeats 1000000 in
theorem g1_in (F:Fence) (n:Nat) (hG1:F.fn 382) (hro:F.round=none) (hn:1<=n) (xs:List Int) (D:xs.length<=4611686018427387904) (b o cap:Nat) (a:Option Addr) (l Bm:Nat) (J Jx:List Nat->World->Prop)
  (hY:∀pre x W,J pre W->pre.length<gN xs->YieldAt F (n - 1) Tryz.prog l #[.int .u64 (Iy xs x)] W fun e W' =>
   (e = .returned (.bool true)/\J (pre++[x]) W' /\ (BytesAt W Bm b o cap a xs->BytesAt W' Bm b o cap a xs))\/(e = .returned (.bool false)/\Jx (pre++[x]) W'))
  (W:World) (hB:BytesAt W Bm b o cap a xs) (h0:J [] W) :
  CallsIn F n Tryz.prog 382 #[.func (.yield l) #[] #[],.pointer (some ⟨Bm,0,none⟩)] W fun e W' =>(∃v,e = .returned v) /\
   ((∃ys,ys=List.range (gN xs)/\J ys W')\/(∃pre,pre <+: List.range (gN xs)/\Jx pre W')):=by
 refine callsIn_of_wp func382 rfl hG1 ?_ hro;simp only[Tryz.ntmps382,List.size_toArray,List.length_cons,List.length_nil,Nat.reduceAdd,Nat.reduceSub,Array.replicate_succ,Array.replicate_zero,List.push_toArray,List.append_toArray,List.nil_append,List.cons_append]
 gi_wp2
 gi_loopw [3] (fun i wr=>∃k:Nat,k<=gN xs/\i = .int .i64 ((8*k:Nat):Int)/\J (List.range k) wr/\BytesAt wr Bm b o cap a xs)
  (fun i _=>xs.length+8 - (intOf i).toNat)
 case atStart=>exact⟨0,by omega,rfl,by simpa using h0,hB⟩
 case round=>
  obtain⟨k,hk,rfl,hJ,hb⟩:=hrel;have hbox:=hb.box
  by_cases O:8*k<xs.length
  ·have hl:=hb.len;have hne:xs≠[]:=by rintro rfl;simp at O
   obtain rfl:=hb.Vy hne;have hw:wrap64 (8*(k:Int)+8)=8*(k:Int)+8:=by unfold wrap64;omega
   have c1:(8*(k:Int)<xs.length):=by omega
   have c2:(0<=8*(k:Int)+8):=by omega
   have c3:(0<=8*(k:Int)):=by omega
   have c4:(8*(k:Int)<=8*(k:Int)+8):=by omega
   have c5:((xs.length:Int)<=cap):=by omega
   by_cases h8:8*k+8<=xs.length
   ·have d1:¬((xs.length:Int)<8*(k:Int)+8):=by omega
    have d2:(8*(k:Int)+8<=cap):=by omega
    have d3:(8*(k:Int)+8).toNat=8*k+8:=by omega
    have HL:=Lib.hid hl;have HE:=Lib.hid D;have S:=Lib.hid O;have HK:=Lib.hid hk;have Y:=Lib.hid h8;clear hl hne O hk h8 D
    gi_wp2
    gi_loopw [4,22] (fun acc j wi=>∃m:Nat,m<=8/\j = .int .i64 (m:Int)/\acc = .int .u64 (JQ ((xs.drop (8*k)).take 8) m)/\J (List.range k) wi/\BytesAt wi Bm b o cap (some ⟨b,o,none⟩) xs)
     (fun _ j _=>8 - (intOf j).toNat)
    case atStart=>exact⟨0,by omega,rfl,rfl,hJ,hb⟩
    case round=>
     obtain⟨m,hm,rfl,rfl,G,A⟩:=hrel;have hb2b:=A.box
     by_cases hm8:m<8
     ·have e1:((m:Int)<8):=by omega
      have e2:(0<=(m:Int)):=by omega
      have e3:m<8:=hm8;have hj:8*k+m<xs.length:=by have:=Y.out;omega
      have hcell:wr.cell? ⟨b,o+8*k+m,none⟩=some (.int .u8 xs[8*k+m]):=by rw[Nat.add_assoc];exact A.cells _ hj
      obtain⟨bd1,bd2⟩:=A.bd _ (List.getElem_mem hj);have e4:IntKind.wrap .u64 xs[8*k+m]=xs[8*k+m]:=by simp only[IntKind.wrap,IntKind.signed,IntKind.bits,Bool.false_and,Bool.false_eq_true,if_false];omega
      have e5:wrap64 (8*(m:Int))=8*(m:Int):=by unfold wrap64;omega
      clear hm;have M:JQ ((xs.drop (8*k)).take 8) (m+1)=bits .or .u64 (JQ ((xs.drop (8*k)).take 8) m) (IntKind.wrap .u64 (xs[8*k+m]*2 ^ (8*m))):=by
       simp only[JQ];rw[List.getElem?_take,if_pos hm8,List.getElem?_drop,List.getElem?_eq_getElem hj];rfl
      have HG:=Lib.hid M;clear M
      gi_wp2
      go_roundw
      case rel=>exact⟨m+1,by omega,by go_num,by rw[HG.out],G,A⟩
      case measure=>simp[intOf];omega
     ·obtain rfl:m=8:=by omega
      have hb3:=A;obtain⟨fn,tmps,Q,body,hy,hR⟩:=hY (List.range k) k wr G (by have:=Y.out;simp[gN];omega);have hg:JQ ((xs.drop (8*k)).take 8) 8=Iy xs k:=by
       have:=Y.out;unfold Iy;rw[show ((xs.drop (8*k)).take 8).length=8 by simp;omega]
      have z:List.range k++[k]=List.range (k+1):=List.range_succ.symm;have C:List.range (k+1) <+: List.range (gN xs):=Zcj (by have:=S.out;unfold gN;omega);rw[z]at hR;have HS:=Lib.hid z;have HP:=Lib.hid C;clear z C
      gi_wp2
      refine hR.mono ?_
      rintro e W3 (⟨rfl,hJ3,N⟩|⟨rfl,I⟩)
      ·have hb4:=N hb3;clear N
       gi_wp2
       go_roundw
       case rel=>exact⟨k+1,by have:=S.out;unfold gN;omega,by simp only[Value.int.injEq,true_and];omega,hJ3,hb4⟩
       case measure=>exact meas (by have:=S.out;omega) (by omega) (by omega)
      ·gi_wp2
       refine bodyPost_ret (results_none rfl _ _ _) rfl ?_;exact⟨⟨_,rfl⟩,.inr ⟨_,HP.out,I⟩⟩
   ·have d1:((xs.length:Int)<8*(k:Int)+8):=by omega
    have d2:(8*(k:Int)<=xs.length):=by omega
    obtain⟨q,hq⟩:∃q,xs.length - 8*k=q:=⟨_,rfl⟩;have d3:(0<=(xs.length:Int)):=by omega
    have HQ:=Lib.hid hq;have HL:=Lib.hid hl;have HE:=Lib.hid D;have S:=Lib.hid O;have HK:=Lib.hid hk;have Y:=Lib.hid h8;clear hl hne O hk h8 D
    gi_wp2
    gi_loopw [4,22] (fun acc j wi=>∃m:Nat,m<=q/\j = .int .i64 (m:Int)/\acc = .int .u64 (JQ ((xs.drop (8*k)).take 8) m)/\J (List.range k) wi/\BytesAt wi Bm b o cap (some ⟨b,o,none⟩) xs)
     (fun _ j _=>q - (intOf j).toNat)
    case atStart=>exact⟨0,by omega,rfl,rfl,hJ,hb⟩
    case round=>
     obtain⟨m,hm,rfl,rfl,G,A⟩:=hrel;have hb2b:=A.box
     by_cases hm8:m<q
     ·have e1:((m:Int)<q):=by omega
      have e2:(0<=(m:Int)):=by omega
      have e3:m<xs.length - 8*k:=by have:=HQ.out;omega
      have hj:8*k+m<xs.length:=by have:=HQ.out;omega
      have hcell:wr.cell? ⟨b,o+8*k+m,none⟩=some (.int .u8 xs[8*k+m]):=by rw[Nat.add_assoc];exact A.cells _ hj
      obtain⟨bd1,bd2⟩:=A.bd _ (List.getElem_mem hj);have e4:IntKind.wrap .u64 xs[8*k+m]=xs[8*k+m]:=by simp only[IntKind.wrap,IntKind.signed,IntKind.bits,Bool.false_and,Bool.false_eq_true,if_false];omega
      have e5:wrap64 (8*(m:Int))=8*(m:Int):=by have:=HQ.out;have:=Y.out;unfold wrap64;omega
      clear hm;have M:JQ ((xs.drop (8*k)).take 8) (m+1)=bits .or .u64 (JQ ((xs.drop (8*k)).take 8) m) (IntKind.wrap .u64 (xs[8*k+m]*2 ^ (8*m))):=by
       simp only[JQ];rw[List.getElem?_take,if_pos (by have:=HQ.out;have:=Y.out;omega),List.getElem?_drop,List.getElem?_eq_getElem hj];rfl
      have HG:=Lib.hid M;clear M
      gi_wp2
      go_roundw
      case rel=>exact⟨m+1,by omega,by go_num,by rw[HG.out],G,A⟩
      case measure=>simp[intOf];omega
     ·obtain rfl:m=q:=by omega
      have hb3:=A;obtain⟨fn,tmps,Q,body,hy,hR⟩:=hY (List.range k) k wr G (by have:=S.out;simp[gN];omega);have hg:JQ ((xs.drop (8*k)).take 8) m=Iy xs k:=by
       have:=Y.out;unfold Iy;rw[show ((xs.drop (8*k)).take 8).length=m by have:=HQ.out;simp only[List.length_take,List.length_drop];omega]
      have z:List.range k++[k]=List.range (k+1):=List.range_succ.symm;have C:List.range (k+1) <+: List.range (gN xs):=Zcj (by have:=S.out;unfold gN;omega);rw[z]at hR;have HS:=Lib.hid z;have HP:=Lib.hid C;clear z C
      gi_wp2
      refine hR.mono ?_
      rintro e W3 (⟨rfl,hJ3,N⟩|⟨rfl,I⟩)
      ·have hb4:=N hb3;clear N
       gi_wp2
       go_roundw
       case rel=>exact⟨k+1,by have:=S.out;unfold gN;omega,by simp only[Value.int.injEq,true_and];omega,hJ3,hb4⟩
       case measure=>exact meas (by have:=S.out;omega) (by omega) (by omega)
      ·gi_wp2
       refine bodyPost_ret (results_none rfl _ _ _) rfl ?_;exact⟨⟨_,rfl⟩,.inr ⟨_,HP.out,I⟩⟩
  ·have hkk:k<=(xs.length+7) / 8:=hk;have hdone:k=gN xs:=by unfold gN;omega
   rw[hdone]at hJ;have c1:¬(8*(k:Int)<xs.length):=by omega
   gi_wp2
   go_end0
   exact⟨⟨_,rfl⟩,.inl hJ⟩
def Vh (q:Int->Int->Option Int) (k:Int) (xs:List Int):Option Int:=
 if xs.length<=4611686018427387904 then (q k xs.length).bind fun s=>(List.range (gN xs)).foldlM (fun s g=>q k (bits .xor .u64 s (Iy xs g))) s else none
def uH (F:Fence) (q:Int->Int->Option Int):Prop:=∀k s r,(Lit.int .u64 k).wf=true->(Lit.int .u64 s).wf=true->q k s=some r->(Lit.int .u64 r).wf=true /\
 ∀n w,CallsIn F n Tryz.prog 322 #[.int .u64 k,.int .u64 s] w fun e w' =>e = .returned (.int .u64 r)/\Below w.heap.size w w'
structure MH (W:World) (b o cap:Nat) (a:Option Addr) (xs:List Int):Prop where
 Vy:xs≠[]->a=some ⟨b,o,none⟩
 cells:∀j (h:j<xs.length),W.cell? ⟨b,o+j,none⟩=some (.int .u8 xs[j])
 len:xs.length<=cap
 max:cap<=maxLen
 bd:∀x∈xs,0<=x/\x<256
theorem MH.below {W q : World} {n b o cap:Nat} {a:Option Addr} {xs:List Int} (h:MH W b o cap a xs) (hb:Below n W q) (hn:W.heap.size<=n\/b<n):MH q b o cap a xs:=
 ⟨h.Vy,fun j z=>(hb.cell (p:=⟨b,o+j,none⟩) (by
  rcases hn with hn|hn
  ·exact Nat.lt_of_lt_of_le (by have:=h.cells j z;unfold World.cell? at this;split at this<;>first|exact(Array.getElem?_eq_some_iff.1 ‹_›).1|cases this) hn
  ·exact hn)).trans (h.cells j z),h.len,h.max,h.bd⟩
theorem BytesAt.of {W:World} {Bm b o cap:Nat} {a:Option Addr} {xs:List Int} (h:MH W b o cap a xs) (hb:W.cell? ⟨Bm,0,none⟩=some (.slice a xs.length cap)):BytesAt W Bm b o cap a xs:=⟨hb,h.Vy,h.cells,h.len,h.max,h.bd⟩
theorem BytesAt.row {W:World} {Bm b o cap:Nat} {a:Option Addr} {xs:List Int} (h:BytesAt W Bm b o cap a xs):MH W b o cap a xs:=⟨h.Vy,h.cells,h.len,h.max,h.bd⟩
theorem MH.same {W q : World} {b o cap:Nat} {a:Option Addr} {xs:List Int} (h:MH W b o cap a xs) (hb:xs≠[]->q.heap[b]? = W.heap[b]?):MH q b o cap a xs:=
 ⟨h.Vy,fun j z=>(World.cell?_of_block (hb (by rintro rfl;cases z))).trans (h.cells j z),h.len,h.max,h.bd⟩
theorem MH.lt {W:World} {b o cap:Nat} {a:Option Addr} {xs:List Int} (h:MH W b o cap a xs) (q:xs≠[]):b<W.heap.size:=by
 have:=h.cells 0 (List.length_pos_iff.2 q);unfold World.cell? at this;split at this<;>first|exact(Array.getElem?_eq_some_iff.1 ‹_›).1|cases this
structure gX (k:Int) (w:World) (n5:Nat) (s:Int) (W:World):Prop where
 key:Boxed W w.heap.size 29 (.int .u64 k)
 st:Boxed W n5 25 (.int .u64 s)
 below:Below w.heap.size w W
theorem Zbe {W q : World} {row:Option Nat} {B B0:Nat} {t:TypeId} {v:Value} (h:Boxed W B t v) (A:W.grownBy q row) (C:∀r,row=some r->B0<=r/\∃o:Obj,W.heap[r]? = some o/\o.isCells=false):Boxed q B t v:=by
 refine h.kept A ?_;intro e;obtain⟨_,o,z,hc⟩:=C B e.symm;rw[show W.heap[B]? = _ from h]at z;cases z;cases hc
theorem gX.own {k:Int} {w:World} {n5:Nat} {s:Int} {W W' : World} {row:Option Nat} {B0:Nat} (A:w.heap.size<=B0) (h:gX k w n5 s W) (q:W.grownBy W' row) (z:∀r,row=some r->B0<=r/\∃o:Obj,W.heap[r]? = some o/\o.isCells=false):gX k w n5 s W' :=
 ⟨Zbe h.key q z,Zbe h.st q z,h.below.grown q h.below.size (fun k e=>Nat.le_trans A (z k e).1)⟩
theorem wf_x (a b:Int):(Lit.int .u64 (bits .xor .u64 a b)).wf=true:=by
 have:=bits_within .xor .u64 a b;simp only[Lit.wf,Bool.and_eq_true,decide_eq_true_eq];exact this
theorem ZyA (F:Fence) (n:Nat) (z:F.fn 358) (q:F.round=none) (a:Option Addr) (l c:Nat) (w:World) :
  CallsIn F n Tryz.prog 358 #[.slice a l c] w fun e w' =>e = .returned (.func (.func 382) #[] #[.pointer (some ⟨w.heap.size,0,none⟩)])/\w' = w.alloc (.cells #[.slice a l c] 62):=by
 refine callsIn_of_wp func358 rfl z ?_ q;simp only[Tryz.ntmps358,List.size_toArray,List.length_cons,List.length_nil,Nat.reduceAdd,Nat.reduceSub,Array.replicate_succ,Array.replicate_zero,List.push_toArray,List.append_toArray,List.nil_append,List.cons_append]
 gi_wp2
 go_ret
 exact⟨rfl,rfl⟩
set_option maxHeartbeats 2000000 in
theorem ZDV (F:Fence) (hMIX:F.fn 322) (hG:F.fn 358) (hG1:F.fn 382) (hSELF:F.fn 324) (hro:F.round=none) (mx:Int->Int->Option Int) (hM:uH F mx) (hT:∀k s,(Lit.int .u64 s).wf=true->∃r,mx k s=some r) (n:Nat) (hn:3<=n) (k:Int) (xs:List Int) (r:Int) (hk:(Lit.int .u64 k).wf=true) (M:Vh mx k xs=some r) (b o cap:Nat) (a:Option Addr) (w:World) (hB:MH w b o cap a xs) :
  CallsIn F n Tryz.prog 324 #[.int .u64 k,.slice a xs.length cap] w fun e W' =>e = .returned (.int .u64 r)/\Below w.heap.size w W' :=by
 unfold Vh at M;split at M
 ·rename_i Q;cases h0:mx k xs.length with
  | none=>rw[h0]at M;cases M
  | some s0=>
   rw[h0]at M;change (List.range (gN xs)).foldlM (fun s g=>mx k (bits .xor .u64 s (Iy xs g))) s0=some r at M;have hlw:(Lit.int .u64 (xs.length:Int)).wf=true:=by simp[Lit.wf,IntKind.min,IntKind.max,IntKind.signed,IntKind.bits];omega
   obtain⟨hs0,hC⟩:=hM k xs.length s0 hk hlw h0;have h1:1<=n:=by omega
   refine callsIn_of_wp_marks func324 rfl hSELF ?_ hro;simp only[Tryz.ntmps324,List.size_toArray,List.length_cons,List.length_nil,Nat.reduceAdd,Nat.reduceSub,Array.replicate_succ,Array.replicate_zero,List.push_toArray,List.append_toArray,List.nil_append,List.cons_append];have hcv:IntKind.wrap .u64 (xs.length:Int)=xs.length:=by simp only[IntKind.wrap,IntKind.signed,IntKind.bits,Bool.false_and,Bool.false_eq_true,if_false];omega
   have HR:=Lib.hid M;have HS:=Lib.hid hs0;have HL:=Lib.hid Q;clear M hs0 Q
   gi_wp2_with (gi_at_call 322;refine(hC (n - 1) _).mono ?_;rintro e q ⟨rfl,hb1⟩)
   gi_wp2_with (gi_at_call 358;refine(ZyA F (n - 1) hG hro _ _ _ _).mono ?_;rintro e w2 ⟨rfl,rfl⟩)
   have hb1' : w.heap.size<q.heap.size:=by have:=hb1.size;simp at this;omega
   obtain⟨W0,O⟩:∃W0,(q.alloc (Obj.cells #[Value.int IntKind.u64 s0] 25)).alloc (Obj.cells #[Value.slice a xs.length cap] 62)=W0:=⟨_,rfl⟩;have hk1:Boxed q w.heap.size 29 (.int .u64 k):=(hb1.block _ (by simp)).trans (Boxed.new w 29 _);have hI0:gX k w q.heap.size s0 W0:=by
    rw[<- O];refine⟨(hk1.alloc _).alloc _,(Boxed.new q 25 (.int .u64 s0)).alloc _,?_⟩;exact(((((Below.refl _ w).alloc (Nat.le_refl _) _).trans (hb1.mono (by simp))).alloc (Nat.le_of_lt hb1') _).alloc (by simp;omega) _)
   have C:BytesAt W0 (q.heap.size+1) b o cap a xs:=by
    refine BytesAt.of (hB.below hI0.below (.inl (Nat.le_refl _))) ?_;rw[<- O];simp
   have hs0' : W0.heap.size=q.heap.size+2:=by rw[<- O];simp
   rw[O];have HB:=Lib.hid C;clear O hk1;refine wpIn_rangeFunc_ownG hro h1 (gf:=382) (lb:=#[.pointer (some ⟨q.heap.size+1,0,none⟩)]) rfl hG1 (enters_of func382 (by kernel_rfl) rfl) (α:=Nat) (encs:=fun x=>#[Value.int .u64 (Iy xs x)])
    (Kp:=fun A B=>BytesAt A (q.heap.size+1) b o cap a xs->BytesAt B (q.heap.size+1) b o cap a xs) (S:=fun ys=>ys=List.range (gN xs)) (Sp:=fun pre=>pre <+: List.range (gN xs)) (N:=gN xs) (w0:=W0)
    (fun l J Jx W hW _ _ hY hJ=>g1_in F (n - 1) hG1 hro (by omega) xs HL.out b o cap a l (q.heap.size+1) J Jx (fun pre x W1 h1 h2=>hY pre x W1 h1 h2)
     W (BytesAt.of (C.row.below hW (.inl (Nat.le_refl _))) ((hW.cell (p:=⟨q.heap.size+1,0,none⟩) (by simp;omega)).trans C.box)) hJ)
    (fun h k=>fun x=>k (h x))
    (fun W l o o' hl ho hc _ I=>BytesAt.of (I.row.same fun hx=>World.putObj_heap_other (by have:=C.row.lt hx;omega)) ((World.cell?_of_block (World.putObj_heap_other (by simp only;omega))).trans I.box))
    (Below.refl _ _) (fun _=>rfl)
    (fun pre W=>∃s,pre.foldlM (fun s g=>mx k (bits .xor .u64 s (Iy xs g))) s0=some s/\(Lit.int .u64 s).wf=true/\gX k w q.heap.size s W)
    (fun _ _ _=>False)
    (fun p A B row hs hg M=>by obtain⟨s,q1,q2,q3⟩:=hs;exact⟨s,q1,q2,q3.own (by omega) hg M⟩)
    (fun c p A B row hs hg M=>hs)
    ⟨s0,rfl,HS.out,hI0⟩
    (fun x=>{ tmps:=#[.int .u64 k,.slice a xs.length cap,.pointer (some ⟨w.heap.size,0,none⟩),undef,.int .u64 0,.pointer (some ⟨q.heap.size,0,none⟩),.int .u64 (Iy xs x),.int .u64 k,.slice a xs.length cap,.int .i64 xs.length,.int .u64 xs.length,.int .u64 s0,.slice a xs.length cap,.func (.func 382) #[] #[.pointer (some ⟨q.heap.size+1,0,none⟩)],.int .u64 (Iy xs x),undef,undef,undef,undef,undef,undef],defers:=[] }) ?assign ?body ?done ?stop
   case assign=>
    intro l x W K hK
    gi_wp2
    exact hK
   case body=>
    rintro l pre x W ⟨s,q1,q2,G⟩ Q
    obtain⟨r',hr'⟩:=hT k (bits .xor .u64 s (Iy xs x)) (wf_x _ _);obtain⟨hw',hC'⟩:=hM k _ r' hk (wf_x _ _) hr';have hc0:=G.key.cell;have hc1:=G.st.cell;have hf1:=G.st.frozen;have hMIXl:(F.inRound l).fn 322:=hMIX;have h3:1<=n - 1 - 1:=by omega
    gi_wp2_with (gi_at_call 322;refine(CallsIn.inRound l (hC' (n - 1 - 1 - 1) _)).mono ?_;rintro e W2 ⟨rfl,z⟩;have Y:Boxed W2 q.heap.size 25 (.int .u64 s):=(z.block _ G.st.lt).trans G.st;have hky2:Boxed W2 w.heap.size 29 (.int .u64 k):=(z.block _ G.key.lt).trans G.key;have hc2:=Y.cell;have hf2:=Y.frozen;clear hc0 hc1 hf1)
    refine⟨KeepsFrom.trans ⟨z.size,fun j o _ hj _=>(z.block _ (Array.getElem?_eq_some_iff.1 hj).1).trans hj⟩ (KeepsFrom.of_grownBy (grownBy_setCell' W2 _ _) (fun j e=>by cases e;omega)),fun I=>?_,r',?_,hw',?_⟩
    ·refine BytesAt.of ((I.row.below z (.inl (Nat.le_refl _))).same fun hx=>Below.heap_setCell _ _ _ _ (by have:=hB.lt hx;simp only;omega)) ?_;have hbm:q.heap.size+1<W.heap.size:=by
      have:=I.box;unfold World.cell? at this;split at this<;>first|exact(Array.getElem?_eq_some_iff.1 ‹_›).1|cases this
     exact(World.cell?_of_block (Below.heap_setCell _ _ _ _ (by simp only;omega))).trans ((z.cell (p:=⟨q.heap.size+1,0,none⟩) hbm).trans I.box)
    ·simp only[List.foldlM_append,q1,List.foldlM_cons,List.foldlM_nil,Option.bind_eq_bind,Option.bind_some,hr',Option.pure_def]
    ·exact⟨(Below.heap_setCell _ _ _ _ (by simp only;omega)).trans hky2,Y.set _,(G.below.trans (z.mono G.below.size)).setCell (p:=⟨q.heap.size,0,none⟩) (Nat.le_of_lt hb1') _⟩
   case done=>
    rintro D ys W hD rfl ⟨s,q1,q2,G⟩ hK
    have hsr:s=r:=Option.some.inj (q1.symm.trans HR.out);subst hsr;have hc1:=G.st.cell;have hf1:=G.st.frozen
    gi_wp2
    refine⟨by simp,.inl ⟨_,_,rfl,run_takeDeferred hK,?_⟩⟩;refine⟨.int .u64 s,?_,?_,?_⟩
    ·simp[results,f324,go_sem]
    ·rfl
    ·exact G.below.trans (belowK_b (w:=w) (Nat.le_refl _) _ D _ _ (by omega) hK rfl rfl)
   case stop=>
    rintro D c pre W hD hp hf hK
    exact hf.elim
 ·cases M
open Go.Proofs.YtjodhcdmhobmoaaGreatDoor.Le
theorem ZvY {σ:Sg} {w:World}:∀{xs:List Int} {us:List Value},AQ σ w (xs.map fun x=>V.lit (.int .u8 x)) us->us=xs.map (fun x=>Value.int .u8 x)/\∀x∈xs,0<=x/\x<256:=by
 intro xs;induction xs with
 | nil=>intro us h;cases h.FH;exact⟨rfl,by simp⟩
 | cons x xs F=>
  intro us h;obtain⟨v,vs,rfl,q,z⟩:=h.Dw;obtain⟨C,D⟩:=F z;cases q with
  | lit A _=>
   refine⟨by rw[C];rfl,fun y hy=>?_⟩;rcases List.mem_cons.1 hy with rfl|hy
   ·simp[leaf,Lit.wf,IntKind.min,IntKind.max,IntKind.signed,IntKind.bits]at A;omega
   ·exact D y hy
theorem row_of {σ:Sg} {w:World} {xs:List Int} {v:Value} (h:AQ σ w [.sl false 1 (xs.map fun x=>V.lit (.int .u8 x))] [v]):∃a b o cap,v = .slice a xs.length cap/\MH w b o cap a xs:=by
 generalize q:(xs.map fun x=>V.lit (.int .u8 x))=es at h;cases h with
 | ET _=>
  have:xs=[]:=by simpa using q
  subst this;exact⟨none,0,0,0,rfl,⟨fun h=>absurd rfl h,fun j z=>(by cases z),Nat.le_refl _,Nat.zero_le _,by simp⟩⟩
 | FU a _=>
  have:xs=[]:=by simpa using q
  subst this;exact⟨_,0,0,_,rfl,⟨fun h=>absurd rfl h,fun j z=>(by cases z),Nat.zero_le _,by first|exact Nat.zero_le _|assumption,by simp⟩⟩
 | sl b o c e C J M N D F G _=>
  subst q;obtain⟨rfl,A⟩:=ZvY C;refine⟨_,b,o,c,by rw[List.length_map],⟨fun _=>rfl,fun j z=>?_,by simpa using D,F,A⟩⟩;refine(G j (.int .u8 xs[j]) ?_).2;have:∀l:List Int,flat (l.map fun x=>Value.int .u8 x)=l.map fun x=>Value.int .u8 x:=by
   intro l;induction l with
   | nil=>rfl
   | cons y l I=>rw[List.map_cons,KL,I];rfl
  rw[this,List.getElem?_map,List.getElem?_eq_getElem z];rfl
theorem Zeh (n:Int):0<=IntKind.wrap .u64 n:=by simp only[IntKind.wrap,IntKind.signed,IntKind.bits,Bool.false_and,Bool.false_eq_true,if_false];omega
theorem ZdN (a b:Int):0<=bits .and .u64 a b:=(bits_within .and .u64 a b).1
theorem ZBr (a b:Int):∃r,Tm a b=some r:=⟨_,(BA _ _).trans (by simp only[Z54,Tr.den,Gs,Zeh,ZdN,decide_true,cond_true];rfl)⟩
theorem Zde (a b:Int):∃r,QB a b=some r:=⟨_,(BA _ _).trans (by simp only[Z58,Tr.den,Gs,Zeh,ZdN,decide_true,cond_true];rfl)⟩
theorem Zdo (a:Int):∃r,QS a 32=some r:=⟨_,(BA _ _).trans (by simp[Z0O,Tr.den,Gs];rfl)⟩
theorem ZC9 (a:Int):∃r,lG a=some r:=by
 obtain⟨x,q⟩:=Zdo a;exact⟨_,(BA _ _).trans (by simp only[Z0p,Tr.den,Gs,q,Option.bind_some];rfl)⟩
theorem ZdS (a:J5):∃r,jJ a=some r:=⟨_,(BA _ _).trans (by simp only[xK,Tr.den,Gs];rfl)⟩
theorem ZB5 (a b c:Int):∃r,XJ a b c=some r:=by
 obtain⟨x1,z⟩:=ZBr a (Int.tmod (AV ((11:Int)*(Int.tmod b (64:Int)))) (64:Int));obtain⟨q,A⟩:=Zdo x1;obtain⟨F,C⟩:=Zde (IntKind.wrap .u32 (c+(IntKind.wrap .u32 (q)))) 7;obtain⟨G,D⟩:=Zde (IntKind.wrap .u32 (q)) 16;exact⟨_,(BA _ _).trans (by simp only[Z0u,Tr.den,Gs,z,A,C,D,Option.bind_some];rfl)⟩
theorem ZDz (k:Int):∀(n:Nat) (i:Int) (h:J5),0<=i->8 - i<=n->∃r,AY Jt (.b1 k i h)=some r:=by
 intro n;induction n with
 | zero=>
  intro i h z A;obtain⟨r,q⟩:=ZdS h;have:decide (i<(8:Int))=false:=by simp;omega
  exact⟨r,(BA _ _).trans (by simp only[Jt,Tr.den,Gs,this,cond_false,q,Option.bind_some])⟩
 | succ n G=>
  intro i h z A
  by_cases C:i<8
  ·obtain⟨x,F⟩:=ZB5 k i h.x1;have D:AV (i+1)=i+1:=by simp[AV,IntKind.wrap,IntKind.signed,IntKind.bits];split<;>omega
   obtain⟨r,q⟩:=G (i+1) ⟨h.x1,bits .xor .u32 h.x0 x⟩ (by omega) (by omega);have:decide (i<(8:Int))=true:=by simp[C]
   exact⟨r,(BA _ _).trans (by simp only[Jt,Tr.den,Gs,this,cond_true,F,Option.bind_some,D,q])⟩
  ·obtain⟨r,q⟩:=ZdS h;have:decide (i<(8:Int))=false:=by simp;omega
   exact⟨r,(BA _ _).trans (by simp only[Jt,Tr.den,Gs,this,cond_false,q,Option.bind_some])⟩
theorem ZeC (k s:Int):∃r,Np k s=some r:=by
 obtain⟨x,z⟩:=ZC9 s;obtain⟨r,q⟩:=ZDz k 8 0 x (by omega) (by omega);exact⟨r,(BA _ _).trans (by simp only[Jt,Tr.den,Gs,z,Option.bind_some,q])⟩
def iF:Nat->Option (List V):=fun _=>none
def BZ:Env:=EV (U:=U) Tryz.prog iF 0 (fun _=>none) noH
abbrev Vx:={ms:FuncId->Option (Aj U) // ∀g m,ms g=some m->Ai Tryz.prog BZ g m}
abbrev vS:={q:FuncId->List FuncId->Option (HMod U) // ∀g k m,q g k=some m->DU Tryz.prog BZ g m}
def TU:Vx:=⟨fun _=>none,fun _ _ h=>nomatch h⟩
def TR:vS:=⟨fun _ _=>none,fun _ _ _ h=>nomatch h⟩
def Tc {f:FuncId} {m:Aj U} (h:Ai Tryz.prog BZ f m) (s:Vx):Vx:=⟨fun g=>bif Nat.beq g f then some m else s.1 g,fun g q e=>by
 cases hb:Nat.beq g f with
 | true=>dsimp only at e;rw[hb]at e;cases e;exact(Nat.eq_of_beq_eq_true hb)▸h
 | false=>dsimp only at e;rw[hb]at e;exact s.2 g q e⟩
abbrev Zew (f:FuncId) (fn:Func) (ms:Vx) (C:vS) (A:Nat->Option Lay) (rt:Nat) {z:Type} (T:z->Tr U (U.Ty rt⊕z)) (q:z->Ae U):Prop:=
 ∀p,Le.EU (EV Tryz.prog iF f ms.1 C.1) (Qs ms.1 C.1) A f fn 0 (fG (EV Tryz.prog iF f ms.1 C.1) fn) 1000 (.run (q p).c) (q p).K (q p).st (q p).sk=(T p).map (TE (vI (U:=U) rt) q)
theorem okPz {f:FuncId} {fn:Func} {ms:Vx} {C:vS} {A:Nat->Option Lay} {m:Aj U} {q:Type} {T:q->Tr U (U.Ty m.rt⊕q)} {F:q->Ae U} (h:Zew f fn ms C A m.rt T F) (b0:F9 U m.ts->q)
  (hc:Ed (EV Tryz.prog iF f ms.1 C.1) f (JI fn)=true) (z:Tryz.prog.funcs[f]? = some fn) (G:(fn.name == "runtime.NumGoroutine")=false) (hb:fn.body=some (JI fn))
  (hm:∀x,m.fn x=AY T (b0 x)) (D:∀x,F (b0 x)=Am fn m.ts x):Ai Tryz.prog BZ f m:=
 Zd4 rfl (Z3p _ rfl) Qc ms.2 C.2 z G hb hc m T F h b0 hm D
theorem TP {f rt:Nat} {ts:List Nat} {D:∀t∈ts,t∈U.keys} {fn:Func} {q:Type} {T:q->Tr U (U.Ty rt⊕q)} {b0:F9 U ts->q} (ms:Vx) (F:vS) (A:Nat->Option Lay) (G:q->Ae U) (z:Tryz.prog.funcs[f]? = some fn) (h:Zew f fn ms F A rt T G)
  (hc:(Ed (EV Tryz.prog iF f ms.1 F.1) f (JI fn),fn.name == "runtime.NumGoroutine",fn.body)=(true,false,some (JI fn))) (C:∀x,G (b0 x)=Am fn ts x):Ai Tryz.prog BZ f ⟨ts,rt,fun x=>AY T (b0 x),D⟩:=
 okPz (m:=⟨ts,rt,fun x=>AY T (b0 x),D⟩) h b0 (congrArg (·.1) hc) z (congrArg (·.2.1) hc) (congrArg (·.2.2) hc) (fun _=>rfl) C
theorem Z7n:Ai Tryz.prog BZ 379 Zp0:=TP TU TR AN Znp func379 (fun p=>by cases p<;>kernel_rfl) (by kernel_rfl) fun _=>rfl
theorem ZlB:Ai Tryz.prog BZ 355 Zn8:=TP (Tc Z7n TU) TR AN Zmf func355 (fun p=>by cases p<;>kernel_rfl) (by kernel_rfl) fun _=>rfl
theorem Zff:Ai Tryz.prog BZ 380 Zfz:=TP TU TR AN Zfq func380 (fun p=>by cases p<;>kernel_rfl) (by kernel_rfl) fun _=>rfl
theorem Zfj:Ai Tryz.prog BZ 381 Zfy:=TP TU TR AN Zfr func381 (fun p=>by cases p<;>kernel_rfl) (by kernel_rfl) fun _=>rfl
theorem Zlm:Ai Tryz.prog BZ 356 ZnA:=TP (Tc Z7n (Tc Zff (Tc Zfj TU))) TR AN ZlP func356 (fun p=>by cases p<;>kernel_rfl) (by kernel_rfl) fun _=>rfl
theorem ZfZ:Ai Tryz.prog BZ 357 ZgD:=TP TU TR AN Zgq func357 (fun p=>by cases p<;>kernel_rfl) (by kernel_rfl) fun _=>rfl
theorem ZmR:Ai Tryz.prog BZ 322 Z1y:=TP (Tc ZlB (Tc Zlm (Tc ZfZ TU))) TR Zsk Zpx func322 (fun p=>by cases p<;>kernel_rfl) (by kernel_rfl) fun _=>rfl
theorem Zdr (ok:Ai Tryz.prog BZ 322 Z1y):uH Fence.wide Np:=by
 intro k s r A F D;have key:∀w,Calls Tryz.prog 322 #[.int .u64 k,.int .u64 s] w fun e w' =>(e = .returned (.int .u64 r)/\Below w.heap.size w w')/\(Lit.int .u64 r).wf=true:=fun w=>by
  have:=ok.pure (k,s,()) r D (fun _ _=>False) w [.int .u64 k,.int .u64 s] (fun _ _ h=>h.elim) (fun g r h=>by cases h) (.lit A (.lit F .nil));refine this.mono ?_
  rintro e w' ⟨u,q,rfl,hb,_,_,_,z,_⟩
  cases z with
  | lit C _=>exact⟨⟨rfl,hb⟩,C⟩
 refine⟨?_,fun n w=>callsIn_wide.2 ((key w).mono fun e w' h=>h.1)⟩;obtain⟨e,w',G,h,_⟩:=key { heap:=#[],os:=default,tape:=default,output:=default,drawn:=default } [];exact h.2
theorem fold_wf {F:Fence} {z:Int->Int->Option Int} (G:uH F z) {k:Int} (I:(Lit.int .u64 k).wf=true) {xs:List Int}:∀(l:List Nat) (s r:Int),(Lit.int .u64 s).wf=true->l.foldlM (fun s g=>z k (bits .xor .u64 s (Iy xs g))) s=some r->(Lit.int .u64 r).wf=true:=by
 intro l;induction l with
 | nil=>intro s r q h;cases h;exact q
 | cons g l J=>
  intro s r q h;rw[List.foldlM_cons]at h;obtain⟨A,C,D⟩:=Option.bind_eq_some_iff.1 h;exact J A r (G k _ A I (Go.Proofs.YtjodhcdmhobmoaaGreatDoor.wf_x _ _) C).1 D
theorem ZEG {F:Fence} {C:Int->Int->Option Int} (q:uH F C) {k:Int} (z:(Lit.int .u64 k).wf=true) {xs:List Int} {r:Int} (h:Vh C k xs=some r):(Lit.int .u64 r).wf=true:=by
 unfold Vh at h;split at h
 ·rename_i A;obtain⟨D,G,I⟩:=Option.bind_eq_some_iff.1 h;refine fold_wf q z _ D r (q k _ D z ?_ G).1 I;simp[Lit.wf,IntKind.min,IntKind.max,IntKind.signed,IntKind.bits];omega
 ·cases h
def qE (k:Int) (xs:List Int):Option Int:=Vh Np k xs
def Zcr:Aj U:=⟨[29,62],25,fun x=>qE x.1 x.2.1,by decide⟩
theorem ZsI (ok:Ai Tryz.prog BZ 322 Z1y) (J:∀k s,(Lit.int .u64 s).wf=true->∃r,Np k s=some r):AA0 324 Zcr:=by
 refine⟨⟨f324,func324,by kernel_rfl,by kernel_rfl⟩,?_⟩
 rintro ⟨k,xs,_⟩ r C fz w vs q N z
 obtain⟨O,vs,rfl,G,z⟩:=z.Dw;obtain⟨Q,vs,rfl,I,z⟩:=z.Dw;cases z.FH;obtain⟨a,b,o,cap,rfl,A⟩:=row_of (xs:=xs) I;cases G with
 | lit D _=>
  have M:(Lit.int .u64 r).wf=true:=ZEG (Zdr ok) D C;refine(callsIn_wide.1 (ZDV Fence.wide trivial trivial trivial trivial rfl Np (Zdr ok) J 3 (by omega) k xs r D C b o cap a w A)).mono ?_
  rintro e w' ⟨rfl,hb⟩
  refine⟨_,fz,rfl,hb,fun _ _ h=>h,fun _ _ h _=>h,fun b c h=>?_,.lit M .nil,rfl⟩;obtain⟨u,F⟩:=q b c h;exact⟨u,(hb.cell (p:=⟨b,c,none⟩) (cell_lt F)).trans F⟩
theorem ZwC:AA0 324 Zcr:=ZsI ZmR fun k s _=>ZeC k s
end
open Go Go.Proofs.YtjodhcdmhobmoaaGreatDoor.Le
noncomputable section
inductive Z0V where
 | b0 (a:Int) (b:ByteArray) (c:List Int)
def Z9p:Z0V->Tr U (Int⊕Z0V)
 | .b0 b a c=>.chk (Vf U 5 a) (.bind 62 (Z1z c) (fun(d:List Int)=>kl (J7 U 5 a) (.chk true (.chk true (.bind 62 (Z0C ([(J7 U 5 a),[(0:Int)],d])) (fun(e:List Int)=>.bind 25 (qE b e) (fun(f:Int)=>AA f)))))))
def Z0P (a:Int) (b:ByteArray) (c:List Int):Option Int:=AY Z9p (.b0 a b c)
def ZnD:Z0V->Ae U
 | .b0 a b c=>Am f338 [29,9,254] (a,b,c,())
theorem ZmQ:AA1 338 [29,9,254] 29 (fun x=>Z0P x.1 x.2.1 x.2.2.1) rfl:=Ap (mc Zm7 (mc ZoG (mc ZwC Af))) Ah AN ZnD func338 (fun p=>by cases p<;>kernel_rfl) (by kernel_rfl) fun _=>rfl
inductive Z0n where
 | b0 (a b c d:Int)
 | b1 (a b c d:Int) (e:Cm)
def lI:Z0n->Tr U (Cm⊕Z0n)
 | .b0 a b c d=>.br (a != 1) (AP (.b1 (0:Int) b c d Oj)) (AP (.b1 a b c d Oj))
 | .b1 c d a b f=>.chk true (.bind 29 (Z0P d (⟨#[115,101,115,115,105,111,110]⟩:ByteArray) ([a,b])) (fun(e:Int)=>AA (⟨c,e,(bits .xor .u64 a b),false,false,0,0⟩:Cm)))
def Z0s (a b c d:Int):Option Cm:=AY lI (.b0 a b c d)
def Z79:Lay:=⟨[0,1,2,3,8],[KP,KP,KP,KP,KP],[.var k8],⟨[OV 3,OV 29,OV 25,OV 25,PQ 0],[VA 41 7]⟩⟩
def Zo3:Nat->Option Lay
 | 3=>some Z79
 | _=>none
def ZmH:Z0n->Ae U
 | .b0 a b c d=>Am f265 [3,29,25,25] (a,b,c,d,())
 | .b1 a b c d e=>AA3 f265 [1,1,0] Z79 (a,b,c,d,e,())
theorem ZlZ:AA1 265 [3,29,25,25] 41 (fun x=>Z0s x.1 x.2.1 x.2.2.1 x.2.2.2.1) rfl:=Ap (mc ZmQ Af) Ah Zo3 ZmH func265 (fun p=>by cases p<;>kernel_rfl) (by kernel_rfl) fun _=>rfl
inductive yF where
 | b0 (a:Int) (b:EM)
 | b1 (a:Int) (b:EM)
def jO:yF->Tr U (N9⊕yF)
 | .b0 b a=>let c:=kl a.Link.AB.Aa (kl a.Link.AB.Ak (.chk (kL a.Link.Ag.Aq&&(kL a.Link.BI&&(kL a.Link.Aw&&(kL a.C9&&(kL a.Link.AB.Aa&&kL a.Link.AB.Ak))))) (AA (⟨9,a,a.Link.AB.Aa,a.Link.AB.Ak⟩:N9))));.br (a.Link.BR != 1) c (.br (a.Link.AB.CJ != 1) c (.chk (kL a.Link.Ag.Aq&&(kL a.Link.AB.Aa&&(kL a.Link.AB.Ak&&(kL a.Link.BI&&(kL a.Link.Aw&&kL a.C9))))) (AP (.b1 b a))))
 | .b1 c a=>kl a.Link.AB.Aa (kl a.Link.AB.Ak (.bind 140 (yL a.Link.AB (c != 0) a.Link.Eg) (fun(b:A7×(List AL))=>let g:=a.Link.Aw++b.2;let f:=kL a.Link.Ag.Aq&&(kL a.Link.BI&&(kL g&&(kL a.C9&&(kL a.Link.AB.Aa&&kL a.Link.AB.Ak))));kl a.Link.Aw (.chk (kA (a.Link.Aw.length+b.2.length) 120) (.br (c != 0) (.bind 41 (Z0s a.Link.BR c b.1.GK b.1.CE) (fun(d:Cm)=>.bind 41 (Z0h d false true) (fun(e:Cm)=>.chk f (AA (⟨0,(⟨({ a.Link with AB:=b.1,Dk:=e,Key:=c,Aw:=g }:Ac),a.C9⟩:EM),a.Link.AB.Aa,a.Link.AB.Ak⟩:N9))))) (.chk f (AA (⟨0,(⟨({ a.Link with AB:=b.1,Aw:=g }:Ac),a.C9⟩:EM),a.Link.AB.Aa,a.Link.AB.Ak⟩:N9))))))))
def zI (a:Int) (b:EM):Option N9:=AY jO (.b0 a b)
def Z5y:Shape:=⟨[PQ 0,OV 29],[.var 118 67 (Oe 1),.row 68 true,.row 156 true,.row 138 true,.row 99 true,.row 156 true,.row 148 true]⟩
def ZfW:Shape:=⟨[OV 45],[.var 118 67 (vU 1 4 5 6),.row 68 true,.row 156 false,.row 138 false,.row 99 true,.row 156 true,.row 148 true]⟩
noncomputable def Zir:HMod U:=⟨[KP,KP],[.var k9,.row true,.row true,.row true,.row true,.row true,.row true],Z5y,ZfW,true,1358,fun(y:N9)=>(((y.q0,()),()),((y.q1.Link.BR,(y.q1.Link.CZ,(y.q1.Link.Clock,(y.q1.Link.Event,(y.q1.Link.Last,(y.q1.Link.Fq,(y.q1.Link.Size,(y.q1.Link.Sync,(y.q1.Link.Hf,(y.q1.Link.Gq,(y.q1.Link.Hm,(y.q1.Link.Good,(y.q1.Link.Ec,(y.q1.Link.More,(y.q1.Link.Ag.SN,(y.q1.Link.Ag.Ee,(y.q1.Link.Ag.Open,(y.q1.Link.Ag.Empty,(y.q1.Link.Ag.Ec,(y.q1.Link.Ag.Taken,(y.q1.Link.FZ,(y.q1.Link.AB,(y.q1.Link.Dk,(y.q1.Link.Key,(y.q1.Link.Bq,(y.q1.Link.Eg,())))))))))))))))))))))))))),(y.q1.Link.Ag.Aq,(y.q2,(y.q3,(y.q1.Link.BI,(y.q1.Link.Aw,(y.q1.C9,())))))))),fun x=>zI x.1.2.1.1 (match x with|⟨_,⟨v0,v2,v4,v6,v8,q,A,C,D,F,G,I,J,M,N,O,Q,S,Y,v25,v26,v27,v28,v29,v30,v31,v32,v33,v34,v35,v36,v37,v38,v39,v40,v41,v42,v43,v44,v45,v46,v47,v48,_⟩,v1,v3,v5,v7,v9,z,_⟩=>(⟨(⟨v0,v2,v4,v6,v8,q,A,C,D,F,G,I,J,M,(⟨N,O,v1,Q,S,Y,v25⟩:Bd),v26,(⟨v27,v28,v29,v3,v30,v31,v5,v32,v33,v34,v35,v36,v37,v38,v39,v40,v41,v42,v43,v44⟩:A7),v45,v46,v7,v9,v47,v48⟩:Ac),z⟩:EM)),okS rfl⟩
def Z5o:Lay:=⟨[0,1],[KP,KP],[.var k9,.row true,.row true,.row true,.row true,.row true,.row true],⟨[PQ 0,OV 29],[.var 118 67 (Oe 1),.row 68 true,.row 156 true,.row 138 true,.row 99 true,.row 156 true,.row 148 true]⟩⟩
def ZiK:Nat->Option Lay
 | 3=>some Z5o
 | _=>none
def Zhn:yF->Ae U
 | .b0 a b=>E5 f196 Z5y (((),((a,()),())),(Px b))
 | .b1 a b=>Ad f196 [1,1,0] Z5o (((),((a,()),())),(Px b))
theorem Zhi:DU Tryz.prog B0 196 Zir:=okR (mc ZlD (mc Zha (mc ZlZ Af))) Ah ZiK [KP] [.var k13,.row true,.row false,.row false,.row true,.row true,.row true] 7 Zhn func196 (fun p=>by cases p<;>kernel_rfl) (by kernel_rfl) fun x=>by kernel_rfl
inductive ZGb where
 | b0 (a b:Int)
end
end Go.Proofs.YtjodhcdmhobmoaaGreatDoor
namespace Go.Proofs.YtjodhcdmhobmoaaGreatDoor
open Tryz
open Go Go.RowKit Go.Shelf
attribute [local go_sem] Oper.semAt_some
set_option maxRecDepth 100000
def hasB (m:Int) (c:Nat):Bool:=(bits .and .u64 (m / 2 ^ c) 1==1)
def Cj (m:Int) (k:Nat):List Nat:=(List.range k).filter (hasB m)
theorem Ze5 (F:Fence) (n:Nat) (q:F.fn 223) (z:F.round=none) (m:Int) (c:Nat) (hc:c<37) (W:World) {b:Bool} (hb:hasB m c=b):CallsIn F n Tryz.prog 223 #[.int .u64 m,.int .i64 c] W fun e C =>e = .returned (.bool b)/\C = W:=by
 refine callsIn_of_wp func223 rfl q ?_ z;simp only[Tryz.ntmps223,List.size_toArray,List.length_cons,List.length_nil,Nat.reduceAdd,Nat.reduceSub,Array.replicate_succ,Array.replicate_zero,List.push_toArray,List.append_toArray,List.nil_append,List.cons_append];have A:=Lib.hid hb;clear hb
 gi_wp2
 go_ret
 exact⟨by rw[<- A.out];rfl,rfl⟩
theorem qQ (m:Int) (k:Nat):Cj m (k+1)=Cj m k++if hasB m k then [k] else []:=by
 unfold Cj;rw[List.range_succ,List.filter_append];cases h:hasB m k<;>simp[h]
theorem ZBV (m:Int) {k:Nat} (h:k<=37):Cj m k <+: Cj m 37:=by
 obtain⟨d,q⟩:∃d,37=k+d:=⟨37 - k,by omega⟩;rw[q];unfold Cj;rw[List.range_add,List.filter_append];exact List.prefix_append _ _
set_option maxHeartbeats 1000000 in
theorem all1_in (F:Fence) (n:Nat) (C:F.fn 223) (G:F.fn 347) (I:F.round=none) (hn:1<=n) (m:Int) (l Bm:Nat) (J Jx:List Nat->World->Prop)
  (hY:∀pre x W,J pre W->pre.length<(Cj m 37).length->YieldAt F (n - 1) Tryz.prog l #[.int .i64 (x:Nat)] W fun e M =>
   (e = .returned (.bool true)/\J (pre++[x]) M /\ M.cell? ⟨Bm,0,none⟩=W.cell? ⟨Bm,0,none⟩)\/(e = .returned (.bool false)/\Jx (pre++[x]) M))
  (W:World) (Y:W.cell? ⟨Bm,0,none⟩=some (.int .u64 m)) (h0:J [] W) :
  CallsIn F n Tryz.prog 347 #[.func (.yield l) #[] #[],.pointer (some ⟨Bm,0,none⟩)] W fun e M =>(∃v,e = .returned v) /\
   ((∃ys,ys=Cj m 37/\J ys M)\/(∃pre,pre <+: Cj m 37/\Jx pre M)):=by
 refine callsIn_of_wp func347 rfl G ?_ I;simp only[Tryz.ntmps347,List.size_toArray,List.length_cons,List.length_nil,Nat.reduceAdd,Nat.reduceSub,Array.replicate_succ,Array.replicate_zero,List.push_toArray,List.append_toArray,List.nil_append,List.cons_append]
 gi_wp2
 gi_loopw [4] (fun i wr=>∃k:Nat,k<=37/\i = .int .i64 k/\J (Cj m k) wr/\wr.cell? ⟨Bm,0,none⟩=some (.int .u64 m))
  (fun i _=>37 - (intOf i).toNat)
 case atStart=>exact⟨0,by omega,rfl,h0,Y⟩
 case round=>
  obtain⟨k,hk,rfl,hJ,z⟩:=hrel
  by_cases Q:k<37
  ·have A:=qQ m k;have q:=ZBV m (k:=k+1) (by omega);cases hb:hasB m k with
   | false=>
    rw[hb]at A;simp only[Bool.false_eq_true,if_false,List.append_nil]at A;have HS:=Lib.hid A;clear A q
    gi_wp2_with (gi_at_call 223;refine(Ze5 F (n - 1) C I m k Q _ hb).mono ?_;rintro e w' ⟨rfl,rfl⟩)
    refine⟨fun f h=>(by cases h),?_⟩
    gi_wp2
    go_roundw
    case rel=>exact⟨k+1,by omega,by go_num,by rw[HS.out];exact hJ,z⟩
    case measure=>simp[intOf];omega
   | true=>
    rw[hb]at A;simp only[if_true]at A;have D:(Cj m k).length<(Cj m 37).length:=by
     have:=q.length_le;rw[A]at this;simp at this;omega
    obtain⟨fn,tmps,S,body,hy,hR⟩:=hY (Cj m k) k wr hJ D;have HS:=Lib.hid A;have HP:=Lib.hid q;clear A q D
    gi_wp2_with (gi_at_call 223;refine(Ze5 F (n - 1) C I m k Q _ hb).mono ?_;rintro e w' ⟨rfl,rfl⟩)
    refine hR.mono ?_
    rintro e W3 (⟨rfl,hJ3,O⟩|⟨rfl,N⟩)
    ·have hc3:=O.trans z;clear O
     gi_wp2
     go_roundw
     case rel=>exact⟨k+1,by omega,by go_num,by rw[HS.out];exact hJ3,hc3⟩
     case measure=>simp[intOf];omega
    ·gi_wp2
     refine bodyPost_ret (results_none rfl _ _ _) rfl ?_;exact⟨⟨_,rfl⟩,.inr ⟨Cj m k++[k],by rw[<- HS.out];exact HP.out,N⟩⟩
  ·obtain rfl:k=37:=by omega
   gi_wp2
   go_end0
   exact⟨⟨_,rfl⟩,.inl ⟨_,rfl,hJ⟩⟩
def KpM (Bm:Nat) (A B:World):Prop:=B.cell? ⟨Bm,0,none⟩=A.cell? ⟨Bm,0,none⟩
theorem all_stops (F:Fence) (n:Nat) (z:F.fn 223) (q:F.fn 347) (C:F.round=none) (N:1<=n) (m:Int) (Bm:Nat) (w:World) (A:Bm<w.heap.size) (hc:w.cell? ⟨Bm,0,none⟩=some (.int .u64 m)) :
  SeqStopsK F n Tryz.prog 347 #[.pointer (some ⟨Bm,0,none⟩)] (fun x:Nat=>#[Value.int .i64 (x:Nat)]) (KpM Bm) (fun ys=>ys=Cj m 37) (fun pre=>pre <+: Cj m 37) (Cj m 37).length w:=fun l J D W I _ _ M G=>
 all1_in F n z q C N m l Bm J D M W ((I.cell (p:=⟨Bm,0,none⟩) A).trans hc) G
theorem all_in (F:Fence) (n:Nat) (q:F.fn 288) (z:F.round=none) (m:Int) (w:World) :
  CallsIn F n Tryz.prog 288 #[.int .u64 m] w fun e w' =>e = .returned (.func (.func 347) #[] #[.pointer (some ⟨w.heap.size,0,none⟩)])/\w' = w.alloc (.cells #[.int .u64 m] 26):=by
 refine callsIn_of_wp func288 rfl q ?_ z;simp only[Tryz.ntmps288,List.size_toArray,List.length_cons,List.length_nil,Nat.reduceAdd,Nat.reduceSub,Array.replicate_succ,Array.replicate_zero,List.push_toArray,List.append_toArray,List.nil_append,List.cons_append]
 gi_wp2
 go_ret
 exact⟨rfl,rfl⟩
theorem ZEP (m:Int):(Cj m 37).length<=37:=by unfold Cj;exact Nat.le_trans (List.length_filter_le _ _) (by simp)
theorem ZE3 {m:Int} {c:Nat} (h:c∈Cj m 37):c<37:=by
 unfold Cj at h;have:=(List.mem_filter.1 h).1;simpa using this
theorem ZBA:(Tryz.prog.info? 3).map (fun i=>(i.zero,i.size,i.bytes))=some (some (.int .i64 0),1,8):=by kernel_rfl
theorem Zzg:Tryz.prog.underlying 226=some (.slice 3):=by kernel_rfl
def Jp (pre:List Nat):List Value:=pre.map fun x=>Value.int .i64 (x:Nat)
def gU (m:Int) (w:World) (pre:List Nat) (W:World):Prop:=
 (∃v,Boxed W w.heap.size 226 v/\W.ownsRow w.heap.size 3 1 v pre.length (Jp pre)/\True)/\(Boxed W (w.heap.size+1) 26 (.int .u64 m)/\Below w.heap.size w W)
theorem gU.own {m:Int} {w:World} {B0:Nat} (D:w.heap.size<=B0):OwnFrom B0 (gU m w):=fun pre W C row h q z=>
 ⟨(Own.from (holdsRow_own w.heap.size w.heap.size 226 3 1 (fun pre:List Nat=>pre.length) Jp (fun _ _=>True)) B0) pre W C row h.1 q z,h.2.1.kept q (fun e=>by
  obtain⟨_,o,A,hc⟩:=z _ e.symm;rw[show W.heap[w.heap.size+1]? = _ from h.2.1]at A;cases A;cases hc),h.2.2.grown q h.2.2.size (fun k e=>Nat.le_trans D (z k e).1)⟩
set_option maxHeartbeats 2000000 in
theorem ZBW (F:Fence) (n:Nat) (Q:F.fn 223) (z:F.fn 347) (N:F.fn 288) (J:F.fn 363) (G:F.round=none) (hn:3<=n) (m:Int) (w:World) :
  CallsIn F n Tryz.prog 363 #[.int .u64 m] w fun e W' =>∃v,e = .returned v/\W'.ownsRow w.heap.size 3 1 v (Cj m 37).length (Jp (Cj m 37))/\Below w.heap.size w W' :=by
 have h1:1<=n:=by omega
 obtain⟨i0,hi,hz0,hz1,hz2⟩:=info_parts ZBA;refine callsIn_of_wp_marks func363 rfl J ?_ G;simp only[Tryz.ntmps363,List.size_toArray,List.length_cons,List.length_nil,Nat.reduceAdd,Nat.reduceSub,Array.replicate_succ,Array.replicate_zero,List.push_toArray,List.append_toArray,List.nil_append,List.cons_append]
 gi_wp2_with (gi_at_call 288;refine(all_in F (n - 1) N G _ _).mono ?_;rintro e w' ⟨rfl,rfl⟩)
 have I:gU m w [] ((w.alloc (Obj.cells #[Value.slice none 0 0] 226)).alloc (Obj.cells #[Value.int IntKind.u64 m] 26)):=by
  refine⟨⟨_,(Boxed.new _ _ _).alloc _,World.ownsRow_nil _ _ _ _,trivial⟩,?_,((Below.refl _ _).alloc (Nat.le_refl _) _).alloc (by simp) _⟩;have:=Boxed.new (w.alloc (Obj.cells #[Value.slice none 0 0] 226)) 26 (.int .u64 m);simpa using this
 generalize Y:((w.alloc (Obj.cells #[Value.slice none 0 0] 226)).alloc (Obj.cells #[Value.int IntKind.u64 m] 26))=W0 at I;have hs0:W0.heap.size=w.heap.size+2:=by rw[<- Y];simp
 clear Y;refine wpIn_rangeFunc_ownG G h1 (gf:=347) (lb:=#[.pointer (some ⟨w.heap.size+1,0,none⟩)]) rfl z (enters_of func347 (by kernel_rfl) rfl)
  (all_stops F (n - 1) Q z G (by omega) m (w.heap.size+1) W0 (by omega) I.2.1.cell) (fun h k=>k.trans h)
  (fun W l o o' hl ho hc _=>World.cell?_of_block (World.putObj_heap_other (by simp only;omega))) (Below.refl _ _) (fun _=>rfl)
  (gU m w) (fun _ _ _=>False) (gU.own (by omega)) (fun _ _ _ _ _ hs _ _=>hs) I
  (fun x=>{ tmps:=#[.int .u64 m,undef,.slice none 0 0,.pointer (some ⟨w.heap.size,0,none⟩),.int .i64 (x:Nat),.int .u64 m,.func (.func 347) #[] #[.pointer (some ⟨w.heap.size+1,0,none⟩)],.int .i64 (x:Nat),undef,undef,undef,undef,undef],defers:=[] }) ?assign ?body ?done ?stop
 case assign=>
  intro l x W K S
  gi_wp2
  exact S
 case body=>
  rintro l pre x W ⟨⟨v,hv,q,-⟩,hm,O⟩ hlen
  have hc:=hv.cell;have h37:=ZEP m;have hpl:pre.length<37:=by omega
  have hsz:=O.size
  gi_wp2_with (gi_at_builtin;refine wpListIn_append_own _ rfl _ _ 226 rfl w.heap.size 3 i0 (.int .i64 0) 1 8 Zzg hi hz0 hz1 hz2 rfl (by decide) _ _ _ rfl (q.alloc _) ⟨W.heap.size,0,none⟩ 1 1 [.int .i64 (x:Nat)] rfl rfl (cell_one_new _ _ _) (by simp[Value.oneCell']) (Nat.le_trans (by omega:pre.length+1<=100) (by decide)) (by omega) (by simp;omega) ?_;intro v' w1 C A _;obtain⟨g',M,rfl⟩:=ownsRow_succ C;obtain⟨hv1,hv2,hr2,hk2,hb2⟩:=hv.appended (by decide) q O.size (Nat.le_refl _) C A;have hc1:=hv1.cell;have hf1:=hv1.frozen)
  have hm1:Boxed w1 (w.heap.size+1) 26 (.int .u64 m):=(hm.alloc _).kept A (hm.not_row (by decide) q);have hm2:Boxed (w1.setCell ⟨w.heap.size,0,none⟩ (.slice (some ⟨g',0,none⟩) (pre.length+1) M)) (w.heap.size+1) 26 (.int .u64 m):=(Below.heap_setCell w1 ⟨w.heap.size,0,none⟩ _ (w.heap.size+1) (by simp)).trans hm1;refine⟨hk2.from _,hm2.cell.trans hm.cell.symm,⟨⟨_,hv2,?_,trivial⟩,hm2,O.trans hb2⟩⟩;unfold Jp at hr2 ⊢;simpa using hr2
 case done=>
  rintro D xs W hD rfl ⟨⟨v,hv,q,-⟩,hm,O⟩ S
  have hc:=hv.cell
  gi_wp2
  refine⟨by simp,.inl ⟨_,_,rfl,run_takeDeferred S,?_⟩⟩;exact⟨_,results_tmp rfl _ _ _,v,rfl,ownsRow_putObj q _ S rfl,O.trans (belowK_b (w:=w) (Nat.le_refl _) W D _ _ (by omega) S rfl rfl)⟩
 case stop=>
  rintro D c pre W _ _ h _
  exact h.elim
open Go.Proofs.YtjodhcdmhobmoaaGreatDoor.Le
theorem Zch (l:List Nat):flat (Jp l)=Jp l:=by
 induction l with
 | nil=>rfl
 | cons x l q=>exact congrArg (Value.int .i64 (x:Nat)::·) q
theorem Zyi (σ:Sg) (w:World) (l:List Nat) (h:∀x∈l,x<37):AQ σ w (l.map fun x=>V.lit (.int .i64 (x:Nat))) (Jp l):=by
 induction l with
 | nil=>exact .nil
 | cons x l z=>
  refine .lit ?_ (z fun y q=>h y (List.mem_cons_of_mem _ q));have:=h x List.mem_cons_self;simp[leaf,Lit.wf,IntKind.min,IntKind.max,IntKind.signed,IntKind.bits];omega
noncomputable def kW (a:Int):Option (List Int):=some ((Cj a 37).map fun x=>((x:Nat):Int))
noncomputable def Zme:Aj U:={ ts:=[26],rt:=226,fn:=fun x=>kW x.1,ok:=by decide }
theorem ZlG:AA0 363 Zme:=by
 refine⟨⟨f363,func363,by kernel_rfl,by kernel_rfl⟩,?_⟩
 rintro ⟨m,_⟩ a ha fz w vs A hg F
 cases ha;obtain⟨v0,vs,rfl,O,F⟩:=F.Dw;cases F.FH;cases O with
 | lit _ _=>
  refine(callsIn_wide.1 (ZBW Fence.wide 3 trivial trivial trivial trivial rfl (by omega) m w)).mono ?_
  rintro e w' ⟨v,rfl,⟨I,hc⟩,hb⟩
  have he:U.enc 226 ((Cj m 37).map fun x=>((x:Nat):Int)) = .sl false 1 ((Cj m 37).map fun x=>V.lit (.int .i64 (x:Nat))):=by
   show V.sl false 1 (((Cj m 37).map fun x=>((x:Nat):Int)).map fun n=>V.lit (.int .i64 n))=_;rw[List.map_map];rfl
  show ∃u M,_/\_/\_/\_/\_/\AQ _ _ [U.enc 226 ((Cj m 37).map fun x=>((x:Nat):Int))] _/\CW (U.enc 226 ((Cj m 37).map fun x=>((x:Nat):Int)))=true;rw[he];have keep:∀b c,fz b c->∃u,w'.cell? ⟨b,c,none⟩=some u:=fun b c h=>by
   obtain⟨u,q⟩:=A b c h;exact⟨u,(hb.cell (p:=⟨b,c,none⟩) (cell_lt q)).trans q⟩
  rcases hc with ⟨rfl,N⟩|⟨g,cap,J,rfl,hbg,G,Q,S,h5,Y⟩
  ·rw[List.length_eq_zero_iff.1 N];exact⟨_,fz,rfl,hb,fun _ _ h=>h,fun _ _ h _=>h,keep,.ET .nil,rfl⟩
  ·have z:∀j u,(Jp (Cj m 37))[j]? = some u->w'.cell? ⟨g,j,none⟩=some u:=fun j u q=>by
    rw[<- Y,List.getElem?_take]at q;split at q
    ·simpa[World.cell?,G]using q
    ·cases q
   refine⟨_,fun b c=>fz b c\/(b=g/\c<(Cj m 37).length),rfl,hb,fun _ _ h=>.inl h,fun b c h hlt=>h.resolve_right (fun e=>by omega),fun b c h=>?_,?_,(J6 _).2 fun x C=>by simp only[List.mem_map]at C;obtain⟨y,_,rfl⟩:=C;rfl⟩
   ·rcases h with h|⟨rfl,h⟩
    ·exact keep b c h
    ·have D:c<(Jp (Cj m 37)).length:=by unfold Jp;rw[List.length_map];exact h
     exact⟨_,z c _ (List.getElem?_eq_getElem D)⟩
   ·have F:=Zyi (bare fun b c=>fz b c\/(b=g/\c<(Cj m 37).length)) w' (Cj m 37) fun x C=>ZE3 C;have:=AQ.sl (σ:=bare fun b c=>fz b c\/(b=g/\c<(Cj m 37).length)) (w:=w') (xs:=[]) (vs:=[]) g 0 cap 1 F (fun x C=>by simp only[List.mem_map]at C;obtain⟨y,_,rfl⟩:=C;rfl) (fun u q=>by unfold Jp at q;simp only[List.mem_map]at q;obtain⟨y,_,rfl⟩:=q;rfl)
     (fun u q=>by rw[Zch]at q;unfold Jp at q;simp only[List.mem_map]at q;obtain⟨y,_,rfl⟩:=q;rfl) (by rw[List.length_map];exact Q) S (fun j u q=>by
      rw[Zch]at q;have D:j<(Jp (Cj m 37)).length:=(List.getElem?_eq_some_iff.1 q).1;unfold Jp at D;rw[List.length_map]at D;rw[Nat.zero_add];exact⟨.inr ⟨rfl,D⟩,z j u q⟩) .nil
    rw[List.length_map]at this;exact this
end Go.Proofs.YtjodhcdmhobmoaaGreatDoor
namespace Go.Proofs.YtjodhcdmhobmoaaGreatDoor
open Tryz
open Go Go.Proofs.YtjodhcdmhobmoaaGreatDoor.Le
set_option maxRecDepth 100000
noncomputable section
inductive ZU where
 | b0 (a:BC)
def Zlk:ZU->Tr U ((Int×Int)⊕ZU)
 | .b0 a=>let c:=(if (0:Int)>a.FN then (0:Int) else a.FN);let b:=(if (0:Int)>a.Good then (0:Int) else a.Good);AA ((if (65536:Int)<b then (65536:Int) else b),(if (65536:Int)<c then (65536:Int) else c))
def Wv (a:BC):Option (Int×Int):=AY Zlk (.b0 a)
def Zkh:ZU->Ae U
 | .b0 a=>Am f340 [99] (a,())
theorem ZK:AA1 340 [99] 104 (fun x=>Wv x.1) rfl:=Ap Af Ah AN Zkh func340 (fun p=>by cases p<;>kernel_rfl) (by kernel_rfl) fun _=>rfl
inductive Z0m where
 | b0 (a:BC)
def Z8p:Z0m->Tr U (Int⊕Z0m)
 | .b0 b=>.bind 104 (Wv b) (fun(a:Int×Int)=>let c:=AV (a.1+a.2);.br (c==0) (AA (0:Int)) (.chk (c != 0) (AA (AV (Int.tdiv (AV (a.2*1000)) c)))))
def XR (a:BC):Option Int:=AY Z8p (.b0 a)
def Zmc:Z0m->Ae U
 | .b0 a=>Am f365 [99] (a,())
theorem Z7l:AA1 365 [99] 3 (fun x=>XR x.1) rfl:=Ap (mc ZK Af) Ah AN Zmc func365 (fun p=>by cases p<;>kernel_rfl) (by kernel_rfl) fun _=>rfl
inductive Z0W where
 | b0 (a:BC)
def Z9j:Z0W->Tr U (Bool⊕Z0W)
 | .b0 a=>.bind 104 (Wv a) (fun(b:Int×Int)=>.br (decide ((AV (b.1+b.2))>=8)) (.bind 3 (XR a) (fun(c:Int)=>AA (decide (c>=250)))) (AA false))
def Z0K (a:BC):Option Bool:=AY Z9j (.b0 a)
def ZnM:Z0W->Ae U
 | .b0 a=>Am f364 [99] (a,())
theorem Znl:AA1 364 [99] 4 (fun x=>Z0K x.1) rfl:=Ap (mc ZK (mc Z7l Af)) Ah AN ZnM func364 (fun p=>by cases p<;>kernel_rfl) (by kernel_rfl) fun _=>rfl
inductive yP where
 | b0 (a:List BC) (b:Int)
 | b1 (a:List BC) (b:Int) (c:List Int) (d e:Int)
 | b2 (a:List BC) (b:Int) (c:List Int) (d e:Int)
 | b3 (a:List BC) (b c:Int) (d:List Int) (e f:Int)
 | b4 (a:List BC) (b:Int) (c:List Int) (d e:Int)
def MX:yP->Tr U (Int⊕yP)
 | .b0 b c=>.bind 226 (kW c) (fun(a:List Int)=>AP (.b1 b (-1:Int) a (↑a.length:Int) (0:Int)))
 | .b1 a d c e b=>let i:=AP (yP.b2 a d c e b);.br (decide (b<e)) (.chk (kI b c) (.bind 3 (c[(Int.toNat b)]?) (fun(f:Int)=>.br (decide (f>=(↑a.length:Int))) i (.chk (kI f a) (.bind 99 (a[(Int.toNat f)]?) (fun(g:BC)=>.bind 4 (Z0K g) (fun(h:Bool)=>.br (!h) i (AP (.b3 a d f c e b))))))))) (AA d)
 | .b2 a b c d e=>AP (.b1 a b c d (AV (e+1)))
 | .b3 a b c d e f=>let k:=AP (yP.b4 a c d e f);.br (decide (b<0)) k (.chk (kI c a) (.bind 99 (a[(Int.toNat c)]?) (fun(g:BC)=>.bind 3 (XR g) (fun(h:Int)=>.chk (kI b a) (.bind 99 (a[(Int.toNat b)]?) (fun(i:BC)=>.bind 3 (XR i) (fun(j:Int)=>.br (decide (h>j)) k (AP (.b2 a b d e f)))))))))
 | .b4 a b c d e=>AP (.b2 a b c d e)
def yG (a:List BC) (b:Int):Option Int:=AY MX (.b0 a b)
def jD:Lay:=⟨[0,5,9,10,11],[[.s 99 2],KP,[.s 3 1],KP,KP],[],⟨[OV 42,OV 3,OV 226,OV 3,OV 3],[]⟩⟩
def Z5q:Lay:=⟨[0,5,7,9,10,11],[[.s 99 2],KP,KP,[.s 3 1],KP,KP],[],⟨[OV 42,OV 3,OV 3,OV 226,OV 3,OV 3],[]⟩⟩
def Z5z:Lay:=⟨[0,7,9,10,11],[[.s 99 2],KP,[.s 3 1],KP,KP],[],⟨[OV 42,OV 3,OV 226,OV 3,OV 3],[]⟩⟩
def Zjb:Nat->Option Lay
 | 3=>some jD
 | 8=>some jD
 | 6=>some Z5q
 | 7=>some Z5z
 | _=>none
def ZgB:yP->Ae U
 | .b0 a b=>Am f339 [42,26] (a,b,())
 | .b1 a b c d e=>AA3 f339 [1,1,0,1,0,0,0] jD (a,b,c,d,e,())
 | .b2 a b c d e=>AA3 f339 [1,1,0,1,0,0,1,1,1] jD (a,b,c,d,e,())
 | .b3 a b c d e f=>AA3 f339 [1,1,0,1,0,0,1,1,0,0,1,1,0] Z5q (a,b,c,d,e,f,())
 | .b4 a b c d e=>AA3 f339 [1,1,0,1,0,0,1,1,0,0,1,1,1,0] Z5z (a,b,c,d,e,())
theorem ZgQ:AA1 339 [42,26] 3 (fun x=>yG x.1 x.2.1) rfl:=Ap (mc ZlG (mc Znl (mc Z7l Af))) Ah Zjb ZgB func339 (fun p=>by cases p<;>kernel_rfl) (by kernel_rfl) fun _=>rfl
inductive ZN where
 | b0 (a:List BC) (b c:Int)
 | b1 (a:List BC) (b c:Int)
def Ri:ZN->Tr U (Int⊕ZN)
 | .b0 b c a=>let d:=(if (2:Int)>a then (2:Int) else a);AP (.b1 b (bits .and .u64 c (137438953471:Int)) (if (37:Int)<d then (37:Int) else d))
 | .b1 c a d=>.bind 3 (kH a) (fun(e:Int)=>.br (decide (e>d)) (.bind 3 (yG c a) (fun(b:Int)=>.br (decide (b<0)) (AA a) (.chk (decide (0<=b)) (AP (.b1 c (bits .andNot .u64 a (IntKind.wrap .u64 ((1:Int)*2 ^ (min (Int.toNat b) (IntKind.bits .u64))))) d))))) (AA a))
def ZE (a:List BC) (b c:Int):Option Int:=AY Ri (.b0 a b c)
def Z6i:Lay:=⟨[0,1,2],[[.s 99 2],KP,KP],[],⟨[OV 42,OV 26,OV 3],[]⟩⟩
def Zkm:Nat->Option Lay
 | 3=>some Z6i
 | _=>none
def Zkb:ZN->Ae U
 | .b0 a b c=>Am f266 [42,26,3] (a,b,c,())
 | .b1 a b c=>AA3 f266 [1,1,1,0,0,0,0,0] Z6i (a,b,c,())
theorem Zji:AA1 266 [42,26,3] 26 (fun x=>ZE x.1 x.2.1 x.2.2.1) rfl:=Ap (mc Z6V (mc ZgQ Af)) Ah Zkm Zkb func266 (fun p=>by cases p<;>kernel_rfl) (by kernel_rfl) fun _=>rfl
inductive Z0j where
 | b0 (a:List BC)
def Z7o:Z0j->Tr U (UT⊕Z0j)
 | .b0 a=>let c:=(↑a.length:Int);let b:=(List.replicate (Int.toNat c) (⟨0,0⟩:BC));let d:=a.take b.length++b.drop a.length;.chk (decide (0<=c/\c<=c/\Int.toNat c*16<=lim/\c<=(↑maxLen:Int))) (kl b (.chk (d.length==b.length) (AA (⟨d⟩:UT))))
def Z0g (a:List BC):Option UT:=AY Z7o (.b0 a)
def Z6W:Shape:=⟨[OV 42],[]⟩
def Zk7:Shape:=⟨[.one (.own 99 0)],[.row 99 true]⟩
noncomputable def Zmw:HMod U:=⟨[[.s 99 2]],[],Z6W,Zk7,true,1382,fun(y:UT)=>(((),()),(y.q0,())),fun x=>Z0g x.1.1.1,okS rfl⟩
def Zlw:Z0j->Ae U
 | .b0 a=>E5 f251 Z6W (((a,()),()),())
theorem Zl7:DU Tryz.prog B0 251 Zmw:=okR Af Ah AN [[.own 99 2]] [.row true] 0 Zlw func251 (fun p=>by cases p<;>kernel_rfl) (by kernel_rfl) fun x=>by kernel_rfl
inductive Z0l where
 | b0 (a:List BC)
 | b1 (a b:List BC) (c d:Int)
def XD:Z0l->Tr U ((List BC)⊕Z0l)
 | .b0 a=>.bind 1382 (Z0g a) (fun(q:UT)=>kl q.q0 (.chk (kL q.q0&&kL q.q0) (AP (.b1 q.q0 q.q0 (↑q.q0.length:Int) (0:Int)))))
 | .b1 a f d b=>let i:=Int.toNat b;.br (decide (b<d)) (kl a (.chk (kI b a) (kl a (.bind 99 (a[i]?) (fun(e:BC)=>.bind 104 (Wv e) (fun(c:Int×Int)=>let h:=(a.set i (⟨(AV (Int.tdiv c.1 2)),(AV (Int.tdiv c.2 2))⟩:BC));let j:=h.length==a.length;kl a (.chk (kI b a) (.chk (a.length==a.length&&decide (0<=i)) (.bind 99 (a[i]?) (fun(g:BC)=>.chk (j&&j) (AP (.b1 h h d (AV (b+1)))))))))))))) (kl a (AA a))
def Z0d (a:List BC):Option (List BC):=AY XD (.b0 a)
def Z6Z:Lay:=⟨[3,10,11,12],[[.own 99 2],[.own 99 2],KP,KP],[.row true],⟨[.one (.own 99 0),.one (.own 99 0),OV 3,OV 3],[.row 99 true]⟩⟩
def Zml:Nat->Option Lay
 | 3=>some Z6Z
 | _=>none
def ZlJ:Z0l->Ae U
 | .b0 a=>Am f267 [42] (a,())
 | .b1 a d b c=>AA3 f267 [1,1,0,1,0,0,0] Z6Z (b,c,a,())
theorem Zld:AA1 267 [42] 42 (fun x=>Z0d x.1) rfl:=Ap (mc ZK Af) (hc [] Zl7 Ah) Zml ZlJ func267 (fun p=>by cases p<;>kernel_rfl) (by kernel_rfl) fun _=>rfl
inductive xA where
 | b0 (a:AL) (b:Int) (c:EM)
def Z5S:xA->Tr U (RY⊕xA)
 | .b0 c d a=>let f:=kL a.C9&&(kL a.Link.AB.Aa&&(kL a.Link.AB.Ak&&kL a.Link.BI));.bind 30 (iZ (nM a)) (fun(e:Int)=>kl a.Link.AB.Aa (kl a.Link.AB.Ak (.bind 222 (jU a.Link.AB c e d) (fun(b:A7×(List AL)×Int)=>let g:=a.Link.Aw++b.2.1;.br (b.2.2 != 0) (kl a.Link.AB.Aa (kl a.Link.AB.Ak (.chk (kL a.Link.Ag.Aq&&(kL a.Link.BI&&(kL a.Link.Aw&&f))) (AA (⟨b.2.2,a,a.Link.AB.Aa,a.Link.AB.Ak⟩:RY))))) (kl a.Link.Aw (.chk (kA (a.Link.Aw.length+b.2.1.length) 120) (.chk (kL a.Link.Ag.Aq&&(kL a.Link.BI&&(kL g&&f))) (AA (⟨0,(⟨({ a.Link with AB:=b.1,Aw:=g }:Ac),a.C9⟩:EM),a.Link.AB.Aa,a.Link.AB.Ak⟩:RY)))))))))
def xI (a:AL) (b:Int) (c:EM):Option RY:=AY Z5S (.b0 a b c)
def Z5g:Shape:=⟨[PQ 0,.agg [.v 156 15 true],OV 3],[.var 118 67 (Oe 1),.row 68 true,.row 156 true,.row 138 true,.row 99 false,.row 156 true,.row 148 true]⟩
def ZfT:Shape:=⟨[OV 45],[.var 118 67 (vU 1 4 5 6),.row 68 true,.row 156 false,.row 138 false,.row 99 false,.row 156 true,.row 148 true]⟩
noncomputable def ZgT:HMod U:=⟨[KP,k0,KP],[.var k9,.row true,.row true,.row true,.row false,.row true,.row true],Z5g,ZfT,true,1360,fun(y:RY)=>(((y.q0,()),()),((y.q1.Link.BR,(y.q1.Link.CZ,(y.q1.Link.Clock,(y.q1.Link.Event,(y.q1.Link.Last,(y.q1.Link.Fq,(y.q1.Link.Size,(y.q1.Link.Sync,(y.q1.Link.Hf,(y.q1.Link.Gq,(y.q1.Link.Hm,(y.q1.Link.Good,(y.q1.Link.Ec,(y.q1.Link.More,(y.q1.Link.Ag.SN,(y.q1.Link.Ag.Ee,(y.q1.Link.Ag.Open,(y.q1.Link.Ag.Empty,(y.q1.Link.Ag.Ec,(y.q1.Link.Ag.Taken,(y.q1.Link.FZ,(y.q1.Link.AB,(y.q1.Link.Dk,(y.q1.Link.Key,(y.q1.Link.Bq,(y.q1.Link.Eg,())))))))))))))))))))))))))),(y.q1.Link.Ag.Aq,(y.q2,(y.q3,(y.q1.Link.BI,(y.q1.Link.Aw,(y.q1.C9,())))))))),fun x=>xI x.1.2.1.1 x.1.2.2.1.1 (match x with|⟨_,⟨v0,v2,v4,v6,v8,q,A,C,D,F,G,I,J,M,N,O,Q,S,Y,v25,v26,v27,v28,v29,v30,v31,v32,v33,v34,v35,v36,v37,v38,v39,v40,v41,v42,v43,v44,v45,v46,v47,v48,_⟩,v1,v3,v5,v7,v9,z,_⟩=>(⟨(⟨v0,v2,v4,v6,v8,q,A,C,D,F,G,I,J,M,(⟨N,O,v1,Q,S,Y,v25⟩:Bd),v26,(⟨v27,v28,v29,v3,v30,v31,v5,v32,v33,v34,v35,v36,v37,v38,v39,v40,v41,v42,v43,v44⟩:A7),v45,v46,v7,v9,v47,v48⟩:Ac),z⟩:EM)),okS rfl⟩
def Zgl:xA->Ae U
 | .b0 a b c=>E5 f194 Z5g (((),((a,()),((b,()),()))),(Px c))
theorem Zgt:DU Tryz.prog B0 194 ZgT:=okR (mc Z5l (mc Z69 Af)) Ah AN [KP] [.var k13,.row true,.row false,.row false,.row false,.row true,.row true] 7 Zgl func194 (fun p=>by cases p<;>kernel_rfl) (by kernel_rfl) fun x=>by kernel_rfl
inductive Z5 where
 | b0 (a:Int) (b:EM)
def Z6z:Z5->Tr U (Nb⊕Z5)
 | .b0 c a=>let f:=kL a.Link.Ag.Aq&&(kL a.Link.Aw&&(kL a.C9&&(kL a.Link.AB.Aa&&(kL a.Link.AB.Ak&&kL a.Link.BI))));.br (a.Link.BR != 0) (kl a.Link.AB.Aa (kl a.Link.AB.Ak (kl a.Link.BI (.chk f (AA (⟨9,a,a.Link.AB.Aa,a.Link.AB.Ak,a.Link.BI⟩:Nb)))))) (kl a.Link.BI (.bind 26 (ZE a.Link.BI a.Link.CZ.Map (2:Int)) (fun(b:Int)=>.br (b==a.Link.CZ.Map) (kl a.Link.AB.Aa (kl a.Link.AB.Ak (kl a.Link.BI (.chk f (AA (⟨0,a,a.Link.AB.Aa,a.Link.AB.Ak,a.Link.BI⟩:Nb)))))) (.chk (kL a.Link.Ag.Aq&&(kL a.Link.AB.Aa&&(kL a.Link.AB.Ak&&(kL a.Link.BI&&(kL a.Link.Aw&&(kL a.C9&&kL a.Link.BI)))))) (.bind 1360 (xI (⟨1,Ba,b,0,0,0,0,0,0,0,0⟩:AL) c a) (fun(q:RY)=>let e:=kL q.q1.Link.Ag.Aq&&(kL q.q1.Link.Aw&&(kL q.q1.C9&&(kL q.q2&&(kL q.q3&&kL q.q1.Link.BI))));.br (q.q0==0) (kl q.q1.Link.BI (.bind 42 (Z0d q.q1.Link.BI) (fun(d:List BC)=>.chk e (AA (⟨q.q0,(⟨({ q.q1.Link with BI:=d }:Ac),q.q1.C9⟩:EM),q.q2,q.q3,q.q1.Link.BI⟩:Nb))))) (kl q.q1.Link.BI (.chk e (AA (⟨q.q0,q.q1,q.q2,q.q3,q.q1.Link.BI⟩:Nb))))))))))
def zX (a:Int) (b:EM):Option Nb:=AY Z6z (.b0 a b)
def Z5U:Shape:=⟨[PQ 0,OV 3],[.var 118 67 (Oe 1),.row 68 true,.row 156 true,.row 138 true,.row 99 true,.row 156 true,.row 148 true]⟩
def Zgu:Shape:=⟨[OV 45],[.var 118 67 (.agg [VC 3 1,.v 28 11 true,VC 3 1,VC 30 1,VC 3 1,VC 3 1,VC 3 1,VC 3 1,VC 3 1,VC 4 1,VC 4 1,VC 4 1,VC 4 1,VC 4 1,VC 3 1,VC 3 1,.own 68 1,VC 4 1,VC 4 1,VC 3 1,VC 3 1,.v 35 3 true,.v 39 20 true,.v 41 7 true,VC 29 1,VC 42 1,.own 156 5,VC 3 1,VC 25 1,.own 148 6]),.row 68 true,.row 156 false,.row 138 false,.row 99 false,.row 156 true,.row 148 true]⟩
noncomputable def Zjn:HMod U:=⟨[KP,KP],[.var k9,.row true,.row true,.row true,.row true,.row true,.row true],Z5U,Zgu,true,1359,fun(y:Nb)=>(((y.q0,()),()),((y.q1.Link.BR,(y.q1.Link.CZ,(y.q1.Link.Clock,(y.q1.Link.Event,(y.q1.Link.Last,(y.q1.Link.Fq,(y.q1.Link.Size,(y.q1.Link.Sync,(y.q1.Link.Hf,(y.q1.Link.Gq,(y.q1.Link.Hm,(y.q1.Link.Good,(y.q1.Link.Ec,(y.q1.Link.More,(y.q1.Link.Ag.SN,(y.q1.Link.Ag.Ee,(y.q1.Link.Ag.Open,(y.q1.Link.Ag.Empty,(y.q1.Link.Ag.Ec,(y.q1.Link.Ag.Taken,(y.q1.Link.FZ,(y.q1.Link.AB,(y.q1.Link.Dk,(y.q1.Link.Key,(y.q1.Link.BI,(y.q1.Link.Bq,(y.q1.Link.Eg,()))))))))))))))))))))))))))),(y.q1.Link.Ag.Aq,(y.q2,(y.q3,(y.q4,(y.q1.Link.Aw,(y.q1.C9,())))))))),fun x=>zX x.1.2.1.1 (match x with|⟨_,⟨v0,v2,v4,v6,v8,q,A,C,D,F,G,I,J,M,N,O,Q,S,Y,v25,v26,v27,v28,v29,v30,v31,v32,v33,v34,v35,v36,v37,v38,v39,v40,v41,v42,v43,v44,v45,v46,v47,v48,_⟩,v1,v3,v5,v7,v9,z,_⟩=>(⟨(⟨v0,v2,v4,v6,v8,q,A,C,D,F,G,I,J,M,(⟨N,O,v1,Q,S,Y,v25⟩:Bd),v26,(⟨v27,v28,v29,v3,v30,v31,v5,v32,v33,v34,v35,v36,v37,v38,v39,v40,v41,v42,v43,v44⟩:A7),v45,v46,v7,v9,v47,v48⟩:Ac),z⟩:EM)),okS rfl⟩
def ZiF:Z5->Ae U
 | .b0 a b=>E5 f197 Z5U (((),((a,()),())),(Px b))
theorem ZhP:DU Tryz.prog B0 197 Zjn:=okR (mc Zji (mc Zld Af)) (hc [] Zgt Ah) AN [KP] [.var [.keep,.keep,.keep,.keep,.keep,.keep,.keep,.keep,.keep,.keep,.keep,.keep,.keep,.keep,.keep,.keep,.keep,.keep,.keep,.keep,.keep,.keep,.keep,.keep,.keep,.keep,.own 68 2,.keep,.keep,.keep,.keep,.keep,.keep,.keep,.keep,.keep,.keep,.s 156 15,.keep,.keep,.s 138 8,.keep,.keep,.keep,.keep,.keep,.keep,.keep,.keep,.keep,.keep,.keep,.keep,.keep,.keep,.keep,.keep,.keep,.keep,.keep,.keep,.keep,.s 99 2,.own 156 15,.keep,.keep,.own 148 18],.row true,.row false,.row false,.row false,.row true,.row true] 7 ZiF func197 (fun p=>by cases p<;>kernel_rfl) (by kernel_rfl) fun x=>by kernel_rfl
inductive Z0b where
 | b0 (a:EN) (b:Int) (c:EM)
def JZ:Z0b->Tr U (IM⊕Z0b)
 | .b0 b c a=>let e:=(AV ((if (2147483647:Int)<b.Number then (2147483647:Int) else b.Number)));let d:=kL a.Link.Ag.Aq&&(kL a.Link.AB.Aa&&(kL a.Link.AB.Ak&&(kL a.Link.BI&&(kL a.Link.Aw&&kL a.C9))));.br (b.Kind==1) (.chk d (.bind 1355 (Z8 b.BU a) (fun(C:MZ)=>kl C.q1.Link.AB.Aa (kl C.q1.Link.AB.Ak (kl C.q1.Link.BI (.chk (kL C.q1.Link.Aw&&(kL C.q1.C9&&(kL C.q2&&(kL C.q1.Link.AB.Aa&&(kL C.q1.Link.AB.Ak&&kL C.q1.Link.BI))))) (AA (⟨C.q0,C.q1,C.q2,C.q1.Link.AB.Aa,C.q1.Link.AB.Ak,C.q1.Link.BI⟩:IM)))))))) (.br (b.Kind==2) (.chk d (.bind 1356 (Mc (⟨0,b.BG,0,0,0,0,0,0,0,0,0⟩:AL) c a) (fun(D:JE)=>kl D.q1.Link.Ag.Aq (kl D.q1.Link.BI (.chk (kL D.q1.Link.Aw&&(kL D.q1.C9&&(kL D.q1.Link.Ag.Aq&&(kL D.q2&&(kL D.q3&&kL D.q1.Link.BI))))) (AA (⟨D.q0,D.q1,D.q1.Link.Ag.Aq,D.q2,D.q3,D.q1.Link.BI⟩:IM))))))) (.br (b.Kind==3) (.chk d (.bind 1356 (Mc (⟨1,Ba,b.Map,0,0,0,0,0,0,0,0⟩:AL) c a) (fun(F:JE)=>kl F.q1.Link.Ag.Aq (kl F.q1.Link.BI (.chk (kL F.q1.Link.Aw&&(kL F.q1.C9&&(kL F.q1.Link.Ag.Aq&&(kL F.q2&&(kL F.q3&&kL F.q1.Link.BI))))) (AA (⟨F.q0,F.q1,F.q1.Link.Ag.Aq,F.q2,F.q3,F.q1.Link.BI⟩:IM))))))) (.br (b.Kind==4) (.chk d (.bind 1356 (Mc (⟨2,Ba,0,0,e,0,0,0,0,0,0⟩:AL) c a) (fun(G:JE)=>kl G.q1.Link.Ag.Aq (kl G.q1.Link.BI (.chk (kL G.q1.Link.Aw&&(kL G.q1.C9&&(kL G.q1.Link.Ag.Aq&&(kL G.q2&&(kL G.q3&&kL G.q1.Link.BI))))) (AA (⟨G.q0,G.q1,G.q1.Link.Ag.Aq,G.q2,G.q3,G.q1.Link.BI⟩:IM))))))) (.br (b.Kind==6) (.chk d (.bind 1356 (Mc (⟨8,Ba,0,0,0,0,0,0,63,0,0⟩:AL) c a) (fun(I:JE)=>kl I.q1.Link.Ag.Aq (kl I.q1.Link.BI (.chk (kL I.q1.Link.Aw&&(kL I.q1.C9&&(kL I.q1.Link.Ag.Aq&&(kL I.q2&&(kL I.q3&&kL I.q1.Link.BI))))) (AA (⟨I.q0,I.q1,I.q1.Link.Ag.Aq,I.q2,I.q3,I.q1.Link.BI⟩:IM))))))) (.br (b.Kind==7) (.chk d (.bind 1356 (Mc (⟨12,Ba,0,0,0,0,0,0,0,11,0⟩:AL) c a) (fun(J:JE)=>kl J.q1.Link.Ag.Aq (kl J.q1.Link.BI (.chk (kL J.q1.Link.Aw&&(kL J.q1.C9&&(kL J.q1.Link.Ag.Aq&&(kL J.q2&&(kL J.q3&&kL J.q1.Link.BI))))) (AA (⟨J.q0,J.q1,J.q1.Link.Ag.Aq,J.q2,J.q3,J.q1.Link.BI⟩:IM))))))) (.br (b.Kind==8) (.chk d (.bind 1356 (Mc (⟨18,Ba,0,0,0,0,0,0,0,0,0⟩:AL) c a) (fun(M:JE)=>kl M.q1.Link.Ag.Aq (kl M.q1.Link.BI (.chk (kL M.q1.Link.Aw&&(kL M.q1.C9&&(kL M.q1.Link.Ag.Aq&&(kL M.q2&&(kL M.q3&&kL M.q1.Link.BI))))) (AA (⟨M.q0,M.q1,M.q1.Link.Ag.Aq,M.q2,M.q3,M.q1.Link.BI⟩:IM))))))) (.br (b.Kind==9) (.chk d (.bind 1356 (Mc (⟨20,Ba,0,0,0,0,0,0,0,0,e⟩:AL) c a) (fun(N:JE)=>kl N.q1.Link.Ag.Aq (kl N.q1.Link.BI (.chk (kL N.q1.Link.Aw&&(kL N.q1.C9&&(kL N.q1.Link.Ag.Aq&&(kL N.q2&&(kL N.q3&&kL N.q1.Link.BI))))) (AA (⟨N.q0,N.q1,N.q1.Link.Ag.Aq,N.q2,N.q3,N.q1.Link.BI⟩:IM))))))) (.br (b.Kind==12) (.chk d (.bind 1356 (Mc (⟨15,b.BG,0,0,0,0,0,0,0,0,0⟩:AL) c a) (fun(O:JE)=>kl O.q1.Link.Ag.Aq (kl O.q1.Link.BI (.chk (kL O.q1.Link.Aw&&(kL O.q1.C9&&(kL O.q1.Link.Ag.Aq&&(kL O.q2&&(kL O.q3&&kL O.q1.Link.BI))))) (AA (⟨O.q0,O.q1,O.q1.Link.Ag.Aq,O.q2,O.q3,O.q1.Link.BI⟩:IM))))))) (.br (b.Kind==5) (.chk d (.bind 1357 (xM b c a) (fun(q:QI)=>kl q.q1.Link.Ag.Aq (kl q.q1.Link.BI (.chk (kL q.q1.Link.Aw&&(kL q.q1.C9&&(kL q.q1.Link.Ag.Aq&&(kL q.q2&&(kL q.q3&&kL q.q1.Link.BI))))) (AA (⟨q.q0,q.q1,q.q1.Link.Ag.Aq,q.q2,q.q3,q.q1.Link.BI⟩:IM))))))) (.br (b.Kind==10) (.chk d (.bind 1358 (zI b.Key a) (fun(z:N9)=>kl z.q1.Link.Ag.Aq (kl z.q1.Link.BI (.chk (kL z.q1.Link.Aw&&(kL z.q1.C9&&(kL z.q1.Link.Ag.Aq&&(kL z.q2&&(kL z.q3&&kL z.q1.Link.BI))))) (AA (⟨z.q0,z.q1,z.q1.Link.Ag.Aq,z.q2,z.q3,z.q1.Link.BI⟩:IM))))))) (.br (b.Kind==13) (.chk d (.bind 1359 (zX c a) (fun(A:Nb)=>kl A.q1.Link.Ag.Aq (.chk (kL A.q1.Link.Aw&&(kL A.q1.C9&&(kL A.q1.Link.Ag.Aq&&(kL A.q2&&(kL A.q3&&kL A.q4))))) (AA (⟨A.q0,A.q1,A.q1.Link.Ag.Aq,A.q2,A.q3,A.q4⟩:IM)))))) (kl a.Link.Ag.Aq (kl a.Link.AB.Aa (kl a.Link.AB.Ak (kl a.Link.BI (.chk (kL a.Link.Aw&&(kL a.C9&&(kL a.Link.Ag.Aq&&(kL a.Link.AB.Aa&&(kL a.Link.AB.Ak&&kL a.Link.BI))))) (AA (⟨12,a,a.Link.Ag.Aq,a.Link.AB.Aa,a.Link.AB.Ak,a.Link.BI⟩:IM))))))))))))))))))
def kV (a:EN) (b:Int) (c:EM):Option IM:=AY JZ (.b0 a b c)
def Z6O:Shape:=⟨[PQ 0,.agg [.v 83 12 true],OV 3],[.var 118 67 (Oe 1),.row 68 true,.row 156 true,.row 138 true,.row 99 true,.row 156 true,.row 148 true]⟩
def ZjM:Shape:=⟨[OV 45],[.var 118 67 (.agg [VC 3 1,.v 28 11 true,VC 3 1,VC 30 1,VC 3 1,VC 3 1,VC 3 1,VC 3 1,VC 3 1,VC 4 1,VC 4 1,VC 4 1,VC 4 1,VC 4 1,.v 33 7 true,.v 35 3 true,.v 39 20 true,.v 41 7 true,VC 29 1,VC 42 1,.own 156 5,VC 3 1,VC 25 1,.own 148 6]),.row 68 false,.row 156 false,.row 138 false,.row 99 false,.row 156 true,.row 148 true]⟩
noncomputable def Zmk:HMod U:=⟨[KP,k12,KP],[.var k9,.row true,.row true,.row true,.row true,.row true,.row true],Z6O,ZjM,true,1354,fun(y:IM)=>(((y.q0,()),()),((y.q1.Link.BR,(y.q1.Link.CZ,(y.q1.Link.Clock,(y.q1.Link.Event,(y.q1.Link.Last,(y.q1.Link.Fq,(y.q1.Link.Size,(y.q1.Link.Sync,(y.q1.Link.Hf,(y.q1.Link.Gq,(y.q1.Link.Hm,(y.q1.Link.Good,(y.q1.Link.Ec,(y.q1.Link.More,(y.q1.Link.Ag,(y.q1.Link.FZ,(y.q1.Link.AB,(y.q1.Link.Dk,(y.q1.Link.Key,(y.q1.Link.BI,(y.q1.Link.Bq,(y.q1.Link.Eg,())))))))))))))))))))))),(y.q2,(y.q3,(y.q4,(y.q5,(y.q1.Link.Aw,(y.q1.C9,())))))))),fun x=>kV x.1.2.1.1 x.1.2.2.1.1 (match x with|⟨_,⟨v0,v2,v4,v6,v8,q,A,C,D,F,G,I,J,M,N,O,Q,S,Y,v25,v26,v27,v28,v29,v30,v31,v32,v33,v34,v35,v36,v37,v38,v39,v40,v41,v42,v43,v44,v45,v46,v47,v48,_⟩,v1,v3,v5,v7,v9,z,_⟩=>(⟨(⟨v0,v2,v4,v6,v8,q,A,C,D,F,G,I,J,M,(⟨N,O,v1,Q,S,Y,v25⟩:Bd),v26,(⟨v27,v28,v29,v3,v30,v31,v5,v32,v33,v34,v35,v36,v37,v38,v39,v40,v41,v42,v43,v44⟩:A7),v45,v46,v7,v9,v47,v48⟩:Ac),z⟩:EM)),okS rfl⟩
def Zlc:Z0b->Ae U
 | .b0 a b c=>E5 f101 Z6O (((),((a,()),((b,()),()))),(Px c))
theorem Zlg:DU Tryz.prog B0 101 Zmk:=okR Af (hc [] Zib (hc [] Z66 (hc [] Zgn (hc [] Zhi (hc [] ZhP Ah))))) AN [KP] [.var [.keep,.keep,.keep,.keep,.keep,.keep,.keep,.keep,.keep,.keep,.keep,.keep,.keep,.keep,.keep,.keep,.keep,.keep,.keep,.keep,.keep,.keep,.keep,.keep,.keep,.keep,.s 68 2,.keep,.keep,.keep,.keep,.keep,.keep,.keep,.keep,.keep,.keep,.s 156 15,.keep,.keep,.s 138 8,.keep,.keep,.keep,.keep,.keep,.keep,.keep,.keep,.keep,.keep,.keep,.keep,.keep,.keep,.keep,.keep,.keep,.keep,.keep,.keep,.keep,.s 99 2,.own 156 15,.keep,.keep,.own 148 18],.row false,.row false,.row false,.row false,.row true,.row true] 7 Zlc func101 (fun p=>by cases p<;>kernel_rfl) (by kernel_rfl) fun x=>by kernel_rfl
inductive Z2n where
 | b0 (a:Ac) (b:EN) (c:Int)
def Z2x:Z2n->Tr U ((Ac×Int)⊕Z2n)
 | .b0 a b c=>.bind 1353 (nV a) (fun(q:Ru)=>.bind 4 (yN (nM q.q0)) (fun(d:Bool)=>.br (!d) (kl q.q0.Link.Ag.Aq (kl q.q0.Link.AB.Aa (kl q.q0.Link.AB.Ak (kl q.q0.Link.BI (kl q.q0.Link.Aw (AA (q.q0.Link,9))))))) (.chk (kL q.q0.Link.Ag.Aq&&(kL q.q0.Link.AB.Aa&&(kL q.q0.Link.AB.Ak&&(kL q.q0.Link.BI&&(kL q.q0.Link.Aw&&kL q.q0.C9))))) (.bind 1354 (kV b c q.q0) (fun(A:IM)=>.br (A.q0 != 0) (.bind 1353 (nV a) (fun(z:Ru)=>kl z.q0.Link.Ag.Aq (kl z.q0.Link.AB.Aa (kl z.q0.Link.AB.Ak (kl z.q0.Link.BI (kl z.q0.Link.Aw (AA (z.q0.Link,A.q0)))))))) (kl A.q1.Link.Aw (AA (A.q1.Link,0))))))))
def Z2N (a:Ac) (b:EN) (c:Int):Option (Ac×Int):=AY Z2x (.b0 a b c)
def Zvf:Z2n->Ae U
 | .b0 a b c=>Am f32 [44,83,3] (a,b,c,())
theorem ZuU:AA1 32 [44,83,3] 46 (fun x=>Z2N x.1 x.2.1 x.2.2.1) rfl:=Ap (mc Zh4 Af) (hc [] Zpi (hc [] Zlg Ah)) AN Zvf func32 (fun p=>by cases p<;>kernel_rfl) (by kernel_rfl) fun _=>rfl
inductive Wh where
 | b0 (a:Il) (b:EN)
 | b1 (a:Int) (b:EN) (c:Ac)
def ZL:Wh->Tr U (Bool⊕Wh)
 | .b0 c b=>.bind 4 (Z8v) (fun(d:Bool)=>.br (!d) (AA false) (.bind 60 (ZA c) (fun(a:Ac×Int×Bool)=>.br (!a.2.2) (AA true) (.br (decide ((↑b.BU.Payload.length:Int)>4096)) (AA true) (AP (.b1 a.2.1 b a.1))))))
 | .b1 b a c=>let h:=([]:List Int)++a.BU.Payload;.chk true (.chk (kA (0+a.BU.Payload.length) 1) (.bind 44 (Z1P c) (fun(f:Ac)=>kl h (.bind 46 (Z2N f ({ a with BU:=(⟨a.BU.CQ,h⟩:BB) }:EN) b) (fun(d:Ac×Int)=>.bind 46 (Nz c a b) (fun(e:Ac×Int)=>.br (d.2==e.2) (.bind 4 (Z2j d.1 e.1) (fun(g:Bool)=>AA g)) (AA false)))))))
def Z6R (a:Il) (b:EN):Option Bool:=AY ZL (.b0 a b)
def Wi:Aj U:=⟨[59,83],4,fun x=>Z6R x.1 x.2.1,by decide⟩
def Z64:Lay:=⟨[3,5,6],[KP,KP,KP],[.var k12,.var k2],⟨[PQ 0,PQ 1,OV 3],[VA 83 12,VA 44 66]⟩⟩
def Zku:Nat->Option Lay
 | 6=>some Z64
 | _=>none
def ZjV:Wh->Ae U
 | .b0 a b=>Am f7 [59,83] (a,b,())
 | .b1 a b c=>AA3 f7 [1,1,1,1,0] Z64 (a,b,c,())
theorem Zjv:AA0 7 Wi:=Ap (mc Zr9 (mc Zmj (mc ZjY (mc Zrg (mc ZuU (mc Zca Af)))))) Ah Zku ZjV func7 (fun p=>by cases p<;>kernel_rfl) (by kernel_rfl) fun _=>rfl
end
end Go.Proofs.YtjodhcdmhobmoaaGreatDoor
