/- A part of it. -/
import Derived.Test.YtjodhcdmhobmoaaGreatDoorDF1
import Derived.WalkKit
import Derived.OwnWalkIn
import Derived.TacticsInMore
import Derived.RegionIn
import Derived.LoopNIn
import Derived.LoopIn
import Derived.IntWalk
import Derived.Lib.Hide
import Derived.Maps.Own
import Derived.Laws.EntriesVeiled
import Derived.KernelRfl
set_option linter.unusedVariables false
set_option linter.unusedSimpArgs false
namespace Go.Proofs.YtjodhcdmhobmoaaGreatDoor
open Tryz
open Go Go.Proofs.YtjodhcdmhobmoaaGreatDoor.Le
set_option maxRecDepth 100000
noncomputable section
inductive Y0 where
 | b0 (a:Int) (b:List Int)
def Zag:Y0->Tr U (((List Int)×Int)⊕Y0)
 | .b0 c a=>let k:=(↑a.length:Int);let i:=([]:List Int);let e:=AV (k - 3);let j:=Int.toNat e;let h:=(a.drop j).take (a.length - j);let g:=(decide (0<=e/\e<=k));let f:=(a.drop 0).take (j - 0);.br (decide (e<0)) (.chk true (AA (i,(3:Int)))) (.chk g (.chk (Lm U 5 h) (.chk g (.bind 22 (qB c f) (fun(d:Int)=>.bind 62 (oV d) (fun(b:List Int)=>.chk (Lm U 5 b) (.br (!((strOf U 5 h).toList==(strOf U 5 b).toList)) (.chk true (AA (i,(10:Int)))) (.chk g (.chk true (.chk (kA (0+f.length) 1) (kl (i++f) (AA ((i++f),(0:Int))))))))))))))
def Z1v (a:Int) (b:List Int):Option ((List Int)×Int):=AY Zag (.b0 a b)
def ZqA:Y0->Ae U
 | .b0 a b=>Am f114 [22,62] (a,b,())
theorem Zpd:AA1 114 [22,62] 120 (fun x=>Z1v x.1 x.2.1) rfl:=Ap (mc Z9q (mc ZbB Af)) Ah AN ZqA func114 (fun p=>by cases p<;>kernel_rfl) (by kernel_rfl) fun _=>rfl
inductive XX where
 | b0 (a:List Int)
 | b1 (a:Be)
 | b2 (a:List Int) (b c d:Int) (e:Be)
def Z8U:XX->Tr U ((Be×Int)⊕XX)
 | .b0 a=>.br (decide ((↑a.length:Int)<2)) (AA (IA,3)) (.chk (kI (0:Int) a) (.bind 5 (a[(Int.toNat 0)]?) (fun(b:Int)=>let f:=AV (b);let d:=Int.tmod f 4;.chk (kI (1:Int) a) (.bind 5 (a[(Int.toNat 1)]?) (fun(c:Int)=>let e:=AP (XX.b2 a f (AV (c)) d IA);.br (decide (f>=32)) (AA (IA,2)) (.br (d==0) (AA (IA,12)) (.br ((AV (c))==0) (.br (d != 1) (AP (.b1 IA)) e) e)))))))
 | .b1 a=>AA (IA,1)
 | .b2 a b c d e=>let i:=Int.toNat 2;let g:=(↑a.length:Int);let j:=AV (g - 2);let f:=(a.drop i).take (a.length - i);let h:=([]:List Int)++f;.br (decide (j<c)) (AA (IA,3)) (.br (decide (j>c)) (AA (IA,2)) (.chk (decide (0<=(2:Int)/\(2:Int)<=g)) (.chk true (.chk (kA (0+f.length) 1) (kl h (AA ((⟨(Int.tmod (AV (Int.tdiv b 8)) (2:Int)),(Int.tmod (AV (Int.tdiv b 4)) (2:Int)),(Int.tmod (AV (Int.tdiv b 16)) (2:Int)),(⟨d,h⟩:BB)⟩:Be),(0:Int))))))))
def Z0X (a:List Int):Option (Be×Int):=AY Z8U (.b0 a)
def Z7g:Lay:=⟨[2],[KP],[.var k5],⟨[PQ 0],[VA 70 5]⟩⟩
def Z7j:Lay:=⟨[0,2,4,5,6],[[.s 5 1],KP,KP,KP,KP],[.var k5],⟨[OV 62,PQ 0,OV 3,OV 3,OV 3],[VA 70 5]⟩⟩
def Zpe:Nat->Option Lay
 | 10=>some Z7g
 | 11=>some Z7j
 | _=>none
def Znn:XX->Ae U
 | .b0 a=>Am f115 [62] (a,())
 | .b1 a=>AA3 f115 [1,1,1,1,1,1,0,1,0,0] Z7g (a,())
 | .b2 a b c d e=>AA3 f115 [1,1,1,1,1,1,1,0,0] Z7j (a,b,c,d,e,())
theorem ZmJ:AA1 115 [62] 71 (fun x=>Z0X x.1) rfl:=Ap Af Ah Zpe Znn func115 (fun p=>by cases p<;>kernel_rfl) (by kernel_rfl) fun _=>rfl
inductive Yv where
 | b0 (a b:List Int)
def ZaS:Yv->Tr U (Bool⊕Yv)
 | .b0 a b=>.chk (Lm U 5 a) (.chk (Lm U 5 b) (AA ((strOf U 5 a).toList==(strOf U 5 b).toList)))
def Z21 (a b:List Int):Option Bool:=AY ZaS (.b0 a b)
def Zr2:Yv->Ae U
 | .b0 a b=>Am f278 [62,62] (a,b,())
theorem ZrK:AA1 278 [62,62] 4 (fun x=>Z21 x.1 x.2.1) rfl:=Ap Af Ah AN Zr2 func278 (fun p=>by cases p<;>kernel_rfl) (by kernel_rfl) fun _=>rfl
inductive aB where
 | b0 (a b:Int) (c d:List Int)
def ZbC:aB->Tr U (((List Int)×Int)⊕aB)
 | .b0 b c d a=>let m:=([]:List Int);let l:=(↑a.length:Int);let h:=AV (l - 4);let j:=Int.toNat h;let k:=(a.drop 0).take (j - 0);let i:=(decide (0<=h/\h<=l));.br (decide (h<0)) (.chk true (AA (m,(3:Int)))) (.chk i (.bind 62 (pX b c d k) (fun(e:List Int)=>.chk i (.bind 4 (Z21 e ((a.drop j).take (a.length - j))) (fun(f:Bool)=>.br (!f) (.chk true (AA (m,(15:Int)))) (.bind 62 (mQ b c h) (fun(g:List Int)=>.bind 1350 (pW k g) (fun(q:PD)=>kl q.q0 (AA (q.q0,0))))))))))
def Z28 (a b:Int) (c d:List Int):Option ((List Int)×Int):=AY ZbC (.b0 a b c d)
def ZsT:aB->Ae U
 | .b0 a b c d=>Am f211 [29,25,62,62] (a,b,c,d,())
theorem Zss:AA1 211 [29,25,62,62] 120 (fun x=>Z28 x.1 x.2.1 x.2.2.1 x.2.2.2.1) rfl:=Ap (mc Z7X (mc ZaG (mc ZrK Af))) (hc [] Zb4 Ah) AN ZsT func211 (fun p=>by cases p<;>kernel_rfl) (by kernel_rfl) fun _=>rfl
inductive Xv where
 | b0 (a:Int)
def Z9O:Xv->Tr U (Int⊕Xv)
 | .b0 a=>.br (a==1) (AA (0:Int)) (AA (1:Int))
def Z1M (a:Int):Option Int:=AY Z9O (.b0 a)
def ZoI:Xv->Ae U
 | .b0 a=>Am f212 [3] (a,())
theorem Zq7:AA1 212 [3] 3 (fun x=>Z1M x.1) rfl:=Ap Af Ah AN ZoI func212 (fun p=>by cases p<;>kernel_rfl) (by kernel_rfl) fun _=>rfl
inductive aT where
 | b0 (a:Cm) (b:Be)
 | b1 (a:Cm) (b c:Be)
def Zbr:aT->Tr U ((Be×Int)⊕aT)
 | .b0 b a=>.bind 45 (Om a) (fun(c:Int)=>.br (c != 0) (AA (IA,c)) (.br (!b.Jl) (AA (a,0)) (.bind 4 (U7 a.BU) (fun(d:Bool)=>.br d (AA (a,0)) (AP (.b1 b a IA))))))
 | .b1 a b g=>.br (decide ((↑b.BU.Payload.length:Int)<5)) (AA (IA,3)) (.bind 3 (Z1M a.BR) (fun(d:Int)=>.bind 25 (mX a d a.Rx) (fun(e:Int)=>.chk true (.bind 120 (Z28 a.Key e ([(IntKind.wrap .u8 (b.BU.CQ))]) b.BU.Payload) (fun(c:(List Int)×Int)=>.br (c.2 != 0) (AA (IA,c.2)) (.bind 70 (oN b c.1) (fun(f:Be)=>AA (f,0))))))))
def Z2a (a:Cm) (b:Be):Option (Be×Int):=AY Zbr (.b0 a b)
def Z99:Lay:=⟨[2,3,4],[KP,KP,KP],[.var k8,.var k5,.var k5],⟨[PQ 0,PQ 1,PQ 2],[VA 41 7,VA 70 5,VA 70 5]⟩⟩
def Zw8:Nat->Option Lay
 | 6=>some Z99
 | _=>none
def Zrz:aT->Ae U
 | .b0 a b=>Am f117 [41,70] (a,b,())
 | .b1 a b c=>AA3 f117 [1,1,1,0,0] Z99 (a,b,c,())
theorem ZtH:AA1 117 [41,70] 71 (fun x=>Z2a x.1 x.2.1) rfl:=Ap (mc l9 (mc U4 (mc Z9R (mc Z91 (mc Zss (mc Zq7 Af)))))) Ah Zw8 Zrz func117 (fun p=>by cases p<;>kernel_rfl) (by kernel_rfl) fun _=>rfl
inductive Yp where
 | b0 (a:Bd) (b:Be)
 | b1 (a:Bd) (b:Be) (c:Bd) (d:BB)
 | b2 (a:Bool) (b:Bd) (c:Be) (d:Bd) (e:BB)
 | b3 (a:Bool) (b:Bd) (c:Be) (d:Bd) (e:BB)
 | b4 (a:Bool) (b:Bd) (c:Be) (d:Bd) (e:BB)
 | b5 (a:Bool) (b c:Bd) (d:BB)
def Zbs:Yp->Tr U ((Bd×BB×Bool×Bool)⊕Yp)
 | .b0 a b=>let e:=(⟨0,([]:List Int)⟩:BB);let d:=AP (Yp.b2 false a b Ld e);.bind 45 (Om b) (fun(c:Int)=>.br (c != 0) (AA (a,(⟨0,[]⟩:BB),false,false)) (.br a.Open (.br (b.Ee != a.SN) (AP (.b1 a b Ld e)) d) d))
 | .b1 a b c d=>let e:=({ a with SN:=(AV ((1:Int) - a.SN)) }:Bd);let f:=AP (Yp.b4 true e b c d);.br (!a.Empty) (.br (decide ((↑a.Aq.length:Int)>0)) (AP (.b3 true e b c d)) f) f
 | .b2 b a c d e=>let g:=AV ((1:Int) - a.Ee);.br (c.SN==a.Ee) (.bind 4 (XT c.BU) (fun(f:Bool)=>.br (!f) (AA (({ a with Ee:=g,Taken:=(AV (a.Taken+1)) }:Bd),c.BU,true,b)) (AP (.b5 b ({ a with Ee:=g }:Bd) d e)))) (AP (.b5 b a d e))
 | .b3 b a c d e=>let h:=Int.toNat 1;let f:=(a.Aq.drop h).take (a.Aq.length - h);let g:=([]:List BB)++f;.chk (decide (0<=(1:Int)/\(1:Int)<=(↑a.Aq.length:Int))) (.chk true (.chk (kA (0+f.length) 32) (kl g (AP (.b4 b ({ a with Aq:=g,Ec:=(AV (a.Ec+1)) }:Bd) c d e)))))
 | .b4 a b c d e=>AP (.b2 a ({ b with Open:=false,Empty:=false }:Bd) c d e)
 | .b5 a b c d=>AA (b,(⟨0,[]⟩:BB),false,a)
def Z1O (a:Bd) (b:Be):Option (Bd×BB×Bool×Bool):=AY Zbs (.b0 a b)
def Z8J:Lay:=⟨[2,3,4,5],[KP,KP,KP,KP],[.var k6,.var k5,.var k6,.var [.keep,.s 5 1]],⟨[PQ 0,PQ 1,PQ 2,PQ 3],[VA 33 7,VA 70 5,VA 33 7,VA 68 2]⟩⟩
def U3:Lay:=⟨[2,3,4,5,7],[KP,KP,KP,KP,KP],[.var k6,.var k5,.var k6,.var [.keep,.s 5 1]],⟨[PQ 0,PQ 1,PQ 2,PQ 3,OV 4],[VA 33 7,VA 70 5,VA 33 7,VA 68 2]⟩⟩
def Z8L:Lay:=⟨[2,4,5,7],[KP,KP,KP,KP],[.var k6,.var k6,.var [.keep,.s 5 1]],⟨[PQ 0,PQ 1,PQ 2,OV 4],[VA 33 7,VA 33 7,VA 68 2]⟩⟩
def Zul:Nat->Option Lay
 | 4=>some Z8J
 | 10=>some U3
 | 7=>some U3
 | 9=>some U3
 | 15=>some Z8L
 | _=>none
def ZsR:Yp->Ae U
 | .b0 a b=>Am f118 [33,70] (a,b,())
 | .b1 a b c d=>AA3 f118 [1,1,0,1,0,0] Z8J (a,b,c,d,())
 | .b2 a b c d e=>AA3 f118 [1,1,1,0,0] U3 (a,b,c,d,e,())
 | .b3 a b c d e=>AA3 f118 [1,1,0,1,0,1,1,0,1,0,0] U3 (a,b,c,d,e,())
 | .b4 a b c d e=>AA3 f118 [1,1,0,1,0,1,1,1] U3 (a,b,c,d,e,())
 | .b5 a b c d=>AA3 f118 [1,1,1,1,0] Z8L (a,b,c,d,())
theorem Ztu:AA1 118 [33,70] 163 (fun x=>Z1O x.1 x.2.1) rfl:=Ap (mc U4 (mc Z7A Af)) Ah Zul ZsR func118 (fun p=>by cases p<;>kernel_rfl) (by kernel_rfl) fun _=>rfl
inductive aN where
 | b0 (a:Cm) (b c:Bool)
 | b1 (a:Bool) (b c:Cm)
 | b2 (a:Bool) (b c:Cm)
 | b3 (a b:Cm)
def ZaE:aN->Tr U (Cm⊕aN)
 | .b0 a c b=>let d:=AP (aN.b2 b a Oj);.br c (.br a.Jq (AP (.b1 b a Oj)) d) d
 | .b1 b a c=>AP (.b2 b ({ a with Tx:=(IntKind.wrap .u64 (a.Tx+1)) }:Cm) c)
 | .b2 b a c=>.br b (.br a.Jl (AP (.b3 a c)) (AA a)) (AA a)
 | .b3 a b=>AA ({ a with Rx:=(IntKind.wrap .u64 (a.Rx+1)) }:Cm)
def oO (a:Cm) (b c:Bool):Option Cm:=AY ZaE (.b0 a b c)
def lZ:Lay:=⟨[2,3,6],[KP,KP,KP],[.var k8,.var k8],⟨[OV 4,PQ 0,PQ 1],[VA 41 7,VA 41 7]⟩⟩
def Z95:Lay:=⟨[3,6],[KP,KP],[.var k8,.var k8],⟨[PQ 0,PQ 1],[VA 41 7,VA 41 7]⟩⟩
def ZuH:Nat->Option Lay
 | 2=>some lZ
 | 3=>some lZ
 | 4=>some Z95
 | _=>none
def Zrp:aN->Ae U
 | .b0 a b c=>Am f120 [41,4,4] (a,b,c,())
 | .b1 a b c=>AA3 f120 [1,0,1,0] lZ (a,b,c,())
 | .b2 a b c=>AA3 f120 [1,1,0,0] lZ (a,b,c,())
 | .b3 a b=>AA3 f120 [1,1,0,1,0] Z95 (a,b,())
theorem Za8:AA1 120 [41,4,4] 41 (fun x=>oO x.1 x.2.1 x.2.2.1) rfl:=Ap Af Ah ZuH Zrp func120 (fun p=>by cases p<;>kernel_rfl) (by kernel_rfl) fun _=>rfl
inductive Yj where
 | b0 (a:Int)
 | b1 (a:Int) (b:Bl)
 | b2 (a:Int) (b:Bl)
 | b3 (a:Int) (b:Bl)
 | b4 (a:Int) (b:Bl)
 | b5 (a:Int) (b:Bl)
 | b6 (a:Int) (b:Bl)
 | b7 (a:Int) (b:Bl)
 | b8 (a:Int) (b:Bl)
def oM:Yj->Tr U (Int⊕Yj)
 | .b0 b=>.bind 262 (EF b) (fun(a:Bl)=>.br a.BG (AP (.b1 (10:Int) a)) (AP (.b1 (1:Int) a)))
 | .b1 b a=>.br a.Map (AP (.b2 (AV (b+5)) a)) (AP (.b2 b a))
 | .b2 b a=>.br a.CP (AP (.b3 (AV (b+2)) a)) (AP (.b3 b a))
 | .b3 b a=>let c:=AP (Yj.b4 b a);.br a.Bq c (.br a.Version c (.br a.Length c (AP (.b5 b a))))
 | .b4 a b=>AP (.b5 (AV (a+1)) b)
 | .b5 b a=>.br a.Dx (AP (.b6 (AV (b+1)) a)) (AP (.b6 b a))
 | .b6 b a=>let c:=AP (Yj.b7 b a);.br a.CE c (.br a.DK c (AP (.b8 b a)))
 | .b7 a b=>AP (.b8 (AV (a+8)) b)
 | .b8 a b=>.br b.Mark (AA (AV (a+8))) (AA a)
def oJ (a:Int):Option Int:=AY oM (.b0 a)
def Io:Lay:=⟨[3,4],[KP,KP],[.var k3],⟨[PQ 0,OV 3],[VA 262 11]⟩⟩
def ZvF:Nat->Option Lay
 | 5=>some Io
 | 7=>some Io
 | 9=>some Io
 | 10=>some Io
 | 11=>some Io
 | 13=>some Io
 | 14=>some Io
 | 15=>some Io
 | _=>none
def Zt5:Yj->Ae U
 | .b0 a=>Am f279 [3] (a,())
 | .b1 a b=>AA3 f279 [1,1,1,1,0,0] Io (a,b,())
 | .b2 a b=>AA3 f279 [1,1,1,1,1,0,0] Io (a,b,())
 | .b3 a b=>AA3 f279 [1,1,1,1,1,1,0,0] Io (a,b,())
 | .b4 a b=>AA3 f279 [1,1,1,1,1,1,0,1,0] Io (a,b,())
 | .b5 a b=>AA3 f279 [1,1,1,1,1,1,1,0,0] Io (a,b,())
 | .b6 a b=>AA3 f279 [1,1,1,1,1,1,1,1,0,0] Io (a,b,())
 | .b7 a b=>AA3 f279 [1,1,1,1,1,1,1,1,0,1,0] Io (a,b,())
 | .b8 a b=>AA3 f279 [1,1,1,1,1,1,1,1,1,0,0] Io (a,b,())
theorem Zsv:AA1 279 [3] 3 (fun x=>oJ x.1) rfl:=Ap (mc QR Af) Ah ZvF Zt5 func279 (fun p=>by cases p<;>kernel_rfl) (by kernel_rfl) fun _=>rfl
inductive dI where
 | b0 (a:List Int) (b c:Int)
 | b1 (a:List Int) (b c d:Int)
def Zcq:dI->Tr U (Int⊕dI)
 | .b0 a b c=>AP (.b1 a b (0:Int) (AV (c - 1)))
 | .b1 b c d a=>.br (decide (a>=0)) (.chk (kI (AV (c+a)) b) (.bind 5 (b[(Int.toNat (AV (c+a)))]?) (fun(e:Int)=>AP (.b1 b c (IntKind.wrap .u64 ((IntKind.wrap .u64 (d*256))+(IntKind.wrap .u64 (e)))) (AV (a - 1)))))) (AA d)
def Lc (a:List Int) (b c:Int):Option Int:=AY Zcq (.b0 a b c)
def Z9V:Lay:=⟨[0,1,7,8],[[.s 5 1],KP,KP,KP],[],⟨[OV 62,OV 3,OV 25,OV 3],[]⟩⟩
def Zyr:Nat->Option Lay
 | 3=>some Z9V
 | _=>none
def ZuF:dI->Ae U
 | .b0 a b c=>Am f345 [62,3,3] (a,b,c,())
 | .b1 a b c d=>AA3 f345 [1,1,0,1,0,0,0,0] Z9V (a,b,c,d,())
theorem Zb3:AA1 345 [62,3,3] 25 (fun x=>Lc x.1 x.2.1 x.2.2.1) rfl:=Ap Af Ah Zyr ZuF func345 (fun p=>by cases p<;>kernel_rfl) (by kernel_rfl) fun _=>rfl
inductive Wj where
 | b0 (a:List Int) (b:Int)
def Z6H:Wj->Tr U (DT⊕Wj)
 | .b0 a b=>.bind 25 (Lc a b (1:Int)) (fun(c:Int)=>.bind 25 (Lc a (AV (b+1)) (2:Int)) (fun(d:Int)=>.bind 25 (Lc a (AV (b+3)) (2:Int)) (fun(e:Int)=>.bind 25 (Lc a (AV (b+5)) (2:Int)) (fun(f:Int)=>.bind 25 (Lc a (AV (b+7)) (2:Int)) (fun(g:Int)=>AA (⟨(AV (c)),(AV (d)),(AV (e)),(AV (f)),(AV (g))⟩:DT))))))
def ZH (a:List Int) (b:Int):Option DT:=AY Z6H (.b0 a b)
def ZjW:Wj->Ae U
 | .b0 a b=>Am f344 [62,3] (a,b,())
theorem ZjN:AA1 344 [62,3] 24 (fun x=>ZH x.1 x.2.1) rfl:=Ap (mc Zb3 Af) Ah AN ZjW func344 (fun p=>by cases p<;>kernel_rfl) (by kernel_rfl) fun _=>rfl
inductive Xq where
 | b0 (a:AL) (b:List Int)
 | b1 (a:List Int) (b:Int) (c d:AL) (e:Bl)
 | b2 (a:List Int) (b:Int) (c d:AL) (e:Bl)
 | b3 (a:List Int) (b:Int) (c d:AL) (e:Bl)
 | b4 (a:List Int) (b:Int) (c d:AL) (e:Bl)
 | b5 (a:List Int) (b:Int) (c d:AL) (e:Bl)
 | b6 (a:List Int) (b:Int) (c d:AL) (e:Bl)
 | b7 (a:List Int) (b:Int) (c d:AL) (e:Bl)
 | b8 (a:List Int) (b:Int) (c d:AL) (e:Bl)
 | b9 (a:List Int) (b:Int) (c d:AL) (e:Bl)
def mZ:Xq->Tr U (AL⊕Xq)
 | .b0 a b=>.bind 262 (EF a.Kind) (fun(c:Bl)=>.br c.BG (.bind 24 (ZH b (1:Int)) (fun(d:DT)=>AP (.b1 b (10:Int) ({ a with BG:=d }:AL) Fp c))) (AP (.b1 b (1:Int) a Fp c)))
 | .b1 a b d e c=>.br c.Map (.bind 25 (Lc a b (5:Int)) (fun(f:Int)=>AP (.b2 a (AV (b+5)) ({ d with Map:=f }:AL) e c))) (AP (.b2 a b d e c))
 | .b2 a b d e c=>.br c.CP (.bind 25 (Lc a b (2:Int)) (fun(f:Int)=>AP (.b3 a b ({ d with CP:=(IntKind.wrap .u16 (f)) }:AL) e c))) (AP (.b3 a b d e c))
 | .b3 a b d e c=>.br c.Bq (.chk (kI b a) (.bind 5 (a[(Int.toNat b)]?) (fun(f:Int)=>AP (.b4 a (AV (b+1)) ({ d with Bq:=(AV (f)) }:AL) e c)))) (AP (.b4 a b d e c))
 | .b4 a b d e c=>.br c.Dx (.chk (kI b a) (.bind 5 (a[(Int.toNat b)]?) (fun(f:Int)=>AP (.b5 a b ({ d with Dx:=(AV (f)) }:AL) e c)))) (AP (.b5 a b d e c))
 | .b5 a b d e c=>.br c.CE (.bind 25 (Lc a b (8:Int)) (fun(f:Int)=>AP (.b6 a (AV (b+8)) ({ d with CE:=f }:AL) e c))) (AP (.b6 a b d e c))
 | .b6 a b d e c=>.br c.Mark (.bind 25 (Lc a b (8:Int)) (fun(f:Int)=>AP (.b7 a b ({ d with Mark:=f }:AL) e c))) (AP (.b7 a b d e c))
 | .b7 a b d e c=>.br c.DK (.bind 25 (Lc a b (8:Int)) (fun(f:Int)=>AP (.b8 a b ({ d with DK:=f }:AL) e c))) (AP (.b8 a b d e c))
 | .b8 a b d e c=>.br c.Version (.chk (kI b a) (.bind 5 (a[(Int.toNat b)]?) (fun(f:Int)=>AP (.b9 a b ({ d with Version:=(AV (f)) }:AL) e c)))) (AP (.b9 a b d e c))
 | .b9 a b c f d=>.br d.Length (.chk (kI b a) (.bind 5 (a[(Int.toNat b)]?) (fun(e:Int)=>AA ({ c with Length:=(AV (e)) }:AL)))) (AA c)
def Z1J (a:AL) (b:List Int):Option AL:=AY mZ (.b0 a b)
def IQ:Lay:=⟨[1,2,4,5,6],[[.s 5 1],KP,KP,KP,KP],[.var k0,.var k0,.var k3],⟨[OV 62,PQ 0,PQ 1,PQ 2,OV 3],[VA 156 15,VA 156 15,VA 262 11]⟩⟩
def ZrX:Nat->Option Lay
 | 6=>some IQ
 | 9=>some IQ
 | 11=>some IQ
 | 14=>some IQ
 | 16=>some IQ
 | 19=>some IQ
 | 21=>some IQ
 | 23=>some IQ
 | 25=>some IQ
 | _=>none
def ZqC:Xq->Ae U
 | .b0 a b=>Am f280 [156,62] (a,b,())
 | .b1 a b c d e=>AA3 f280 [1,1,1,1,0,0] IQ (a,b,c,d,e,())
 | .b2 a b c d e=>AA3 f280 [1,1,1,1,1,0,0] IQ (a,b,c,d,e,())
 | .b3 a b c d e=>AA3 f280 [1,1,1,1,1,1,0,0] IQ (a,b,c,d,e,())
 | .b4 a b c d e=>AA3 f280 [1,1,1,1,1,1,1,0,0] IQ (a,b,c,d,e,())
 | .b5 a b c d e=>AA3 f280 [1,1,1,1,1,1,1,1,0,0] IQ (a,b,c,d,e,())
 | .b6 a b c d e=>AA3 f280 [1,1,1,1,1,1,1,1,1,0,0] IQ (a,b,c,d,e,())
 | .b7 a b c d e=>AA3 f280 [1,1,1,1,1,1,1,1,1,1,0,0] IQ (a,b,c,d,e,())
 | .b8 a b c d e=>AA3 f280 [1,1,1,1,1,1,1,1,1,1,1,0,0] IQ (a,b,c,d,e,())
 | .b9 a b c d e=>AA3 f280 [1,1,1,1,1,1,1,1,1,1,1,1,0,0] IQ (a,b,c,d,e,())
theorem Zp3:AA1 280 [156,62] 156 (fun x=>Z1J x.1 x.2.1) rfl:=Ap (mc QR (mc ZjN (mc Zb3 Af))) Ah ZrX ZqC func280 (fun p=>by cases p<;>kernel_rfl) (by kernel_rfl) fun _=>rfl
inductive X4 where
 | b0 (a:List Int)
def Z93:X4->Tr U ((AL×Int)⊕X4)
 | .b0 a=>let j:=AA (Fp,3);let h:=(↑a.length:Int);.br (h==0) j (.chk (kI (0:Int) a) (.bind 5 (a[(Int.toNat 0)]?) (fun(b:Int)=>let i:=AV (b);.bind 262 (EF i) (fun(e:Bl)=>.br (!e.Fg) (AA (Fp,12)) (.bind 3 (oJ i) (fun(f:Int)=>.br (decide (h<f)) j (.bind 3 (oJ i) (fun(g:Int)=>.br (decide (h>g)) (AA (Fp,2)) (.bind 156 (Z1J (⟨i,Ba,0,0,0,0,0,0,0,0,0⟩:AL) a) (fun(c:AL)=>.bind 45 (Nj c) (fun(d:Int)=>.br (d != 0) (AA (Fp,d)) (AA (c,0)))))))))))))
def mO (a:List Int):Option (AL×Int):=AY Z93 (.b0 a)
def ZnY:X4->Ae U
 | .b0 a=>Am f214 [62] (a,())
theorem Z84:AA1 214 [62] 231 (fun x=>mO x.1) rfl:=Ap (mc Z0Y (mc QR (mc Zsv (mc Zp3 Af)))) Ah AN ZnY func214 (fun p=>by cases p<;>kernel_rfl) (by kernel_rfl) fun _=>rfl
inductive aH where
 | b0 (a:A7) (b:AL)
 | b1 (a:A7) (b:AL) (c:A7)
 | b2 (a:A7) (b:AL) (c:A7)
 | b3 (a b:A7)
def ZaC:aH->Tr U ((A7×(List BD))⊕aH)
 | .b0 a b=>let c:=AP (aH.b2 a b Dv);.br (a.ER==0) (.br (a.Own==2) (.br (b.Kind==2) (AP (.b1 a b Dv)) c) c) c
 | .b1 a b c=>AP (.b2 ({ a with ER:=22 }:A7) b c)
 | .b2 a b c=>let e:=Tr.chk true (AA (a,([]:List BD)));.bind 4 (Nk b.Kind) (fun(d:Bool)=>.br d (.br (a.Own==b.Kind) (AP (.b3 a c)) e) e)
 | .b3 a b=>.chk true (AA (({ a with Told:=true }:A7),([]:List BD)))
def Z29 (a:A7) (b:AL):Option (A7×(List BD)):=AY ZaC (.b0 a b)
def mJ:Lay:=⟨[2,3,4],[KP,KP,KP],[.var k1,.var k0,.var k1],⟨[PQ 0,PQ 1,PQ 2],[VA 39 20,VA 156 15,VA 39 20]⟩⟩
def Z9a:Lay:=⟨[2,4],[KP,KP],[.var k1,.var k1],⟨[PQ 0,PQ 1],[VA 39 20,VA 39 20]⟩⟩
def Zv6:Nat->Option Lay
 | 2=>some mJ
 | 3=>some mJ
 | 4=>some Z9a
 | _=>none
def ZtA:aH->Ae U
 | .b0 a b=>Am f215 [39,156] (a,b,())
 | .b1 a b c=>AA3 f215 [1,0,1,0] mJ (a,b,c,())
 | .b2 a b c=>AA3 f215 [1,1,0,0] mJ (a,b,c,())
 | .b3 a b=>AA3 f215 [1,1,0,1,0] Z9a (a,b,())
theorem Zs3:AA1 215 [39,156] 233 (fun x=>Z29 x.1 x.2.1) rfl:=Ap (mc U0 Af) Ah Zv6 ZtA func215 (fun p=>by cases p<;>kernel_rfl) (by kernel_rfl) fun _=>rfl
inductive YS where
 | b0 (a:List BD) (b:Int)
 | b1 (a:List BD) (b:Int) (c:List BD) (d:Int)
def Z9z:YS->Tr U ((List BD)⊕YS)
 | .b0 a b=>.chk true (AP (.b1 a b ([]:List BD) (0:Int)))
 | .b1 b d a c=>.br (decide (c<(↑b.length:Int))) (.chk (kI c b) (.bind 148 (b[(Int.toNat c)]?) (fun(e:BD)=>let f:=a++[({ e with Event:=d }:BD)];.chk true (kl a (.chk (kA (a.length+1) 160) (kl f (AP (.b1 b d f (AV (c+1)))))))))) (kl a (AA a))
def nZ (a:List BD) (b:Int):Option (List BD):=AY Z9z (.b0 a b)
def Z80:Lay:=⟨[0,1,5,6],[[.s 148 18],KP,[.own 148 18],KP],[.row true],⟨[OV 77,OV 30,.one (.own 148 0),OV 3],[.row 148 true]⟩⟩
def Zr5:Nat->Option Lay
 | 3=>some Z80
 | _=>none
def Zpq:YS->Ae U
 | .b0 a b=>Am f216 [77,30] (a,b,())
 | .b1 a b c d=>AA3 f216 [1,1,0,1,0,0,0,0] Z80 (a,b,d,c,())
theorem Z9m:AA1 216 [77,30] 77 (fun x=>nZ x.1 x.2.1) rfl:=Ap Af Ah Zr5 Zpq func216 (fun p=>by cases p<;>kernel_rfl) (by kernel_rfl) fun _=>rfl
inductive YO where
 | b0 (a:Ac) (b:BB)
 | b1 (a:Ac) (b:BB) (c:Ac)
 | b2 (a:List BD) (b c:Ac)
def Z9u:YO->Tr U ((Ac×(List BD))⊕YO)
 | .b0 a b=>.bind 4 (U7 b) (fun(c:Bool)=>.br c (.chk true (AA (a,([]:List BD)))) (.br a.Dk.Jq (.bind 41 (oO a.Dk true false) (fun(d:Cm)=>AP (.b1 ({ a with Dk:=d }:Ac) b EG))) (AP (.b1 a b EG))))
 | .b1 a c d=>.br (c.CQ != 3) (.chk true (AA (a,([]:List BD)))) (.bind 231 (mO c.Payload) (fun(e:AL×Int)=>.bind 233 (Z29 a.AB e.1) (fun(b:A7×(List BD))=>.br (e.1.Kind==5) (.bind 41 (Uf a.Dk true a.Dk.Jl) (fun(f:Cm)=>AP (.b2 b.2 ({ a with AB:=b.1,Dk:=f }:Ac) d))) (AP (.b2 b.2 ({ a with AB:=b.1 }:Ac) d)))))
 | .b2 b a d=>.bind 77 (nZ b a.Event) (fun(c:List BD)=>AA (a,c))
def Z17 (a:Ac) (b:BB):Option (Ac×(List BD)):=AY Z9u (.b0 a b)
def Z82:Lay:=⟨[2,3,4],[KP,KP,KP],[.var k2,.var [.keep,.s 5 1],.var k2],⟨[PQ 0,PQ 1,PQ 2],[VA 44 66,VA 68 2,VA 44 66]⟩⟩
def Z85:Lay:=⟨[2,4,9],[KP,KP,[.s 148 18]],[.var k2,.var k2],⟨[PQ 0,PQ 1,OV 77],[VA 44 66,VA 44 66]⟩⟩
def ZrE:Nat->Option Lay
 | 5=>some Z82
 | 12=>some Z85
 | _=>none
def Zof:YO->Ae U
 | .b0 a b=>Am f119 [44,68] (a,b,())
 | .b1 a b c=>AA3 f119 [1,1,1,0,0] Z82 (a,b,c,())
 | .b2 a b c=>AA3 f119 [1,1,1,1,1,1,1,1,0] Z85 (a,b,c,())
theorem Zos:AA1 119 [44,68] 78 (fun x=>Z17 x.1 x.2.1) rfl:=Ap (mc l9 (mc Za8 (mc Z1l (mc Z84 (mc Zs3 (mc Z9m Af)))))) Ah ZrE Zof func119 (fun p=>by cases p<;>kernel_rfl) (by kernel_rfl) fun _=>rfl
inductive WO where
 | b0 (a:A7) (b:AL) (c d:Int)
 | b1 (a b:A7)
def Z68:WO->Tr U (A7⊕WO)
 | .b0 a b e d=>.br (a.BR != 1) (AA a) (.bind 138 (X9 b) (fun(f:BF)=>.bind 269 (VB a.Ak e f) (fun(c:(List BF)×Int)=>let g:=({ a with Other:=b.Kind,Gz:=d,Ak:=c.1 }:A7);.br (c.2==18) (AA ({ a with ER:=40 }:A7)) (.br (c.2 != 0) (AA ({ a with ER:=42 }:A7)) (.br (b.Kind==0) (.br (a.Own==15) (AP (.b1 g Dv)) (AA g)) (AA g))))))
 | .b1 a b=>AA ({ a with Own:=-1 }:A7)
def zF (a:A7) (b:AL) (c d:Int):Option A7:=AY Z68 (.b0 a b c d)
def Z5E:Lay:=⟨[4,8],[KP,KP],[.var k1,.var k1],⟨[PQ 0,PQ 1],[VA 39 20,VA 39 20]⟩⟩
def ZiL:Nat->Option Lay
 | 14=>some Z5E
 | _=>none
def ZgS:WO->Ae U
 | .b0 a b c d=>Am f281 [39,156,30,3] (a,b,c,d,())
 | .b1 a b=>AA3 f281 [1,1,1,1,1,1,1,1,0,1,0] Z5E (a,b,())
theorem Zgz:AA1 281 [39,156,30,3] 39 (fun x=>zF x.1 x.2.1 x.2.2.1 x.2.2.2.1) rfl:=Ap (mc ZaX (mc Z7I Af)) Ah ZiL ZgS func281 (fun p=>by cases p<;>kernel_rfl) (by kernel_rfl) fun _=>rfl
end
noncomputable section
inductive aS where
 | b0 (a b:Int)
def ZaJ:aS->Tr U ((List BD)⊕aS)
 | .b0 a b=>.chk true (AA ([(⟨a,0,(⟨0,[]⟩:BB),UZ,b,Ba⟩:BD)]))
def L6 (a b:Int):Option (List BD):=AY ZaJ (.b0 a b)
def ZqQ:aS->Ae U
 | .b0 a b=>Am f346 [3,25] (a,b,())
theorem nP:AA1 346 [3,25] 77 (fun x=>L6 x.1 x.2.1) rfl:=Ap Af Ah AN ZqQ func346 (fun p=>by cases p<;>kernel_rfl) (by kernel_rfl) fun _=>rfl
inductive WY where
 | b0 (a:A7) (b:AL) (c:Int)
 | b1 (a:Int) (b:A7) (c:AL) (d:A7)
 | b2 (a:Bool) (b:A7) (c:AL) (d:A7)
 | b3 (a:A7) (b:AL) (c:A7)
 | b4 (a:Bool) (b:A7) (c:AL) (d:A7)
 | b5 (a b:A7)
 | b6 (a b:A7)
 | b7 (a:Bool) (b:A7) (c:AL) (d:A7)
 | b8 (a:Bool) (b c:A7)
def Z6G:WY->Tr U ((A7×(List AL)×(List BD))⊕WY)
 | .b0 a b c=>let d:=AP (WY.b2 (a.BR==0) a b Dv);.br (b.Kind==3) (.br (!(a.BR==0)) (.br (a.CJ==0) (AP (.b1 c a b Dv)) d) d) d
 | .b1 b c a e=>.bind 77 (L6 (8:Int) a.Mark) (fun(d:List BD)=>.chk true (AA (({ c with Other:=3,Gz:=b,GK:=a.CE,Mark:=a.Mark,CJ:=1 }:A7),([]:List AL),d)))
 | .b2 c a b d=>let e:=AP (WY.b4 c a b d);.br (b.Kind==4) (.br c (.br (a.CJ==1) (AP (.b3 a b d)) e) e) e
 | .b3 a b c=>AP (.b5 ({ a with GK:=b.CE,CJ:=2 }:A7) c)
 | .b4 b a c d=>let e:=AP (WY.b7 b a c d);.br (c.Kind==5) (.br b (.br (a.CJ==2) (AP (.b6 a d)) e) e) e
 | .b5 a b=>.chk true (.chk true (AA (a,([]:List AL),([]:List BD))))
 | .b6 a c=>.bind 36 (Lh (⟨6,Ba,0,0,0,0,0,0,0,0,0⟩:AL)) (fun(b:List AL)=>.chk true (AA (({ a with CJ:=3 }:A7),b,([]:List BD))))
 | .b7 c a d b=>let e:=AP (WY.b5 a b);.br (d.Kind==6) (.br (a.CJ==3) (AP (.b8 c a b)) e) e
 | .b8 b a f=>let g:=(L6 (3:Int) (0:Int));.br b (.bind 77 g (fun(c:List BD)=>.chk true (AA (({ a with Own:=-1,CJ:=4 }:A7),([]:List AL),c)))) (.bind 36 (Lh (⟨6,Ba,0,0,0,0,0,0,0,0,0⟩:AL)) (fun(d:List AL)=>.bind 77 g (fun(e:List BD)=>AA (({ a with Other:=-1,CJ:=4 }:A7),d,e))))
def Zx (a:A7) (b:AL) (c:Int):Option (A7×(List AL)×(List BD)):=AY Z6G (.b0 a b c)
def Z5Q:Lay:=⟨[2,3,4,6],[KP,KP,KP,KP],[.var k1,.var k0,.var k1],⟨[OV 3,PQ 0,PQ 1,PQ 2],[VA 39 20,VA 156 15,VA 39 20]⟩⟩
def Tz:Lay:=⟨[3,4,6,9],[KP,KP,KP,KP],[.var k1,.var k0,.var k1],⟨[PQ 0,PQ 1,PQ 2,OV 4],[VA 39 20,VA 156 15,VA 39 20]⟩⟩
def Z5X:Lay:=⟨[3,4,6],[KP,KP,KP],[.var k1,.var k0,.var k1],⟨[PQ 0,PQ 1,PQ 2],[VA 39 20,VA 156 15,VA 39 20]⟩⟩
def jG:Lay:=⟨[3,6],[KP,KP],[.var k1,.var k1],⟨[PQ 0,PQ 1],[VA 39 20,VA 39 20]⟩⟩
def Z5N:Lay:=⟨[3,6,9],[KP,KP,KP],[.var k1,.var k1],⟨[PQ 0,PQ 1,OV 4],[VA 39 20,VA 39 20]⟩⟩
def ZjS:Nat->Option Lay
 | 3=>some Z5Q
 | 9=>some Tz
 | 10=>some Z5X
 | 12=>some Tz
 | 22=>some jG
 | 13=>some jG
 | 15=>some Tz
 | 16=>some Z5N
 | _=>none
def ZiT:WY->Ae U
 | .b0 a b c=>Am f282 [39,156,3] (a,b,c,())
 | .b1 a b c d=>AA3 f282 [1,1,0,0,1,0,0] Z5Q (a,b,c,d,())
 | .b2 a b c d=>AA3 f282 [1,1,0,0,1,1,0] Tz (a,b,c,d,())
 | .b3 a b c=>AA3 f282 [1,1,0,0,1,1,1,0,0] Z5X (a,b,c,())
 | .b4 a b c d=>AA3 f282 [1,1,0,0,1,1,1,1,0] Tz (a,b,c,d,())
 | .b5 a b=>AA3 f282 [1,1,1,0] jG (a,b,())
 | .b6 a b=>AA3 f282 [1,1,0,0,1,1,1,1,1,0,0] jG (a,b,())
 | .b7 a b c d=>AA3 f282 [1,1,0,0,1,1,1,1,1,1,0] Tz (a,b,c,d,())
 | .b8 a b c=>AA3 f282 [1,1,0,0,1,1,1,1,1,1,1,0,0] Z5N (a,b,c,())
theorem ZiD:AA1 282 [39,156,3] 237 (fun x=>Zx x.1 x.2.1 x.2.2.1) rfl:=Ap (mc Ui (mc nP Af)) Ah ZjS ZiT func282 (fun p=>by cases p<;>kernel_rfl) (by kernel_rfl) fun _=>rfl
inductive WN where
 | b0 (a:A7) (b:AL)
 | b1 (a b:A7)
 | b2 (a:A7) (b:AL) (c:A7)
 | b3 (a:A7) (b:AL) (c:A7)
def Z6e:WN->Tr U ((A7×(List AL)×(List BD))⊕WN)
 | .b0 a b=>let d:=AP (WN.b1 a Dv);.br (a.Own != b.Dx) d (.bind 4 (Nk a.Own) (fun(c:Bool)=>.br c d (.br (a.Own==2) d (AP (.b2 a b Dv)))))
 | .b1 a b=>.chk true (.chk true (AA (a,([]:List AL),([]:List BD))))
 | .b2 a b c=>.br (a.Own==3) (AP (.b3 ({ a with CJ:=0 }:A7) b c)) (AP (.b3 a b c))
 | .b3 a b d=>.bind 77 (L6 (9:Int) (IntKind.wrap .u64 (b.Dx))) (fun(c:List BD)=>.chk true (AA (({ a with Own:=-1 }:A7),([]:List AL),c)))
def xW (a:A7) (b:AL):Option (A7×(List AL)×(List BD)):=AY Z6e (.b0 a b)
def Z5G:Lay:=⟨[2,4],[KP,KP],[.var k1,.var k1],⟨[PQ 0,PQ 1],[VA 39 20,VA 39 20]⟩⟩
def iY:Lay:=⟨[2,3,4],[KP,KP,KP],[.var k1,.var k0,.var k1],⟨[PQ 0,PQ 1,PQ 2],[VA 39 20,VA 156 15,VA 39 20]⟩⟩
def ZhZ:Nat->Option Lay
 | 2=>some Z5G
 | 3=>some iY
 | 5=>some iY
 | _=>none
def Zhu:WN->Ae U
 | .b0 a b=>Am f283 [39,156] (a,b,())
 | .b1 a b=>AA3 f283 [1,0,1,0,0] Z5G (a,b,())
 | .b2 a b c=>AA3 f283 [1,1,0,0] iY (a,b,c,())
 | .b3 a b c=>AA3 f283 [1,1,1,0] iY (a,b,c,())
theorem ZgK:AA1 283 [39,156] 237 (fun x=>xW x.1 x.2.1) rfl:=Ap (mc U0 (mc nP Af)) Ah ZhZ Zhu func283 (fun p=>by cases p<;>kernel_rfl) (by kernel_rfl) fun _=>rfl
inductive WT where
 | b0 (a:A7) (b:AL) (c:Int)
def Z6g:WT->Tr U ((A7×(List AL)×(List BD))⊕WT)
 | .b0 a b c=>let g:=([]:List BD);let f:=([]:List AL);.br (a.BR != 0) (.chk true (.chk true (AA (a,f,g)))) (.bind 4 (Nk a.Own) (fun(d:Bool)=>.br d (.bind 36 (Lh (⟨13,Ba,0,0,42,15,0,0,0,0,0⟩:AL)) (fun(e:List AL)=>.chk true (AA (a,e,g)))) (.chk true (.chk true (AA (({ a with Other:=15,Gz:=c }:A7),f,[(⟨12,0,(⟨0,[]⟩:BB),UZ,0,b.BG⟩:BD)]))))))
def yO (a:A7) (b:AL) (c:Int):Option (A7×(List AL)×(List BD)):=AY Z6g (.b0 a b c)
def Zhl:WT->Ae U
 | .b0 a b c=>Am f284 [39,156,3] (a,b,c,())
theorem Zhd:AA1 284 [39,156,3] 237 (fun x=>yO x.1 x.2.1 x.2.2.1) rfl:=Ap (mc U0 (mc Ui Af)) Ah AN Zhl func284 (fun p=>by cases p<;>kernel_rfl) (by kernel_rfl) fun _=>rfl
inductive WV where
 | b0 (a:A7) (b:AL)
 | b1 (a b:A7)
 | b2 (a:A7) (b:AL) (c:A7)
def Z6m:WV->Tr U ((A7×(List AL)×(List BD))⊕WV)
 | .b0 a b=>let c:=AP (WV.b2 a b Dv);.br (b.Kind==21) (.br (a.Own != 20) (AP (.b1 a Dv)) c) c
 | .b1 a b=>.chk true (.chk true (AA (a,([]:List AL),([]:List BD))))
 | .b2 a b f=>let g:=if a.Limit<b.Length then a.Limit else b.Length;let h:=(L6 (11:Int) (IntKind.wrap .u64 (g)));.br (b.Kind==21) (.bind 77 h (fun(c:List BD)=>.chk true (AA (({ a with Own:=-1,Length:=g }:A7),([]:List AL),c)))) (.bind 36 (Lh (⟨21,Ba,0,0,0,0,0,0,0,0,a.Limit⟩:AL)) (fun(d:List AL)=>.bind 77 h (fun(e:List BD)=>AA (({ a with Length:=g }:A7),d,e))))
def zA (a:A7) (b:AL):Option (A7×(List AL)×(List BD)):=AY Z6m (.b0 a b)
def Z5u:Lay:=⟨[2,4],[KP,KP],[.var k1,.var k1],⟨[PQ 0,PQ 1],[VA 39 20,VA 39 20]⟩⟩
def Z5n:Lay:=⟨[2,3,4],[KP,KP,KP],[.var k1,.var k0,.var k1],⟨[PQ 0,PQ 1,PQ 2],[VA 39 20,VA 156 15,VA 39 20]⟩⟩
def ZiN:Nat->Option Lay
 | 2=>some Z5u
 | 3=>some Z5n
 | _=>none
def Zh1:WV->Ae U
 | .b0 a b=>Am f285 [39,156] (a,b,())
 | .b1 a b=>AA3 f285 [1,0,1,0,0] Z5u (a,b,())
 | .b2 a b c=>AA3 f285 [1,1,0] Z5n (a,b,c,())
theorem ZgL:AA1 285 [39,156] 237 (fun x=>zA x.1 x.2.1) rfl:=Ap (mc Ui (mc nP Af)) Ah ZiN Zh1 func285 (fun p=>by cases p<;>kernel_rfl) (by kernel_rfl) fun _=>rfl
inductive Wp where
 | b0 (a:A7) (b:AL)
 | b1 (a:A7) (b:AL) (c:A7)
 | b2 (a:A7) (b:AL) (c:A7)
 | b3 (a b:A7)
 | b4 (a b:A7)
def Z6X:Wp->Tr U ((A7×(List AL)×(List BD))⊕Wp)
 | .b0 a b=>let f:=AP (Wp.b2 a b Dv);let e:=bits .and .u64 a.DK b.DK;.br (b.Kind==8) (.bind 36 (Lh (⟨9,Ba,0,0,0,0,0,0,a.DK,0,0⟩:AL)) (fun(c:List AL)=>.bind 77 (L6 (5:Int) e) (fun(d:List BD)=>AA (({ a with Ic:=e,Fg:=true }:A7),c,d)))) (.br (b.Kind==9) (.br (a.Own==8) (AP (.b1 a b Dv)) f) f)
 | .b1 a b d=>let e:=bits .and .u64 a.DK b.DK;.bind 77 (L6 (5:Int) e) (fun(c:List BD)=>.chk true (AA (({ a with Own:=-1,Ic:=e,Fg:=true }:A7),([]:List AL),c)))
 | .b2 a b c=>let h:=([]:List AL);let g:=AP (Wp.b4 a c);.br (b.Kind==12) (.bind 77 (L6 (6:Int) (IntKind.wrap .u64 (b.Version))) (fun(d:List BD)=>.br (a.Own==12) (.chk true (AA (({ a with Own:=-1,Version:=b.Version }:A7),h,d))) (.br a.FX (.chk true (AA (({ a with Version:=b.Version }:A7),h,d))) (.bind 36 (Lh (⟨12,Ba,0,0,0,0,0,0,0,11,0⟩:AL)) (fun(e:List AL)=>AA (({ a with FX:=true,Version:=b.Version }:A7),e,d)))))) (.br (b.Kind==18) (.bind 36 (Lh (⟨19,Ba,0,0,0,0,0,0,0,0,0⟩:AL)) (fun(f:List AL)=>.chk true (AA (a,f,([]:List BD))))) (.br (b.Kind==19) (.br (a.Own==18) (AP (.b3 a c)) g) g))
 | .b3 a c=>.bind 77 (L6 (7:Int) (0:Int)) (fun(b:List BD)=>.chk true (AA (({ a with Own:=-1 }:A7),([]:List AL),b)))
 | .b4 a b=>.chk true (.chk true (AA (a,([]:List AL),([]:List BD))))
def ZB (a:A7) (b:AL):Option (A7×(List AL)×(List BD)):=AY Z6X (.b0 a b)
def jL:Lay:=⟨[2,3,4],[KP,KP,KP],[.var k1,.var k0,.var k1],⟨[PQ 0,PQ 1,PQ 2],[VA 39 20,VA 156 15,VA 39 20]⟩⟩
def jM:Lay:=⟨[2,4],[KP,KP],[.var k1,.var k1],⟨[PQ 0,PQ 1],[VA 39 20,VA 39 20]⟩⟩
def ZkM:Nat->Option Lay
 | 6=>some jL
 | 10=>some jL
 | 23=>some jM
 | 25=>some jM
 | _=>none
def ZjC:Wp->Ae U
 | .b0 a b=>Am f286 [39,156] (a,b,())
 | .b1 a b c=>AA3 f286 [1,0,0,1,1,1,0,0] jL (a,b,c,())
 | .b2 a b c=>AA3 f286 [1,0,0,1,1,1,1,0] jL (a,b,c,())
 | .b3 a b=>AA3 f286 [1,0,0,1,1,1,1,1,1,1,1,1,0,0] jM (a,b,())
 | .b4 a b=>AA3 f286 [1,1,0] jM (a,b,())
theorem Zjw:AA1 286 [39,156] 237 (fun x=>ZB x.1 x.2.1) rfl:=Ap (mc Ui (mc nP Af)) Ah ZkM ZjC func286 (fun p=>by cases p<;>kernel_rfl) (by kernel_rfl) fun _=>rfl
inductive Xe where
 | b0 (a:A7) (b:AL) (c d:Int)
 | b1 (a b:Int) (c:A7) (d:AL) (e:A7)
 | b2 (a b:Int) (c:A7) (d:AL) (e:A7)
 | b3 (a b:A7)
 | b4 (a:Int) (b:A7) (c:AL) (d:A7)
 | b5 (a b:Int) (c:A7) (d:AL) (e:A7)
 | b6 (a:A7) (b:AL) (c:A7)
 | b7 (a b:Int) (c:A7) (d:AL) (e:A7)
 | b8 (a:A7) (b:AL) (c:A7)
 | b9 (a:A7) (b:AL) (c:A7)
def Z94:Xe->Tr U ((A7×(List AL)×(List BD))⊕Xe)
 | .b0 b a d c=>let k:=a.Kind==0;let j:=([]:List BD);let i:=AP (Xe.b1 d c b a Dv);let h:=AP (Xe.b2 c a.Kind b a Dv);let g:=(if (0:Int)>a.Kind then (0:Int) else a.Kind);.br (b.ER != 0) (.chk true (.chk true (AA (b,([]:List AL),j)))) (.bind 262 (EF a.Kind) (fun(e:Bl)=>.br (!e.Fg) (.bind 36 (Lh (⟨7,Ba,0,0,0,(if (255:Int)<g then (255:Int) else g),0,0,0,0,0⟩:AL)) (fun(f:List AL)=>.chk true (AA (b,f,j)))) (.br k (.br k i h) (.br (a.Kind==1) i h))))
 | .b1 a b c d f=>.bind 39 (zF c d a b) (fun(e:A7)=>.chk true (.chk true (AA (e,([]:List AL),([]:List BD)))))
 | .b2 e a b c d=>let g:=AP (Xe.b4 e b c d);let f:=AP (Xe.b5 e a b c d);.br (a==2) (.br (c.Bq==0) (AP (.b3 ({ b with ER:=19 }:A7) d)) (AP (.b3 ({ b with ER:=c.Bq }:A7) d))) (.br (a==3) (.br (a==3) g f) (.br (a==4) (.br (a==4) g f) (.br (a==5) (.br (a==5) g f) (.br (a==6) g f))))
 | .b3 a b=>.chk true (.chk true (AA (a,([]:List AL),([]:List BD))))
 | .b4 b c d e=>.bind 237 (Zx c d b) (fun(a:A7×(List AL)×(List BD))=>AA (a.1,a.2.1,a.2.2))
 | .b5 e a b c d=>let g:=AP (Xe.b6 b c d);let f:=AP (Xe.b7 e a b c d);.br (a==7) (.br (a==7) g f) (.br (a==13) g f)
 | .b6 b c d=>.bind 237 (xW b c) (fun(a:A7×(List AL)×(List BD))=>AA (a.1,a.2.1,a.2.2))
 | .b7 f c a b d=>let h:=AP (Xe.b9 a b d);let g:=AP (Xe.b8 a b d);.br (c==15) (.bind 237 (yO a b f) (fun(e:A7×(List AL)×(List BD))=>AA (e.1,e.2.1,e.2.2))) (.br (c==20) (.br (c==20) g h) (.br (c==21) g h))
 | .b8 b c d=>.bind 237 (zA b c) (fun(a:A7×(List AL)×(List BD))=>AA (a.1,a.2.1,a.2.2))
 | .b9 b c d=>.bind 237 (ZB b c) (fun(a:A7×(List AL)×(List BD))=>AA (a.1,a.2.1,a.2.2))
def Z10 (a:A7) (b:AL) (c d:Int):Option (A7×(List AL)×(List BD)):=AY Z94 (.b0 a b c d)
def Z7w:Lay:=⟨[2,3,4,5,8],[KP,KP,KP,KP,KP],[.var k1,.var k0,.var k1],⟨[OV 30,OV 3,PQ 0,PQ 1,PQ 2],[VA 39 20,VA 156 15,VA 39 20]⟩⟩
def UO:Lay:=⟨[3,4,5,8,28],[KP,KP,KP,KP,KP],[.var k1,.var k0,.var k1],⟨[OV 3,PQ 0,PQ 1,PQ 2,OV 3],[VA 39 20,VA 156 15,VA 39 20]⟩⟩
def Z7m:Lay:=⟨[4,8],[KP,KP],[.var k1,.var k1],⟨[PQ 0,PQ 1],[VA 39 20,VA 39 20]⟩⟩
def Z7u:Lay:=⟨[3,4,5,8],[KP,KP,KP,KP],[.var k1,.var k0,.var k1],⟨[OV 3,PQ 0,PQ 1,PQ 2],[VA 39 20,VA 156 15,VA 39 20]⟩⟩
def UQ:Lay:=⟨[4,5,8],[KP,KP,KP],[.var k1,.var k0,.var k1],⟨[PQ 0,PQ 1,PQ 2],[VA 39 20,VA 156 15,VA 39 20]⟩⟩
def ZqF:Nat->Option Lay
 | 8=>some Z7w
 | 9=>some UO
 | 13=>some Z7m
 | 18=>some Z7u
 | 19=>some UO
 | 21=>some UQ
 | 22=>some UO
 | 26=>some UQ
 | 27=>some UQ
 | _=>none
def Zno:Xe->Ae U
 | .b0 a b c d=>Am f217 [39,156,30,3] (a,b,c,d,())
 | .b1 a b c d e=>AA3 f217 [1,1,1,0,1,0,1,0,0] Z7w (a,b,c,d,e,())
 | .b2 a b c d e=>AA3 f217 [1,1,1,0,1,0,1,1,0] UO (a,b,c,d,e,())
 | .b3 a b=>AA3 f217 [1,1,1,0,1,0,1,1,1,0,1,1,0] Z7m (a,b,())
 | .b4 a b c d=>AA3 f217 [1,1,1,0,1,0,1,1,1,1,1,0,0] Z7u (a,b,c,d,())
 | .b5 a b c d e=>AA3 f217 [1,1,1,0,1,0,1,1,1,1,1,1,0,0] UO (a,b,c,d,e,())
 | .b6 a b c=>AA3 f217 [1,1,1,0,1,0,1,1,1,1,1,1,1,0,0] UQ (a,b,c,())
 | .b7 a b c d e=>AA3 f217 [1,1,1,0,1,0,1,1,1,1,1,1,1,1,0] UO (a,b,c,d,e,())
 | .b8 a b c=>AA3 f217 [1,1,1,0,1,0,1,1,1,1,1,1,1,1,1,1,1,0,0] UQ (a,b,c,())
 | .b9 a b c=>AA3 f217 [1,1,1,1,0] UQ (a,b,c,())
theorem ZmO:AA1 217 [39,156,30,3] 237 (fun x=>Z10 x.1 x.2.1 x.2.2.1 x.2.2.2.1) rfl:=Ap (mc QR (mc Ui (mc Zgz (mc ZiD (mc ZgK (mc Zhd (mc ZgL (mc Zjw Af)))))))) Ah ZqF Zno func217 (fun p=>by cases p<;>kernel_rfl) (by kernel_rfl) fun _=>rfl
inductive XP where
 | b0 (a:Ac) (b:List Int) (c:Int)
 | b1 (a:List BD) (b c:Ac) (d:A7)
 | b2 (a:List BD) (b c:Ac)
def Z8y:XP->Tr U ((Ac×(List BD))⊕XP)
 | .b0 a d f=>let m:=([]:List BD);let k:=kA (0+a.Aw.length) 120;let g:=([]:List AL)++a.Aw;.bind 231 (mO d) (fun(c:AL×Int)=>.br (c.2==12) (.chk true (.chk k (.chk (kI (0:Int) d) (.bind 5 (d[(Int.toNat 0)]?) (fun(e:Int)=>let i:=g++[(⟨7,Ba,0,0,0,(AV (e)),0,0,0,0,0⟩:AL)];.chk true (kl g (.chk (kA (g.length+1) 120) (kl i (.chk true (AA (({ a with Aw:=i }:Ac),m))))))))))) (.br (c.2 != 0) (.chk true (AA (a,m))) (.bind 237 (Z10 a.AB c.1 a.Event f) (fun(b:A7×(List AL)×(List BD))=>let l:=g++b.2.1;let j:=({ a with AB:=b.1,Aw:=l }:Ac);let h:=kl l (AP (XP.b2 b.2.2 j EG));.chk true (.chk k (kl g (.chk (kA (g.length+b.2.1.length) 120) (.br (a.BR==0) (.br (c.1.Kind==5) (.br (b.1.CJ==3) (kl l (AP (.b1 b.2.2 j EG b.1))) h) h) h))))))))
 | .b1 c a d b=>.bind 41 (bJ a.BR a.Key b.CE b.GK) (fun(e:Cm)=>.bind 41 (Uf e true true) (fun(f:Cm)=>kl a.Aw (AP (.b2 c ({ a with Dk:=f }:Ac) d))))
 | .b2 b a d=>.bind 77 (nZ b a.Event) (fun(c:List BD)=>kl a.Aw (AA (a,c)))
def Z0v (a:Ac) (b:List Int) (c:Int):Option (Ac×(List BD)):=AY Z8y (.b0 a b c)
def Z71:Lay:=⟨[3,6,10,12],[KP,KP,KP,[.s 148 18]],[.var k10,.var k2,.var k1,.row true],⟨[PQ 0,PQ 1,PQ 2,OV 77],[.var 44 66 (iE 3),VA 44 66,VA 39 20,.row 156 true]⟩⟩
def Z70:Lay:=⟨[3,6,12],[KP,KP,[.s 148 18]],[.var k10,.var k2,.row true],⟨[PQ 0,PQ 1,OV 77],[.var 44 66 (iE 2),VA 44 66,.row 156 true]⟩⟩
def Zo0:Nat->Option Lay
 | 11=>some Z71
 | 12=>some Z70
 | _=>none
def ZlU:XP->Ae U
 | .b0 a b c=>Am f121 [44,62,3] (a,b,c,())
 | .b1 b a c d=>Ad f121 [1,1,1,1,1,1,1,0,1,0] Z71 (((),((),((),((b,()),())))),((Vz a),((c,()),((d,()),(a.Aw,())))))
 | .b2 b a c=>Ad f121 [1,1,1,1,1,1,1,1,0] Z70 (((),((),((b,()),()))),((Vz a),((c,()),(a.Aw,()))))
theorem Zmo:AA1 121 [44,62,3] 78 (fun x=>Z0v x.1 x.2.1 x.2.2.1) rfl:=Ap (mc Z1l (mc Zbq (mc Z84 (mc Z9m (mc ZmO Af))))) Ah Zo0 ZlU func121 (fun p=>by cases p<;>kernel_rfl) (by kernel_rfl) fun _=>rfl
inductive XM where
 | b0 (a:Ac) (b:List Int) (c:Bool) (d:Int)
 | b1 (a:List Int) (b:Int) (c d:Ac)
 | b2 (a:List Int) (b:Int) (c d:Ac)
 | b3 (a:Int) (b:Bool) (c d:Ac) (e:Be)
 | b4 (a:Int) (b:Bool) (c d:Ac) (e:Be)
 | b5 (a:Int) (b:Bool) (c d:Ac) (e:Be) (f:BB)
 | b6 (a:Int) (b:Bool) (c d:Ac) (e:Be) (f:BB)
 | b7 (a:Int) (b:Bool) (c d:Ac) (e:Be) (f:BB)
 | b8 (a:Int) (b:Bool) (c d:Ac) (e:Be) (f:BB)
 | b9 (a:Int) (b c:Bool) (d:List BD) (e f:Ac) (g:Be) (h:BB)
 | b10 (a:Int) (b:List BD) (c d:Ac) (e:Be) (f:BB)
 | b11 (a:List BD) (b c:Ac) (d:Be)
def Z83:XM->Tr U ((Ac×(List BD)×Bool)⊕XM)
 | .b0 a b d c=>let e:=({ a with Hm:=true }:Ac);let f:=AP (XM.b2 b c e EG);.br (a.Bq != 0) (.chk true (AA (a,([]:List BD),false))) (.br d (.br (a.BR==1) (AP (.b1 b c e EG)) f) f)
 | .b1 b a c d=>AP (.b2 b a ({ c with Fq:=a,Size:=0,Sync:=a }:Ac) d)
 | .b2 h b a d=>let m:=([]:List BD);.bind 3 (kZ a) (fun(e:Int)=>.bind 1348 (oD e h) (fun(q:QT)=>kl q.q0 (.bind 120 (Z1v a.CZ.Qz q.q0) (fun(g:(List Int)×Int)=>.br (g.2 != 0) (.bind 42 (Xo a.BI e false) (fun(i:List BC)=>.chk true (AA (({ a with BI:=i }:Ac),m,false)))) (.bind 71 (Z0X g.1) (fun(c:Be×Int)=>.br (c.2 != 0) (.chk true (AA (a,m,false))) (.bind 42 (Xo a.BI e true) (fun(f:List BC)=>let k:=({ a with Hf:=b,Gq:=true,Good:=true,BI:=f }:Ac);let l:=AP (XM.b3 b false k d c.1);.br (c.1.SN==a.Ag.Ee) (.bind 4 (U7 c.1.BU) (fun(j:Bool)=>.br (!j) (AP (.b3 b a.Dk.Jl k d c.1)) l)) l))))))))
 | .b3 c b a d e=>.br b (.bind 71 (Z2a a.Dk e) (fun(f:Be×Int)=>.br (f.2 != 0) (.bind 78 (qK a (61:Int)) (fun(g:Ac×(List BD))=>AA (g.1,g.2,false))) (AP (.b4 c b a d f.1)))) (AP (.b4 c b a d e))
 | .b4 b c a d e=>let f:=(⟨0,([]:List Int)⟩:BB);let g:=AP (XM.b6 b c a d e f);.br a.Ag.Open (.br (!a.Ag.Empty) (AP (.b5 b c a d e f)) g) g
 | .b5 b c a d e g=>.chk (kI (0:Int) a.Ag.Aq) (.bind 68 (a.Ag.Aq[(Int.toNat 0)]?) (fun(f:BB)=>AP (.b6 b c a d e f)))
 | .b6 b c a d e f=>let g:=AP (XM.b8 b c a d e f);.br a.Ag.Open (.br a.Ag.Empty (AP (.b7 b c a d e f)) g) g
 | .b7 a b c d e f=>AP (.b8 a b c d e (⟨1,([]:List Int)⟩:BB))
 | .b8 e f c g d h=>let i:=([]:List BD);.bind 163 (Z1O c.Ag d) (fun(a:Bd×BB×Bool×Bool)=>.br a.2.2.2 (.bind 78 (Z17 ({ c with Ec:=true,Ag:=a.1 }:Ac) h) (fun(b:Ac×(List BD))=>.chk true (.chk (kA (0+b.2.length) 160) (kl (i++b.2) (AP (.b9 e f a.2.2.1 (i++b.2) b.1 g d a.2.1)))))) (.chk true (AP (.b9 e f a.2.2.1 i ({ c with Ag:=a.1 }:Ac) g d a.2.1))))
 | .b9 e g h a b c d f=>.br h (.br g (.bind 41 (oO b.Dk false true) (fun(i:Cm)=>kl a (AP (.b10 e a ({ b with Dk:=i }:Ac) c d f)))) (kl a (AP (.b10 e a b c d f)))) (kl a (AP (.b11 a b c d)))
 | .b10 g a c e f b=>let i:=([]:List Int)++b.Payload;let h:=a++[(⟨1,c.Event,(⟨b.CQ,i⟩:BB),UZ,0,Ba⟩:BD)];.br (b.CQ==3) (.bind 78 (Z0v c b.Payload g) (fun(d:Ac×(List BD))=>kl a (.chk (kA (a.length+d.2.length) 160) (kl (a++d.2) (AP (.b11 (a++d.2) d.1 e f)))))) (.chk true (.chk (kA (0+b.Payload.length) 1) (kl i (.chk true (kl a (.chk (kA (a.length+1) 160) (kl h (AP (.b11 h c e f)))))))))
 | .b11 a b d c=>.br (c.MD==1) (kl a (AA (b,a,true))) (kl a (AA (b,a,b.More)))
def lT (a:Ac) (b:List Int) (c:Bool) (d:Int):Option (Ac×(List BD)×Bool):=AY Z83 (.b0 a b c d)
def kK:Lay:=⟨[1,3,4,8],[[.s 5 1],KP,KP,KP],[.var k2,.var k2],⟨[OV 62,OV 3,PQ 0,PQ 1],[VA 44 66,VA 44 66]⟩⟩
def kF:Lay:=⟨[3,4,8,14,15],[KP,KP,KP,KP,KP],[.var k2,.var k2,.var k5],⟨[OV 3,PQ 0,PQ 1,PQ 2,OV 4],[VA 44 66,VA 44 66,VA 70 5]⟩⟩
def QN:Lay:=⟨[3,4,8,14,15,20],[KP,KP,KP,KP,KP,KP],[.var k2,.var k2,.var k5,.var [.keep,.s 5 1]],⟨[OV 3,PQ 0,PQ 1,PQ 2,OV 4,PQ 3],[VA 44 66,VA 44 66,VA 70 5,VA 68 2]⟩⟩
def Z75:Lay:=⟨[3,4,8,14,15,22,23,25],[KP,KP,KP,KP,KP,KP,KP,[.own 148 18]],[.var k2,.var k2,.var k5,.var [.keep,.s 5 1],.row true],⟨[OV 3,PQ 0,PQ 1,PQ 2,OV 4,PQ 3,OV 4,.one (.own 148 4)],[VA 44 66,VA 44 66,VA 70 5,VA 68 2,.row 148 true]⟩⟩
def Z6Y:Lay:=⟨[3,4,8,14,22,25],[KP,KP,KP,KP,KP,[.own 148 18]],[.var k2,.var k2,.var k5,.var [.keep,.s 5 1],.row true],⟨[OV 3,PQ 0,PQ 1,PQ 2,PQ 3,.one (.own 148 4)],[VA 44 66,VA 44 66,VA 70 5,VA 68 2,.row 148 true]⟩⟩
def Z6U:Lay:=⟨[4,8,14,25],[KP,KP,KP,[.own 148 18]],[.var k2,.var k2,.var k5,.row true],⟨[PQ 0,PQ 1,PQ 2,.one (.own 148 3)],[VA 44 66,VA 44 66,VA 70 5,.row 148 true]⟩⟩
def Znr:Nat->Option Lay
 | 5=>some kK
 | 6=>some kK
 | 17=>some kF
 | 23=>some kF
 | 25=>some QN
 | 26=>some QN
 | 27=>some QN
 | 28=>some QN
 | 36=>some Z75
 | 39=>some Z6Y
 | 44=>some Z6U
 | _=>none
def Zmt:XM->Ae U
 | .b0 a b c d=>Am f35 [44,62,4,3] (a,b,c,d,())
 | .b1 a b c d=>AA3 f35 [1,1,1,0,1,0] kK (a,b,c,d,())
 | .b2 a b c d=>AA3 f35 [1,1,1,1,0] kK (a,b,c,d,())
 | .b3 a b c d e=>AA3 f35 [1,1,1,1,1,1,1,1,1,1,1,1,0,0] kF (a,b,c,d,e,())
 | .b4 a b c d e=>AA3 f35 [1,1,1,1,1,1,1,1,1,1,1,1,1,0] kF (a,b,c,d,e,())
 | .b5 a b c d e f=>AA3 f35 [1,1,1,1,1,1,1,1,1,1,1,1,1,1,0,1,0] QN (a,b,c,d,e,f,())
 | .b6 a b c d e f=>AA3 f35 [1,1,1,1,1,1,1,1,1,1,1,1,1,1,1,0,0] QN (a,b,c,d,e,f,())
 | .b7 a b c d e f=>AA3 f35 [1,1,1,1,1,1,1,1,1,1,1,1,1,1,1,0,1,0] QN (a,b,c,d,e,f,())
 | .b8 a b c d e f=>AA3 f35 [1,1,1,1,1,1,1,1,1,1,1,1,1,1,1,1,0] QN (a,b,c,d,e,f,())
 | .b9 a b c d e f g h=>AA3 f35 [1,1,1,1,1,1,1,1,1,1,1,1,1,1,1,1,1,1,1,1,0,0] Z75 (a,b,c,e,f,g,h,d,())
 | .b10 a b c d e f=>AA3 f35 [1,1,1,1,1,1,1,1,1,1,1,1,1,1,1,1,1,1,1,1,0,1,0,1,0] Z6Y (a,c,d,e,f,b,())
 | .b11 a b c d=>AA3 f35 [1,1,1,1,1,1,1,1,1,1,1,1,1,1,1,1,1,1,1,1,1,0] Z6U (b,c,d,a,())
theorem Zm2:AA1 35 [44,62,4,3] 86 (fun x=>lT x.1 x.2.1 x.2.2.1 x.2.2.2.1) rfl:=Ap (mc Z7v (mc Z7P (mc ZaL (mc Zpd (mc ZmJ (mc l9 (mc ZtH (mc Ztu (mc Zos (mc Za8 (mc Zmo Af))))))))))) (hc [] Z8K Ah) Znr Zmt func35 (fun p=>by cases p<;>kernel_rfl) (by kernel_rfl) fun _=>rfl
end
noncomputable section
inductive WQ where
 | b0 (a:Em) (b:CS) (c:Int) (d:Bool) (e:Int)
 | b1 (a:Int) (b:Bool) (c d:Int) (e:Em) (f g:CS)
 | b2 (a:Int) (b:Bool) (c d:Int) (e:Em) (f g:CS)
 | b3 (a:Int) (b:Bool) (c:Int) (d:Em) (e f:CS)
 | b4 (a:Int) (b:Bool) (c d:Int) (e:Em) (f g:CS)
 | b5 (a:Int) (b:Bool) (c d:Int) (e:Em) (f g:CS) (h:EN)
 | b6 (a:Int) (b:Bool) (c d:Int) (e:Bool) (f:Int) (g:Em) (h i:CS)
 | b7 (a:Int) (b c:CS)
 | b8 (a:Int) (b:Bool) (c d:Int) (e:Bool) (f:Int) (g:Em) (h i:CS)
 | b9 (a:Int) (b:Bool) (c:Int) (d e:CS)
 | b10 (b:Int) (c:Bool) (d e:Int) (f:Bool) (g h:Int) (i:List Int) (j:Em) (k a:CS)
 | b11 (a:Int) (b c:CS)
 | b12 (a:Int) (b c:CS)
 | b13 (d:Int) (e:Bool) (f g:Int) (h:Bool) (i j:Int) (k:List BD) (l:Bool) (m:Int) (a:Em) (b c:CS)
 | b14 (a b:Int) (c d:CS)
 | b15 (d:Int) (e:Bool) (f g:Int) (h:Bool) (i j:Int) (k:List BD) (l:Bool) (m:Int) (a:Em) (b c:CS)
 | b16 (d:Int) (e:Bool) (f g:Int) (h:Bool) (i j:Int) (k:List BD) (l:Bool) (m:Int) (a:Em) (b c:CS)
 | b17 (a:Int) (b:Bool) (c d:Int) (e:Bool) (f:Int) (g:Em) (h i:CS)
def Z6a:WQ->Tr U ((CS×Int)⊕WQ)
 | .b0 a b c d e=>AP (.b1 c d e (0:Int) a b (⟨EG,EG⟩:CS))
 | .b1 b c d e a f g=>let h:=AP (WQ.b3 b c d a f g);.br (decide (e<(↑a.RG.length:Int))) (.br (decide (e<8)) (AP (.b2 b c d e a f g)) h) h
 | .b2 d e f a b g h=>.chk (kI a b.RG) (.bind 83 (b.RG[(Int.toNat a)]?) (fun(c:EN)=>let i:=Tr.br (decide ((↑c.BU.Payload.length:Int)>300)) (AP (WQ.b4 d e f a b g h)) (AP (WQ.b5 d e f a b g h c));.br (c.Side != 0) (.br (c.Side != 1) (AP (.b4 d e f a b g h)) i) i))
 | .b3 c d e a b f=>let h:=(if (6:Int)<a.Vm then (6:Int) else a.Vm);.bind 4 (oG b.x1) (fun(g:Bool)=>AP (.b6 c d e (if h>1 then h else (1:Int)) g (0:Int) a b f))
 | .b4 a b c d e f g=>AP (.b1 a b c (AV (d+1)) e f g)
 | .b5 b d e f g c h a=>let l:=a.Side==1;let k:=a.Side==0;.br k (.bind 46 (Nz c.x0 a b) (fun(i:Ac×Int)=>.br k (AP (.b4 b d e f g (⟨i.1,c.x1⟩:CS) h)) (.br l (AP (.b4 b d e f g (⟨c.x0,i.1⟩:CS) h)) (.fail)))) (.br l (.bind 46 (Nz c.x1 a b) (fun(j:Ac×Int)=>.br k (AP (.b4 b d e f g (⟨j.1,c.x1⟩:CS) h)) (.br l (AP (.b4 b d e f g (⟨c.x0,j.1⟩:CS) h)) (.fail)))) (.fail))
 | .b6 b c a g h d i e f=>let j:=AP (WQ.b8 b c a g h d i e f);.br (decide (d<g)) (.br c (.br (decide (a>=0)) (.br (decide (d>=a)) (AP (.b7 b e f)) j) j) j) (AP (.b9 b c a e f))
 | .b7 a b c=>AA (b,a)
 | .b8 c d e k i a j b f=>let v:=IntKind.wrap .u64 (a);let n:=decide (0<=v);let m:=Int.tmod a 2;let s:=AV ((1:Int) - m);let l:=(bits .and .i64 (Int.fdiv j.Vu (2 ^ (min (Int.toNat v) (IntKind.bits .i64)))) (1:Int))==1;.br (m==0) (.bind 63 (oU b.x0) (fun(g:Ac×(List Int))=>let y:=(⟨g.1,b.x1⟩:CS);let w:=(⟨b.x0,g.1⟩:CS);let t:=(↑g.2.length:Int)==0;let p:=AP (WQ.b9 c d e w f);let o:=AP (WQ.b9 c d e y f);.br (m==0) (.br t o (.chk n (.br l o (.br i o (AP (.b10 c d e k i a s g.2 j y f)))))) (.br (m==1) (.br t p (.chk n (.br l p (.br i p (AP (.b10 c d e k i a s g.2 j w f)))))) (.fail)))) (.br (m==1) (.bind 63 (oU b.x1) (fun(h:Ac×(List Int))=>let B:=(⟨h.1,b.x1⟩:CS);let z:=(⟨b.x0,h.1⟩:CS);let u:=(↑h.2.length:Int)==0;let r:=AP (WQ.b9 c d e z f);let q:=AP (WQ.b9 c d e B f);.br (m==0) (.br u q (.chk n (.br l q (.br i q (AP (.b10 c d e k i a s h.2 j B f)))))) (.br (m==1) (.br u r (.chk n (.br l r (.br i r (AP (.b10 c d e k i a s h.2 j z f)))))) (.fail)))) (.fail))
 | .b9 a d e b c=>let f:=AP (WQ.b12 a b c);.br d (.br (decide (e>=0)) (AP (.b11 a b c)) f) f
 | .b10 c h i j k d a m l e b=>.br (a==0) (.bind 86 (lT e.x0 m (d==0) c) (fun(f:Ac×(List BD)×Bool)=>.br (a==0) (AP (.b13 c h i j k d a f.2.1 f.2.2 (0:Int) l (⟨f.1,e.x1⟩:CS) b)) (.br (a==1) (AP (.b13 c h i j k d a f.2.1 f.2.2 (0:Int) l (⟨e.x0,f.1⟩:CS) b)) (.fail)))) (.br (a==1) (.bind 86 (lT e.x1 m (d==0) c) (fun(g:Ac×(List BD)×Bool)=>.br (a==0) (AP (.b13 c h i j k d a g.2.1 g.2.2 (0:Int) l (⟨g.1,e.x1⟩:CS) b)) (.br (a==1) (AP (.b13 c h i j k d a g.2.1 g.2.2 (0:Int) l (⟨e.x0,g.1⟩:CS) b)) (.fail)))) (.fail))
 | .b11 a b c=>AA (b,a)
 | .b12 a b c=>AP (.b14 a (0:Int) b c)
 | .b13 d e f h i g l j m k c a b=>let r:=AV (d+500);let q:=AP (WQ.b16 d e f h i g l j m k c a b);let p:=AP (WQ.b17 r e f h i g c a b);let o:=Tr.br (g==0) (.br (!a.x1.Good) (AP (WQ.b9 r e f a b)) p) p;.br (decide (k<(↑j.length:Int))) (.chk (kI k j) (.bind 148 (j[(Int.toNat k)]?) (fun(n:BD)=>.br (n.Kind==8) (.br (l==1) (AP (.b15 d e f h i g l j m k c a b)) q) q))) (.br (decide (g>0)) (.br (!m) (AP (.b9 r e f a b)) o) o)
 | .b14 b a c d=>let g:=AV (a+1);.br (decide (a<2)) (.br (a==0) (.bind 78 (mW c.x0 b) (fun(e:Ac×(List BD))=>.br (a==0) (AP (.b14 b g (⟨e.1,c.x1⟩:CS) d)) (.br (a==1) (AP (.b14 b g (⟨c.x0,e.1⟩:CS) d)) (.fail)))) (.br (a==1) (.bind 78 (mW c.x1 b) (fun(f:Ac×(List BD))=>.br (a==0) (AP (.b14 b g (⟨f.1,c.x1⟩:CS) d)) (.br (a==1) (AP (.b14 b g (⟨c.x0,f.1⟩:CS) d)) (.fail)))) (.fail))) (AA (c,b))
 | .b15 d e f g h i j k l m b a c=>.bind 46 (Nz a.x1 (⟨0,10,(⟨0,[]⟩:BB),Ba,0,0,a.x1.Key⟩:EN) d) (fun(n:Ac×Int)=>AP (.b16 d e f g h i j k l m b (⟨a.x0,n.1⟩:CS) c))
 | .b16 d e f g h i j k l m a b c=>AP (.b13 d e f g h i j k l (AV (m+1)) a b c)
 | .b17 a b c d e f g h i=>AP (.b6 a b c d e (AV (f+1)) g h i)
def yU (a:Em) (b:CS) (c:Int) (d:Bool) (e:Int):Option (CS×Int):=AY Z6a (.b0 a b c d e)
def Tu:Lay:=⟨[2,3,4,5,6,10,12],[KP,KP,KP,KP,KP,KP,KP],[.var [.s 83 12,.keep,.keep],.var k4,.var k4],⟨[OV 3,OV 4,OV 3,PQ 0,PQ 1,PQ 2,OV 3],[VA 113 3,VA 109 132,VA 109 132]⟩⟩
def Z5D:Lay:=⟨[2,3,4,5,6,10],[KP,KP,KP,KP,KP,KP],[.var [.s 83 12,.keep,.keep],.var k4,.var k4],⟨[OV 3,OV 4,OV 3,PQ 0,PQ 1,PQ 2],[VA 113 3,VA 109 132,VA 109 132]⟩⟩
def Z5w:Lay:=⟨[2,3,4,5,6,10,12,13],[KP,KP,KP,KP,KP,KP,KP,KP],[.var [.s 83 12,.keep,.keep],.var k4,.var k4,.var k12],⟨[OV 3,OV 4,OV 3,PQ 0,PQ 1,PQ 2,OV 3,PQ 3],[VA 113 3,VA 109 132,VA 109 132,VA 83 12]⟩⟩
def Tv:Lay:=⟨[2,3,4,5,6,10,16,17,18],[KP,KP,KP,KP,KP,KP,KP,KP,KP],[.var [.s 83 12,.keep,.keep],.var k4,.var k4],⟨[OV 3,OV 4,OV 3,PQ 0,PQ 1,PQ 2,OV 3,OV 4,OV 3],[VA 113 3,VA 109 132,VA 109 132]⟩⟩
def Tt:Lay:=⟨[2,6,10],[KP,KP,KP],[.var k4,.var k4],⟨[OV 3,PQ 0,PQ 1],[VA 109 132,VA 109 132]⟩⟩
def Z5x:Lay:=⟨[2,3,4,6,10],[KP,KP,KP,KP,KP],[.var k4,.var k4],⟨[OV 3,OV 4,OV 3,PQ 0,PQ 1],[VA 109 132,VA 109 132]⟩⟩
def Z5i:Lay:=⟨[2,3,4,5,6,10,16,17,18,20,22],[KP,KP,KP,KP,KP,KP,KP,KP,KP,KP,[.s 5 1]],[.var [.s 83 12,.keep,.keep],.var k4,.var k4],⟨[OV 3,OV 4,OV 3,PQ 0,PQ 1,PQ 2,OV 3,OV 4,OV 3,OV 3,OV 62],[VA 113 3,VA 109 132,VA 109 132]⟩⟩
def Tq:Lay:=⟨[2,3,4,5,6,10,16,17,18,20,24,25,26],[KP,KP,KP,KP,KP,KP,KP,KP,KP,KP,[.s 148 18],KP,KP],[.var [.s 83 12,.keep,.keep],.var k4,.var k4],⟨[OV 3,OV 4,OV 3,PQ 0,PQ 1,PQ 2,OV 3,OV 4,OV 3,OV 3,OV 77,OV 4,OV 3],[VA 113 3,VA 109 132,VA 109 132]⟩⟩
def Z5k:Lay:=⟨[2,6,10,29],[KP,KP,KP,KP],[.var k4,.var k4],⟨[OV 3,PQ 0,PQ 1,OV 3],[VA 109 132,VA 109 132]⟩⟩
def Zj6:Nat->Option Lay
 | 2=>some Tu
 | 4=>some Tu
 | 8=>some Z5D
 | 3=>some Tu
 | 6=>some Z5w
 | 11=>some Tv
 | 14=>some Tt
 | 15=>some Tv
 | 29=>some Z5x
 | 19=>some Z5i
 | 30=>some Tt
 | 31=>some Tt
 | 22=>some Tq
 | 32=>some Z5k
 | 25=>some Tq
 | 23=>some Tq
 | 12=>some Tv
 | _=>none
def ZgV:WQ->Ae U
 | .b0 a b c d e=>Am f61 [113,109,3,4,3] (a,b,c,d,e,())
 | .b1 a b c d e f g=>AA3 f61 [1,0,1,0,0,0,0] Tu (a,b,c,d,e,f,g,())
 | .b2 a b c d e f g=>AA3 f61 [1,0,1,0,0,1,0,0,0] Tu (a,b,c,d,e,f,g,())
 | .b3 a b c d e f=>AA3 f61 [1,1,0] Z5D (a,b,c,d,e,f,())
 | .b4 a b c d e f g=>AA3 f61 [1,0,1,0,0,1,1] Tu (a,b,c,d,e,f,g,())
 | .b5 a b c d e f g h=>AA3 f61 [1,0,1,0,0,1,0,0,1,1,0] Z5w (a,b,c,d,e,f,g,h,())
 | .b6 a b c d e f g h i=>AA3 f61 [1,1,1,1,0,1,0,0,0,0] Tv (a,b,c,d,e,f,g,h,i,())
 | .b7 a b c=>AA3 f61 [1,1,1,1,0,1,0,0,1,0,0,0,1,0,0] Tt (a,b,c,())
 | .b8 a b c d e f g h i=>AA3 f61 [1,1,1,1,0,1,0,0,1,0,0,1,0] Tv (a,b,c,d,e,f,g,h,i,())
 | .b9 a b c d e=>AA3 f61 [1,1,1,1,1,0,0] Z5x (a,b,c,d,e,())
 | .b10 b c d e f g h i j k a=>AA3 f61 [1,1,1,1,0,1,0,0,1,0,0,1,1,1,1,1,0] Z5i (b,c,d,e,f,g,h,i,j,k,a,())
 | .b11 a b c=>AA3 f61 [1,1,1,1,1,0,1,0,0] Tt (a,b,c,())
 | .b12 a b c=>AA3 f61 [1,1,1,1,1,1,0,0] Tt (a,b,c,())
 | .b13 d e f g h i j k l m a b c=>AA3 f61 [1,1,1,1,0,1,0,0,1,0,0,1,1,1,1,1,1,1,0,1,0,0,0,0] Tq (d,e,f,g,h,i,j,k,l,m,a,b,c,())
 | .b14 a b c d=>AA3 f61 [1,1,1,1,1,1,0,1,0,0,0,0] Z5k (a,b,c,d,())
 | .b15 d e f g h i j k l m a b c=>AA3 f61 [1,1,1,1,0,1,0,0,1,0,0,1,1,1,1,1,1,1,0,1,0,0,1,0,0,1,0,0] Tq (d,e,f,g,h,i,j,k,l,m,a,b,c,())
 | .b16 d e f g h i j k l m a b c=>AA3 f61 [1,1,1,1,0,1,0,0,1,0,0,1,1,1,1,1,1,1,0,1,0,0,1,1] Tq (d,e,f,g,h,i,j,k,l,m,a,b,c,())
 | .b17 a b c d e f g h i=>AA3 f61 [1,1,1,1,0,1,0,0,1,1] Tv (a,b,c,d,e,f,g,h,i,())
theorem Zhs:AA1 61 [113,109,3,4,3] 110 (fun x=>yU x.1 x.2.1 x.2.2.1 x.2.2.2.1 x.2.2.2.2.1) rfl:=Ap (mc Z9g (mc Zsp (mc Zq5 (mc Zca (mc Zm2 Af))))) Ah Zj6 ZgV func61 (fun p=>by cases p<;>kernel_rfl) (by kernel_rfl) fun _=>rfl
inductive Wn where
 | b0 (a:Il)
 | b1 (a:Ac)
 | b2 (a:Il) (b:Ac)
 | b3 (a:Int) (b:Il) (c:Ac) (d:CS)
 | b4 (a b:Int) (c:Il) (d:Ac) (e:CS)
def Z6Q:Wn->Tr U ((Ac×Int×Bool)⊕Wn)
 | .b0 a=>let c:=AP (Wn.b1 EG);let b:=AP (Wn.b2 a EG);.br (decide ((↑a.Events.length:Int)>60)) c (.br (a.BR != 0) (.br (a.BR != 1) c b) b)
 | .b1 a=>AA (EG,0,false)
 | .b2 a b=>AP (.b3 (0:Int) a b (⟨EG,EG⟩:CS))
 | .b3 a b c d=>let i:=AA (EG,0,false);let h:=AV (a+1);let g:=IntKind.wrap .u64 (b.Eg+(IntKind.wrap .u64 (a)));.br (decide (a<2)) (.br (a==0) (.bind 46 (qG a b.CZ (0:Int) b.Keys.x0 g (0:Int)) (fun(e:Ac×Int)=>.br (e.2 != 0) i (.br (a==0) (AP (.b3 h b c (⟨e.1,d.x1⟩:CS))) (.br (a==1) (AP (.b3 h b c (⟨d.x0,e.1⟩:CS))) (.fail))))) (.br (a==1) (.bind 46 (qG a b.CZ (0:Int) b.Keys.x1 g (0:Int)) (fun(f:Ac×Int)=>.br (f.2 != 0) i (.br (a==0) (AP (.b3 h b c (⟨f.1,d.x1⟩:CS))) (.br (a==1) (AP (.b3 h b c (⟨d.x0,f.1⟩:CS))) (.fail))))) (.fail))) (AP (.b4 (0:Int) (0:Int) b c d))
 | .b4 d b a f c=>let h:=(↑a.Events.length:Int);.br (decide (b<h)) (.chk (kI b a.Events) (.bind 113 (a.Events[(Int.toNat b)]?) (fun(g:Em)=>.bind 110 (yU g c (if c.x0.Fq>d then c.x0.Fq else d) (b==(AV (h - 1))) a.BU) (fun(e:CS×Int)=>AP (.b4 e.2 (AV (b+1)) a f (⟨e.1.x0,e.1.x1⟩:CS)))))) (.br (a.BR==0) (AA (c.x0,d,true)) (.br (a.BR==1) (AA (c.x1,d,true)) (.fail)))
def ZA (a:Il):Option (Ac×Int×Bool):=AY Z6Q (.b0 a)
def Z67:Lay:=⟨[2],[KP],[.var k2],⟨[PQ 0],[VA 44 66]⟩⟩
def Z6o:Lay:=⟨[1,2],[KP,KP],[.var k15,.var k2],⟨[PQ 0,PQ 1],[VA 59 17,VA 44 66]⟩⟩
def Z6k:Lay:=⟨[1,2,5,6],[KP,KP,KP,KP],[.var k15,.var k2,.var k4],⟨[PQ 0,PQ 1,PQ 2,OV 3],[VA 59 17,VA 44 66,VA 109 132]⟩⟩
def Z6d:Lay:=⟨[1,2,5,9,10],[KP,KP,KP,KP,KP],[.var k15,.var k2,.var k4],⟨[PQ 0,PQ 1,PQ 2,OV 3,OV 3],[VA 59 17,VA 44 66,VA 109 132]⟩⟩
def ZkD:Nat->Option Lay
 | 2=>some Z67
 | 3=>some Z6o
 | 5=>some Z6k
 | 13=>some Z6d
 | _=>none
def Zjj:Wn->Ae U
 | .b0 a=>Am f21 [59] (a,())
 | .b1 a=>AA3 f21 [1,0,1,0,0] Z67 (a,())
 | .b2 a b=>AA3 f21 [1,1,0] Z6o (a,b,())
 | .b3 a b c d=>AA3 f21 [1,1,1,0,1,0,0,0,0] Z6k (a,b,c,d,())
 | .b4 a b c d e=>AA3 f21 [1,1,1,1,1,0,1,0,0,0,0] Z6d (a,b,c,d,e,())
theorem ZjY:AA1 21 [59] 60 (fun x=>ZA x.1) rfl:=Ap (mc ZuW (mc Zhs Af)) Ah ZkD Zjj func21 (fun p=>by cases p<;>kernel_rfl) (by kernel_rfl) fun _=>rfl
inductive Zu where
 | b0 (a:List BB)
 | b1 (a b:List BB) (c:Int)
def kC:Zu->Tr U ((List BB)⊕Zu)
 | .b0 a=>.chk true (AP (.b1 a ([]:List BB) (0:Int)))
 | .b1 a b c=>let h:=a[(Int.toNat c)]?;.br (decide (c<(↑a.length:Int))) (.chk (kI c a) (.bind 68 h (fun(e:BB)=>.chk (kI c a) (.bind 68 h (fun(d:BB)=>let f:=([]:List Int)++d.Payload;let g:=b++[(⟨e.CQ,f⟩:BB)];.chk true (.chk (kA (0+d.Payload.length) 1) (kl f (.chk true (kl b (.chk (kA (b.length+1) 32) (kl g (AP (.b1 a g (AV (c+1))))))))))))))) (kl b (AA b))
def Zn (a:List BB):Option (List BB):=AY kC (.b0 a)
def Z5V:Lay:=⟨[0,3,4],[[.s 68 2],[.own 68 2],KP],[.row true],⟨[OV 31,.one (.own 68 0),OV 3],[.row 68 true]⟩⟩
def ZjE:Nat->Option Lay
 | 3=>some Z5V
 | _=>none
def Zic:Zu->Ae U
 | .b0 a=>Am f69 [31] (a,())
 | .b1 a b c=>AA3 f69 [1,1,0,1,0,0,0,0] Z5V (a,c,b,())
theorem ZiI:AA1 69 [31] 31 (fun x=>Zn x.1) rfl:=Ap Af Ah ZjE Zic func69 (fun p=>by cases p<;>kernel_rfl) (by kernel_rfl) fun _=>rfl
inductive Yo where
 | b0 (a:Ac)
def Z2k:Yo->Tr U (Ac⊕Yo)
 | .b0 a=>let e:=([]:List BC)++a.BI;let d:=([]:List BF)++a.AB.Ak;let c:=([]:List AL);let f:=c++a.AB.Aa;.bind 31 (Zn a.Ag.Aq) (fun(b:List BB)=>.chk true (.chk (kA (0+a.AB.Aa.length) 120) (.chk true (.chk (kA (0+a.AB.Ak.length) 64) (.chk true (.chk (kA (0+a.BI.length) 16) (.chk true (.chk (kA (0+a.Aw.length) 120) (kl f (kl d (kl e (kl (c++a.Aw) (AA ({ a with Ag:=({ a.Ag with Aq:=b }:Bd),AB:=({ a.AB with Aa:=f,Ak:=d }:A7),BI:=e,Aw:=(c++a.Aw) }:Ac))))))))))))))
def Z1P (a:Ac):Option Ac:=AY Z2k (.b0 a)
def Zr8:Yo->Ae U
 | .b0 a=>Am f23 [44] (a,())
theorem Zrg:AA1 23 [44] 44 (fun x=>Z1P x.1) rfl:=Ap (mc ZiI Af) Ah AN Zr8 func23 (fun p=>by cases p<;>kernel_rfl) (by kernel_rfl) fun _=>rfl
inductive xN where
 | b0 (a:Nl)
def Zi3:xN->Tr U (Bool⊕xN)
 | .b0 a=>AA (a.Link.Bq==0)
def yN (a:Nl):Option Bool:=AY Zi3 (.b0 a)
def ZgI:xN->Ae U
 | .b0 a=>Am f63 [115] (a,())
theorem Zh4:AA1 63 [115] 4 (fun x=>yN x.1) rfl:=Ap Af Ah AN ZgI func63 (fun p=>by cases p<;>kernel_rfl) (by kernel_rfl) fun _=>rfl
inductive Z1A where
 | b0 (a:Ac)
 | b1 (a b:List BB) (c d:Int) (e:Ac)
def nD:Z1A->Tr U (Ru⊕Z1A)
 | .b0 a=>let b:=(↑a.Ag.Aq.length:Int);let c:=(List.replicate (Int.toNat b) ((⟨0,[]⟩:BB):BB));.chk (decide (0<=b/\b<=b/\Int.toNat b*32<=lim/\b<=(↑maxLen:Int))) (kl c (AP (.b1 c a.Ag.Aq b (0:Int) a)))
 | .b1 a d f b c=>let h:=Int.toNat b;.br (decide (b<f)) (.chk (kI b d) (.bind 68 (d[h]?) (fun(e:BB)=>.bind 1344 (RX e.Payload) (fun(q:UB)=>let i:=(a.set h (⟨e.CQ,q.q0⟩:BB));kl a (.chk (kI b a) (.chk (a.length==a.length&&decide (0<=h)) (.bind 68 (a[h]?) (fun(g:BB)=>kl q.q0 (.chk (i.length==a.length) (AP (.b1 i d f (AV (b+1)) c))))))))))) (.bind 1345 (RS c.AB.Aa) (fun(z:QD)=>.bind 1346 (QG c.AB.Ak) (fun(A:QE)=>.bind 1347 (jC c.BI) (fun(C:WJ)=>.bind 1345 (RS c.Aw) (fun(D:QD)=>.chk (kL a&&(kL z.q0&&(kL A.q0&&(kL C.q0&&(kL D.q0&&true))))) (AA (⟨(⟨({ c with Ag:=({ c.Ag with Aq:=a }:Bd),AB:=({ c.AB with Aa:=z.q0,Ak:=A.q0 }:A7),BI:=C.q0,Aw:=D.q0 }:Ac),([]:List BD)⟩:EM)⟩:Ru)))))))
def nV (a:Ac):Option Ru:=AY nD (.b0 a)
def Z8A:Shape:=⟨[.agg [.v 44 66 true]],[]⟩
def ZlW:Shape:=⟨[PQ 0],[.var 118 67 (Oe 1),.row 68 true,.row 156 true,.row 138 true,.row 99 true,.row 156 true,.row 148 true]⟩
noncomputable def Zrt:HMod U:=⟨[k2],[],Z8A,ZlW,true,1353,fun(y:Ru)=>(((),()),(Px y.q0)),fun x=>nV x.1.1.1,okS rfl⟩
def Z89:Lay:=⟨[1,3,13,14,15],[KP,[.own 68 2],[.s 68 2],KP,KP],[.var k2,.row true],⟨[PQ 0,.one (.own 68 1),OV 31,OV 3,OV 3],[VA 44 66,.row 68 true]⟩⟩
def ZrI:Nat->Option Lay
 | 3=>some Z89
 | _=>none
def ZoH:Z1A->Ae U
 | .b0 a=>E5 f62 Z8A (((a,()),()),())
 | .b1 a b c d e=>AA3 f62 [1,1,0,1,0,0,0] Z89 (b,c,d,e,a,())
theorem Zpi:DU Tryz.prog B0 62 Zrt:=okR Af (hc [] Z5F (hc [] Z5b (hc [] wU (hc [] Zg0 Ah)))) ZrI [KP] [.var k9,.row true,.row true,.row true,.row true,.row true,.row true] 0 ZoH func62 (fun p=>by cases p<;>kernel_rfl) (by kernel_rfl) fun x=>by kernel_rfl
inductive Zw where
 | b0 (a:A7)
def Z6B:Zw->Tr U (Bool⊕Zw)
 | .b0 a=>.br (a.CJ==1) (AA true) (.br (a.CJ==2) (AA true) (AA (a.CJ==3)))
def Za (a:A7):Option Bool:=AY Z6B (.b0 a)
def Zif:Zw->Ae U
 | .b0 a=>Am f149 [39] (a,())
theorem Zj0:AA1 149 [39] 4 (fun x=>Za x.1) rfl:=Ap Af Ah AN Zif func149 (fun p=>by cases p<;>kernel_rfl) (by kernel_rfl) fun _=>rfl
inductive Z02 where
 | b0 (a:BB)
def Z7c:Z02->Tr U (Bool⊕Z02)
 | .b0 a=>.br (a.CQ==1) (AA ((↑a.Payload.length:Int)==0)) (AA false)
def ZV (a:BB):Option Bool:=AY Z7c (.b0 a)
def ZkL:Z02->Ae U
 | .b0 a=>Am f27 [68] (a,())
theorem ZkI:AA1 27 [68] 4 (fun x=>ZV x.1) rfl:=Ap Af Ah AN ZkL func27 (fun p=>by cases p<;>kernel_rfl) (by kernel_rfl) fun _=>rfl
inductive Z1r where
 | b0 (a:BB)
def Zak:Z1r->Tr U (BB⊕Z1r)
 | .b0 a=>.bind 1344 (RX a.Payload) (fun(q:UB)=>kl q.q0 (AA (⟨a.CQ,q.q0⟩:BB)))
def nR (a:BB):Option BB:=AY Zak (.b0 a)
def ZoQ:Z1r->Ae U
 | .b0 a=>Am f79 [68] (a,())
theorem Z8V:AA1 79 [68] 68 (fun x=>nR x.1) rfl:=Ap Af (hc [] Z5F Ah) AN ZoQ func79 (fun p=>by cases p<;>kernel_rfl) (by kernel_rfl) fun _=>rfl
inductive Z0E where
 | b0 (a:Int)
def Z86:Z0E->Tr U (Bool⊕Z0E)
 | .b0 a=>.br (a==0) (AA true) (AA (a==1))
def XN (a:Int):Option Bool:=AY Z86 (.b0 a)
def Zm4:Z0E->Ae U
 | .b0 a=>Am f231 [3] (a,())
theorem ZlK:AA1 231 [3] 4 (fun x=>XN x.1) rfl:=Ap Af Ah AN Zm4 func231 (fun p=>by cases p<;>kernel_rfl) (by kernel_rfl) fun _=>rfl
inductive Z01 where
 | b0 (a:Be)
 | b1 (a:Int) (b:Be)
 | b2 (a:Int) (b:Be)
 | b3 (a:Int)
def QO:Z01->Tr U (Int⊕Z01)
 | .b0 a=>let e:=AA (5:Int);.bind 4 (XN a.SN) (fun(b:Bool)=>.br (!b) e (.bind 4 (XN a.Ee) (fun(c:Bool)=>.br (!c) e (.bind 4 (XN a.MD) (fun(d:Bool)=>.br (!d) e (AP (.b1 (↑a.BU.Payload.length:Int) a)))))))
 | .b1 b a=>let c:=AA (12:Int);.br (decide (a.BU.CQ<1)) c (.br (decide (a.BU.CQ>3)) c (AP (.b2 b a)))
 | .b2 a b=>let c:=AP (Z01.b3 a);.br (a==0) (.br (b.BU.CQ != 1) (AA (1:Int)) c) c
 | .b3 a=>.br (decide (a>255)) (AA (4:Int)) (AA (0:Int))
def kQ (a:Be):Option Int:=AY QO (.b0 a)
def jZ:Lay:=⟨[1,3],[KP,KP],[.var k5],⟨[PQ 0,OV 3],[VA 70 5]⟩⟩
def Z6A:Lay:=⟨[3],[KP],[],⟨[OV 3],[]⟩⟩
def ZkS:Nat->Option Lay
 | 4=>some jZ
 | 6=>some jZ
 | 8=>some Z6A
 | _=>none
def Zkr:Z01->Ae U
 | .b0 a=>Am f153 [70] (a,())
 | .b1 a b=>AA3 f153 [1,1,0,0,1,1,0] jZ (a,b,())
 | .b2 a b=>AA3 f153 [1,1,0,0,1,1,1,1,0] jZ (a,b,())
 | .b3 a=>AA3 f153 [1,1,0,0,1,1,1,1,1,1,0] Z6A (a,())
theorem Z6J:AA1 153 [70] 45 (fun x=>kQ x.1) rfl:=Ap (mc ZlK Af) Ah ZkS Zkr func153 (fun p=>by cases p<;>kernel_rfl) (by kernel_rfl) fun _=>rfl
inductive Z2o where
 | b0 (a:Bd)
 | b1 (a b:List BB) (c d:Int) (e f:Bd)
def bC:Z2o->Tr U (Us⊕Z2o)
 | .b0 a=>let c:=(↑a.Aq.length:Int);let b:=(List.replicate (Int.toNat 0) ((⟨0,[]⟩:BB):BB));.chk (decide (0<=(0:Int)/\(0:Int)<=c/\Int.toNat c*32<=lim/\c<=(↑maxLen:Int))) (.chk ((b.length==b.length)&&true) (AP (.b1 b a.Aq c (0:Int) a Ld)))
 | .b1 a c d b e f=>.br (decide (b<d)) (.chk (kI b c) (.bind 68 (c[(Int.toNat b)]?) (fun(h:BB)=>.bind 68 (nR h) (fun(g:BB)=>.chk true (kl a (.chk (kA (a.length+1) 32) (.chk (kL (a++[g])&&kL f.Aq) (AP (.b1 (a++[g]) c d (AV (b+1)) e f))))))))) (kl a (AA (⟨({ e with Aq:=a }:Bd)⟩:Us)))
def Z2v (a:Bd):Option Us:=AY bC (.b0 a)
def Zaj:Shape:=⟨[.agg [.v 33 7 true]],[]⟩
def Zqj:Shape:=⟨[(ag4 0)],[.row 68 true]⟩
noncomputable def ZyP:HMod U:=⟨[k6],[],Zaj,Zqj,true,1361,fun(y:Us)=>(((tu4 y.q0),()),(y.q0.Aq,())),fun x=>Z2v x.1.1.1,okS rfl⟩
def Zap:Lay:=⟨[1,2,3,11,12,13],[KP,KP,[.own 68 2],[.s 68 2],KP,KP],[.var k6,.var k16,.row true,.row true],⟨[PQ 0,PQ 1,.one (.own 68 2),OV 31,OV 3,OV 3],[VA 33 7,.var 33 7 (ag4 3),.row 68 true,.row 68 true]⟩⟩
def ZyV:Nat->Option Lay
 | 3=>some Zap
 | _=>none
def ZtZ:Z2o->Ae U
 | .b0 a=>E5 f78 Zaj (((a,()),()),())
 | .b1 b c d e f a=>Ad f78 [1,1,0,1,0,0,0] Zap (((),((),((),((c,()),((d,()),((e,()),())))))),((f,()),((tu4 a),(b,(a.Aq,())))))
theorem Zvt:DU Tryz.prog B0 78 ZyP:=okR (mc Z8V Af) Ah ZyV [k16] [.row true] 0 ZtZ func78 (fun p=>by cases p<;>kernel_rfl) (by kernel_rfl) fun x=>by kernel_rfl
inductive Z1t where
 | b0 (a:Bd) (b:BB)
 | b1 (a:Bd) (b:BB) (c:Bd)
def nO:Z1t->Tr U ((Bd×Int)⊕Z1t)
 | .b0 b a=>.bind 1361 (Z2v b) (fun(q:Us)=>let e:=kl q.q0.Aq (AA (q.q0,1));.bind 4 (ZV a) (fun(c:Bool)=>.br c e (.br (decide ((↑a.Payload.length:Int)>251)) e (.bind 45 (kQ (⟨0,0,0,a⟩:Be)) (fun(d:Int)=>.br (d != 0) e (kl q.q0.Aq (AP (.b1 q.q0 a Ld))))))))
 | .b1 a c d=>kl a.Aq (.br (decide ((↑a.Aq.length:Int)>=64)) (kl a.Aq (AA (a,8))) (.bind 68 (nR c) (fun(b:BB)=>let e:=a.Aq++[b];.chk true (kl a.Aq (.chk (kA (a.Aq.length+1) 32) (kl e (AA (({ a with Aq:=e }:Bd),(0:Int)))))))))
def Z1n (a:Bd) (b:BB):Option (Bd×Int):=AY nO (.b0 a b)
def Z7E:Lay:=⟨[2,3,4],[KP,KP,KP],[.var k16,.var [.keep,.s 5 1],.var k6,.row true],⟨[PQ 0,PQ 1,PQ 2],[.var 33 7 (ag4 3),VA 68 2,VA 33 7,.row 68 true]⟩⟩
def Ztb:Nat->Option Lay
 | 4=>some Z7E
 | _=>none
def ZpM:Z1t->Ae U
 | .b0 a b=>Am f152 [33,68] (a,b,())
 | .b1 a b c=>Ad f152 [1,1,1,0,0] Z7E (((),((),((),()))),((tu4 a),((b,()),((c,()),(a.Aq,())))))
theorem Zps:AA1 152 [33,68] 189 (fun x=>Z1n x.1 x.2.1) rfl:=Ap (mc ZkI (mc Z8V (mc Z6J Af))) (hc [] Zvt Ah) Ztb ZpM func152 (fun p=>by cases p<;>kernel_rfl) (by kernel_rfl) fun _=>rfl
end
noncomputable section
inductive Zc where
 | b0 (a:BB) (b:EM)
 | b1 (a:EM) (b:BB)
def jY:Zc->Tr U (MZ⊕Zc)
 | .b0 b a=>let c:=Tr.chk (kL a.Link.Ag.Aq&&(kL a.Link.AB.Aa&&(kL a.Link.AB.Ak&&(kL a.Link.BI&&(kL a.Link.Aw&&kL a.C9))))) (AP (Zc.b1 a b));.br (b.CQ != 2) (.br (b.CQ != 1) (kl a.Link.Ag.Aq (.chk (kL a.Link.AB.Aa&&(kL a.Link.AB.Ak&&(kL a.Link.BI&&(kL a.Link.Aw&&(kL a.C9&&(kL a.Link.Ag.Aq&&(kL a.Link.AB.Aa&&kL a.Link.AB.Ak))))))) (AA (⟨1,a,a.Link.Ag.Aq⟩:MZ)))) c) c
 | .b1 a b=>let f:=kL a.Link.AB.Aa&&(kL a.Link.AB.Ak&&(kL a.Link.BI&&(kL a.Link.Aw&&(kL a.C9&&(kL a.Link.Ag.Aq&&(kL a.Link.AB.Aa&&kL a.Link.AB.Ak))))));.bind 45 (kQ (⟨0,0,0,b⟩:Be)) (fun(d:Int)=>.br (d != 0) (kl a.Link.Ag.Aq (.chk f (AA (⟨d,a,a.Link.Ag.Aq⟩:MZ)))) (.br (decide ((↑b.Payload.length:Int)>a.Link.AB.Length)) (kl a.Link.Ag.Aq (.chk f (AA (⟨4,a,a.Link.Ag.Aq⟩:MZ)))) (kl a.Link.AB.Aa (kl a.Link.AB.Ak (.bind 4 (Za a.Link.AB) (fun(e:Bool)=>.br e (kl a.Link.Ag.Aq (.chk f (AA (⟨20,a,a.Link.Ag.Aq⟩:MZ)))) (kl a.Link.Ag.Aq (.bind 189 (Z1n a.Link.Ag b) (fun(c:Bd×Int)=>.br (c.2 != 0) (kl a.Link.Ag.Aq (.chk f (AA (⟨c.2,a,a.Link.Ag.Aq⟩:MZ)))) (.chk f (AA (⟨0,(⟨({ a.Link with Ag:=c.1 }:Ac),a.C9⟩:EM),a.Link.Ag.Aq⟩:MZ))))))))))))
def Z8 (a:BB) (b:EM):Option MZ:=AY jY (.b0 a b)
def Z5L:Shape:=⟨[PQ 0,.agg [.v 68 2 true]],[.var 118 67 (Oe 1),.row 68 true,.row 156 true,.row 138 true,.row 99 true,.row 156 true,.row 148 true]⟩
def Zgh:Shape:=⟨[OV 45],[.var 118 67 (.agg [VC 3 1,.v 28 11 true,VC 3 1,VC 30 1,VC 3 1,VC 3 1,VC 3 1,VC 3 1,VC 3 1,VC 4 1,VC 4 1,VC 4 1,VC 4 1,VC 4 1,.v 33 7 true,.v 35 3 true,VC 3 1,VC 3 1,VC 3 1,.own 156 2,VC 3 1,VC 3 1,.own 138 3,VC 4 1,VC 25 1,VC 25 1,VC 4 1,VC 4 1,VC 3 1,VC 3 1,VC 3 1,VC 25 1,VC 25 1,VC 25 1,VC 3 1,VC 3 1,.v 41 7 true,VC 29 1,.own 99 4,.own 156 5,VC 3 1,VC 25 1,.own 148 6]),.row 68 false,.row 156 false,.row 138 false,.row 99 true,.row 156 true,.row 148 true]⟩
noncomputable def Zk8:HMod U:=⟨[KP,[.keep,.s 5 1]],[.var k9,.row true,.row true,.row true,.row true,.row true,.row true],Z5L,Zgh,true,1355,fun(y:MZ)=>(((y.q0,()),()),((y.q1.Link.BR,(y.q1.Link.CZ,(y.q1.Link.Clock,(y.q1.Link.Event,(y.q1.Link.Last,(y.q1.Link.Fq,(y.q1.Link.Size,(y.q1.Link.Sync,(y.q1.Link.Hf,(y.q1.Link.Gq,(y.q1.Link.Hm,(y.q1.Link.Good,(y.q1.Link.Ec,(y.q1.Link.More,(y.q1.Link.Ag,(y.q1.Link.FZ,(y.q1.Link.AB.BR,(y.q1.Link.AB.Own,(y.q1.Link.AB.Since,(y.q1.Link.AB.Other,(y.q1.Link.AB.Gz,(y.q1.Link.AB.Told,(y.q1.Link.AB.DK,(y.q1.Link.AB.Ic,(y.q1.Link.AB.Fg,(y.q1.Link.AB.FX,(y.q1.Link.AB.Version,(y.q1.Link.AB.Length,(y.q1.Link.AB.Limit,(y.q1.Link.AB.CE,(y.q1.Link.AB.GK,(y.q1.Link.AB.Mark,(y.q1.Link.AB.CJ,(y.q1.Link.AB.ER,(y.q1.Link.Dk,(y.q1.Link.Key,(y.q1.Link.Bq,(y.q1.Link.Eg,())))))))))))))))))))))))))))))))))))))),(y.q2,(y.q1.Link.AB.Aa,(y.q1.Link.AB.Ak,(y.q1.Link.BI,(y.q1.Link.Aw,(y.q1.C9,())))))))),fun x=>Z8 x.1.2.1.1 (match x with|⟨_,⟨v0,v2,v4,v6,v8,q,A,C,D,F,G,I,J,M,N,O,Q,S,Y,v25,v26,v27,v28,v29,v30,v31,v32,v33,v34,v35,v36,v37,v38,v39,v40,v41,v42,v43,v44,v45,v46,v47,v48,_⟩,v1,v3,v5,v7,v9,z,_⟩=>(⟨(⟨v0,v2,v4,v6,v8,q,A,C,D,F,G,I,J,M,(⟨N,O,v1,Q,S,Y,v25⟩:Bd),v26,(⟨v27,v28,v29,v3,v30,v31,v5,v32,v33,v34,v35,v36,v37,v38,v39,v40,v41,v42,v43,v44⟩:A7),v45,v46,v7,v9,v47,v48⟩:Ac),z⟩:EM)),okS rfl⟩
def Z5T:Lay:=⟨[0,3],[KP,KP],[.var k9,.row true,.row true,.row true,.row true,.row true,.row true,.var [.keep,.s 5 1]],⟨[PQ 0,PQ 7],[.var 118 67 (Oe 1),.row 68 true,.row 156 true,.row 138 true,.row 99 true,.row 156 true,.row 148 true,VA 68 2]⟩⟩
def Zk9:Nat->Option Lay
 | 3=>some Z5T
 | _=>none
def ZiH:Zc->Ae U
 | .b0 a b=>E5 f193 Z5L (((),((a,()),())),(Px b))
 | .b1 a b=>AA3 f193 [1,1,0,0] Z5T (a.Link.BR,a.Link.CZ,a.Link.Clock,a.Link.Event,a.Link.Last,a.Link.Fq,a.Link.Size,a.Link.Sync,a.Link.Hf,a.Link.Gq,a.Link.Hm,a.Link.Good,a.Link.Ec,a.Link.More,a.Link.Ag.SN,a.Link.Ag.Ee,a.Link.Ag.Open,a.Link.Ag.Empty,a.Link.Ag.Ec,a.Link.Ag.Taken,a.Link.FZ,a.Link.AB.BR,a.Link.AB.Own,a.Link.AB.Since,a.Link.AB.Other,a.Link.AB.Gz,a.Link.AB.Told,a.Link.AB.DK,a.Link.AB.Ic,a.Link.AB.Fg,a.Link.AB.FX,a.Link.AB.Version,a.Link.AB.Length,a.Link.AB.Limit,a.Link.AB.CE,a.Link.AB.GK,a.Link.AB.Mark,a.Link.AB.CJ,a.Link.AB.ER,a.Link.Dk,a.Link.Key,a.Link.Bq,a.Link.Eg,a.Link.Ag.Aq,a.Link.AB.Aa,a.Link.AB.Ak,a.Link.BI,a.Link.Aw,a.C9,b,())
theorem Zib:DU Tryz.prog B0 193 Zk8:=okR (mc Zj0 (mc Zps (mc Z6J Af))) Ah Zk9 [KP] [.var [.keep,.keep,.keep,.keep,.keep,.keep,.keep,.keep,.keep,.keep,.keep,.keep,.keep,.keep,.keep,.keep,.keep,.keep,.keep,.keep,.keep,.keep,.keep,.keep,.keep,.keep,.s 68 2,.keep,.keep,.keep,.keep,.keep,.keep,.keep,.keep,.keep,.keep,.own 156 15,.keep,.keep,.own 138 8,.keep,.keep,.keep,.keep,.keep,.keep,.keep,.keep,.keep,.keep,.keep,.keep,.keep,.keep,.keep,.keep,.keep,.keep,.keep,.keep,.keep,.own 99 2,.own 156 15,.keep,.keep,.own 148 18],.row false,.row false,.row false,.row true,.row true,.row true] 7 ZiH func193 (fun p=>by cases p<;>kernel_rfl) (by kernel_rfl) fun x=>by kernel_rfl
inductive Z12 where
 | b0 (a b:Int)
def Z8Q:Z12->Tr U (Int⊕Z12)
 | .b0 a b=>AA (IntKind.wrap .u16 (a+(IntKind.wrap .u16 (b))))
def UX (a b:Int):Option Int:=AY Z8Q (.b0 a b)
def ZnC:Z12->Ae U
 | .b0 a b=>Am f83 [30,3] (a,b,())
theorem Z7Y:AA1 83 [30,3] 30 (fun x=>UX x.1 x.2.1) rfl:=Ap Af Ah AN ZnC func83 (fun p=>by cases p<;>kernel_rfl) (by kernel_rfl) fun _=>rfl
inductive wZ where
 | b0 (a:Nl)
def Z5s:wZ->Tr U (Int⊕wZ)
 | .b0 a=>.bind 30 (UX a.Link.Event a.Link.CZ.BG.Dq) (fun(b:Int)=>AA b)
def iZ (a:Nl):Option Int:=AY Z5s (.b0 a)
def Zgb:wZ->Ae U
 | .b0 a=>Am f88 [115] (a,())
theorem Z5l:AA1 88 [115] 30 (fun x=>iZ x.1) rfl:=Ap (mc Z7Y Af) Ah AN Zgb func88 (fun p=>by cases p<;>kernel_rfl) (by kernel_rfl) fun _=>rfl
inductive xJ where
 | b0 (a:Int)
def Zgx:xJ->Tr U (Bool⊕xJ)
 | .b0 a=>.br (a==0) (AA true) (AA (a==1))
def jF (a:Int):Option Bool:=AY Zgx (.b0 a)
def Zge:xJ->Ae U
 | .b0 a=>Am f182 [3] (a,())
theorem Z5A:AA1 182 [3] 4 (fun x=>jF x.1) rfl:=Ap Af Ah AN Zge func182 (fun p=>by cases p<;>kernel_rfl) (by kernel_rfl) fun _=>rfl
end
end Go.Proofs.YtjodhcdmhobmoaaGreatDoor
namespace Go.Proofs.YtjodhcdmhobmoaaGreatDoor
open Tryz
open Go Go.RowKit Go.Maps Go.MapKept Go.ChangeMaps
attribute [local go_sem] Oper.semAt_some
set_option maxRecDepth 100000
theorem hao (w:World) (o:Obj) (i:Nat) (h:i<w.heap.size):(w.alloc o).heap[i]? = w.heap[i]?:=by
 show (w.heap.push o)[i]? = w.heap[i]?;rw[Array.getElem?_push,if_neg (Nat.ne_of_lt h)]
theorem Zzs (F:Fence) (n:Nat) (h:F.fn 289) (q:F.round=none) (W:World):CallsIn F n Tryz.prog 289 #[] W fun e z =>e = .returned (.agg #[.slice none 0 0,.func (.func 348) #[] #[],.func (.func 349) #[] #[],.func (.func 309) #[] #[]])/\z = W.alloc (.cells #[.slice none 0 0,.func (.func 348) #[] #[],.func (.func 349) #[] #[],.func (.func 309) #[] #[]] 248):=by
 refine callsIn_of_wp func289 rfl h ?_ q;simp only[Tryz.ntmps289,List.size_toArray,List.length_cons,List.length_nil,Nat.reduceAdd,Nat.reduceSub,Array.replicate_succ,Array.replicate_zero,List.push_toArray,List.append_toArray,List.nil_append,List.cons_append]
 gi_wp2
 exact bodyPost_ret (results_cell_row rfl _ _ W.heap.size 248 _ _ _ rfl (heap_alloc_new _ _) (by rfl) rfl (by rfl)) rfl ⟨rfl,rfl⟩
theorem ZCm (F:Fence) (n:Nat) (h:F.fn 290) (q:F.round=none) (W:World):CallsIn F n Tryz.prog 290 #[] W fun e z =>e = .returned (.agg #[.slice (some ⟨W.heap.size+1,0,none⟩) 1 1,.func (.func 350) #[] #[],.func (.func 351) #[] #[],.func (.func 309) #[] #[]])/\z = (W.alloc (.cells #[.slice (some ⟨W.heap.size+1,0,none⟩) 1 1,.func (.func 350) #[] #[],.func (.func 351) #[] #[],.func (.func 309) #[] #[]] 248)).alloc (.cells #[.int .i64 8] 3):=by
 refine callsIn_of_wp func290 rfl h ?_ q;simp only[Tryz.ntmps290,List.size_toArray,List.length_cons,List.length_nil,Nat.reduceAdd,Nat.reduceSub,Array.replicate_succ,Array.replicate_zero,List.push_toArray,List.append_toArray,List.nil_append,List.cons_append]
 gi_wp2
 exact bodyPost_ret (results_cell_row rfl _ _ W.heap.size 248 _ _ _ rfl ((hao _ _ _ (by simp)).trans (heap_alloc_new _ _)) (by rfl) rfl (by rfl)) rfl ⟨rfl,rfl⟩
theorem ZBY (F:Fence) (n:Nat) (h:F.fn 291) (q:F.round=none) (W:World):CallsIn F n Tryz.prog 291 #[] W fun e z =>e = .returned (.agg #[.slice (some ⟨W.heap.size+1,0,none⟩) 1 1,.func (.func 352) #[] #[],.func (.func 353) #[] #[],.func (.func 354) #[] #[]])/\z = (W.alloc (.cells #[.slice (some ⟨W.heap.size+1,0,none⟩) 1 1,.func (.func 352) #[] #[],.func (.func 353) #[] #[],.func (.func 354) #[] #[]] 248)).alloc (.cells #[.int .i64 1] 3):=by
 refine callsIn_of_wp func291 rfl h ?_ q;simp only[Tryz.ntmps291,List.size_toArray,List.length_cons,List.length_nil,Nat.reduceAdd,Nat.reduceSub,Array.replicate_succ,Array.replicate_zero,List.push_toArray,List.append_toArray,List.nil_append,List.cons_append]
 gi_wp2
 exact bodyPost_ret (results_cell_row rfl _ _ W.heap.size 248 _ _ _ rfl ((hao _ _ _ (by simp)).trans (heap_alloc_new _ _)) (by rfl) rfl (by rfl)) rfl ⟨rfl,rfl⟩
def MA (w:World) (b:Nat) (L:List (Int×Value)):Prop:=∃es c,w.heap[b]? = some (.map es c)/\es.toList.map (fun x=>(x.key,x.val))=L.map fun p=>(Value.int .i64 p.1,p.2)
theorem MA.put {P:Program} {w:World} {b:Nat} {L:List (Int×Value)} (h:MA w b L) (K:Keyed P 3) {t e:TypeId} (ht:P.underlying t=some (.map 3 e)) (k:Int) (v:Value) (M:keyOf P 3 (.int .i64 k)=some (.int .i64 k)) (A:L.all (fun p=>p.1 != k)=true) (S:∀p∈L,keyOf P 3 (.int .i64 p.1)=some (.int .i64 p.1)) :
  ∃w',(Instr.mapUpdate t (.map (some b)) (.int .i64 k) v).run P w = .ok () w' /\ MA w' b (L++[(k,v)])/\w.grownBy w' (some b):=by
 obtain⟨es,c,hb,J⟩:=h;have z:∀x∈es.toList,∃p∈L,x.key = .int .i64 p.1:=fun x D=>by
  have I:(x.key,x.val)∈es.toList.map (fun x=>(x.key,x.val)):=List.mem_map.2 ⟨x,D,rfl⟩;rw[J]at I;obtain⟨p,C,q⟩:=List.mem_map.1 I;exact⟨p,C,(congrArg Prod.fst q).symm⟩
 have Y:∀o:Obj,w.grownBy (setBlock w b o) (some b):=fun o=>⟨rfl,rfl,rfl,by simp[setBlock],fun i _ hi=>heap_setBlock_other hb _ (fun e=>hi (by rw[e]))⟩;rcases K.find w M es.toList (fun x D=>by obtain⟨p,C,q⟩:=z x D;exact⟨_,by rw[q];exact S p C⟩) with ⟨F,G⟩|⟨j,N,F,G,O⟩
 ·refine⟨setBlock w b (.map (es.push ⟨.int .i64 k,v,c⟩) (c+1)),?_,⟨_,_,heap_setBlock_same hb _,?_⟩,Y _⟩
  ·simp[Instr.mapUpdate,run_underlying ht,MapKept.run_getObj_map hb,K.check w false M,F,MapKept.run_setObj_map _ hb,Result.andThen,setBlock]
  ·rw[Array.toList_push,List.map_append,J,List.map_append];rfl
 ·exfalso;obtain⟨p,C,q⟩:=z N (List.mem_of_getElem? G);have:=List.all_eq_true.1 A p C;rw[O]at q;injection q with _ Q
  rw[Q]at this;simp at this
structure FS (w0 w:World) (L:List (Int×Value)) (R:List (Nat×Array Value)):Prop where
 map:MA w w0.heap.size L
 rows:∀p∈R,w0.heap.size<p.1/\w.heap[p.1]? = some (.cells p.2 3)
 below:Below w0.heap.size w0 w
 sz:w0.heap.size<w.heap.size
theorem FS.start (w:World):FS w (w.alloc (.map #[] 0)) [] []:=
 ⟨⟨#[],0,(MapKept.heap_alloc w _).1,rfl⟩,by simp,(Below.refl _ _).alloc (Nat.le_refl _) _,by simp⟩
theorem FS.cells {w0 w:World} {L R} (h:FS w0 w L R) (cs:Array Value) (t:TypeId):FS w0 (w.alloc (.cells cs t)) L R:=by
 obtain⟨⟨es,c,hb,D⟩,q,C,A⟩:=h;refine⟨⟨es,c,(hao _ _ _ A).trans hb,D⟩,fun p z=>⟨(q p z).1,(hao _ _ _ ?_).trans (q p z).2⟩,C.alloc (Nat.le_of_lt A) _,by simp;omega⟩;have:=(q p z).2;exact(Array.getElem?_eq_some_iff.1 this).1
theorem FS.row {w0 w:World} {L R} (h:FS w0 w L R) (cs:Array Value):FS w0 (w.alloc (.cells cs 3)) L ((w.heap.size,cs)::R):=by
 have q:=h.cells cs 3;refine⟨q.map,fun p hp=>?_,q.below,q.sz⟩;rcases List.mem_cons.1 hp with rfl|hp
 ·exact⟨h.sz,heap_alloc_new _ _⟩
 ·exact q.rows p hp
theorem FS.rowA {w0 w:World} {L R} (h:FS w0 w L R) (cs:Array Value) (a:Nat) (q:a=w.heap.size):FS w0 (w.alloc (.cells cs 3)) L ((a,cs)::R):=q▸h.row cs
theorem FS.put {w0 w:World} {L R} (h:FS w0 w L R) (k:Int) (v:Value) (M:(Lit.int .i64 k).wf=true) (q:L.all (fun p=>p.1 != k)=true) (J:L.all (fun p=>(Lit.int .i64 p.1).wf)=true) :
  ∃w',(Instr.mapUpdate 249 (.map (some w0.heap.size)) (.int .i64 k) v).run Tryz.prog w = .ok () w' /\ FS w0 w' (L++[(k,v)]) R:=by
 have A:Tryz.prog.underlying 3=some (.int .i64):=by rfl
 obtain⟨w',G,I,C⟩:=h.map.put (int_keyed A) (t:=249) (e:=248) (by rfl) k v (keyOf_int_mk A M) q (fun p z=>keyOf_int_mk A (List.all_eq_true.1 J p z));have N:=C.size;refine⟨w',G,I,fun p z=>⟨(h.rows p z).1,?_⟩,h.below.grown C h.below.size (fun k e=>by cases e;exact Nat.le_refl _),by have:=h.sz;omega⟩;have F:=(h.rows p z).2;obtain⟨_,_,_,_,D⟩:=C;exact(D p.1 (Array.getElem?_eq_some_iff.1 F).1 (fun e=>by have:=(h.rows p z).1;injection e with e;omega)).trans F
def frmL (D F G I J M N O Q q z A C:Nat):List (Int×Value):=[(5,.agg #[.slice none 0 0,.func (.func 348) #[] #[],.func (.func 349) #[] #[],.func (.func 309) #[] #[]]),
 (6,.agg #[.slice none 0 0,.func (.func 348) #[] #[],.func (.func 349) #[] #[],.func (.func 309) #[] #[]]),
 (18,.agg #[.slice none 0 0,.func (.func 348) #[] #[],.func (.func 349) #[] #[],.func (.func 309) #[] #[]]),
 (19,.agg #[.slice none 0 0,.func (.func 348) #[] #[],.func (.func 349) #[] #[],.func (.func 309) #[] #[]]),
 (8,.agg #[.slice (some ⟨D,0,none⟩) 1 1,.func (.func 350) #[] #[],.func (.func 351) #[] #[],.func (.func 309) #[] #[]]),
 (9,.agg #[.slice (some ⟨F,0,none⟩) 1 1,.func (.func 350) #[] #[],.func (.func 351) #[] #[],.func (.func 309) #[] #[]]),
 (20,.agg #[.slice (some ⟨G,0,none⟩) 1 1,.func (.func 352) #[] #[],.func (.func 353) #[] #[],.func (.func 354) #[] #[]]),
 (21,.agg #[.slice (some ⟨I,0,none⟩) 1 1,.func (.func 352) #[] #[],.func (.func 353) #[] #[],.func (.func 354) #[] #[]]),
 (0,.agg #[.slice (some ⟨J,0,none⟩) 6 6,.func (.func 292) #[] #[],.func (.func 294) #[] #[],.func (.func 296) #[] #[]]),
 (1,.agg #[.slice (some ⟨M,0,none⟩) 2 2,.func (.func 297) #[] #[],.func (.func 298) #[] #[],.func (.func 299) #[] #[]]),
 (15,.agg #[.slice (some ⟨N,0,none⟩) 5 5,.func (.func 300) #[] #[],.func (.func 301) #[] #[],.func (.func 302) #[] #[]]),
 (2,.agg #[.slice (some ⟨O,0,none⟩) 1 1,.func (.func 303) #[] #[],.func (.func 304) #[] #[],.func (.func 305) #[] #[]]),
 (3,.agg #[.slice (some ⟨Q,0,none⟩) 2 2,.func (.func 307) #[] #[],.func (.func 308) #[] #[],.func (.func 309) #[] #[]]),
 (4,.agg #[.slice (some ⟨q,0,none⟩) 1 1,.func (.func 310) #[] #[],.func (.func 311) #[] #[],.func (.func 309) #[] #[]]),
 (7,.agg #[.slice (some ⟨z,0,none⟩) 1 1,.func (.func 312) #[] #[],.func (.func 313) #[] #[],.func (.func 314) #[] #[]]),
 (12,.agg #[.slice (some ⟨A,0,none⟩) 1 1,.func (.func 315) #[] #[],.func (.func 316) #[] #[],.func (.func 317) #[] #[]]),
 (13,.agg #[.slice (some ⟨C,0,none⟩) 2 2,.func (.func 318) #[] #[],.func (.func 319) #[] #[],.func (.func 320) #[] #[]])]
def Jm (D F G I J M N O Q q z A C:Nat):List (Nat×Array Value):=[(C,#[.int .i64 1,.int .i64 1]),(A,#[.int .i64 1]),(z,#[.int .i64 1]),(q,#[.int .i64 8]),(Q,#[.int .i64 8,.int .i64 8]),(O,#[.int .i64 1]),(N,#[.int .i64 1,.int .i64 2,.int .i64 2,.int .i64 2,.int .i64 2]),(M,#[.int .i64 5,.int .i64 2]),(J,#[.int .i64 1,.int .i64 2,.int .i64 2,.int .i64 2,.int .i64 2,.int .i64 2]),(I,#[.int .i64 1]),(G,#[.int .i64 1]),(F,#[.int .i64 8]),(D,#[.int .i64 8])]
set_option maxHeartbeats 4000000 in
theorem Zz8 (F:Fence) (n:Nat) (h9:F.fn 289) (h0:F.fn 290) (h1:F.fn 291) (h:F.fn 229) (q:F.round=none) (hn:1<=n) (w:World):CallsIn F n Tryz.prog 229 #[] w fun e W' =>e = .returned (.map (some w.heap.size))/\∃a1 a2 a3 a4 a5 a6 a7 a8 a9 z A C D,FS w W' (frmL a1 a2 a3 a4 a5 a6 a7 a8 a9 z A C D) (Jm a1 a2 a3 a4 a5 a6 a7 a8 a9 z A C D):=by
 have hmm:=@run_makeMap Tryz.prog;have G0:=FS.start w;have H1:=G0.cells #[.slice none 0 0,.func (.func 348) #[] #[],.func (.func 349) #[] #[],.func (.func 309) #[] #[]] 248;obtain⟨w1,u1,G1⟩:=H1.put 5 (.agg #[.slice none 0 0,.func (.func 348) #[] #[],.func (.func 349) #[] #[],.func (.func 309) #[] #[]]) (by decide) rfl rfl;have H2:=G1.cells #[.slice none 0 0,.func (.func 348) #[] #[],.func (.func 349) #[] #[],.func (.func 309) #[] #[]] 248;obtain⟨w2,u2,G2⟩:=H2.put 6 (.agg #[.slice none 0 0,.func (.func 348) #[] #[],.func (.func 349) #[] #[],.func (.func 309) #[] #[]]) (by decide) rfl rfl;have H3:=G2.cells #[.slice none 0 0,.func (.func 348) #[] #[],.func (.func 349) #[] #[],.func (.func 309) #[] #[]] 248;obtain⟨w3,u3,G3⟩:=H3.put 18 (.agg #[.slice none 0 0,.func (.func 348) #[] #[],.func (.func 349) #[] #[],.func (.func 309) #[] #[]]) (by decide) rfl rfl;have H4:=G3.cells #[.slice none 0 0,.func (.func 348) #[] #[],.func (.func 349) #[] #[],.func (.func 309) #[] #[]] 248;obtain⟨S,u4,G4⟩:=H4.put 19 (.agg #[.slice none 0 0,.func (.func 348) #[] #[],.func (.func 349) #[] #[],.func (.func 309) #[] #[]]) (by decide) rfl rfl;have H5:=(G4.cells #[.slice (some ⟨S.heap.size+1,0,none⟩) 1 1,.func (.func 350) #[] #[],.func (.func 351) #[] #[],.func (.func 309) #[] #[]] 248).rowA #[.int .i64 8] (S.heap.size+1) (by simp);obtain⟨Y,u5,G5⟩:=H5.put 8 (.agg #[.slice (some ⟨S.heap.size+1,0,none⟩) 1 1,.func (.func 350) #[] #[],.func (.func 351) #[] #[],.func (.func 309) #[] #[]]) (by decide) rfl rfl;have H6:=(G5.cells #[.slice (some ⟨Y.heap.size+1,0,none⟩) 1 1,.func (.func 350) #[] #[],.func (.func 351) #[] #[],.func (.func 309) #[] #[]] 248).rowA #[.int .i64 8] (Y.heap.size+1) (by simp);obtain⟨w6,u6,G6⟩:=H6.put 9 (.agg #[.slice (some ⟨Y.heap.size+1,0,none⟩) 1 1,.func (.func 350) #[] #[],.func (.func 351) #[] #[],.func (.func 309) #[] #[]]) (by decide) rfl rfl;have H7:=(G6.cells #[.slice (some ⟨w6.heap.size+1,0,none⟩) 1 1,.func (.func 352) #[] #[],.func (.func 353) #[] #[],.func (.func 354) #[] #[]] 248).rowA #[.int .i64 1] (w6.heap.size+1) (by simp);obtain⟨w7,u7,G7⟩:=H7.put 20 (.agg #[.slice (some ⟨w6.heap.size+1,0,none⟩) 1 1,.func (.func 352) #[] #[],.func (.func 353) #[] #[],.func (.func 354) #[] #[]]) (by decide) rfl rfl;have H8:=(G7.cells #[.slice (some ⟨w7.heap.size+1,0,none⟩) 1 1,.func (.func 352) #[] #[],.func (.func 353) #[] #[],.func (.func 354) #[] #[]] 248).rowA #[.int .i64 1] (w7.heap.size+1) (by simp);obtain⟨w8,u8,G8⟩:=H8.put 21 (.agg #[.slice (some ⟨w7.heap.size+1,0,none⟩) 1 1,.func (.func 352) #[] #[],.func (.func 353) #[] #[],.func (.func 354) #[] #[]]) (by decide) rfl rfl;have H9:=G8.row #[.int .i64 1,.int .i64 2,.int .i64 2,.int .i64 2,.int .i64 2,.int .i64 2];obtain⟨w9,u9,G9⟩:=H9.put 0 (.agg #[.slice (some ⟨w8.heap.size,0,none⟩) 6 6,.func (.func 292) #[] #[],.func (.func 294) #[] #[],.func (.func 296) #[] #[]]) (by decide) rfl rfl;have H10:=G9.row #[.int .i64 5,.int .i64 2];obtain⟨G,u10,G10⟩:=H10.put 1 (.agg #[.slice (some ⟨w9.heap.size,0,none⟩) 2 2,.func (.func 297) #[] #[],.func (.func 298) #[] #[],.func (.func 299) #[] #[]]) (by decide) rfl rfl;have H11:=G10.row #[.int .i64 1,.int .i64 2,.int .i64 2,.int .i64 2,.int .i64 2];obtain⟨I,u11,G11⟩:=H11.put 15 (.agg #[.slice (some ⟨G.heap.size,0,none⟩) 5 5,.func (.func 300) #[] #[],.func (.func 301) #[] #[],.func (.func 302) #[] #[]]) (by decide) rfl rfl;have H12:=G11.row #[.int .i64 1];obtain⟨J,u12,G12⟩:=H12.put 2 (.agg #[.slice (some ⟨I.heap.size,0,none⟩) 1 1,.func (.func 303) #[] #[],.func (.func 304) #[] #[],.func (.func 305) #[] #[]]) (by decide) rfl rfl;have H13:=G12.row #[.int .i64 8,.int .i64 8];obtain⟨M,u13,G13⟩:=H13.put 3 (.agg #[.slice (some ⟨J.heap.size,0,none⟩) 2 2,.func (.func 307) #[] #[],.func (.func 308) #[] #[],.func (.func 309) #[] #[]]) (by decide) rfl rfl;have H14:=G13.row #[.int .i64 8];obtain⟨N,u14,G14⟩:=H14.put 4 (.agg #[.slice (some ⟨M.heap.size,0,none⟩) 1 1,.func (.func 310) #[] #[],.func (.func 311) #[] #[],.func (.func 309) #[] #[]]) (by decide) rfl rfl;have H15:=G14.row #[.int .i64 1];obtain⟨O,u15,G15⟩:=H15.put 7 (.agg #[.slice (some ⟨N.heap.size,0,none⟩) 1 1,.func (.func 312) #[] #[],.func (.func 313) #[] #[],.func (.func 314) #[] #[]]) (by decide) rfl rfl;have H16:=G15.row #[.int .i64 1];obtain⟨Q,u16,G16⟩:=H16.put 12 (.agg #[.slice (some ⟨O.heap.size,0,none⟩) 1 1,.func (.func 315) #[] #[],.func (.func 316) #[] #[],.func (.func 317) #[] #[]]) (by decide) rfl rfl;have H17:=G16.row #[.int .i64 1,.int .i64 1];obtain⟨w17,u17,G17⟩:=H17.put 13 (.agg #[.slice (some ⟨Q.heap.size,0,none⟩) 2 2,.func (.func 318) #[] #[],.func (.func 319) #[] #[],.func (.func 320) #[] #[]]) (by decide) rfl rfl;refine callsIn_of_wp func229 rfl h ?_ q;simp only[Tryz.ntmps229,List.size_toArray,List.length_cons,List.length_nil,Nat.reduceAdd,Nat.reduceSub,Array.replicate_succ,Array.replicate_zero,List.push_toArray,List.append_toArray,List.nil_append,List.cons_append]
 gi_wp2_with (first|(gi_at_call 289;refine(Zzs F (n - 1) h9 q _).mono ?_;rintro e w' ⟨rfl,rfl⟩)|(gi_at_call 290;refine(ZCm F (n - 1) h0 q _).mono ?_;rintro e w' ⟨rfl,rfl⟩)|(gi_at_call 291;refine(ZBY F (n - 1) h1 q _).mono ?_;rintro e w' ⟨rfl,rfl⟩))
 exact bodyPost_ret (results_tmp rfl _ _ _) rfl ⟨rfl,S.heap.size+1,Y.heap.size+1,w6.heap.size+1,w7.heap.size+1,w8.heap.size,w9.heap.size,G.heap.size,I.heap.size,J.heap.size,M.heap.size,N.heap.size,O.heap.size,Q.heap.size,G17⟩
open Go.Proofs.YtjodhcdmhobmoaaGreatDoor.Le
theorem KT {w0 w:World} {L R} (h:FS w0 w L R) (fz:Nat->Nat->Prop) {a:Nat} (xs:List Int) (J:(a,(xs.map (Value.int .i64 ·)).toArray)∈R) (M:xs.all (fun x=>(Lit.int .i64 x).wf)=true) (O:xs.length<=100) :
  AQ (bare (fun b c=>fz b c\/(w0.heap.size<b/\∃u,w.cell? ⟨b,c,none⟩=some u))) w [.sl false 1 (xs.map fun x=>.lit (.int .i64 x))] [.slice (some ⟨a,0,none⟩) xs.length xs.length]:=by
 obtain⟨G,I⟩:=h.rows _ J;have A:∀ys:List Int,ys.all (fun x=>(Lit.int .i64 x).wf)=true->AQ (bare (fun b c=>fz b c\/(w0.heap.size<b/\∃u,w.cell? ⟨b,c,none⟩=some u))) w (ys.map fun x=>.lit (.int .i64 x)) (ys.map (Value.int .i64 ·)):=by
  intro ys;induction ys with
  | nil=>intro _;exact .nil
  | cons y ys D=>
   intro C;simp only[List.all_cons,Bool.and_eq_true]at C;exact .lit C.1 (D C.2)
 have q:∀ys:List Int,flat (ys.map (Value.int .i64 ·))=ys.map (Value.int .i64 ·):=by
  intro ys;induction ys with
  | nil=>rfl
  | cons y ys D=>
   show [Value.int .i64 y]++flat (ys.map (Value.int .i64 ·))=_;rw[D];rfl
 have hc:∀j,w.cell? ⟨a,j,none⟩=(xs.map (Value.int .i64 ·)).toArray[j]?:=fun j=>cell_of_row w a j _ 3 _ I;have:=AQ.sl (xs:=[]) (vs:=[]) a 0 xs.length 1 (A xs M) (by intro x N;obtain⟨n,_,rfl⟩:=List.mem_map.1 N;rfl) (by intro u z;obtain⟨n,_,rfl⟩:=List.mem_map.1 z;rfl)
  (by rw[q];intro u z;obtain⟨n,_,rfl⟩:=List.mem_map.1 z;rfl) (by simp) (by rw[show maxLen=9223372036854775807 from rfl];omega)
  (by
   intro j u F;rw[q]at F;have e:w.cell? ⟨a,0+j,none⟩=some u:=by rw[Nat.zero_add,hc];simpa using F
   exact⟨.inr ⟨G,u,e⟩,e⟩) .nil
 rw[List.length_map]at this;exact this
theorem Ia {σ:Sg} {w:World} {k:Int} {xs:List Int} {q:Value} {a b c:Nat} {r:List V} {A:List Value} (C:(Lit.int .i64 k).wf=true) (F:AQ σ w [.sl false 1 (xs.map fun x=>.lit (.int .i64 x))] [q]) (D:q.oneCell' = true) (h:AQ σ w r A) :
  AQ σ w (.lit (.int .i64 k) :: .agg [.sl false 1 (xs.map fun x=>.lit (.int .i64 x)),.fn a [] [],.fn b [] [],.fn c [] []]::r) (.int .i64 k :: .agg #[q,.func (.func a) #[] #[],.func (.func b) #[] #[],.func (.func c) #[] #[]]::A):=
 .lit C (.agg (ws:=[q,.func (.func a) #[] #[],.func (.func b) #[] #[],.func (.func c) #[] #[]]) (AQ.FC.2 ⟨F,.fn (us:=[]) (ws:=[]) .nil .nil (.fn (us:=[]) (ws:=[]) .nil .nil (.fn (us:=[]) (ws:=[]) .nil .nil .nil))⟩) (by intro u z;simp only[List.mem_cons,List.not_mem_nil,or_false]at z;rcases z with rfl|rfl|rfl|rfl<;>first|exact D|rfl) h)
noncomputable def QP:Option Unit:=some ()
noncomputable def Zl4:Aj U:={ ts:=[],rt:=249,fn:=fun _=>QP,ok:=by decide }
theorem Zkd:AA0 229 Zl4:=by
 refine⟨⟨f229,func229,by kernel_rfl,by kernel_rfl⟩,?_⟩
 rintro x a ha fz w vs z hg hr
 cases ha;cases hr.FH;refine(callsIn_wide.1 (Zz8 Fence.wide 3 trivial trivial trivial trivial rfl (by omega) w)).mono ?_
 rintro e w' ⟨rfl,J,M,N,O,Q,S,Y,a8,a9,A,C,D,F,h⟩
 refine⟨_,fun b c=>fz b c\/(w.heap.size<b/\∃u,w'.cell? ⟨b,c,none⟩=some u),rfl,h.below,fun _ _ h=>.inl h,fun b c h hb=>h.elim id (fun h=>absurd hb (by omega)),fun b c G=>?_,?_,rfl⟩
 ·rcases G with G|⟨_,G⟩
  ·obtain⟨u,hu⟩:=z b c G;exact⟨u,(h.below.cell (p:=⟨b,c,none⟩) (cell_lt hu)).trans hu⟩
  ·exact G
 ·obtain⟨es,c,hb,he⟩:=h.map;have I:(frmL J M N O Q S Y a8 a9 A C D F).flatMap (fun p=>[Value.int .i64 p.1,p.2])=es.toList.flatMap (fun e=>[e.key,e.val]):=by
   have h1:(es.toList.map fun x=>(x.key,x.val)).flatMap (fun q:Value×Value=>[q.1,q.2])=es.toList.flatMap (fun e=>[e.key,e.val]):=by rw[List.flatMap_map]
   rw[<- h1,he,List.flatMap_map]
  refine .GY w.heap.size es c (us:=(frmL J M N O Q S Y a8 a9 A C D F).flatMap (fun p=>[Value.int .i64 p.1,p.2])) ?_ hb I .nil;exact Ia (xs:=[]) (by decide) (.ET .nil) rfl (Ia (xs:=[]) (by decide) (.ET .nil) rfl (Ia (xs:=[]) (by decide) (.ET .nil) rfl (Ia (xs:=[]) (by decide) (.ET .nil) rfl (Ia (xs:=[8]) (by decide) (KT h fz [8] (by simp[Jm]) (by decide) (by decide)) rfl (Ia (xs:=[8]) (by decide) (KT h fz [8] (by simp[Jm]) (by decide) (by decide)) rfl (Ia (xs:=[1]) (by decide) (KT h fz [1] (by simp[Jm]) (by decide) (by decide)) rfl (Ia (xs:=[1]) (by decide) (KT h fz [1] (by simp[Jm]) (by decide) (by decide)) rfl (Ia (xs:=[1,2,2,2,2,2]) (by decide) (KT h fz [1,2,2,2,2,2] (by simp[Jm]) (by decide) (by decide)) rfl (Ia (xs:=[5,2]) (by decide) (KT h fz [5,2] (by simp[Jm]) (by decide) (by decide)) rfl (Ia (xs:=[1,2,2,2,2]) (by decide) (KT h fz [1,2,2,2,2] (by simp[Jm]) (by decide) (by decide)) rfl (Ia (xs:=[1]) (by decide) (KT h fz [1] (by simp[Jm]) (by decide) (by decide)) rfl (Ia (xs:=[8,8]) (by decide) (KT h fz [8,8] (by simp[Jm]) (by decide) (by decide)) rfl (Ia (xs:=[8]) (by decide) (KT h fz [8] (by simp[Jm]) (by decide) (by decide)) rfl (Ia (xs:=[1]) (by decide) (KT h fz [1] (by simp[Jm]) (by decide) (by decide)) rfl (Ia (xs:=[1]) (by decide) (KT h fz [1] (by simp[Jm]) (by decide) (by decide)) rfl (Ia (xs:=[1,1]) (by decide) (KT h fz [1,1] (by simp[Jm]) (by decide) (by decide)) rfl (.nil)))))))))))))))))
end Go.Proofs.YtjodhcdmhobmoaaGreatDoor
namespace Go.Proofs.YtjodhcdmhobmoaaGreatDoor
open Tryz
open Go Go.Proofs.YtjodhcdmhobmoaaGreatDoor.Le
set_option maxRecDepth 100000
noncomputable section
inductive ZO where
 | b0 (a:DT)
def Zkt:ZO->Tr U (Rh⊕ZO)
 | .b0 a=>.chk true (AA (⟨[(IntKind.wrap .u64 (a.EX)),(IntKind.wrap .u64 (a.EW)),(IntKind.wrap .u64 (a.Dp)),(IntKind.wrap .u64 (a.Dq)),(IntKind.wrap .u64 (a.Ei))]⟩:Rh))
def kD (a:DT):Option Rh:=AY Zkt (.b0 a)
def Z6f:Shape:=⟨[.agg [.v 24 5 true]],[]⟩
def Zhr:Shape:=⟨[.one (.own 25 0)],[.row 25 true]⟩
noncomputable def Zks:HMod U:=⟨[k17],[],Z6f,Zhr,true,1381,fun(y:Rh)=>(((),()),(y.q0,())),fun x=>kD x.1.1.1,okS rfl⟩
def ZjG:ZO->Ae U
 | .b0 a=>E5 f293 Z6f (((a,()),()),())
theorem Z6y:DU Tryz.prog B0 293 Zks:=okR Af Ah AN [[.own 25 1]] [.row true] 0 ZjG func293 (fun p=>by cases p<;>kernel_rfl) (by kernel_rfl) fun x=>by kernel_rfl
inductive Zt where
 | b0 (a:AL)
def Z6r:Zt->Tr U ((List Int)⊕Zt)
 | .b0 a=>.bind 1381 (kD a.BG) (fun(q:Rh)=>let b:=q.q0++[(IntKind.wrap .u64 (a.CP))];.chk true (kl q.q0 (.chk (kA (q.q0.length+1) 8) (kl b (AA b)))))
def Zy (a:AL):Option (List Int):=AY Z6r (.b0 a)
def Zil:Zt->Ae U
 | .b0 a=>Am f292 [156] (a,())
theorem Zi5:AA1 292 [156] 254 (fun x=>Zy x.1) rfl:=Ap Af (hc [] Z6y Ah) AN Zil func292 (fun p=>by cases p<;>kernel_rfl) (by kernel_rfl) fun _=>rfl
inductive ZG where
 | b0 (a:List Fb)
 | b1 (a:List Fb) (b c:Int)
 | b2 (a:List Fb) (b c:Int)
def Wl:ZG->Tr U (Bool⊕ZG)
 | .b0 a=>AP (.b1 a (↑a.length:Int) (0:Int))
 | .b1 c d a=>.br (decide (a<d)) (.chk (kI a c) (.bind 174 (c[(Int.toNat a)]?) (fun(b:Fb)=>.br (decide (b.TV<b.f_low)) (AA false) (.br (decide (b.TV>b.tN)) (AA false) (AP (.b2 c d a)))))) (AA true)
 | .b2 a b c=>AP (.b1 a b (AV (c+1)))
def ZI (a:List Fb):Option Bool:=AY Wl (.b0 a)
def jQ:Lay:=⟨[5,6,7],[[.s 174 3],KP,KP],[],⟨[OV 240,OV 3,OV 3],[]⟩⟩
def ZkG:Nat->Option Lay
 | 2=>some jQ
 | 6=>some jQ
 | _=>none
def Zjz:ZG->Ae U
 | .b0 a=>Am f124 [240] (a,())
 | .b1 a b c=>AA3 f124 [1,0,1,0,0,0] jQ (a,b,c,())
 | .b2 a b c=>AA3 f124 [1,0,1,0,0,1,1,1] jQ (a,b,c,())
theorem Zjo:AA1 124 [240] 4 (fun x=>ZI x.1) rfl:=Ap Af Ah ZkG Zjz func124 (fun p=>by cases p<;>kernel_rfl) (by kernel_rfl) fun _=>rfl
inductive wW where
 | b0 (a:DT)
def Z5h:wW->Tr U (Int⊕wW)
 | .b0 a=>let c:=AA (11:Int);.chk true (.bind 4 (ZI ([(⟨a.EX,1,8⟩:Fb),(⟨a.EW,0,3200⟩:Fb),(⟨a.Dp,6,3200⟩:Fb),(⟨a.Dq,0,499⟩:Fb),(⟨a.Ei,10,3200⟩:Fb)])) (fun(b:Bool)=>.br (!b) (AA (5:Int)) (.br (decide (a.EX>=a.Dp)) c (.br (decide (a.EW>a.Dp)) c (.br (decide ((AV (a.Ei*10000))<=(AV ((AV ((AV ((2:Int)*(AV (a.Dq+1))))*a.Dp))*1250)))) c (AA (0:Int)))))))
def iV (a:DT):Option Int:=AY Z5h (.b0 a)
def ZfQ:wW->Ae U
 | .b0 a=>Am f122 [24] (a,())
theorem Z5e:AA1 122 [24] 45 (fun x=>iV x.1) rfl:=Ap (mc Zjo Af) Ah AN ZfQ func122 (fun p=>by cases p<;>kernel_rfl) (by kernel_rfl) fun _=>rfl
inductive Zd where
 | b0 (a:AL)
def Z6F:Zd->Tr U (Int⊕Zd)
 | .b0 a=>.bind 45 (iV a.BG) (fun(b:Int)=>AA b)
def Zr (a:AL):Option Int:=AY Z6F (.b0 a)
def ZhN:Zd->Ae U
 | .b0 a=>Am f296 [156] (a,())
theorem Zjd:AA1 296 [156] 45 (fun x=>Zr x.1) rfl:=Ap (mc Z5e Af) Ah AN ZhN func296 (fun p=>by cases p<;>kernel_rfl) (by kernel_rfl) fun _=>rfl
inductive Z4 where
 | b0 (a:AL)
def Zk2:Z4->Tr U ((List Int)⊕Z4)
 | .b0 a=>.chk true (AA ([a.Map,(IntKind.wrap .u64 (a.CP))]))
def Z7 (a:AL):Option (List Int):=AY Zk2 (.b0 a)
def ZiV:Z4->Ae U
 | .b0 a=>Am f297 [156] (a,())
theorem ZhF:AA1 297 [156] 254 (fun x=>Z7 x.1) rfl:=Ap Af Ah AN ZiV func297 (fun p=>by cases p<;>kernel_rfl) (by kernel_rfl) fun _=>rfl
inductive wM where
 | b0 (a:Int)
def ZfK:wM->Tr U (Int⊕wM)
 | .b0 a=>let c:=(IntKind.wrap .u64 ((bits .and .u64 (Int.fdiv a (2 ^ (1:Nat))) (6148914691236517205:Int))+(bits .and .u64 a (6148914691236517205:Int))));let e:=(IntKind.wrap .u64 ((bits .and .u64 (Int.fdiv c (2 ^ (2:Nat))) (3689348814741910323:Int))+(bits .and .u64 c (3689348814741910323:Int))));let b:=(bits .and .u64 (IntKind.wrap .u64 ((Int.fdiv e (2 ^ (4:Nat)))+e)) (1085102592571150095:Int));let f:=(IntKind.wrap .u64 (b+(Int.fdiv b (2 ^ (8:Nat)))));let d:=(IntKind.wrap .u64 (f+(Int.fdiv f (2 ^ (16:Nat)))));AA (bits .and .i64 (AV ((IntKind.wrap .u64 (d+(Int.fdiv d (2 ^ (32:Nat))))))) (127:Int))
def iT (a:Int):Option Int:=AY ZfK (.b0 a)
def ZfB:wM->Ae U
 | .b0 a=>Am f287 [25] (a,())
theorem ZfA:AA1 287 [25] 3 (fun x=>iT x.1) rfl:=Ap Af Ah AN ZfB func287 (fun p=>by cases p<;>kernel_rfl) (by kernel_rfl) fun _=>rfl
inductive Z05 where
 | b0 (a:Int)
def Z74:Z05->Tr U (Int⊕Z05)
 | .b0 a=>.bind 3 (iT (bits .and .u64 a (137438953471:Int))) (fun(b:Int)=>AA b)
def kH (a:Int):Option Int:=AY Z74 (.b0 a)
def ZkF:Z05->Ae U
 | .b0 a=>Am f218 [26] (a,())
theorem Z6V:AA1 218 [26] 3 (fun x=>kH x.1) rfl:=Ap (mc ZfA Af) Ah AN ZkF func218 (fun p=>by cases p<;>kernel_rfl) (by kernel_rfl) fun _=>rfl
inductive ZY where
 | b0 (a:Int)
def Z73:ZY->Tr U (Int⊕ZY)
 | .b0 a=>.br ((bits .andNot .u64 a (137438953471:Int)) != 0) (AA (5:Int)) (.bind 3 (kH a) (fun(b:Int)=>.br (decide (b<2)) (AA (1:Int)) (AA (0:Int))))
def ZT (a:Int):Option Int:=AY Z73 (.b0 a)
def Zkj:ZY->Ae U
 | .b0 a=>Am f123 [26] (a,())
theorem Zkc:AA1 123 [26] 45 (fun x=>ZT x.1) rfl:=Ap (mc Z6V Af) Ah AN Zkj func123 (fun p=>by cases p<;>kernel_rfl) (by kernel_rfl) fun _=>rfl
inductive zV where
 | b0 (a:AL)
def Z6s:zV->Tr U (Int⊕zV)
 | .b0 a=>.bind 45 (ZT a.Map) (fun(b:Int)=>AA b)
def Zj (a:AL):Option Int:=AY Z6s (.b0 a)
def ZhY:zV->Ae U
 | .b0 a=>Am f299 [156] (a,())
theorem Ziy:AA1 299 [156] 45 (fun x=>Zj x.1) rfl:=Ap (mc Zkc Af) Ah AN ZhY func299 (fun p=>by cases p<;>kernel_rfl) (by kernel_rfl) fun _=>rfl
inductive Zi where
 | b0 (a:AL)
def Z6w:Zi->Tr U ((List Int)⊕Zi)
 | .b0 a=>.bind 1381 (kD a.BG) (fun(q:Rh)=>kl q.q0 (AA q.q0))
def Z9 (a:AL):Option (List Int):=AY Z6w (.b0 a)
def ZiW:Zi->Ae U
 | .b0 a=>Am f300 [156] (a,())
theorem Ziw:AA1 300 [156] 254 (fun x=>Z9 x.1) rfl:=Ap Af (hc [] Z6y Ah) AN ZiW func300 (fun p=>by cases p<;>kernel_rfl) (by kernel_rfl) fun _=>rfl
inductive zU where
 | b0 (a:AL)
def Z6t:zU->Tr U (Int⊕zU)
 | .b0 a=>.bind 45 (iV a.BG) (fun(b:Int)=>AA b)
def Zg (a:AL):Option Int:=AY Z6t (.b0 a)
def Zj5:zU->Ae U
 | .b0 a=>Am f302 [156] (a,())
theorem ZhV:AA1 302 [156] 45 (fun x=>Zg x.1) rfl:=Ap (mc Z5e Af) Ah AN Zj5 func302 (fun p=>by cases p<;>kernel_rfl) (by kernel_rfl) fun _=>rfl
inductive zS where
 | b0 (a:AL)
def ZiZ:zS->Tr U ((List Int)⊕zS)
 | .b0 a=>.chk true (AA ([(IntKind.wrap .u64 (a.Bq))]))
def yV (a:AL):Option (List Int):=AY ZiZ (.b0 a)
def Zhx:zS->Ae U
 | .b0 a=>Am f303 [156] (a,())
theorem Zhb:AA1 303 [156] 254 (fun x=>yV x.1) rfl:=Ap Af Ah AN Zhx func303 (fun p=>by cases p<;>kernel_rfl) (by kernel_rfl) fun _=>rfl
inductive ZC where
 | b0 (a b c:Int)
def Z6P:ZC->Tr U (Int⊕ZC)
 | .b0 a b c=>let d:=AA (5:Int);.br (decide (a<b)) d (.br (decide (a>c)) d (AA (0:Int)))
def QL (a b c:Int):Option Int:=AY Z6P (.b0 a b c)
def Zjy:ZC->Ae U
 | .b0 a b c=>Am f306 [3,3,3] (a,b,c,())
theorem WX:AA1 306 [3,3,3] 45 (fun x=>QL x.1 x.2.1 x.2.2.1) rfl:=Ap Af Ah AN Zjy func306 (fun p=>by cases p<;>kernel_rfl) (by kernel_rfl) fun _=>rfl
inductive yA where
 | b0 (a:AL)
def Z6b:yA->Tr U (Int⊕yA)
 | .b0 a=>.bind 45 (QL a.Bq (0:Int) (255:Int)) (fun(b:Int)=>AA b)
def yR (a:AL):Option Int:=AY Z6b (.b0 a)
def Zh5:yA->Ae U
 | .b0 a=>Am f305 [156] (a,())
theorem Zhk:AA1 305 [156] 45 (fun x=>yR x.1) rfl:=Ap (mc WX Af) Ah AN Zh5 func305 (fun p=>by cases p<;>kernel_rfl) (by kernel_rfl) fun _=>rfl
inductive zT where
 | b0 (a:AL)
def Zj9:zT->Tr U ((List Int)⊕zT)
 | .b0 a=>.chk true (AA ([a.CE,a.Mark]))
def xY (a:AL):Option (List Int):=AY Zj9 (.b0 a)
def ZhB:zT->Ae U
 | .b0 a=>Am f307 [156] (a,())
theorem ZgJ:AA1 307 [156] 254 (fun x=>xY x.1) rfl:=Ap Af Ah AN ZhB func307 (fun p=>by cases p<;>kernel_rfl) (by kernel_rfl) fun _=>rfl
inductive Z0a where
 | b0 (a:AL)
def Z7r:Z0a->Tr U (Int⊕Z0a)
 | .b0 a=>AA (0:Int)
def Nc (a:AL):Option Int:=AY Z7r (.b0 a)
def Zl6:Z0a->Ae U
 | .b0 a=>Am f309 [156] (a,())
theorem Zly:AA1 309 [156] 45 (fun x=>Nc x.1) rfl:=Ap Af Ah AN Zl6 func309 (fun p=>by cases p<;>kernel_rfl) (by kernel_rfl) fun _=>rfl
inductive zH where
 | b0 (a:AL)
def ZhI:zH->Tr U ((List Int)⊕zH)
 | .b0 a=>.chk true (AA ([a.CE]))
def yB (a:AL):Option (List Int):=AY ZhI (.b0 a)
def ZhD:zH->Ae U
 | .b0 a=>Am f310 [156] (a,())
theorem Zh6:AA1 310 [156] 254 (fun x=>yB x.1) rfl:=Ap Af Ah AN ZhD func310 (fun p=>by cases p<;>kernel_rfl) (by kernel_rfl) fun _=>rfl
inductive yS where
 | b0 (a:AL)
def ZhJ:yS->Tr U ((List Int)⊕yS)
 | .b0 a=>.chk true (AA ([(IntKind.wrap .u64 (a.Dx))]))
def xR (a:AL):Option (List Int):=AY ZhJ (.b0 a)
def ZgP:yS->Ae U
 | .b0 a=>Am f312 [156] (a,())
theorem Zhp:AA1 312 [156] 254 (fun x=>xR x.1) rfl:=Ap Af Ah AN ZgP func312 (fun p=>by cases p<;>kernel_rfl) (by kernel_rfl) fun _=>rfl
inductive xO where
 | b0 (a:AL)
def Z63:xO->Tr U (Int⊕xO)
 | .b0 a=>.bind 45 (QL a.Dx (0:Int) (255:Int)) (fun(b:Int)=>AA b)
def zO (a:AL):Option Int:=AY Z63 (.b0 a)
def ZgH:xO->Ae U
 | .b0 a=>Am f314 [156] (a,())
theorem Zh2:AA1 314 [156] 45 (fun x=>zO x.1) rfl:=Ap (mc WX Af) Ah AN ZgH func314 (fun p=>by cases p<;>kernel_rfl) (by kernel_rfl) fun _=>rfl
inductive zB where
 | b0 (a:AL)
def Zj8:zB->Tr U ((List Int)⊕zB)
 | .b0 a=>.chk true (AA ([(IntKind.wrap .u64 (a.Version))]))
def yE (a:AL):Option (List Int):=AY Zj8 (.b0 a)
def ZgG:zB->Ae U
 | .b0 a=>Am f315 [156] (a,())
theorem Zhf:AA1 315 [156] 254 (fun x=>yE x.1) rfl:=Ap Af Ah AN ZgG func315 (fun p=>by cases p<;>kernel_rfl) (by kernel_rfl) fun _=>rfl
inductive zD where
 | b0 (a:AL)
def Z65:zD->Tr U (Int⊕zD)
 | .b0 a=>.bind 45 (QL a.Version (0:Int) (255:Int)) (fun(b:Int)=>AA b)
def xQ (a:AL):Option Int:=AY Z65 (.b0 a)
def Zhv:zD->Ae U
 | .b0 a=>Am f317 [156] (a,())
theorem ZgC:AA1 317 [156] 45 (fun x=>xQ x.1) rfl:=Ap (mc WX Af) Ah AN Zhv func317 (fun p=>by cases p<;>kernel_rfl) (by kernel_rfl) fun _=>rfl
inductive yX where
 | b0 (a:AL)
def Zix:yX->Tr U ((List Int)⊕yX)
 | .b0 a=>.chk true (AA ([(IntKind.wrap .u64 (a.Bq)),(IntKind.wrap .u64 (a.Dx))]))
def yJ (a:AL):Option (List Int):=AY Zix (.b0 a)
def ZgN:yX->Ae U
 | .b0 a=>Am f318 [156] (a,())
theorem ZhA:AA1 318 [156] 254 (fun x=>yJ x.1) rfl:=Ap Af Ah AN ZgN func318 (fun p=>by cases p<;>kernel_rfl) (by kernel_rfl) fun _=>rfl
inductive yZ where
 | b0 (a:AL)
def Z6h:yZ->Tr U (Int⊕yZ)
 | .b0 a=>.bind 45 (QL a.Bq (0:Int) (255:Int)) (fun(b:Int)=>.bind 45 (QL a.Dx (0:Int) (255:Int)) (fun(c:Int)=>AA (if c>b then c else b)))
def yQ (a:AL):Option Int:=AY Z6h (.b0 a)
def Zhz:yZ->Ae U
 | .b0 a=>Am f320 [156] (a,())
theorem Zhe:AA1 320 [156] 45 (fun x=>yQ x.1) rfl:=Ap (mc WX Af) Ah AN Zhz func320 (fun p=>by cases p<;>kernel_rfl) (by kernel_rfl) fun _=>rfl
inductive zZ where
 | b0 (a:AL)
def Zjq:zZ->Tr U ((List Int)⊕zZ)
 | .b0 a=>.chk true (AA ([]:List Int))
def UJ (a:AL):Option (List Int):=AY Zjq (.b0 a)
def Zig:zZ->Ae U
 | .b0 a=>Am f348 [156] (a,())
theorem ZhW:AA1 348 [156] 254 (fun x=>UJ x.1) rfl:=Ap Af Ah AN Zig func348 (fun p=>by cases p<;>kernel_rfl) (by kernel_rfl) fun _=>rfl
inductive wX where
 | b0 (a:AL)
def Zgd:wX->Tr U ((List Int)⊕wX)
 | .b0 a=>.chk true (AA ([a.DK]))
def jE (a:AL):Option (List Int):=AY Zgd (.b0 a)
def ZfY:wX->Ae U
 | .b0 a=>Am f350 [156] (a,())
theorem Zga:AA1 350 [156] 254 (fun x=>jE x.1) rfl:=Ap Af Ah AN ZfY func350 (fun p=>by cases p<;>kernel_rfl) (by kernel_rfl) fun _=>rfl
inductive xP where
 | b0 (a:AL)
def ZiG:xP->Tr U ((List Int)⊕xP)
 | .b0 a=>.chk true (AA ([(IntKind.wrap .u64 (a.Length))]))
def jT (a:AL):Option (List Int):=AY ZiG (.b0 a)
def Zh8:xP->Ae U
 | .b0 a=>Am f352 [156] (a,())
theorem Zht:AA1 352 [156] 254 (fun x=>jT x.1) rfl:=Ap Af Ah AN Zh8 func352 (fun p=>by cases p<;>kernel_rfl) (by kernel_rfl) fun _=>rfl
inductive zN where
 | b0 (a:AL)
def Z6l:zN->Tr U (Int⊕zN)
 | .b0 a=>.bind 45 (QL a.Length (27:Int) (251:Int)) (fun(b:Int)=>AA b)
def jS (a:AL):Option Int:=AY Z6l (.b0 a)
def ZgY:zN->Ae U
 | .b0 a=>Am f354 [156] (a,())
theorem Zhw:AA1 354 [156] 45 (fun x=>jS x.1) rfl:=Ap (mc WX Af) Ah AN ZgY func354 (fun p=>by cases p<;>kernel_rfl) (by kernel_rfl) fun _=>rfl
inductive Zf where
 | b0 (a:List Int)
def Z6C:Zf->Tr U (DT⊕Zf)
 | .b0 a=>.chk (kI (0:Int) a) (.bind 25 (a[(Int.toNat 0)]?) (fun(b:Int)=>.chk (kI (1:Int) a) (.bind 25 (a[(Int.toNat 1)]?) (fun(c:Int)=>.chk (kI (2:Int) a) (.bind 25 (a[(Int.toNat 2)]?) (fun(d:Int)=>.chk (kI (3:Int) a) (.bind 25 (a[(Int.toNat 3)]?) (fun(e:Int)=>.chk (kI (4:Int) a) (.bind 25 (a[(Int.toNat 4)]?) (fun(f:Int)=>AA (⟨(AV (b)),(AV (c)),(AV (d)),(AV (e)),(AV (f))⟩:DT)))))))))))
def jW (a:List Int):Option DT:=AY Z6C (.b0 a)
def ZhR:Zf->Ae U
 | .b0 a=>Am f295 [254] (a,())
theorem Z6c:AA1 295 [254] 24 (fun x=>jW x.1) rfl:=Ap Af Ah AN ZhR func295 (fun p=>by cases p<;>kernel_rfl) (by kernel_rfl) fun _=>rfl
inductive Zk where
 | b0 (a:List Int) (b:AL)
def Z6E:Zk->Tr U (UN⊕Zk)
 | .b0 a b=>.bind 24 (jW a) (fun(c:DT)=>.chk (kI (5:Int) a) (.bind 25 (a[(Int.toNat 5)]?) (fun(d:Int)=>AA (⟨({ b with BG:=c,CP:=(IntKind.wrap .u16 (d)) }:AL)⟩:UN))))
def Zb (a:List Int) (b:AL):Option UN:=AY Z6E (.b0 a b)
def Z5Z:Shape:=⟨[PQ 0,OV 254],[VA 156 15]⟩
def Zgv:Shape:=⟨[],[VA 156 15]⟩
noncomputable def Zk6:HMod U:=⟨[KP,[.s 25 1]],[.var k0],Z5Z,Zgv,false,1372,fun(y:UN)=>((),((y.q0,()),())),fun x=>Zb x.1.2.1.1 x.2.1.1,okS rfl⟩
def Zim:Zk->Ae U
 | .b0 a b=>E5 f294 Z5Z (((),((a,()),())),((b,()),()))
theorem Zih:DU Tryz.prog B0 294 Zk6:=okR (mc Z6c Af) Ah AN [] [.var k0] 1 Zim func294 (fun p=>by cases p<;>kernel_rfl) (by kernel_rfl) fun x=>by kernel_rfl
inductive Zl where
 | b0 (a:List Int) (b:AL)
def ZjH:Zl->Tr U (UM⊕Zl)
 | .b0 a b=>.chk (kI (0:Int) a) (.bind 25 (a[(Int.toNat 0)]?) (fun(c:Int)=>.chk (kI (1:Int) a) (.bind 25 (a[(Int.toNat 1)]?) (fun(d:Int)=>AA (⟨({ b with Map:=c,CP:=(IntKind.wrap .u16 (d)) }:AL)⟩:UM)))))
def Zq (a:List Int) (b:AL):Option UM:=AY ZjH (.b0 a b)
def Z5P:Shape:=⟨[PQ 0,OV 254],[VA 156 15]⟩
def Zgs:Shape:=⟨[],[VA 156 15]⟩
noncomputable def ZjQ:HMod U:=⟨[KP,[.s 25 1]],[.var k0],Z5P,Zgs,false,1373,fun(y:UM)=>((),((y.q0,()),())),fun x=>Zq x.1.2.1.1 x.2.1.1,okS rfl⟩
def Zj3:Zl->Ae U
 | .b0 a b=>E5 f298 Z5P (((),((a,()),())),((b,()),()))
theorem ZiU:DU Tryz.prog B0 298 ZjQ:=okR Af Ah AN [] [.var k0] 1 Zj3 func298 (fun p=>by cases p<;>kernel_rfl) (by kernel_rfl) fun x=>by kernel_rfl
inductive Zo where
 | b0 (a:List Int) (b:AL)
def Z6u:Zo->Tr U (UL⊕Zo)
 | .b0 a b=>.bind 24 (jW a) (fun(c:DT)=>AA (⟨({ b with BG:=c }:AL)⟩:UL))
def Zv (a:List Int) (b:AL):Option UL:=AY Z6u (.b0 a b)
def Z5O:Shape:=⟨[PQ 0,OV 254],[VA 156 15]⟩
def Zgj:Shape:=⟨[],[VA 156 15]⟩
noncomputable def ZjZ:HMod U:=⟨[KP,[.s 25 1]],[.var k0],Z5O,Zgj,false,1374,fun(y:UL)=>((),((y.q0,()),())),fun x=>Zv x.1.2.1.1 x.2.1.1,okS rfl⟩
def Zj7:Zo->Ae U
 | .b0 a b=>E5 f301 Z5O (((),((a,()),())),((b,()),()))
theorem Ziz:DU Tryz.prog B0 301 ZjZ:=okR (mc Z6c Af) Ah AN [] [.var k0] 1 Zj7 func301 (fun p=>by cases p<;>kernel_rfl) (by kernel_rfl) fun x=>by kernel_rfl
inductive zG where
 | b0 (a:List Int) (b:AL)
def Ziu:zG->Tr U (UH⊕zG)
 | .b0 a b=>.chk (kI (0:Int) a) (.bind 25 (a[(Int.toNat 0)]?) (fun(c:Int)=>AA (⟨({ b with Bq:=(AV (c)) }:AL)⟩:UH)))
def yY (a:List Int) (b:AL):Option UH:=AY Ziu (.b0 a b)
def Z5t:Shape:=⟨[PQ 0,OV 254],[VA 156 15]⟩
def ZfV:Shape:=⟨[],[VA 156 15]⟩
noncomputable def Zi6:HMod U:=⟨[KP,[.s 25 1]],[.var k0],Z5t,ZfV,false,1375,fun(y:UH)=>((),((y.q0,()),())),fun x=>yY x.1.2.1.1 x.2.1.1,okS rfl⟩
def Zho:zG->Ae U
 | .b0 a b=>E5 f304 Z5t (((),((a,()),())),((b,()),()))
theorem Zhq:DU Tryz.prog B0 304 Zi6:=okR Af Ah AN [] [.var k0] 1 Zho func304 (fun p=>by cases p<;>kernel_rfl) (by kernel_rfl) fun x=>by kernel_rfl
inductive zM where
 | b0 (a:List Int) (b:AL)
def ZhT:zM->Tr U (UD⊕zM)
 | .b0 a b=>.chk (kI (0:Int) a) (.bind 25 (a[(Int.toNat 0)]?) (fun(c:Int)=>.chk (kI (1:Int) a) (.bind 25 (a[(Int.toNat 1)]?) (fun(d:Int)=>AA (⟨({ b with CE:=c,Mark:=d }:AL)⟩:UD)))))
def zJ (a:List Int) (b:AL):Option UD:=AY ZhT (.b0 a b)
def Z5C:Shape:=⟨[PQ 0,OV 254],[VA 156 15]⟩
def ZfX:Shape:=⟨[],[VA 156 15]⟩
noncomputable def ZhQ:HMod U:=⟨[KP,[.s 25 1]],[.var k0],Z5C,ZfX,false,1376,fun(y:UD)=>((),((y.q0,()),())),fun x=>zJ x.1.2.1.1 x.2.1.1,okS rfl⟩
def Zhy:zM->Ae U
 | .b0 a b=>E5 f308 Z5C (((),((a,()),())),((b,()),()))
theorem Zh3:DU Tryz.prog B0 308 ZhQ:=okR Af Ah AN [] [.var k0] 1 Zhy func308 (fun p=>by cases p<;>kernel_rfl) (by kernel_rfl) fun x=>by kernel_rfl
end
end Go.Proofs.YtjodhcdmhobmoaaGreatDoor
