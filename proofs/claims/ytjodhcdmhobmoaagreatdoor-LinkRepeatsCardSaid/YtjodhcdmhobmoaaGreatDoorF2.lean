/- A part of it. -/
import Derived.Test.YtjodhcdmhobmoaaGreatDoorF1
import Derived.RangeFuncWrites
import Derived.RangeFuncBox
import Derived.RangeFuncLeaves
import Derived.WalkKit
import Derived.OwnWalkIn
import Derived.TacticsInMore
import Derived.RegionIn
import Derived.LoopNIn
import Derived.LoopIn
import Derived.Shelf.Abstract
import Derived.IntWalk
import Derived.Lib.Hide
import Derived.Laws.Closers25b
import Derived.RangeFuncCalls
set_option linter.unusedVariables false
set_option linter.unusedSimpArgs false
namespace Go.Proofs.YtjodhcdmhobmoaaGreatDoor
open Tryz
open Go Go.Proofs.YtjodhcdmhobmoaaGreatDoor.Le
set_option maxRecDepth 100000
noncomputable section
inductive YN where
 | b0 (a:Int) (b:List Int)
def ZaD:YN->Tr U (((List Int)×Int)⊕YN)
 | .b0 c a=>let k:=(↑a.length:Int);let i:=([]:List Int);let e:=AP (k - 3);let j:=Int.toNat e;let h:=(a.drop j).take (a.length - j);let g:=(decide (0<=e/\e<=k));let f:=(a.drop 0).take (j - 0);.br (decide (e<0)) (.chk true (AA (i,(3:Int)))) (.chk g (.chk (MB U 5 h) (.chk g (.bind 22 (dF c f) (fun(d:Int)=>.bind 62 (aZ d) (fun(b:List Int)=>.chk (MB U 5 b) (.br (!((strOf U 5 h).toList==(strOf U 5 b).toList)) (.chk true (AA (i,(10:Int)))) (.chk g (.chk true (.chk (kA (0+f.length) 1) (kl (i++f) (AA ((i++f),(0:Int))))))))))))))
def Z0M (a:Int) (b:List Int):Option ((List Int)×Int):=AV ZaD (.b0 a b)
def Zph:YN->Ac U
 | .b0 a b=>Ai f114 [22,62] (a,b,())
theorem ZoS:AA1 114 [22,62] 120 (fun x=>Z0M x.1 x.2.1) rfl:=Aj (mc Zaq (mc Zbd Ag)) Ah AN Zph func114 (fun p=>by cases p<;>kernel_rfl) (by kernel_rfl) fun _=>rfl
inductive Xa where
 | b0 (a:List Int)
 | b1 (a:BD)
 | b2 (a:List Int) (b c d:Int) (e:BD)
def Z9A:Xa->Tr U ((BD×Int)⊕Xa)
 | .b0 a=>.br (decide ((↑a.length:Int)<2)) (AA (E5,3)) (.chk (kI (0:Int) a) (.bind 5 (a[(Int.toNat 0)]?) (fun(b:Int)=>let f:=AP (b);let d:=Int.tmod f 4;.chk (kI (1:Int) a) (.bind 5 (a[(Int.toNat 1)]?) (fun(c:Int)=>let e:=AO (Xa.b2 a f (AP (c)) d E5);.br (decide (f>=32)) (AA (E5,2)) (.br (d==0) (AA (E5,12)) (.br ((AP (c))==0) (.br (d != 1) (AO (.b1 E5)) e) e)))))))
 | .b1 a=>AA (E5,1)
 | .b2 a b c d e=>let i:=Int.toNat 2;let g:=(↑a.length:Int);let j:=AP (g - 2);let f:=(a.drop i).take (a.length - i);let h:=([]:List Int)++f;.br (decide (j<c)) (AA (E5,3)) (.br (decide (j>c)) (AA (E5,2)) (.chk (decide (0<=(2:Int)/\(2:Int)<=g)) (.chk true (.chk (kA (0+f.length) 1) (kl h (AA ((⟨(Int.tmod (AP (Int.tdiv b 8)) (2:Int)),(Int.tmod (AP (Int.tdiv b 4)) (2:Int)),(Int.tmod (AP (Int.tdiv b 16)) (2:Int)),(⟨d,h⟩:Aw)⟩:BD),(0:Int))))))))
def Z0t (a:List Int):Option (BD×Int):=AV Z9A (.b0 a)
def Z7o:Lay:=⟨[2],[KP],[.var k4],⟨[PQ 0],[VA 70 5]⟩⟩
def Z7f:Lay:=⟨[0,2,4,5,6],[[.s 5 1],KP,KP,KP,KP],[.var k4],⟨[OV 62,PQ 0,OV 3,OV 3,OV 3],[VA 70 5]⟩⟩
def Zoq:Nat->Option Lay
 | 10=>some Z7o
 | 11=>some Z7f
 | _=>none
def ZnM:Xa->Ac U
 | .b0 a=>Ai f115 [62] (a,())
 | .b1 a=>AA3 f115 [1,1,1,1,1,1,0,1,0,0] Z7o (a,())
 | .b2 a b c d e=>AA3 f115 [1,1,1,1,1,1,1,0,0] Z7f (a,b,c,d,e,())
theorem Zo0:AA1 115 [62] 71 (fun x=>Z0t x.1) rfl:=Aj Ag Ah Zoq ZnM func115 (fun p=>by cases p<;>kernel_rfl) (by kernel_rfl) fun _=>rfl
inductive Yy where
 | b0 (a b:List Int)
def Zbv:Yy->Tr U (Bool⊕Yy)
 | .b0 a b=>.chk (MB U 5 a) (.chk (MB U 5 b) (AA ((strOf U 5 a).toList==(strOf U 5 b).toList)))
def Z1U (a b:List Int):Option Bool:=AV Zbv (.b0 a b)
def ZsK:Yy->Ac U
 | .b0 a b=>Ai f278 [62,62] (a,b,())
theorem Zt4:AA1 278 [62,62] 4 (fun x=>Z1U x.1 x.2.1) rfl:=Aj Ag Ah AN ZsK func278 (fun p=>by cases p<;>kernel_rfl) (by kernel_rfl) fun _=>rfl
inductive aO where
 | b0 (a b:Int) (c d:List Int)
def ZbW:aO->Tr U (((List Int)×Int)⊕aO)
 | .b0 b c d a=>let m:=([]:List Int);let l:=(↑a.length:Int);let h:=AP (l - 4);let j:=Int.toNat h;let k:=(a.drop 0).take (j - 0);let i:=(decide (0<=h/\h<=l));.br (decide (h<0)) (.chk true (AA (m,(3:Int)))) (.chk i (.bind 62 (dR b c d k) (fun(e:List Int)=>.chk i (.bind 4 (Z1U e ((a.drop j).take (a.length - j))) (fun(f:Bool)=>.br (!f) (.chk true (AA (m,(15:Int)))) (.bind 62 (Xd b c h) (fun(g:List Int)=>.bind 1350 (dK k g) (fun(q:PM)=>kl q.q0 (AA (q.q0,0))))))))))
def Z1S (a b:Int) (c d:List Int):Option ((List Int)×Int):=AV ZbW (.b0 a b c d)
def ZrV:aO->Ac U
 | .b0 a b c d=>Ai f211 [29,25,62,62] (a,b,c,d,())
theorem ZrZ:AA1 211 [29,25,62,62] 120 (fun x=>Z1S x.1 x.2.1 x.2.2.1 x.2.2.2.1) rfl:=Aj (mc Z8H (mc Zci (mc Zt4 Ag))) (hc [] Zbe Ah) AN ZrV func211 (fun p=>by cases p<;>kernel_rfl) (by kernel_rfl) fun _=>rfl
inductive YB where
 | b0 (a:Int)
def Zb3:YB->Tr U (Int⊕YB)
 | .b0 a=>.br (a==1) (AA (0:Int)) (AA (1:Int))
def Z0T (a:Int):Option Int:=AV Zb3 (.b0 a)
def ZpC:YB->Ac U
 | .b0 a=>Ai f212 [3] (a,())
theorem Zqy:AA1 212 [3] 3 (fun x=>Z0T x.1) rfl:=Aj Ag Ah AN ZpC func212 (fun p=>by cases p<;>kernel_rfl) (by kernel_rfl) fun _=>rfl
inductive Yx where
 | b0 (a:Cb) (b:BD)
 | b1 (a:Cb) (b c:BD)
def ZbL:Yx->Tr U ((BD×Int)⊕Yx)
 | .b0 b a=>.bind 45 (Nw a) (fun(c:Int)=>.br (c != 0) (AA (E5,c)) (.br (!b.N9) (AA (a,0)) (.bind 4 (Rq a.Ak) (fun(d:Bool)=>.br d (AA (a,0)) (AO (.b1 b a E5))))))
 | .b1 a b g=>.br (decide ((↑b.Ak.Payload.length:Int)<5)) (AA (E5,3)) (.bind 3 (Z0T a.Bz) (fun(d:Int)=>.bind 25 (YK a d a.Rx) (fun(e:Int)=>.chk true (.bind 120 (Z1S a.Key e ([(IntKind.wrap .u8 (b.Ak.Ba))]) b.Ak.Payload) (fun(c:(List Int)×Int)=>.br (c.2 != 0) (AA (E5,c.2)) (.bind 70 (aU b c.1) (fun(f:BD)=>AA (f,0))))))))
def Z1X (a:Cb) (b:BD):Option (BD×Int):=AV ZbL (.b0 a b)
def Z9K:Lay:=⟨[2,3,4],[KP,KP,KP],[.var k7,.var k4,.var k4],⟨[PQ 0,PQ 1,PQ 2],[VA 41 7,VA 70 5,VA 70 5]⟩⟩
def Zvl:Nat->Option Lay
 | 6=>some Z9K
 | _=>none
def Zsb:Yx->Ac U
 | .b0 a b=>Ai f117 [41,70] (a,b,())
 | .b1 a b c=>AA3 f117 [1,1,1,0,0] Z9K (a,b,c,())
theorem ZqZ:AA1 117 [41,70] 71 (fun x=>Z1X x.1 x.2.1) rfl:=Aj (mc nC (mc U4 (mc Za4 (mc Z9L (mc ZrZ (mc Zqy Ag)))))) Ah Zvl Zsb func117 (fun p=>by cases p<;>kernel_rfl) (by kernel_rfl) fun _=>rfl
inductive Yr where
 | b0 (a:BQ) (b:BD)
 | b1 (a:BQ) (b:BD) (c:BQ) (d:Aw)
 | b2 (a:Bool) (b:BQ) (c:BD) (d:BQ) (e:Aw)
 | b3 (a:Bool) (b:BQ) (c:BD) (d:BQ) (e:Aw)
 | b4 (a:Bool) (b:BQ) (c:BD) (d:BQ) (e:Aw)
 | b5 (a:Bool) (b c:BQ) (d:Aw)
def Zbm:Yr->Tr U ((BQ×Aw×Bool×Bool)⊕Yr)
 | .b0 a b=>let e:=(⟨0,([]:List Int)⟩:Aw);let d:=AO (Yr.b2 false a b Jj e);.bind 45 (Nw b) (fun(c:Int)=>.br (c != 0) (AA (a,(⟨0,[]⟩:Aw),false,false)) (.br a.Open (.br (b.Dp != a.SN) (AO (.b1 a b Jj e)) d) d))
 | .b1 a b c d=>let e:=({ a with SN:=(AP ((1:Int) - a.SN)) }:BQ);let f:=AO (Yr.b4 true e b c d);.br (!a.Empty) (.br (decide ((↑a.BA.length:Int)>0)) (AO (.b3 true e b c d)) f) f
 | .b2 b a c d e=>let g:=AP ((1:Int) - a.Dp);.br (c.SN==a.Dp) (.bind 4 (XN c.Ak) (fun(f:Bool)=>.br (!f) (AA (({ a with Dp:=g,Taken:=(AP (a.Taken+1)) }:BQ),c.Ak,true,b)) (AO (.b5 b ({ a with Dp:=g }:BQ) d e)))) (AO (.b5 b a d e))
 | .b3 b a c d e=>let h:=Int.toNat 1;let f:=(a.BA.drop h).take (a.BA.length - h);let g:=([]:List Aw)++f;.chk (decide (0<=(1:Int)/\(1:Int)<=(↑a.BA.length:Int))) (.chk true (.chk (kA (0+f.length) 32) (kl g (AO (.b4 b ({ a with BA:=g,Fz:=(AP (a.Fz+1)) }:BQ) c d e)))))
 | .b4 a b c d e=>AO (.b2 a ({ b with Open:=false,Empty:=false }:BQ) c d e)
 | .b5 a b c d=>AA (b,(⟨0,[]⟩:Aw),false,a)
def Z28 (a:BQ) (b:BD):Option (BQ×Aw×Bool×Bool):=AV Zbm (.b0 a b)
def Z9a:Lay:=⟨[2,3,4,5],[KP,KP,KP,KP],[.var k6,.var k4,.var k6,.var [.keep,.s 5 1]],⟨[PQ 0,PQ 1,PQ 2,PQ 3],[VA 33 7,VA 70 5,VA 33 7,VA 68 2]⟩⟩
def UZ:Lay:=⟨[2,3,4,5,7],[KP,KP,KP,KP,KP],[.var k6,.var k4,.var k6,.var [.keep,.s 5 1]],⟨[PQ 0,PQ 1,PQ 2,PQ 3,OV 4],[VA 33 7,VA 70 5,VA 33 7,VA 68 2]⟩⟩
def Z9I:Lay:=⟨[2,4,5,7],[KP,KP,KP,KP],[.var k6,.var k6,.var [.keep,.s 5 1]],⟨[PQ 0,PQ 1,PQ 2,OV 4],[VA 33 7,VA 33 7,VA 68 2]⟩⟩
def Zwc:Nat->Option Lay
 | 4=>some Z9a
 | 10=>some UZ
 | 7=>some UZ
 | 9=>some UZ
 | 15=>some Z9I
 | _=>none
def Ztr:Yr->Ac U
 | .b0 a b=>Ai f118 [33,70] (a,b,())
 | .b1 a b c d=>AA3 f118 [1,1,0,1,0,0] Z9a (a,b,c,d,())
 | .b2 a b c d e=>AA3 f118 [1,1,1,0,0] UZ (a,b,c,d,e,())
 | .b3 a b c d e=>AA3 f118 [1,1,0,1,0,1,1,0,1,0,0] UZ (a,b,c,d,e,())
 | .b4 a b c d e=>AA3 f118 [1,1,0,1,0,1,1,1] UZ (a,b,c,d,e,())
 | .b5 a b c d=>AA3 f118 [1,1,1,1,0] Z9I (a,b,c,d,())
theorem ZtI:AA1 118 [33,70] 163 (fun x=>Z28 x.1 x.2.1) rfl:=Aj (mc U4 (mc Z7J Ag)) Ah Zwc Ztr func118 (fun p=>by cases p<;>kernel_rfl) (by kernel_rfl) fun _=>rfl
inductive bH where
 | b0 (a:Cb) (b c:Bool)
 | b1 (a:Bool) (b c:Cb)
 | b2 (a:Bool) (b c:Cb)
 | b3 (a b:Cb)
def Zb6:bH->Tr U (Cb⊕bH)
 | .b0 a c b=>let d:=AO (bH.b2 b a Rh);.br c (.br a.Gm (AO (.b1 b a Rh)) d) d
 | .b1 b a c=>AO (.b2 b ({ a with Tx:=(IntKind.wrap .u64 (a.Tx+1)) }:Cb) c)
 | .b2 b a c=>.br b (.br a.N9 (AO (.b3 a c)) (AA a)) (AA a)
 | .b3 a b=>AA ({ a with Rx:=(IntKind.wrap .u64 (a.Rx+1)) }:Cb)
def o7 (a:Cb) (b c:Bool):Option Cb:=AV Zb6 (.b0 a b c)
def mQ:Lay:=⟨[2,3,6],[KP,KP,KP],[.var k7,.var k7],⟨[OV 4,PQ 0,PQ 1],[VA 41 7,VA 41 7]⟩⟩
def Z96:Lay:=⟨[3,6],[KP,KP],[.var k7,.var k7],⟨[PQ 0,PQ 1],[VA 41 7,VA 41 7]⟩⟩
def Zxa:Nat->Option Lay
 | 2=>some mQ
 | 3=>some mQ
 | 4=>some Z96
 | _=>none
def Zt6:bH->Ac U
 | .b0 a b c=>Ai f120 [41,4,4] (a,b,c,())
 | .b1 a b c=>AA3 f120 [1,0,1,0] mQ (a,b,c,())
 | .b2 a b c=>AA3 f120 [1,1,0,0] mQ (a,b,c,())
 | .b3 a b=>AA3 f120 [1,1,0,1,0] Z96 (a,b,())
theorem ZaU:AA1 120 [41,4,4] 41 (fun x=>o7 x.1 x.2.1 x.2.2.1) rfl:=Aj Ag Ah Zxa Zt6 func120 (fun p=>by cases p<;>kernel_rfl) (by kernel_rfl) fun _=>rfl
inductive aI where
 | b0 (a:Int)
 | b1 (a:Int) (b:Be)
 | b2 (a:Int) (b:Be)
 | b3 (a:Int) (b:Be)
 | b4 (a:Int) (b:Be)
 | b5 (a:Int) (b:Be)
 | b6 (a:Int) (b:Be)
 | b7 (a:Int) (b:Be)
 | b8 (a:Int) (b:Be)
def oV:aI->Tr U (Int⊕aI)
 | .b0 b=>.bind 262 (ER b) (fun(a:Be)=>.br a.BI (AO (.b1 (10:Int) a)) (AO (.b1 (1:Int) a)))
 | .b1 b a=>.br a.Map (AO (.b2 (AP (b+5)) a)) (AO (.b2 b a))
 | .b2 b a=>.br a.DF (AO (.b3 (AP (b+2)) a)) (AO (.b3 b a))
 | .b3 b a=>let c:=AO (aI.b4 b a);.br a.Bd c (.br a.Version c (.br a.Length c (AO (.b5 b a))))
 | .b4 a b=>AO (.b5 (AP (a+1)) b)
 | .b5 b a=>.br a.DT (AO (.b6 (AP (b+1)) a)) (AO (.b6 b a))
 | .b6 b a=>let c:=AO (aI.b7 b a);.br a.Bq c (.br a.CW c (AO (.b8 b a)))
 | .b7 a b=>AO (.b8 (AP (a+8)) b)
 | .b8 a b=>.br b.Mark (AA (AP (a+8))) (AA a)
def pU (a:Int):Option Int:=AV oV (.b0 a)
def Iz:Lay:=⟨[3,4],[KP,KP],[.var k3],⟨[PQ 0,OV 3],[VA 262 11]⟩⟩
def ZwJ:Nat->Option Lay
 | 5=>some Iz
 | 7=>some Iz
 | 9=>some Iz
 | 10=>some Iz
 | 11=>some Iz
 | 13=>some Iz
 | 14=>some Iz
 | 15=>some Iz
 | _=>none
def ZsR:aI->Ac U
 | .b0 a=>Ai f279 [3] (a,())
 | .b1 a b=>AA3 f279 [1,1,1,1,0,0] Iz (a,b,())
 | .b2 a b=>AA3 f279 [1,1,1,1,1,0,0] Iz (a,b,())
 | .b3 a b=>AA3 f279 [1,1,1,1,1,1,0,0] Iz (a,b,())
 | .b4 a b=>AA3 f279 [1,1,1,1,1,1,0,1,0] Iz (a,b,())
 | .b5 a b=>AA3 f279 [1,1,1,1,1,1,1,0,0] Iz (a,b,())
 | .b6 a b=>AA3 f279 [1,1,1,1,1,1,1,1,0,0] Iz (a,b,())
 | .b7 a b=>AA3 f279 [1,1,1,1,1,1,1,1,0,1,0] Iz (a,b,())
 | .b8 a b=>AA3 f279 [1,1,1,1,1,1,1,1,1,0,0] Iz (a,b,())
theorem Zrq:AA1 279 [3] 3 (fun x=>pU x.1) rfl:=Aj (mc QP Ag) Ah ZwJ ZsR func279 (fun p=>by cases p<;>kernel_rfl) (by kernel_rfl) fun _=>rfl
inductive bY where
 | b0 (a:List Int) (b c:Int)
 | b1 (a:List Int) (b c d:Int)
def ZcM:bY->Tr U (Int⊕bY)
 | .b0 a b c=>AO (.b1 a b (0:Int) (AP (c - 1)))
 | .b1 b c d a=>.br (decide (a>=0)) (.chk (kI (AP (c+a)) b) (.bind 5 (b[(Int.toNat (AP (c+a)))]?) (fun(e:Int)=>AO (.b1 b c (IntKind.wrap .u64 ((IntKind.wrap .u64 (d*256))+(IntKind.wrap .u64 (e)))) (AP (a - 1)))))) (AA d)
def Lt (a:List Int) (b c:Int):Option Int:=AV ZcM (.b0 a b c)
def Zac:Lay:=⟨[0,1,7,8],[[.s 5 1],KP,KP,KP],[],⟨[OV 62,OV 3,OV 25,OV 3],[]⟩⟩
def ZxD:Nat->Option Lay
 | 3=>some Zac
 | _=>none
def Zx9:bY->Ac U
 | .b0 a b c=>Ai f345 [62,3,3] (a,b,c,())
 | .b1 a b c d=>AA3 f345 [1,1,0,1,0,0,0,0] Zac (a,b,c,d,())
theorem Zc8:AA1 345 [62,3,3] 25 (fun x=>Lt x.1 x.2.1 x.2.2.1) rfl:=Aj Ag Ah ZxD Zx9 func345 (fun p=>by cases p<;>kernel_rfl) (by kernel_rfl) fun _=>rfl
inductive XA where
 | b0 (a:List Int) (b:Int)
def Z6O:XA->Tr U (DL⊕XA)
 | .b0 a b=>.bind 25 (Lt a b (1:Int)) (fun(c:Int)=>.bind 25 (Lt a (AP (b+1)) (2:Int)) (fun(d:Int)=>.bind 25 (Lt a (AP (b+3)) (2:Int)) (fun(e:Int)=>.bind 25 (Lt a (AP (b+5)) (2:Int)) (fun(f:Int)=>.bind 25 (Lt a (AP (b+7)) (2:Int)) (fun(g:Int)=>AA (⟨(AP (c)),(AP (d)),(AP (e)),(AP (f)),(AP (g))⟩:DL))))))
def Zf (a:List Int) (b:Int):Option DL:=AV Z6O (.b0 a b)
def Zjw:XA->Ac U
 | .b0 a b=>Ai f344 [62,3] (a,b,())
theorem ZjH:AA1 344 [62,3] 24 (fun x=>Zf x.1 x.2.1) rfl:=Aj (mc Zc8 Ag) Ah AN Zjw func344 (fun p=>by cases p<;>kernel_rfl) (by kernel_rfl) fun _=>rfl
inductive Yd where
 | b0 (a:AL) (b:List Int)
 | b1 (a:List Int) (b:Int) (c d:AL) (e:Be)
 | b2 (a:List Int) (b:Int) (c d:AL) (e:Be)
 | b3 (a:List Int) (b:Int) (c d:AL) (e:Be)
 | b4 (a:List Int) (b:Int) (c d:AL) (e:Be)
 | b5 (a:List Int) (b:Int) (c d:AL) (e:Be)
 | b6 (a:List Int) (b:Int) (c d:AL) (e:Be)
 | b7 (a:List Int) (b:Int) (c d:AL) (e:Be)
 | b8 (a:List Int) (b:Int) (c d:AL) (e:Be)
 | b9 (a:List Int) (b:Int) (c d:AL) (e:Be)
def oQ:Yd->Tr U (AL⊕Yd)
 | .b0 a b=>.bind 262 (ER a.Kind) (fun(c:Be)=>.br c.BI (.bind 24 (Zf b (1:Int)) (fun(d:DL)=>AO (.b1 b (10:Int) ({ a with BI:=d }:AL) Gg c))) (AO (.b1 b (1:Int) a Gg c)))
 | .b1 a b d e c=>.br c.Map (.bind 25 (Lt a b (5:Int)) (fun(f:Int)=>AO (.b2 a (AP (b+5)) ({ d with Map:=f }:AL) e c))) (AO (.b2 a b d e c))
 | .b2 a b d e c=>.br c.DF (.bind 25 (Lt a b (2:Int)) (fun(f:Int)=>AO (.b3 a b ({ d with DF:=(IntKind.wrap .u16 (f)) }:AL) e c))) (AO (.b3 a b d e c))
 | .b3 a b d e c=>.br c.Bd (.chk (kI b a) (.bind 5 (a[(Int.toNat b)]?) (fun(f:Int)=>AO (.b4 a (AP (b+1)) ({ d with Bd:=(AP (f)) }:AL) e c)))) (AO (.b4 a b d e c))
 | .b4 a b d e c=>.br c.DT (.chk (kI b a) (.bind 5 (a[(Int.toNat b)]?) (fun(f:Int)=>AO (.b5 a b ({ d with DT:=(AP (f)) }:AL) e c)))) (AO (.b5 a b d e c))
 | .b5 a b d e c=>.br c.Bq (.bind 25 (Lt a b (8:Int)) (fun(f:Int)=>AO (.b6 a (AP (b+8)) ({ d with Bq:=f }:AL) e c))) (AO (.b6 a b d e c))
 | .b6 a b d e c=>.br c.Mark (.bind 25 (Lt a b (8:Int)) (fun(f:Int)=>AO (.b7 a b ({ d with Mark:=f }:AL) e c))) (AO (.b7 a b d e c))
 | .b7 a b d e c=>.br c.CW (.bind 25 (Lt a b (8:Int)) (fun(f:Int)=>AO (.b8 a b ({ d with CW:=f }:AL) e c))) (AO (.b8 a b d e c))
 | .b8 a b d e c=>.br c.Version (.chk (kI b a) (.bind 5 (a[(Int.toNat b)]?) (fun(f:Int)=>AO (.b9 a b ({ d with Version:=(AP (f)) }:AL) e c)))) (AO (.b9 a b d e c))
 | .b9 a b c f d=>.br d.Length (.chk (kI b a) (.bind 5 (a[(Int.toNat b)]?) (fun(e:Int)=>AA ({ c with Length:=(AP (e)) }:AL)))) (AA c)
def Z15 (a:AL) (b:List Int):Option AL:=AV oQ (.b0 a b)
def IW:Lay:=⟨[1,2,4,5,6],[[.s 5 1],KP,KP,KP,KP],[.var k0,.var k0,.var k3],⟨[OV 62,PQ 0,PQ 1,PQ 2,OV 3],[VA 156 15,VA 156 15,VA 262 11]⟩⟩
def ZrW:Nat->Option Lay
 | 6=>some IW
 | 9=>some IW
 | 11=>some IW
 | 14=>some IW
 | 16=>some IW
 | 19=>some IW
 | 21=>some IW
 | 23=>some IW
 | 25=>some IW
 | _=>none
def Zq8:Yd->Ac U
 | .b0 a b=>Ai f280 [156,62] (a,b,())
 | .b1 a b c d e=>AA3 f280 [1,1,1,1,0,0] IW (a,b,c,d,e,())
 | .b2 a b c d e=>AA3 f280 [1,1,1,1,1,0,0] IW (a,b,c,d,e,())
 | .b3 a b c d e=>AA3 f280 [1,1,1,1,1,1,0,0] IW (a,b,c,d,e,())
 | .b4 a b c d e=>AA3 f280 [1,1,1,1,1,1,1,0,0] IW (a,b,c,d,e,())
 | .b5 a b c d e=>AA3 f280 [1,1,1,1,1,1,1,1,0,0] IW (a,b,c,d,e,())
 | .b6 a b c d e=>AA3 f280 [1,1,1,1,1,1,1,1,1,0,0] IW (a,b,c,d,e,())
 | .b7 a b c d e=>AA3 f280 [1,1,1,1,1,1,1,1,1,1,0,0] IW (a,b,c,d,e,())
 | .b8 a b c d e=>AA3 f280 [1,1,1,1,1,1,1,1,1,1,1,0,0] IW (a,b,c,d,e,())
 | .b9 a b c d e=>AA3 f280 [1,1,1,1,1,1,1,1,1,1,1,1,0,0] IW (a,b,c,d,e,())
theorem Zol:AA1 280 [156,62] 156 (fun x=>Z15 x.1 x.2.1) rfl:=Aj (mc QP (mc ZjH (mc Zc8 Ag))) Ah ZrW Zq8 func280 (fun p=>by cases p<;>kernel_rfl) (by kernel_rfl) fun _=>rfl
inductive Xy where
 | b0 (a:List Int)
def Z9g:Xy->Tr U ((AL×Int)⊕Xy)
 | .b0 a=>let j:=AA (Gg,3);let h:=(↑a.length:Int);.br (h==0) j (.chk (kI (0:Int) a) (.bind 5 (a[(Int.toNat 0)]?) (fun(b:Int)=>let i:=AP (b);.bind 262 (ER i) (fun(e:Be)=>.br (!e.Hm) (AA (Gg,12)) (.bind 3 (pU i) (fun(f:Int)=>.br (decide (h<f)) j (.bind 3 (pU i) (fun(g:Int)=>.br (decide (h>g)) (AA (Gg,2)) (.bind 156 (Z15 (⟨i,BR,0,0,0,0,0,0,0,0,0⟩:AL) a) (fun(c:AL)=>.bind 45 (Ox c) (fun(d:Int)=>.br (d != 0) (AA (Gg,d)) (AA (c,0)))))))))))))
def nD (a:List Int):Option (AL×Int):=AV Z9g (.b0 a)
def ZmO:Xy->Ac U
 | .b0 a=>Ai f214 [62] (a,())
theorem Z8v:AA1 214 [62] 231 (fun x=>nD x.1) rfl:=Aj (mc Z0o (mc QP (mc Zrq (mc Zol Ag)))) Ah AN ZmO func214 (fun p=>by cases p<;>kernel_rfl) (by kernel_rfl) fun _=>rfl
inductive aY where
 | b0 (a:Aa) (b:AL)
 | b1 (a:Aa) (b:AL) (c:Aa)
 | b2 (a:Aa) (b:AL) (c:Aa)
 | b3 (a b:Aa)
def ZbF:aY->Tr U ((Aa×(List BB))⊕aY)
 | .b0 a b=>let c:=AO (aY.b2 a b EW);.br (a.GR==0) (.br (a.Own==2) (.br (b.Kind==2) (AO (.b1 a b EW)) c) c) c
 | .b1 a b c=>AO (.b2 ({ a with GR:=22 }:Aa) b c)
 | .b2 a b c=>let e:=Tr.chk true (AA (a,([]:List BB)));.bind 4 (QY b.Kind) (fun(d:Bool)=>.br d (.br (a.Own==b.Kind) (AO (.b3 a c)) e) e)
 | .b3 a b=>.chk true (AA (({ a with Told:=true }:Aa),([]:List BB)))
def Z1K (a:Aa) (b:AL):Option (Aa×(List BB)):=AV ZbF (.b0 a b)
def mV:Lay:=⟨[2,3,4],[KP,KP,KP],[.var k1,.var k0,.var k1],⟨[PQ 0,PQ 1,PQ 2],[VA 39 20,VA 156 15,VA 39 20]⟩⟩
def Z9b:Lay:=⟨[2,4],[KP,KP],[.var k1,.var k1],⟨[PQ 0,PQ 1],[VA 39 20,VA 39 20]⟩⟩
def Zuu:Nat->Option Lay
 | 2=>some mV
 | 3=>some mV
 | 4=>some Z9b
 | _=>none
def ZtU:aY->Ac U
 | .b0 a b=>Ai f215 [39,156] (a,b,())
 | .b1 a b c=>AA3 f215 [1,0,1,0] mV (a,b,c,())
 | .b2 a b c=>AA3 f215 [1,1,0,0] mV (a,b,c,())
 | .b3 a b=>AA3 f215 [1,1,0,1,0] Z9b (a,b,())
theorem Zsf:AA1 215 [39,156] 233 (fun x=>Z1K x.1 x.2.1) rfl:=Aj (mc U1 Ag) Ah Zuu ZtU func215 (fun p=>by cases p<;>kernel_rfl) (by kernel_rfl) fun _=>rfl
inductive Yb where
 | b0 (a:List BB) (b:Int)
 | b1 (a:List BB) (b:Int) (c:List BB) (d:Int)
def ZaF:Yb->Tr U ((List BB)⊕Yb)
 | .b0 a b=>.chk true (AO (.b1 a b ([]:List BB) (0:Int)))
 | .b1 b d a c=>.br (decide (c<(↑b.length:Int))) (.chk (kI c b) (.bind 148 (b[(Int.toNat c)]?) (fun(e:BB)=>let f:=a++[({ e with Event:=d }:BB)];.chk true (kl a (.chk (kA (a.length+1) 160) (kl f (AO (.b1 b d f (AP (c+1)))))))))) (kl a (AA a))
def nP (a:List BB) (b:Int):Option (List BB):=AV ZaF (.b0 a b)
def Z80:Lay:=⟨[0,1,5,6],[[.s 148 18],KP,[.own 148 18],KP],[.row true],⟨[OV 77,OV 30,.one (.own 148 0),OV 3],[.row 148 true]⟩⟩
def ZrY:Nat->Option Lay
 | 3=>some Z80
 | _=>none
def ZpI:Yb->Ac U
 | .b0 a b=>Ai f216 [77,30] (a,b,())
 | .b1 a b c d=>AA3 f216 [1,1,0,1,0,0,0,0] Z80 (a,b,d,c,())
theorem Z98:AA1 216 [77,30] 77 (fun x=>nP x.1 x.2.1) rfl:=Aj Ag Ah ZrY ZpI func216 (fun p=>by cases p<;>kernel_rfl) (by kernel_rfl) fun _=>rfl
inductive Y9 where
 | b0 (a:A8) (b:Aw)
 | b1 (a:A8) (b:Aw) (c:A8)
 | b2 (a:List BB) (b c:A8)
def Z9Y:Y9->Tr U ((A8×(List BB))⊕Y9)
 | .b0 a b=>.bind 4 (Rq b) (fun(c:Bool)=>.br c (.chk true (AA (a,([]:List BB)))) (.br a.DY.Gm (.bind 41 (o7 a.DY true false) (fun(d:Cb)=>AO (.b1 ({ a with DY:=d }:A8) b Dk))) (AO (.b1 a b Dk))))
 | .b1 a c d=>.br (c.Ba != 3) (.chk true (AA (a,([]:List BB)))) (.bind 231 (nD c.Payload) (fun(e:AL×Int)=>.bind 233 (Z1K a.Am e.1) (fun(b:Aa×(List BB))=>.br (e.1.Kind==5) (.bind 41 (Yt a.DY true a.DY.N9) (fun(f:Cb)=>AO (.b2 b.2 ({ a with Am:=b.1,DY:=f }:A8) d))) (AO (.b2 b.2 ({ a with Am:=b.1 }:A8) d)))))
 | .b2 b a d=>.bind 77 (nP b a.Event) (fun(c:List BB)=>AA (a,c))
def Z10 (a:A8) (b:Aw):Option (A8×(List BB)):=AV Z9Y (.b0 a b)
def Z7O:Lay:=⟨[2,3,4],[KP,KP,KP],[.var k2,.var [.keep,.s 5 1],.var k2],⟨[PQ 0,PQ 1,PQ 2],[VA 44 66,VA 68 2,VA 44 66]⟩⟩
def Z7L:Lay:=⟨[2,4,9],[KP,KP,[.s 148 18]],[.var k2,.var k2],⟨[PQ 0,PQ 1,OV 77],[VA 44 66,VA 44 66]⟩⟩
def Zsv:Nat->Option Lay
 | 5=>some Z7O
 | 12=>some Z7L
 | _=>none
def Zq7:Y9->Ac U
 | .b0 a b=>Ai f119 [44,68] (a,b,())
 | .b1 a b c=>AA3 f119 [1,1,1,0,0] Z7O (a,b,c,())
 | .b2 a b c=>AA3 f119 [1,1,1,1,1,1,1,1,0] Z7L (a,b,c,())
theorem Zq3:AA1 119 [44,68] 78 (fun x=>Z10 x.1 x.2.1) rfl:=Aj (mc nC (mc ZaU (mc Z1v (mc Z8v (mc Zsf (mc Z98 Ag)))))) Ah Zsv Zq7 func119 (fun p=>by cases p<;>kernel_rfl) (by kernel_rfl) fun _=>rfl
inductive W9 where
 | b0 (a:Aa) (b:AL) (c d:Int)
 | b1 (a b:Aa)
def Z6c:W9->Tr U (Aa⊕W9)
 | .b0 a b e d=>.br (a.Bz != 1) (AA a) (.bind 138 (nJ b) (fun(f:BP)=>.bind 269 (qW a.CO e f) (fun(c:(List BP)×Int)=>let g:=({ a with Other:=b.Kind,JC:=d,CO:=c.1 }:Aa);.br (c.2==18) (AA ({ a with GR:=40 }:Aa)) (.br (c.2 != 0) (AA ({ a with GR:=42 }:Aa)) (.br (b.Kind==0) (.br (a.Own==15) (AO (.b1 g EW)) (AA g)) (AA g))))))
 | .b1 a b=>AA ({ a with Own:=-1 }:Aa)
def wY (a:Aa) (b:AL) (c d:Int):Option Aa:=AV Z6c (.b0 a b c d)
def Z5u:Lay:=⟨[4,8],[KP,KP],[.var k1,.var k1],⟨[PQ 0,PQ 1],[VA 39 20,VA 39 20]⟩⟩
def ZiX:Nat->Option Lay
 | 14=>some Z5u
 | _=>none
def Zhr:W9->Ac U
 | .b0 a b c d=>Ai f281 [39,156,30,3] (a,b,c,d,())
 | .b1 a b=>AA3 f281 [1,1,1,1,1,1,1,1,0,1,0] Z5u (a,b,())
theorem Zhe:AA1 281 [39,156,30,3] 39 (fun x=>wY x.1 x.2.1 x.2.2.1 x.2.2.2.1) rfl:=Aj (mc ZbS (mc Z8Q Ag)) Ah ZiX Zhr func281 (fun p=>by cases p<;>kernel_rfl) (by kernel_rfl) fun _=>rfl
end
noncomputable section
inductive aB where
 | b0 (a b:Int)
def ZbA:aB->Tr U ((List BB)⊕aB)
 | .b0 a b=>.chk true (AA ([(⟨a,0,(⟨0,[]⟩:Aw),U0,b,BR⟩:BB)]))
def Ld (a b:Int):Option (List BB):=AV ZbA (.b0 a b)
def Zsy:aB->Ac U
 | .b0 a b=>Ai f346 [3,25] (a,b,())
theorem nV:AA1 346 [3,25] 77 (fun x=>Ld x.1 x.2.1) rfl:=Aj Ag Ah AN Zsy func346 (fun p=>by cases p<;>kernel_rfl) (by kernel_rfl) fun _=>rfl
inductive Wp where
 | b0 (a:Aa) (b:AL) (c:Int)
 | b1 (a:Int) (b:Aa) (c:AL) (d:Aa)
 | b2 (a:Bool) (b:Aa) (c:AL) (d:Aa)
 | b3 (a:Aa) (b:AL) (c:Aa)
 | b4 (a:Bool) (b:Aa) (c:AL) (d:Aa)
 | b5 (a b:Aa)
 | b6 (a b:Aa)
 | b7 (a:Bool) (b:Aa) (c:AL) (d:Aa)
 | b8 (a:Bool) (b c:Aa)
def Z6B:Wp->Tr U ((Aa×(List AL)×(List BB))⊕Wp)
 | .b0 a b c=>let d:=AO (Wp.b2 (a.Bz==0) a b EW);.br (b.Kind==3) (.br (!(a.Bz==0)) (.br (a.EJ==0) (AO (.b1 c a b EW)) d) d) d
 | .b1 b c a e=>.bind 77 (Ld (8:Int) a.Mark) (fun(d:List BB)=>.chk true (AA (({ c with Other:=3,JC:=b,Jc:=a.Bq,Mark:=a.Mark,EJ:=1 }:Aa),([]:List AL),d)))
 | .b2 c a b d=>let e:=AO (Wp.b4 c a b d);.br (b.Kind==4) (.br c (.br (a.EJ==1) (AO (.b3 a b d)) e) e) e
 | .b3 a b c=>AO (.b5 ({ a with Jc:=b.Bq,EJ:=2 }:Aa) c)
 | .b4 b a c d=>let e:=AO (Wp.b7 b a c d);.br (c.Kind==5) (.br b (.br (a.EJ==2) (AO (.b6 a d)) e) e) e
 | .b5 a b=>.chk true (.chk true (AA (a,([]:List AL),([]:List BB))))
 | .b6 a c=>.bind 36 (NK (⟨6,BR,0,0,0,0,0,0,0,0,0⟩:AL)) (fun(b:List AL)=>.chk true (AA (({ a with EJ:=3 }:Aa),b,([]:List BB))))
 | .b7 c a d b=>let e:=AO (Wp.b5 a b);.br (d.Kind==6) (.br (a.EJ==3) (AO (.b8 c a b)) e) e
 | .b8 b a f=>let g:=(Ld (3:Int) (0:Int));.br b (.bind 77 g (fun(c:List BB)=>.chk true (AA (({ a with Own:=-1,EJ:=4 }:Aa),([]:List AL),c)))) (.bind 36 (NK (⟨6,BR,0,0,0,0,0,0,0,0,0⟩:AL)) (fun(d:List AL)=>.bind 77 g (fun(e:List BB)=>AA (({ a with Other:=-1,EJ:=4 }:Aa),d,e))))
def zF (a:Aa) (b:AL) (c:Int):Option (Aa×(List AL)×(List BB)):=AV Z6B (.b0 a b c)
def Z5G:Lay:=⟨[2,3,4,6],[KP,KP,KP,KP],[.var k1,.var k0,.var k1],⟨[OV 3,PQ 0,PQ 1,PQ 2],[VA 39 20,VA 156 15,VA 39 20]⟩⟩
def Tm:Lay:=⟨[3,4,6,9],[KP,KP,KP,KP],[.var k1,.var k0,.var k1],⟨[PQ 0,PQ 1,PQ 2,OV 4],[VA 39 20,VA 156 15,VA 39 20]⟩⟩
def Z5I:Lay:=⟨[3,4,6],[KP,KP,KP],[.var k1,.var k0,.var k1],⟨[PQ 0,PQ 1,PQ 2],[VA 39 20,VA 156 15,VA 39 20]⟩⟩
def jS:Lay:=⟨[3,6],[KP,KP],[.var k1,.var k1],⟨[PQ 0,PQ 1],[VA 39 20,VA 39 20]⟩⟩
def Z5E:Lay:=⟨[3,6,9],[KP,KP,KP],[.var k1,.var k1],⟨[PQ 0,PQ 1,OV 4],[VA 39 20,VA 39 20]⟩⟩
def ZjD:Nat->Option Lay
 | 3=>some Z5G
 | 9=>some Tm
 | 10=>some Z5I
 | 12=>some Tm
 | 22=>some jS
 | 13=>some jS
 | 15=>some Tm
 | 16=>some Z5E
 | _=>none
def Zib:Wp->Ac U
 | .b0 a b c=>Ai f282 [39,156,3] (a,b,c,())
 | .b1 a b c d=>AA3 f282 [1,1,0,0,1,0,0] Z5G (a,b,c,d,())
 | .b2 a b c d=>AA3 f282 [1,1,0,0,1,1,0] Tm (a,b,c,d,())
 | .b3 a b c=>AA3 f282 [1,1,0,0,1,1,1,0,0] Z5I (a,b,c,())
 | .b4 a b c d=>AA3 f282 [1,1,0,0,1,1,1,1,0] Tm (a,b,c,d,())
 | .b5 a b=>AA3 f282 [1,1,1,0] jS (a,b,())
 | .b6 a b=>AA3 f282 [1,1,0,0,1,1,1,1,1,0,0] jS (a,b,())
 | .b7 a b c d=>AA3 f282 [1,1,0,0,1,1,1,1,1,1,0] Tm (a,b,c,d,())
 | .b8 a b c=>AA3 f282 [1,1,0,0,1,1,1,1,1,1,1,0,0] Z5E (a,b,c,())
theorem ZhO:AA1 282 [39,156,3] 237 (fun x=>zF x.1 x.2.1 x.2.2.1) rfl:=Aj (mc Uh (mc nV Ag)) Ah ZjD Zib func282 (fun p=>by cases p<;>kernel_rfl) (by kernel_rfl) fun _=>rfl
inductive WY where
 | b0 (a:Aa) (b:AL)
 | b1 (a b:Aa)
 | b2 (a:Aa) (b:AL) (c:Aa)
 | b3 (a:Aa) (b:AL) (c:Aa)
def Z6g:WY->Tr U ((Aa×(List AL)×(List BB))⊕WY)
 | .b0 a b=>let d:=AO (WY.b1 a EW);.br (a.Own != b.DT) d (.bind 4 (QY a.Own) (fun(c:Bool)=>.br c d (.br (a.Own==2) d (AO (.b2 a b EW)))))
 | .b1 a b=>.chk true (.chk true (AA (a,([]:List AL),([]:List BB))))
 | .b2 a b c=>.br (a.Own==3) (AO (.b3 ({ a with EJ:=0 }:Aa) b c)) (AO (.b3 a b c))
 | .b3 a b d=>.bind 77 (Ld (9:Int) (IntKind.wrap .u64 (b.DT))) (fun(c:List BB)=>.chk true (AA (({ a with Own:=-1 }:Aa),([]:List AL),c)))
def yM (a:Aa) (b:AL):Option (Aa×(List AL)×(List BB)):=AV Z6g (.b0 a b)
def Z5n:Lay:=⟨[2,4],[KP,KP],[.var k1,.var k1],⟨[PQ 0,PQ 1],[VA 39 20,VA 39 20]⟩⟩
def jM:Lay:=⟨[2,3,4],[KP,KP,KP],[.var k1,.var k0,.var k1],⟨[PQ 0,PQ 1,PQ 2],[VA 39 20,VA 156 15,VA 39 20]⟩⟩
def ZhW:Nat->Option Lay
 | 2=>some Z5n
 | 3=>some jM
 | 5=>some jM
 | _=>none
def Zhm:WY->Ac U
 | .b0 a b=>Ai f283 [39,156] (a,b,())
 | .b1 a b=>AA3 f283 [1,0,1,0,0] Z5n (a,b,())
 | .b2 a b c=>AA3 f283 [1,1,0,0] jM (a,b,c,())
 | .b3 a b c=>AA3 f283 [1,1,1,0] jM (a,b,c,())
theorem ZhA:AA1 283 [39,156] 237 (fun x=>yM x.1 x.2.1) rfl:=Aj (mc U1 (mc nV Ag)) Ah ZhW Zhm func283 (fun p=>by cases p<;>kernel_rfl) (by kernel_rfl) fun _=>rfl
inductive Wi where
 | b0 (a:Aa) (b:AL) (c:Int)
def Z66:Wi->Tr U ((Aa×(List AL)×(List BB))⊕Wi)
 | .b0 a b c=>let g:=([]:List BB);let f:=([]:List AL);.br (a.Bz != 0) (.chk true (.chk true (AA (a,f,g)))) (.bind 4 (QY a.Own) (fun(d:Bool)=>.br d (.bind 36 (NK (⟨13,BR,0,0,42,15,0,0,0,0,0⟩:AL)) (fun(e:List AL)=>.chk true (AA (a,e,g)))) (.chk true (.chk true (AA (({ a with Other:=15,JC:=c }:Aa),f,[(⟨12,0,(⟨0,[]⟩:Aw),U0,0,b.BI⟩:BB)]))))))
def yJ (a:Aa) (b:AL) (c:Int):Option (Aa×(List AL)×(List BB)):=AV Z66 (.b0 a b c)
def Zhs:Wi->Ac U
 | .b0 a b c=>Ai f284 [39,156,3] (a,b,c,())
theorem ZhH:AA1 284 [39,156,3] 237 (fun x=>yJ x.1 x.2.1 x.2.2.1) rfl:=Aj (mc U1 (mc Uh Ag)) Ah AN Zhs func284 (fun p=>by cases p<;>kernel_rfl) (by kernel_rfl) fun _=>rfl
inductive Wh where
 | b0 (a:Aa) (b:AL)
 | b1 (a b:Aa)
 | b2 (a:Aa) (b:AL) (c:Aa)
def Z5Z:Wh->Tr U ((Aa×(List AL)×(List BB))⊕Wh)
 | .b0 a b=>let c:=AO (Wh.b2 a b EW);.br (b.Kind==21) (.br (a.Own != 20) (AO (.b1 a EW)) c) c
 | .b1 a b=>.chk true (.chk true (AA (a,([]:List AL),([]:List BB))))
 | .b2 a b f=>let g:=if a.Limit<b.Length then a.Limit else b.Length;let h:=(Ld (11:Int) (IntKind.wrap .u64 (g)));.br (b.Kind==21) (.bind 77 h (fun(c:List BB)=>.chk true (AA (({ a with Own:=-1,Length:=g }:Aa),([]:List AL),c)))) (.bind 36 (NK (⟨21,BR,0,0,0,0,0,0,0,0,a.Limit⟩:AL)) (fun(d:List AL)=>.bind 77 h (fun(e:List BB)=>AA (({ a with Length:=g }:Aa),d,e))))
def yQ (a:Aa) (b:AL):Option (Aa×(List AL)×(List BB)):=AV Z5Z (.b0 a b)
def Z5r:Lay:=⟨[2,4],[KP,KP],[.var k1,.var k1],⟨[PQ 0,PQ 1],[VA 39 20,VA 39 20]⟩⟩
def Z5s:Lay:=⟨[2,3,4],[KP,KP,KP],[.var k1,.var k0,.var k1],⟨[PQ 0,PQ 1,PQ 2],[VA 39 20,VA 156 15,VA 39 20]⟩⟩
def ZiP:Nat->Option Lay
 | 2=>some Z5r
 | 3=>some Z5s
 | _=>none
def ZhC:Wh->Ac U
 | .b0 a b=>Ai f285 [39,156] (a,b,())
 | .b1 a b=>AA3 f285 [1,0,1,0,0] Z5r (a,b,())
 | .b2 a b c=>AA3 f285 [1,1,0] Z5s (a,b,c,())
theorem Zh0:AA1 285 [39,156] 237 (fun x=>yQ x.1 x.2.1) rfl:=Aj (mc Uh (mc nV Ag)) Ah ZiP ZhC func285 (fun p=>by cases p<;>kernel_rfl) (by kernel_rfl) fun _=>rfl
inductive Wy where
 | b0 (a:Aa) (b:AL)
 | b1 (a:Aa) (b:AL) (c:Aa)
 | b2 (a:Aa) (b:AL) (c:Aa)
 | b3 (a b:Aa)
 | b4 (a b:Aa)
def Z6P:Wy->Tr U ((Aa×(List AL)×(List BB))⊕Wy)
 | .b0 a b=>let f:=AO (Wy.b2 a b EW);let e:=bits .and .u64 a.CW b.CW;.br (b.Kind==8) (.bind 36 (NK (⟨9,BR,0,0,0,0,0,0,a.CW,0,0⟩:AL)) (fun(c:List AL)=>.bind 77 (Ld (5:Int) e) (fun(d:List BB)=>AA (({ a with MI:=e,Hm:=true }:Aa),c,d)))) (.br (b.Kind==9) (.br (a.Own==8) (AO (.b1 a b EW)) f) f)
 | .b1 a b d=>let e:=bits .and .u64 a.CW b.CW;.bind 77 (Ld (5:Int) e) (fun(c:List BB)=>.chk true (AA (({ a with Own:=-1,MI:=e,Hm:=true }:Aa),([]:List AL),c)))
 | .b2 a b c=>let h:=([]:List AL);let g:=AO (Wy.b4 a c);.br (b.Kind==12) (.bind 77 (Ld (6:Int) (IntKind.wrap .u64 (b.Version))) (fun(d:List BB)=>.br (a.Own==12) (.chk true (AA (({ a with Own:=-1,Version:=b.Version }:Aa),h,d))) (.br a.JV (.chk true (AA (({ a with Version:=b.Version }:Aa),h,d))) (.bind 36 (NK (⟨12,BR,0,0,0,0,0,0,0,11,0⟩:AL)) (fun(e:List AL)=>AA (({ a with JV:=true,Version:=b.Version }:Aa),e,d)))))) (.br (b.Kind==18) (.bind 36 (NK (⟨19,BR,0,0,0,0,0,0,0,0,0⟩:AL)) (fun(f:List AL)=>.chk true (AA (a,f,([]:List BB))))) (.br (b.Kind==19) (.br (a.Own==18) (AO (.b3 a c)) g) g))
 | .b3 a c=>.bind 77 (Ld (7:Int) (0:Int)) (fun(b:List BB)=>.chk true (AA (({ a with Own:=-1 }:Aa),([]:List AL),b)))
 | .b4 a b=>.chk true (.chk true (AA (a,([]:List AL),([]:List BB))))
def Zg (a:Aa) (b:AL):Option (Aa×(List AL)×(List BB)):=AV Z6P (.b0 a b)
def kJ:Lay:=⟨[2,3,4],[KP,KP,KP],[.var k1,.var k0,.var k1],⟨[PQ 0,PQ 1,PQ 2],[VA 39 20,VA 156 15,VA 39 20]⟩⟩
def kP:Lay:=⟨[2,4],[KP,KP],[.var k1,.var k1],⟨[PQ 0,PQ 1],[VA 39 20,VA 39 20]⟩⟩
def Zki:Nat->Option Lay
 | 6=>some kJ
 | 10=>some kJ
 | 23=>some kP
 | 25=>some kP
 | _=>none
def Zk7:Wy->Ac U
 | .b0 a b=>Ai f286 [39,156] (a,b,())
 | .b1 a b c=>AA3 f286 [1,0,0,1,1,1,0,0] kJ (a,b,c,())
 | .b2 a b c=>AA3 f286 [1,0,0,1,1,1,1,0] kJ (a,b,c,())
 | .b3 a b=>AA3 f286 [1,0,0,1,1,1,1,1,1,1,1,1,0,0] kP (a,b,())
 | .b4 a b=>AA3 f286 [1,1,0] kP (a,b,())
theorem Zjo:AA1 286 [39,156] 237 (fun x=>Zg x.1 x.2.1) rfl:=Aj (mc Uh (mc nV Ag)) Ah Zki Zk7 func286 (fun p=>by cases p<;>kernel_rfl) (by kernel_rfl) fun _=>rfl
inductive X5 where
 | b0 (a:Aa) (b:AL) (c d:Int)
 | b1 (a b:Int) (c:Aa) (d:AL) (e:Aa)
 | b2 (a b:Int) (c:Aa) (d:AL) (e:Aa)
 | b3 (a b:Aa)
 | b4 (a:Int) (b:Aa) (c:AL) (d:Aa)
 | b5 (a b:Int) (c:Aa) (d:AL) (e:Aa)
 | b6 (a:Aa) (b:AL) (c:Aa)
 | b7 (a b:Int) (c:Aa) (d:AL) (e:Aa)
 | b8 (a:Aa) (b:AL) (c:Aa)
 | b9 (a:Aa) (b:AL) (c:Aa)
def Z9z:X5->Tr U ((Aa×(List AL)×(List BB))⊕X5)
 | .b0 b a d c=>let k:=a.Kind==0;let j:=([]:List BB);let i:=AO (X5.b1 d c b a EW);let h:=AO (X5.b2 c a.Kind b a EW);let g:=(if (0:Int)>a.Kind then (0:Int) else a.Kind);.br (b.GR != 0) (.chk true (.chk true (AA (b,([]:List AL),j)))) (.bind 262 (ER a.Kind) (fun(e:Be)=>.br (!e.Hm) (.bind 36 (NK (⟨7,BR,0,0,0,(if (255:Int)<g then (255:Int) else g),0,0,0,0,0⟩:AL)) (fun(f:List AL)=>.chk true (AA (b,f,j)))) (.br k (.br k i h) (.br (a.Kind==1) i h))))
 | .b1 a b c d f=>.bind 39 (wY c d a b) (fun(e:Aa)=>.chk true (.chk true (AA (e,([]:List AL),([]:List BB)))))
 | .b2 e a b c d=>let g:=AO (X5.b4 e b c d);let f:=AO (X5.b5 e a b c d);.br (a==2) (.br (c.Bd==0) (AO (.b3 ({ b with GR:=19 }:Aa) d)) (AO (.b3 ({ b with GR:=c.Bd }:Aa) d))) (.br (a==3) (.br (a==3) g f) (.br (a==4) (.br (a==4) g f) (.br (a==5) (.br (a==5) g f) (.br (a==6) g f))))
 | .b3 a b=>.chk true (.chk true (AA (a,([]:List AL),([]:List BB))))
 | .b4 b c d e=>.bind 237 (zF c d b) (fun(a:Aa×(List AL)×(List BB))=>AA (a.1,a.2.1,a.2.2))
 | .b5 e a b c d=>let g:=AO (X5.b6 b c d);let f:=AO (X5.b7 e a b c d);.br (a==7) (.br (a==7) g f) (.br (a==13) g f)
 | .b6 b c d=>.bind 237 (yM b c) (fun(a:Aa×(List AL)×(List BB))=>AA (a.1,a.2.1,a.2.2))
 | .b7 f c a b d=>let h:=AO (X5.b9 a b d);let g:=AO (X5.b8 a b d);.br (c==15) (.bind 237 (yJ a b f) (fun(e:Aa×(List AL)×(List BB))=>AA (e.1,e.2.1,e.2.2))) (.br (c==20) (.br (c==20) g h) (.br (c==21) g h))
 | .b8 b c d=>.bind 237 (yQ b c) (fun(a:Aa×(List AL)×(List BB))=>AA (a.1,a.2.1,a.2.2))
 | .b9 b c d=>.bind 237 (Zg b c) (fun(a:Aa×(List AL)×(List BB))=>AA (a.1,a.2.1,a.2.2))
def Z0x (a:Aa) (b:AL) (c d:Int):Option (Aa×(List AL)×(List BB)):=AV Z9z (.b0 a b c d)
def Z7l:Lay:=⟨[2,3,4,5,8],[KP,KP,KP,KP,KP],[.var k1,.var k0,.var k1],⟨[OV 30,OV 3,PQ 0,PQ 1,PQ 2],[VA 39 20,VA 156 15,VA 39 20]⟩⟩
def UM:Lay:=⟨[3,4,5,8,28],[KP,KP,KP,KP,KP],[.var k1,.var k0,.var k1],⟨[OV 3,PQ 0,PQ 1,PQ 2,OV 3],[VA 39 20,VA 156 15,VA 39 20]⟩⟩
def Z7t:Lay:=⟨[4,8],[KP,KP],[.var k1,.var k1],⟨[PQ 0,PQ 1],[VA 39 20,VA 39 20]⟩⟩
def Z7h:Lay:=⟨[3,4,5,8],[KP,KP,KP,KP],[.var k1,.var k0,.var k1],⟨[OV 3,PQ 0,PQ 1,PQ 2],[VA 39 20,VA 156 15,VA 39 20]⟩⟩
def UN:Lay:=⟨[4,5,8],[KP,KP,KP],[.var k1,.var k0,.var k1],⟨[PQ 0,PQ 1,PQ 2],[VA 39 20,VA 156 15,VA 39 20]⟩⟩
def ZqC:Nat->Option Lay
 | 8=>some Z7l
 | 9=>some UM
 | 13=>some Z7t
 | 18=>some Z7h
 | 19=>some UM
 | 21=>some UN
 | 22=>some UM
 | 26=>some UN
 | 27=>some UN
 | _=>none
def ZmK:X5->Ac U
 | .b0 a b c d=>Ai f217 [39,156,30,3] (a,b,c,d,())
 | .b1 a b c d e=>AA3 f217 [1,1,1,0,1,0,1,0,0] Z7l (a,b,c,d,e,())
 | .b2 a b c d e=>AA3 f217 [1,1,1,0,1,0,1,1,0] UM (a,b,c,d,e,())
 | .b3 a b=>AA3 f217 [1,1,1,0,1,0,1,1,1,0,1,1,0] Z7t (a,b,())
 | .b4 a b c d=>AA3 f217 [1,1,1,0,1,0,1,1,1,1,1,0,0] Z7h (a,b,c,d,())
 | .b5 a b c d e=>AA3 f217 [1,1,1,0,1,0,1,1,1,1,1,1,0,0] UM (a,b,c,d,e,())
 | .b6 a b c=>AA3 f217 [1,1,1,0,1,0,1,1,1,1,1,1,1,0,0] UN (a,b,c,())
 | .b7 a b c d e=>AA3 f217 [1,1,1,0,1,0,1,1,1,1,1,1,1,1,0] UM (a,b,c,d,e,())
 | .b8 a b c=>AA3 f217 [1,1,1,0,1,0,1,1,1,1,1,1,1,1,1,1,1,0,0] UN (a,b,c,())
 | .b9 a b c=>AA3 f217 [1,1,1,1,0] UN (a,b,c,())
theorem Znt:AA1 217 [39,156,30,3] 237 (fun x=>Z0x x.1 x.2.1 x.2.2.1 x.2.2.2.1) rfl:=Aj (mc QP (mc Uh (mc Zhe (mc ZhO (mc ZhA (mc ZhH (mc Zh0 (mc Zjo Ag)))))))) Ah ZqC ZmK func217 (fun p=>by cases p<;>kernel_rfl) (by kernel_rfl) fun _=>rfl
inductive XP where
 | b0 (a:A8) (b:List Int) (c:Int)
 | b1 (a:List BB) (b c:A8) (d:Aa)
 | b2 (a:List BB) (b c:A8)
def Z8V:XP->Tr U ((A8×(List BB))⊕XP)
 | .b0 a d f=>let m:=([]:List BB);let k:=kA (0+a.BC.length) 120;let g:=([]:List AL)++a.BC;.bind 231 (nD d) (fun(c:AL×Int)=>.br (c.2==12) (.chk true (.chk k (.chk (kI (0:Int) d) (.bind 5 (d[(Int.toNat 0)]?) (fun(e:Int)=>let i:=g++[(⟨7,BR,0,0,0,(AP (e)),0,0,0,0,0⟩:AL)];.chk true (kl g (.chk (kA (g.length+1) 120) (kl i (.chk true (AA (({ a with BC:=i }:A8),m))))))))))) (.br (c.2 != 0) (.chk true (AA (a,m))) (.bind 237 (Z0x a.Am c.1 a.Event f) (fun(b:Aa×(List AL)×(List BB))=>let l:=g++b.2.1;let j:=({ a with Am:=b.1,BC:=l }:A8);let h:=kl l (AO (XP.b2 b.2.2 j Dk));.chk true (.chk k (kl g (.chk (kA (g.length+b.2.1.length) 120) (.br (a.Bz==0) (.br (c.1.Kind==5) (.br (b.1.EJ==3) (kl l (AO (.b1 b.2.2 j Dk b.1))) h) h) h))))))))
 | .b1 c a d b=>.bind 41 (qJ a.Bz a.Key b.Bq b.Jc) (fun(e:Cb)=>.bind 41 (Yt e true true) (fun(f:Cb)=>kl a.BC (AO (.b2 c ({ a with DY:=f }:A8) d))))
 | .b2 b a d=>.bind 77 (nP b a.Event) (fun(c:List BB)=>kl a.BC (AA (a,c)))
def Z0d (a:A8) (b:List Int) (c:Int):Option (A8×(List BB)):=AV Z8V (.b0 a b c)
def Z76:Lay:=⟨[3,6,10,12],[KP,KP,KP,[.s 148 18]],[.var k9,.var k2,.var k1,.row true],⟨[PQ 0,PQ 1,PQ 2,OV 77],[.var 44 66 (iW 3),VA 44 66,VA 39 20,.row 156 true]⟩⟩
def Z71:Lay:=⟨[3,6,12],[KP,KP,[.s 148 18]],[.var k9,.var k2,.row true],⟨[PQ 0,PQ 1,OV 77],[.var 44 66 (iW 2),VA 44 66,.row 156 true]⟩⟩
def ZnP:Nat->Option Lay
 | 11=>some Z76
 | 12=>some Z71
 | _=>none
def Zmm:XP->Ac U
 | .b0 a b c=>Ai f121 [44,62,3] (a,b,c,())
 | .b1 b a c d=>Ad f121 [1,1,1,1,1,1,1,0,1,0] Z76 (((),((),((),((b,()),())))),((WM a),((c,()),((d,()),(a.BC,())))))
 | .b2 b a c=>Ad f121 [1,1,1,1,1,1,1,1,0] Z71 (((),((),((b,()),()))),((WM a),((c,()),(a.BC,()))))
theorem Zmt:AA1 121 [44,62,3] 78 (fun x=>Z0d x.1 x.2.1 x.2.2.1) rfl:=Aj (mc Z1v (mc ZbT (mc Z8v (mc Z98 (mc Znt Ag))))) Ah ZnP Zmm func121 (fun p=>by cases p<;>kernel_rfl) (by kernel_rfl) fun _=>rfl
inductive XZ where
 | b0 (a:A8) (b:List Int) (c:Bool) (d:Int)
 | b1 (a:List Int) (b:Int) (c d:A8)
 | b2 (a:List Int) (b:Int) (c d:A8)
 | b3 (a:Int) (b:Bool) (c d:A8) (e:BD)
 | b4 (a:Int) (b:Bool) (c d:A8) (e:BD)
 | b5 (a:Int) (b:Bool) (c d:A8) (e:BD) (f:Aw)
 | b6 (a:Int) (b:Bool) (c d:A8) (e:BD) (f:Aw)
 | b7 (a:Int) (b:Bool) (c d:A8) (e:BD) (f:Aw)
 | b8 (a:Int) (b:Bool) (c d:A8) (e:BD) (f:Aw)
 | b9 (a:Int) (b c:Bool) (d:List BB) (e f:A8) (g:BD) (h:Aw)
 | b10 (a:Int) (b:List BB) (c d:A8) (e:BD) (f:Aw)
 | b11 (a:List BB) (b c:A8) (d:BD)
def Z8b:XZ->Tr U ((A8×(List BB)×Bool)⊕XZ)
 | .b0 a b d c=>let e:=({ a with Jd:=true }:A8);let f:=AO (XZ.b2 b c e Dk);.br (a.Bd != 0) (.chk true (AA (a,([]:List BB),false))) (.br d (.br (a.Bz==1) (AO (.b1 b c e Dk)) f) f)
 | .b1 b a c d=>AO (.b2 b a ({ c with IL:=a,Size:=0,Sync:=a }:A8) d)
 | .b2 h b a d=>let m:=([]:List BB);.bind 3 (QR a) (fun(e:Int)=>.bind 1348 (Yc e h) (fun(q:QV)=>kl q.q0 (.bind 120 (Z0M a.Bl.FQ q.q0) (fun(g:(List Int)×Int)=>.br (g.2 != 0) (.bind 42 (Xb a.DI e false) (fun(i:List BV)=>.chk true (AA (({ a with DI:=i }:A8),m,false)))) (.bind 71 (Z0t g.1) (fun(c:BD×Int)=>.br (c.2 != 0) (.chk true (AA (a,m,false))) (.bind 42 (Xb a.DI e true) (fun(f:List BV)=>let k:=({ a with J6:=b,JH:=true,Good:=true,DI:=f }:A8);let l:=AO (XZ.b3 b false k d c.1);.br (c.1.SN==a.Az.Dp) (.bind 4 (Rq c.1.Ak) (fun(j:Bool)=>.br (!j) (AO (.b3 b a.DY.N9 k d c.1)) l)) l))))))))
 | .b3 c b a d e=>.br b (.bind 71 (Z1X a.DY e) (fun(f:BD×Int)=>.br (f.2 != 0) (.bind 78 (qC a (61:Int)) (fun(g:A8×(List BB))=>AA (g.1,g.2,false))) (AO (.b4 c b a d f.1)))) (AO (.b4 c b a d e))
 | .b4 b c a d e=>let f:=(⟨0,([]:List Int)⟩:Aw);let g:=AO (XZ.b6 b c a d e f);.br a.Az.Open (.br (!a.Az.Empty) (AO (.b5 b c a d e f)) g) g
 | .b5 b c a d e g=>.chk (kI (0:Int) a.Az.BA) (.bind 68 (a.Az.BA[(Int.toNat 0)]?) (fun(f:Aw)=>AO (.b6 b c a d e f)))
 | .b6 b c a d e f=>let g:=AO (XZ.b8 b c a d e f);.br a.Az.Open (.br a.Az.Empty (AO (.b7 b c a d e f)) g) g
 | .b7 a b c d e f=>AO (.b8 a b c d e (⟨1,([]:List Int)⟩:Aw))
 | .b8 e f c g d h=>let i:=([]:List BB);.bind 163 (Z28 c.Az d) (fun(a:BQ×Aw×Bool×Bool)=>.br a.2.2.2 (.bind 78 (Z10 ({ c with Fz:=true,Az:=a.1 }:A8) h) (fun(b:A8×(List BB))=>.chk true (.chk (kA (0+b.2.length) 160) (kl (i++b.2) (AO (.b9 e f a.2.2.1 (i++b.2) b.1 g d a.2.1)))))) (.chk true (AO (.b9 e f a.2.2.1 i ({ c with Az:=a.1 }:A8) g d a.2.1))))
 | .b9 e g h a b c d f=>.br h (.br g (.bind 41 (o7 b.DY false true) (fun(i:Cb)=>kl a (AO (.b10 e a ({ b with DY:=i }:A8) c d f)))) (kl a (AO (.b10 e a b c d f)))) (kl a (AO (.b11 a b c d)))
 | .b10 g a c e f b=>let i:=([]:List Int)++b.Payload;let h:=a++[(⟨1,c.Event,(⟨b.Ba,i⟩:Aw),U0,0,BR⟩:BB)];.br (b.Ba==3) (.bind 78 (Z0d c b.Payload g) (fun(d:A8×(List BB))=>kl a (.chk (kA (a.length+d.2.length) 160) (kl (a++d.2) (AO (.b11 (a++d.2) d.1 e f)))))) (.chk true (.chk (kA (0+b.Payload.length) 1) (kl i (.chk true (kl a (.chk (kA (a.length+1) 160) (kl h (AO (.b11 h c e f)))))))))
 | .b11 a b d c=>.br (c.MD==1) (kl a (AA (b,a,true))) (kl a (AA (b,a,b.More)))
def lZ (a:A8) (b:List Int) (c:Bool) (d:Int):Option (A8×(List BB)×Bool):=AV Z8b (.b0 a b c d)
def lH:Lay:=⟨[1,3,4,8],[[.s 5 1],KP,KP,KP],[.var k2,.var k2],⟨[OV 62,OV 3,PQ 0,PQ 1],[VA 44 66,VA 44 66]⟩⟩
def lG:Lay:=⟨[3,4,8,14,15],[KP,KP,KP,KP,KP],[.var k2,.var k2,.var k4],⟨[OV 3,PQ 0,PQ 1,PQ 2,OV 4],[VA 44 66,VA 44 66,VA 70 5]⟩⟩
def QL:Lay:=⟨[3,4,8,14,15,20],[KP,KP,KP,KP,KP,KP],[.var k2,.var k2,.var k4,.var [.keep,.s 5 1]],⟨[OV 3,PQ 0,PQ 1,PQ 2,OV 4,PQ 3],[VA 44 66,VA 44 66,VA 70 5,VA 68 2]⟩⟩
def Z6Z:Lay:=⟨[3,4,8,14,15,22,23,25],[KP,KP,KP,KP,KP,KP,KP,[.own 148 18]],[.var k2,.var k2,.var k4,.var [.keep,.s 5 1],.row true],⟨[OV 3,PQ 0,PQ 1,PQ 2,OV 4,PQ 3,OV 4,.one (.own 148 4)],[VA 44 66,VA 44 66,VA 70 5,VA 68 2,.row 148 true]⟩⟩
def Z6R:Lay:=⟨[3,4,8,14,22,25],[KP,KP,KP,KP,KP,[.own 148 18]],[.var k2,.var k2,.var k4,.var [.keep,.s 5 1],.row true],⟨[OV 3,PQ 0,PQ 1,PQ 2,PQ 3,.one (.own 148 4)],[VA 44 66,VA 44 66,VA 70 5,VA 68 2,.row 148 true]⟩⟩
def Z6V:Lay:=⟨[4,8,14,25],[KP,KP,KP,[.own 148 18]],[.var k2,.var k2,.var k4,.row true],⟨[PQ 0,PQ 1,PQ 2,.one (.own 148 3)],[VA 44 66,VA 44 66,VA 70 5,.row 148 true]⟩⟩
def Znl:Nat->Option Lay
 | 5=>some lH
 | 6=>some lH
 | 17=>some lG
 | 23=>some lG
 | 25=>some QL
 | 26=>some QL
 | 27=>some QL
 | 28=>some QL
 | 36=>some Z6Z
 | 39=>some Z6R
 | 44=>some Z6V
 | _=>none
def Zmv:XZ->Ac U
 | .b0 a b c d=>Ai f35 [44,62,4,3] (a,b,c,d,())
 | .b1 a b c d=>AA3 f35 [1,1,1,0,1,0] lH (a,b,c,d,())
 | .b2 a b c d=>AA3 f35 [1,1,1,1,0] lH (a,b,c,d,())
 | .b3 a b c d e=>AA3 f35 [1,1,1,1,1,1,1,1,1,1,1,1,0,0] lG (a,b,c,d,e,())
 | .b4 a b c d e=>AA3 f35 [1,1,1,1,1,1,1,1,1,1,1,1,1,0] lG (a,b,c,d,e,())
 | .b5 a b c d e f=>AA3 f35 [1,1,1,1,1,1,1,1,1,1,1,1,1,1,0,1,0] QL (a,b,c,d,e,f,())
 | .b6 a b c d e f=>AA3 f35 [1,1,1,1,1,1,1,1,1,1,1,1,1,1,1,0,0] QL (a,b,c,d,e,f,())
 | .b7 a b c d e f=>AA3 f35 [1,1,1,1,1,1,1,1,1,1,1,1,1,1,1,0,1,0] QL (a,b,c,d,e,f,())
 | .b8 a b c d e f=>AA3 f35 [1,1,1,1,1,1,1,1,1,1,1,1,1,1,1,1,0] QL (a,b,c,d,e,f,())
 | .b9 a b c d e f g h=>AA3 f35 [1,1,1,1,1,1,1,1,1,1,1,1,1,1,1,1,1,1,1,1,0,0] Z6Z (a,b,c,e,f,g,h,d,())
 | .b10 a b c d e f=>AA3 f35 [1,1,1,1,1,1,1,1,1,1,1,1,1,1,1,1,1,1,1,1,0,1,0,1,0] Z6R (a,c,d,e,f,b,())
 | .b11 a b c d=>AA3 f35 [1,1,1,1,1,1,1,1,1,1,1,1,1,1,1,1,1,1,1,1,1,0] Z6V (b,c,d,a,())
theorem ZlD:AA1 35 [44,62,4,3] 86 (fun x=>lZ x.1 x.2.1 x.2.2.1 x.2.2.2.1) rfl:=Aj (mc Z7i (mc Z8e (mc ZbP (mc ZoS (mc Zo0 (mc nC (mc ZqZ (mc ZtI (mc Zq3 (mc ZaU (mc Zmt Ag))))))))))) (hc [] Z9h Ah) Znl Zmv func35 (fun p=>by cases p<;>kernel_rfl) (by kernel_rfl) fun _=>rfl
end
noncomputable section
inductive Wl where
 | b0 (a:Ej) (b:CQ) (c:Int) (d:Bool) (e:Int)
 | b1 (a:Int) (b:Bool) (c d:Int) (e:Ej) (f g:CQ)
 | b2 (a:Int) (b:Bool) (c d:Int) (e:Ej) (f g:CQ)
 | b3 (a:Int) (b:Bool) (c:Int) (d:Ej) (e f:CQ)
 | b4 (a:Int) (b:Bool) (c d:Int) (e:Ej) (f g:CQ)
 | b5 (a:Int) (b:Bool) (c d:Int) (e:Ej) (f g:CQ) (h:Gi)
 | b6 (a:Int) (b:Bool) (c d:Int) (e:Bool) (f:Int) (g:Ej) (h i:CQ)
 | b7 (a:Int) (b c:CQ)
 | b8 (a:Int) (b:Bool) (c d:Int) (e:Bool) (f:Int) (g:Ej) (h i:CQ)
 | b9 (a:Int) (b:Bool) (c:Int) (d e:CQ)
 | b10 (b:Int) (c:Bool) (d e:Int) (f:Bool) (g h:Int) (i:List Int) (j:Ej) (k a:CQ)
 | b11 (a:Int) (b c:CQ)
 | b12 (a:Int) (b c:CQ)
 | b13 (d:Int) (e:Bool) (f g:Int) (h:Bool) (i j:Int) (k:List BB) (l:Bool) (m:Int) (a:Ej) (b c:CQ)
 | b14 (a b:Int) (c d:CQ)
 | b15 (d:Int) (e:Bool) (f g:Int) (h:Bool) (i j:Int) (k:List BB) (l:Bool) (m:Int) (a:Ej) (b c:CQ)
 | b16 (d:Int) (e:Bool) (f g:Int) (h:Bool) (i j:Int) (k:List BB) (l:Bool) (m:Int) (a:Ej) (b c:CQ)
 | b17 (a:Int) (b:Bool) (c d:Int) (e:Bool) (f:Int) (g:Ej) (h i:CQ)
def Z6r:Wl->Tr U ((CQ×Int)⊕Wl)
 | .b0 a b c d e=>AO (.b1 c d e (0:Int) a b (⟨Dk,Dk⟩:CQ))
 | .b1 b c d e a f g=>let h:=AO (Wl.b3 b c d a f g);.br (decide (e<(↑a.RQ.length:Int))) (.br (decide (e<8)) (AO (.b2 b c d e a f g)) h) h
 | .b2 d e f a b g h=>.chk (kI a b.RQ) (.bind 83 (b.RQ[(Int.toNat a)]?) (fun(c:Gi)=>let i:=Tr.br (decide ((↑c.Ak.Payload.length:Int)>300)) (AO (Wl.b4 d e f a b g h)) (AO (Wl.b5 d e f a b g h c));.br (c.Side != 0) (.br (c.Side != 1) (AO (.b4 d e f a b g h)) i) i))
 | .b3 c d e a b f=>let h:=(if (6:Int)<a.Vp then (6:Int) else a.Vp);.bind 4 (nZ b.x1) (fun(g:Bool)=>AO (.b6 c d e (if h>1 then h else (1:Int)) g (0:Int) a b f))
 | .b4 a b c d e f g=>AO (.b1 a b c (AP (d+1)) e f g)
 | .b5 b d e f g c h a=>let l:=a.Side==1;let k:=a.Side==0;.br k (.bind 46 (eP c.x0 a b) (fun(i:A8×Int)=>.br k (AO (.b4 b d e f g (⟨i.1,c.x1⟩:CQ) h)) (.br l (AO (.b4 b d e f g (⟨c.x0,i.1⟩:CQ) h)) (.fail)))) (.br l (.bind 46 (eP c.x1 a b) (fun(j:A8×Int)=>.br k (AO (.b4 b d e f g (⟨j.1,c.x1⟩:CQ) h)) (.br l (AO (.b4 b d e f g (⟨c.x0,j.1⟩:CQ) h)) (.fail)))) (.fail))
 | .b6 b c a g h d i e f=>let j:=AO (Wl.b8 b c a g h d i e f);.br (decide (d<g)) (.br c (.br (decide (a>=0)) (.br (decide (d>=a)) (AO (.b7 b e f)) j) j) j) (AO (.b9 b c a e f))
 | .b7 a b c=>AA (b,a)
 | .b8 c d e k i a j b f=>let v:=IntKind.wrap .u64 (a);let n:=decide (0<=v);let m:=Int.tmod a 2;let s:=AP ((1:Int) - m);let l:=(bits .and .i64 (Int.fdiv j.Vx (2 ^ (min (Int.toNat v) (IntKind.bits .i64)))) (1:Int))==1;.br (m==0) (.bind 63 (PD b.x0) (fun(g:A8×(List Int))=>let y:=(⟨g.1,b.x1⟩:CQ);let w:=(⟨b.x0,g.1⟩:CQ);let t:=(↑g.2.length:Int)==0;let p:=AO (Wl.b9 c d e w f);let o:=AO (Wl.b9 c d e y f);.br (m==0) (.br t o (.chk n (.br l o (.br i o (AO (.b10 c d e k i a s g.2 j y f)))))) (.br (m==1) (.br t p (.chk n (.br l p (.br i p (AO (.b10 c d e k i a s g.2 j w f)))))) (.fail)))) (.br (m==1) (.bind 63 (PD b.x1) (fun(h:A8×(List Int))=>let B:=(⟨h.1,b.x1⟩:CQ);let z:=(⟨b.x0,h.1⟩:CQ);let u:=(↑h.2.length:Int)==0;let r:=AO (Wl.b9 c d e z f);let q:=AO (Wl.b9 c d e B f);.br (m==0) (.br u q (.chk n (.br l q (.br i q (AO (.b10 c d e k i a s h.2 j B f)))))) (.br (m==1) (.br u r (.chk n (.br l r (.br i r (AO (.b10 c d e k i a s h.2 j z f)))))) (.fail)))) (.fail))
 | .b9 a d e b c=>let f:=AO (Wl.b12 a b c);.br d (.br (decide (e>=0)) (AO (.b11 a b c)) f) f
 | .b10 c h i j k d a m l e b=>.br (a==0) (.bind 86 (lZ e.x0 m (d==0) c) (fun(f:A8×(List BB)×Bool)=>.br (a==0) (AO (.b13 c h i j k d a f.2.1 f.2.2 (0:Int) l (⟨f.1,e.x1⟩:CQ) b)) (.br (a==1) (AO (.b13 c h i j k d a f.2.1 f.2.2 (0:Int) l (⟨e.x0,f.1⟩:CQ) b)) (.fail)))) (.br (a==1) (.bind 86 (lZ e.x1 m (d==0) c) (fun(g:A8×(List BB)×Bool)=>.br (a==0) (AO (.b13 c h i j k d a g.2.1 g.2.2 (0:Int) l (⟨g.1,e.x1⟩:CQ) b)) (.br (a==1) (AO (.b13 c h i j k d a g.2.1 g.2.2 (0:Int) l (⟨e.x0,g.1⟩:CQ) b)) (.fail)))) (.fail))
 | .b11 a b c=>AA (b,a)
 | .b12 a b c=>AO (.b14 a (0:Int) b c)
 | .b13 d e f h i g l j m k c a b=>let r:=AP (d+500);let q:=AO (Wl.b16 d e f h i g l j m k c a b);let p:=AO (Wl.b17 r e f h i g c a b);let o:=Tr.br (g==0) (.br (!a.x1.Good) (AO (Wl.b9 r e f a b)) p) p;.br (decide (k<(↑j.length:Int))) (.chk (kI k j) (.bind 148 (j[(Int.toNat k)]?) (fun(n:BB)=>.br (n.Kind==8) (.br (l==1) (AO (.b15 d e f h i g l j m k c a b)) q) q))) (.br (decide (g>0)) (.br (!m) (AO (.b9 r e f a b)) o) o)
 | .b14 b a c d=>let g:=AP (a+1);.br (decide (a<2)) (.br (a==0) (.bind 78 (nK c.x0 b) (fun(e:A8×(List BB))=>.br (a==0) (AO (.b14 b g (⟨e.1,c.x1⟩:CQ) d)) (.br (a==1) (AO (.b14 b g (⟨c.x0,e.1⟩:CQ) d)) (.fail)))) (.br (a==1) (.bind 78 (nK c.x1 b) (fun(f:A8×(List BB))=>.br (a==0) (AO (.b14 b g (⟨f.1,c.x1⟩:CQ) d)) (.br (a==1) (AO (.b14 b g (⟨c.x0,f.1⟩:CQ) d)) (.fail)))) (.fail))) (AA (c,b))
 | .b15 d e f g h i j k l m b a c=>.bind 46 (eP a.x1 (⟨0,10,(⟨0,[]⟩:Aw),BR,0,0,a.x1.Key⟩:Gi) d) (fun(n:A8×Int)=>AO (.b16 d e f g h i j k l m b (⟨a.x0,n.1⟩:CQ) c))
 | .b16 d e f g h i j k l m a b c=>AO (.b13 d e f g h i j k l (AP (m+1)) a b c)
 | .b17 a b c d e f g h i=>AO (.b6 a b c d e (AP (f+1)) g h i)
def yA (a:Ej) (b:CQ) (c:Int) (d:Bool) (e:Int):Option (CQ×Int):=AV Z6r (.b0 a b c d e)
def Tf:Lay:=⟨[2,3,4,5,6,10,12],[KP,KP,KP,KP,KP,KP,KP],[.var [.s 83 12,.keep,.keep],.var k5,.var k5],⟨[OV 3,OV 4,OV 3,PQ 0,PQ 1,PQ 2,OV 3],[VA 113 3,VA 109 132,VA 109 132]⟩⟩
def Z5y:Lay:=⟨[2,3,4,5,6,10],[KP,KP,KP,KP,KP,KP],[.var [.s 83 12,.keep,.keep],.var k5,.var k5],⟨[OV 3,OV 4,OV 3,PQ 0,PQ 1,PQ 2],[VA 113 3,VA 109 132,VA 109 132]⟩⟩
def Z5l:Lay:=⟨[2,3,4,5,6,10,12,13],[KP,KP,KP,KP,KP,KP,KP,KP],[.var [.s 83 12,.keep,.keep],.var k5,.var k5,.var [.keep,.keep,.keep,.s 5 1,.keep,.keep,.keep,.keep,.keep,.keep,.keep,.keep]],⟨[OV 3,OV 4,OV 3,PQ 0,PQ 1,PQ 2,OV 3,PQ 3],[VA 113 3,VA 109 132,VA 109 132,VA 83 12]⟩⟩
def Td:Lay:=⟨[2,3,4,5,6,10,16,17,18],[KP,KP,KP,KP,KP,KP,KP,KP,KP],[.var [.s 83 12,.keep,.keep],.var k5,.var k5],⟨[OV 3,OV 4,OV 3,PQ 0,PQ 1,PQ 2,OV 3,OV 4,OV 3],[VA 113 3,VA 109 132,VA 109 132]⟩⟩
def Ti:Lay:=⟨[2,6,10],[KP,KP,KP],[.var k5,.var k5],⟨[OV 3,PQ 0,PQ 1],[VA 109 132,VA 109 132]⟩⟩
def Z5z:Lay:=⟨[2,3,4,6,10],[KP,KP,KP,KP,KP],[.var k5,.var k5],⟨[OV 3,OV 4,OV 3,PQ 0,PQ 1],[VA 109 132,VA 109 132]⟩⟩
def Z5h:Lay:=⟨[2,3,4,5,6,10,16,17,18,20,22],[KP,KP,KP,KP,KP,KP,KP,KP,KP,KP,[.s 5 1]],[.var [.s 83 12,.keep,.keep],.var k5,.var k5],⟨[OV 3,OV 4,OV 3,PQ 0,PQ 1,PQ 2,OV 3,OV 4,OV 3,OV 3,OV 62],[VA 113 3,VA 109 132,VA 109 132]⟩⟩
def Tc:Lay:=⟨[2,3,4,5,6,10,16,17,18,20,24,25,26],[KP,KP,KP,KP,KP,KP,KP,KP,KP,KP,[.s 148 18],KP,KP],[.var [.s 83 12,.keep,.keep],.var k5,.var k5],⟨[OV 3,OV 4,OV 3,PQ 0,PQ 1,PQ 2,OV 3,OV 4,OV 3,OV 3,OV 77,OV 4,OV 3],[VA 113 3,VA 109 132,VA 109 132]⟩⟩
def Z5f:Lay:=⟨[2,6,10,29],[KP,KP,KP,KP],[.var k5,.var k5],⟨[OV 3,PQ 0,PQ 1,OV 3],[VA 109 132,VA 109 132]⟩⟩
def ZhS:Nat->Option Lay
 | 2=>some Tf
 | 4=>some Tf
 | 8=>some Z5y
 | 3=>some Tf
 | 6=>some Z5l
 | 11=>some Td
 | 14=>some Ti
 | 15=>some Td
 | 29=>some Z5z
 | 19=>some Z5h
 | 30=>some Ti
 | 31=>some Ti
 | 22=>some Tc
 | 32=>some Z5f
 | 25=>some Tc
 | 23=>some Tc
 | 12=>some Td
 | _=>none
def Zh8:Wl->Ac U
 | .b0 a b c d e=>Ai f61 [113,109,3,4,3] (a,b,c,d,e,())
 | .b1 a b c d e f g=>AA3 f61 [1,0,1,0,0,0,0] Tf (a,b,c,d,e,f,g,())
 | .b2 a b c d e f g=>AA3 f61 [1,0,1,0,0,1,0,0,0] Tf (a,b,c,d,e,f,g,())
 | .b3 a b c d e f=>AA3 f61 [1,1,0] Z5y (a,b,c,d,e,f,())
 | .b4 a b c d e f g=>AA3 f61 [1,0,1,0,0,1,1] Tf (a,b,c,d,e,f,g,())
 | .b5 a b c d e f g h=>AA3 f61 [1,0,1,0,0,1,0,0,1,1,0] Z5l (a,b,c,d,e,f,g,h,())
 | .b6 a b c d e f g h i=>AA3 f61 [1,1,1,1,0,1,0,0,0,0] Td (a,b,c,d,e,f,g,h,i,())
 | .b7 a b c=>AA3 f61 [1,1,1,1,0,1,0,0,1,0,0,0,1,0,0] Ti (a,b,c,())
 | .b8 a b c d e f g h i=>AA3 f61 [1,1,1,1,0,1,0,0,1,0,0,1,0] Td (a,b,c,d,e,f,g,h,i,())
 | .b9 a b c d e=>AA3 f61 [1,1,1,1,1,0,0] Z5z (a,b,c,d,e,())
 | .b10 b c d e f g h i j k a=>AA3 f61 [1,1,1,1,0,1,0,0,1,0,0,1,1,1,1,1,0] Z5h (b,c,d,e,f,g,h,i,j,k,a,())
 | .b11 a b c=>AA3 f61 [1,1,1,1,1,0,1,0,0] Ti (a,b,c,())
 | .b12 a b c=>AA3 f61 [1,1,1,1,1,1,0,0] Ti (a,b,c,())
 | .b13 d e f g h i j k l m a b c=>AA3 f61 [1,1,1,1,0,1,0,0,1,0,0,1,1,1,1,1,1,1,0,1,0,0,0,0] Tc (d,e,f,g,h,i,j,k,l,m,a,b,c,())
 | .b14 a b c d=>AA3 f61 [1,1,1,1,1,1,0,1,0,0,0,0] Z5f (a,b,c,d,())
 | .b15 d e f g h i j k l m a b c=>AA3 f61 [1,1,1,1,0,1,0,0,1,0,0,1,1,1,1,1,1,1,0,1,0,0,1,0,0,1,0,0] Tc (d,e,f,g,h,i,j,k,l,m,a,b,c,())
 | .b16 d e f g h i j k l m a b c=>AA3 f61 [1,1,1,1,0,1,0,0,1,0,0,1,1,1,1,1,1,1,0,1,0,0,1,1] Tc (d,e,f,g,h,i,j,k,l,m,a,b,c,())
 | .b17 a b c d e f g h i=>AA3 f61 [1,1,1,1,0,1,0,0,1,1] Td (a,b,c,d,e,f,g,h,i,())
theorem ZhK:AA1 61 [113,109,3,4,3] 110 (fun x=>yA x.1 x.2.1 x.2.2.1 x.2.2.2.1 x.2.2.2.2.1) rfl:=Aj (mc Z94 (mc ZqY (mc ZpO (mc Zxn (mc ZlD Ag))))) Ah ZhS Zh8 func61 (fun p=>by cases p<;>kernel_rfl) (by kernel_rfl) fun _=>rfl
inductive XB where
 | b0 (a:Iy)
 | b1 (a:A8)
 | b2 (a:Iy) (b:A8)
 | b3 (a:Int) (b:Iy) (c:A8) (d:CQ)
 | b4 (a b:Int) (c:Iy) (d:A8) (e:CQ)
def Z6Q:XB->Tr U ((A8×Int×Bool)⊕XB)
 | .b0 a=>let c:=AO (XB.b1 Dk);let b:=AO (XB.b2 a Dk);.br (decide ((↑a.Events.length:Int)>60)) c (.br (a.Bz != 0) (.br (a.Bz != 1) c b) b)
 | .b1 a=>AA (Dk,0,false)
 | .b2 a b=>AO (.b3 (0:Int) a b (⟨Dk,Dk⟩:CQ))
 | .b3 a b c d=>let i:=AA (Dk,0,false);let h:=AP (a+1);let g:=IntKind.wrap .u64 (b.Ic+(IntKind.wrap .u64 (a)));.br (decide (a<2)) (.br (a==0) (.bind 46 (qA a b.Bl (0:Int) b.Keys.x0 g (0:Int)) (fun(e:A8×Int)=>.br (e.2 != 0) i (.br (a==0) (AO (.b3 h b c (⟨e.1,d.x1⟩:CQ))) (.br (a==1) (AO (.b3 h b c (⟨d.x0,e.1⟩:CQ))) (.fail))))) (.br (a==1) (.bind 46 (qA a b.Bl (0:Int) b.Keys.x1 g (0:Int)) (fun(f:A8×Int)=>.br (f.2 != 0) i (.br (a==0) (AO (.b3 h b c (⟨f.1,d.x1⟩:CQ))) (.br (a==1) (AO (.b3 h b c (⟨d.x0,f.1⟩:CQ))) (.fail))))) (.fail))) (AO (.b4 (0:Int) (0:Int) b c d))
 | .b4 d b a f c=>let h:=(↑a.Events.length:Int);.br (decide (b<h)) (.chk (kI b a.Events) (.bind 113 (a.Events[(Int.toNat b)]?) (fun(g:Ej)=>.bind 110 (yA g c (if c.x0.IL>d then c.x0.IL else d) (b==(AP (h - 1))) a.Ak) (fun(e:CQ×Int)=>AO (.b4 e.2 (AP (b+1)) a f (⟨e.1.x0,e.1.x1⟩:CQ)))))) (.br (a.Bz==0) (AA (c.x0,d,true)) (.br (a.Bz==1) (AA (c.x1,d,true)) (.fail)))
def zY (a:Iy):Option (A8×Int×Bool):=AV Z6Q (.b0 a)
def Z65:Lay:=⟨[2],[KP],[.var k2],⟨[PQ 0],[VA 44 66]⟩⟩
def Z6j:Lay:=⟨[1,2],[KP,KP],[.var k11,.var k2],⟨[PQ 0,PQ 1],[VA 59 17,VA 44 66]⟩⟩
def Z6k:Lay:=⟨[1,2,5,6],[KP,KP,KP,KP],[.var k11,.var k2,.var k5],⟨[PQ 0,PQ 1,PQ 2,OV 3],[VA 59 17,VA 44 66,VA 109 132]⟩⟩
def Z6m:Lay:=⟨[1,2,5,9,10],[KP,KP,KP,KP,KP],[.var k11,.var k2,.var k5],⟨[PQ 0,PQ 1,PQ 2,OV 3,OV 3],[VA 59 17,VA 44 66,VA 109 132]⟩⟩
def Zkg:Nat->Option Lay
 | 2=>some Z65
 | 3=>some Z6j
 | 5=>some Z6k
 | 13=>some Z6m
 | _=>none
def ZjB:XB->Ac U
 | .b0 a=>Ai f21 [59] (a,())
 | .b1 a=>AA3 f21 [1,0,1,0,0] Z65 (a,())
 | .b2 a b=>AA3 f21 [1,1,0] Z6j (a,b,())
 | .b3 a b c d=>AA3 f21 [1,1,1,0,1,0,0,0,0] Z6k (a,b,c,d,())
 | .b4 a b c d e=>AA3 f21 [1,1,1,1,1,0,1,0,0,0,0] Z6m (a,b,c,d,e,())
theorem ZjE:AA1 21 [59] 60 (fun x=>zY x.1) rfl:=Aj (mc Zvy (mc ZhK Ag)) Ah Zkg ZjB func21 (fun p=>by cases p<;>kernel_rfl) (by kernel_rfl) fun _=>rfl
inductive Z02 where
 | b0 (a:Int)
 | b1 (a b c:Int)
def UT:Z02->Tr U (Int⊕Z02)
 | .b0 a=>AO (.b1 a (0:Int) (0:Int))
 | .b1 b c a=>let e:=AP ((7:Int) - a);let d:=IntKind.bits .u16;.br (decide (a<8)) (.chk (decide (0<=a)) (.chk (decide (0<=e)) (AO (.b1 b (bits .or .u16 c (IntKind.wrap .u16 ((bits .and .u16 (Int.fdiv b (2 ^ (min (Int.toNat a) d))) (257:Int))*2 ^ (min (Int.toNat e) d)))) (AP (a+1)))))) (AA c)
def Z0f (a:Int):Option Int:=AV UT (.b0 a)
def Z75:Lay:=⟨[0,3,5],[KP,KP,KP],[],⟨[OV 30,OV 30,OV 3],[]⟩⟩
def Zn1:Nat->Option Lay
 | 3=>some Z75
 | _=>none
def ZlB:Z02->Ac U
 | .b0 a=>Ai f222 [30] (a,())
 | .b1 a b c=>AA3 f222 [1,1,0,1,0,0,0] Z75 (a,b,c,())
theorem Zm3:AA1 222 [30] 30 (fun x=>Z0f x.1) rfl:=Aj Ag Ah Zn1 ZlB func222 (fun p=>by cases p<;>kernel_rfl) (by kernel_rfl) fun _=>rfl
inductive Z0C where
 | b0 (a b:Int)
 | b1 (a b c:Int)
def Xx:Z0C->Tr U (Int⊕Z0C)
 | .b0 b a=>AO (.b1 a (bits .xor .u16 b a) (0:Int))
 | .b1 a b c=>.br (decide (c<3)) (.bind 30 (Z0f b) (fun(d:Int)=>AO (.b1 a (IntKind.wrap .u16 ((IntKind.wrap .u16 (d*17))+a)) (AP (c+1))))) (AA (bits .xor .u16 b a))
def mX (a b:Int):Option Int:=AV Xx (.b0 a b)
def Z7w:Lay:=⟨[1,5,9],[KP,KP,KP],[],⟨[OV 30,OV 30,OV 3],[]⟩⟩
def Zqu:Nat->Option Lay
 | 3=>some Z7w
 | _=>none
def Zn6:Z0C->Ac U
 | .b0 a b=>Ai f133 [30,30] (a,b,())
 | .b1 a b c=>AA3 f133 [1,1,0,1,0,0,0] Z7w (a,b,c,())
theorem Z7T:AA1 133 [30,30] 30 (fun x=>mX x.1 x.2.1) rfl:=Aj (mc Zm3 Ag) Ah Zqu Zn6 func133 (fun p=>by cases p<;>kernel_rfl) (by kernel_rfl) fun _=>rfl
inductive Z1k where
 | b0 (a:Int)
def Zaz:Z1k->Tr U (Int⊕Z1k)
 | .b0 a=>AA (bits .xor .u16 (IntKind.wrap .u16 ((Int.fdiv a (2 ^ (16:Nat))))) (IntKind.wrap .u16 (a)))
def nT (a:Int):Option Int:=AV Zaz (.b0 a)
def Zqm:Z1k->Ac U
 | .b0 a=>Ai f134 [22] (a,())
theorem Z9H:AA1 134 [22] 30 (fun x=>nT x.1) rfl:=Aj Ag Ah AN Zqm func134 (fun p=>by cases p<;>kernel_rfl) (by kernel_rfl) fun _=>rfl
inductive wP where
 | b0 (a:Int)
def Zgj:wP->Tr U (Int⊕wP)
 | .b0 a=>let c:=(IntKind.wrap .u64 ((bits .and .u64 (Int.fdiv a (2 ^ (1:Nat))) (6148914691236517205:Int))+(bits .and .u64 a (6148914691236517205:Int))));let e:=(IntKind.wrap .u64 ((bits .and .u64 (Int.fdiv c (2 ^ (2:Nat))) (3689348814741910323:Int))+(bits .and .u64 c (3689348814741910323:Int))));let b:=(bits .and .u64 (IntKind.wrap .u64 ((Int.fdiv e (2 ^ (4:Nat)))+e)) (1085102592571150095:Int));let f:=(IntKind.wrap .u64 (b+(Int.fdiv b (2 ^ (8:Nat)))));let d:=(IntKind.wrap .u64 (f+(Int.fdiv f (2 ^ (16:Nat)))));AA (bits .and .i64 (AP ((IntKind.wrap .u64 (d+(Int.fdiv d (2 ^ (32:Nat))))))) (127:Int))
def jF (a:Int):Option Int:=AV Zgj (.b0 a)
def Zgf:wP->Ac U
 | .b0 a=>Ai f287 [25] (a,())
theorem Zgd:AA1 287 [25] 3 (fun x=>jF x.1) rfl:=Aj Ag Ah AN Zgf func287 (fun p=>by cases p<;>kernel_rfl) (by kernel_rfl) fun _=>rfl
inductive Zt where
 | b0 (a:Int)
def Z72:Zt->Tr U (Int⊕Zt)
 | .b0 a=>.bind 3 (jF (bits .and .u64 a (137438953471:Int))) (fun(b:Int)=>AA b)
def UI (a:Int):Option Int:=AV Z72 (.b0 a)
def Zkv:Zt->Ac U
 | .b0 a=>Ai f218 [26] (a,())
theorem Z9:AA1 218 [26] 3 (fun x=>UI x.1) rfl:=Aj (mc Zgd Ag) Ah AN Zkv func218 (fun p=>by cases p<;>kernel_rfl) (by kernel_rfl) fun _=>rfl
inductive Z0g where
 | b0 (a b:Int)
def Z8q:Z0g->Tr U (Bool⊕Z0g)
 | .b0 b a=>.br (decide (a>=0)) (.br (decide (a<37)) (.chk (decide (0<=a)) (AA ((bits .and .u64 (Int.fdiv b (2 ^ (min (Int.toNat a) (IntKind.bits .u64)))) (1:Int))==1))) (AA false)) (AA false)
def mP (a b:Int):Option Bool:=AV Z8q (.b0 a b)
def Zmn:Z0g->Ac U
 | .b0 a b=>Ai f223 [26,3] (a,b,())
theorem Z7x:AA1 223 [26,3] 4 (fun x=>mP x.1 x.2.1) rfl:=Aj Ag Ah AN Zmn func223 (fun p=>by cases p<;>kernel_rfl) (by kernel_rfl) fun _=>rfl
end
end Go.Proofs.YtjodhcdmhobmoaaGreatDoor
namespace Go.Proofs.YtjodhcdmhobmoaaGreatDoor
open Tryz
open Go Go.RowKit Go.Shelf
attribute [local go_sem] Oper.semAt_some
set_option maxRecDepth 100000
def hasB (m:Int) (c:Nat):Bool:=(bits .and .u64 (m / 2 ^ c) 1==1)
def Ew (m:Int) (k:Nat):List Nat:=(List.range k).filter (hasB m)
theorem ZeZ (F:Fence) (n:Nat) (q:F.fn 223) (z:F.round=none) (m:Int) (c:Nat) (hc:c<37) (W:World) {b:Bool} (hb:hasB m c=b):CallsIn F n Tryz.prog 223 #[.int .u64 m,.int .i64 c] W fun e C =>e = .returned (.bool b)/\C = W:=by
 refine callsIn_of_wp func223 rfl q ?_ z;simp only[Tryz.ntmps223,List.size_toArray,List.length_cons,List.length_nil,Nat.reduceAdd,Nat.reduceSub,Array.replicate_succ,Array.replicate_zero,List.push_toArray,List.append_toArray,List.nil_append,List.cons_append];have A:=Lib.hid hb;clear hb
 gi_wp2
 go_ret
 exact⟨by rw[<- A.out];rfl,rfl⟩
theorem Z3a (m:Int) (k:Nat):Ew m (k+1)=Ew m k++if hasB m k then [k] else []:=by
 unfold Ew;rw[List.range_succ,List.filter_append];cases h:hasB m k<;>simp[h]
theorem ZBX (m:Int) {k:Nat} (h:k<=37):Ew m k <+: Ew m 37:=by
 obtain⟨d,q⟩:∃d,37=k+d:=⟨37 - k,by omega⟩;rw[q];unfold Ew;rw[List.range_add,List.filter_append];exact List.prefix_append _ _
set_option maxHeartbeats 1000000 in
theorem all1_in (F:Fence) (n:Nat) (C:F.fn 223) (G:F.fn 347) (I:F.round=none) (hn:1<=n) (m:Int) (l Bm:Nat) (J Jx:List Nat->World->Prop)
  (hY:∀pre x W,J pre W->pre.length<(Ew m 37).length->YieldAt F (n - 1) Tryz.prog l #[.int .i64 (x:Nat)] W fun e M =>
   (e = .returned (.bool true)/\J (pre++[x]) M /\ M.cell? ⟨Bm,0,none⟩=W.cell? ⟨Bm,0,none⟩)\/(e = .returned (.bool false)/\Jx (pre++[x]) M))
  (W:World) (Y:W.cell? ⟨Bm,0,none⟩=some (.int .u64 m)) (h0:J [] W) :
  CallsIn F n Tryz.prog 347 #[.func (.yield l) #[] #[],.pointer (some ⟨Bm,0,none⟩)] W fun e M =>(∃v,e = .returned v) /\
   ((∃ys,ys=Ew m 37/\J ys M)\/(∃pre,pre <+: Ew m 37/\Jx pre M)):=by
 refine callsIn_of_wp func347 rfl G ?_ I;simp only[Tryz.ntmps347,List.size_toArray,List.length_cons,List.length_nil,Nat.reduceAdd,Nat.reduceSub,Array.replicate_succ,Array.replicate_zero,List.push_toArray,List.append_toArray,List.nil_append,List.cons_append]
 gi_wp2
 gi_loopw [4] (fun i wr=>∃k:Nat,k<=37/\i = .int .i64 k/\J (Ew m k) wr/\wr.cell? ⟨Bm,0,none⟩=some (.int .u64 m))
  (fun i _=>37 - (intOf i).toNat)
 case atStart=>exact⟨0,by omega,rfl,h0,Y⟩
 case round=>
  obtain⟨k,hk,rfl,hJ,z⟩:=hrel
  by_cases Q:k<37
  ·have A:=Z3a m k;have q:=ZBX m (k:=k+1) (by omega);cases hb:hasB m k with
   | false=>
    rw[hb]at A;simp only[Bool.false_eq_true,if_false,List.append_nil]at A;have HS:=Lib.hid A;clear A q
    gi_wp2_with (gi_at_call 223;refine(ZeZ F (n - 1) C I m k Q _ hb).mono ?_;rintro e w' ⟨rfl,rfl⟩)
    refine⟨fun f h=>(by cases h),?_⟩
    gi_wp2
    go_roundw
    case rel=>exact⟨k+1,by omega,by go_num,by rw[HS.out];exact hJ,z⟩
    case measure=>simp[intOf];omega
   | true=>
    rw[hb]at A;simp only[if_true]at A;have D:(Ew m k).length<(Ew m 37).length:=by
     have:=q.length_le;rw[A]at this;simp at this;omega
    obtain⟨fn,tmps,S,body,hy,hR⟩:=hY (Ew m k) k wr hJ D;have HS:=Lib.hid A;have HP:=Lib.hid q;clear A q D
    gi_wp2_with (gi_at_call 223;refine(ZeZ F (n - 1) C I m k Q _ hb).mono ?_;rintro e w' ⟨rfl,rfl⟩)
    refine hR.mono ?_
    rintro e W3 (⟨rfl,hJ3,O⟩|⟨rfl,N⟩)
    ·have hc3:=O.trans z;clear O
     gi_wp2
     go_roundw
     case rel=>exact⟨k+1,by omega,by go_num,by rw[HS.out];exact hJ3,hc3⟩
     case measure=>simp[intOf];omega
    ·gi_wp2
     refine bodyPost_ret (results_none rfl _ _ _) rfl ?_;exact⟨⟨_,rfl⟩,.inr ⟨Ew m k++[k],by rw[<- HS.out];exact HP.out,N⟩⟩
  ·obtain rfl:k=37:=by omega
   gi_wp2
   go_end0
   exact⟨⟨_,rfl⟩,.inl ⟨_,rfl,hJ⟩⟩
def KpM (Bm:Nat) (A B:World):Prop:=B.cell? ⟨Bm,0,none⟩=A.cell? ⟨Bm,0,none⟩
theorem all_stops (F:Fence) (n:Nat) (z:F.fn 223) (q:F.fn 347) (C:F.round=none) (N:1<=n) (m:Int) (Bm:Nat) (w:World) (A:Bm<w.heap.size) (hc:w.cell? ⟨Bm,0,none⟩=some (.int .u64 m)) :
  SeqStopsK F n Tryz.prog 347 #[.pointer (some ⟨Bm,0,none⟩)] (fun x:Nat=>#[Value.int .i64 (x:Nat)]) (KpM Bm) (fun ys=>ys=Ew m 37) (fun pre=>pre <+: Ew m 37) (Ew m 37).length w:=fun l J D W I _ _ M G=>
 all1_in F n z q C N m l Bm J D M W ((I.cell (p:=⟨Bm,0,none⟩) A).trans hc) G
theorem all_in (F:Fence) (n:Nat) (q:F.fn 288) (z:F.round=none) (m:Int) (w:World) :
  CallsIn F n Tryz.prog 288 #[.int .u64 m] w fun e w' =>e = .returned (.func (.func 347) #[] #[.pointer (some ⟨w.heap.size,0,none⟩)])/\w' = w.alloc (.cells #[.int .u64 m] 26):=by
 refine callsIn_of_wp func288 rfl q ?_ z;simp only[Tryz.ntmps288,List.size_toArray,List.length_cons,List.length_nil,Nat.reduceAdd,Nat.reduceSub,Array.replicate_succ,Array.replicate_zero,List.push_toArray,List.append_toArray,List.nil_append,List.cons_append]
 gi_wp2
 go_ret
 exact⟨rfl,rfl⟩
def NC (m i:Int):Int:=if 0<=i/\i<(Ew m 37).length then (((Ew m 37)[i.toNat]?.getD 0:Nat):Int) else -1
theorem boxed_own {W q : World} {row:Option Nat} {B B0:Nat} {t:TypeId} {v:Value} (h:Boxed W B t v) (A:W.grownBy q row) (C:∀r,row=some r->B0<=r/\∃o:Obj,W.heap[r]? = some o/\o.isCells=false):Boxed q B t v:=by
 refine h.kept A ?_;intro e;obtain⟨_,o,z,hc⟩:=C B e.symm;rw[show W.heap[B]? = _ from h]at z;cases z;cases hc
theorem Zcs {W:World} {B l:Nat} {t:TypeId} {v:Value} {o o' : Obj} (h:Boxed W B t v) (q:W.heap[l]? = some o) (hc:o.isCells=false):Boxed (W.putObj l o') B t v:=
 boxed_own (B0:=0) h (grownBy_putObj' W l o') (fun r e=>by cases e;exact⟨Nat.zero_le _,o,q,hc⟩)
theorem VB {W:World} {B b:Nat} {t:TypeId} {v u:Value} (h:Boxed W B t v) (q:B≠b):Boxed (W.setCell ⟨b,0,none⟩ u) B t v:=
 (Below.heap_setCell W ⟨b,0,none⟩ u B q).trans h
theorem Z2o {W w:World} {n b:Nat} {u:Value} (h:Below n w W) (hb:n<=b):Below n w (W.setCell ⟨b,0,none⟩ u):=h.setCell hb u
structure Vt (m i:Int) (w:World) (res:Int) (k:Nat) (W:World):Prop where
 b0:Boxed W w.heap.size 3 (.int .i64 i)
 b1:Boxed W (w.heap.size+1) 3 (.int .i64 res)
 b2:Boxed W (w.heap.size+1+1) 3 (.int .i64 k)
 b3:Boxed W (w.heap.size+1+1+1) 26 (.int .u64 m)
 below:Below w.heap.size w W
theorem Vt.own {m i:Int} {w:World} {res:Int} {k:Nat} {W W' : World} {row:Option Nat} {B0:Nat} (A:w.heap.size<=B0) (h:Vt m i w res k W) (q:W.grownBy W' row) (z:∀r,row=some r->B0<=r/\∃o:Obj,W.heap[r]? = some o/\o.isCells=false):Vt m i w res k W' :=
 ⟨boxed_own h.b0 q z,boxed_own h.b1 q z,boxed_own h.b2 q z,boxed_own h.b3 q z,h.below.grown q h.below.size (fun k e=>Nat.le_trans A (z k e).1)⟩
set_option maxHeartbeats 2000000 in
theorem ZEj (F:Fence) (n:Nat) (S:F.fn 223) (C:F.fn 347) (Q:F.fn 288) (N:F.fn 224) (G:F.round=none) (hn:3<=n) (m i:Int) (w:World) :
  CallsIn F n Tryz.prog 224 #[.int .u64 m,.int .i64 i] w fun e W' =>e = .returned (.int .i64 (NC m i))/\Below w.heap.size w W' :=by
 have h1:1<=n:=by omega
 refine callsIn_of_wp_marks func224 rfl N ?_ G;simp only[Tryz.ntmps224,List.size_toArray,List.length_cons,List.length_nil,Nat.reduceAdd,Nat.reduceSub,Array.replicate_succ,Array.replicate_zero,List.push_toArray,List.append_toArray,List.nil_append,List.cons_append]
 gi_wp2_with (gi_at_call 288;refine(all_in F (n - 1) Q G _ _).mono ?_;rintro e w' ⟨rfl,rfl⟩)
 have I:Vt m i w 0 0 ((((w.alloc (Obj.cells #[Value.int IntKind.i64 i] 3)).alloc (Obj.cells #[Value.int IntKind.i64 0] 3)).alloc (Obj.cells #[Value.int IntKind.i64 0] 3)).alloc (Obj.cells #[Value.int IntKind.u64 m] 26)):=by
  refine⟨(((Boxed.new _ _ _).alloc _).alloc _).alloc _,?_,?_,?_,((((Below.refl _ _).alloc (Nat.le_refl _) _).alloc (by simp) _).alloc (by simp;omega) _).alloc (by simp;omega) _⟩
  ·have:=((Boxed.new (w.alloc (Obj.cells #[Value.int IntKind.i64 i] 3)) 3 (.int .i64 0)).alloc (Obj.cells #[Value.int IntKind.i64 0] 3)).alloc (Obj.cells #[Value.int IntKind.u64 m] 26);simpa using this
  ·have:=(Boxed.new ((w.alloc (Obj.cells #[Value.int IntKind.i64 i] 3)).alloc (Obj.cells #[Value.int IntKind.i64 0] 3)) 3 (.int .i64 0)).alloc (Obj.cells #[Value.int IntKind.u64 m] 26);simpa using this
  ·have:=Boxed.new (((w.alloc (Obj.cells #[Value.int IntKind.i64 i] 3)).alloc (Obj.cells #[Value.int IntKind.i64 0] 3)).alloc (Obj.cells #[Value.int IntKind.i64 0] 3)) 26 (.int .u64 m);simpa using this
 generalize Y:((((w.alloc (Obj.cells #[Value.int IntKind.i64 i] 3)).alloc (Obj.cells #[Value.int IntKind.i64 0] 3)).alloc (Obj.cells #[Value.int IntKind.i64 0] 3)).alloc (Obj.cells #[Value.int IntKind.u64 m] 26))=W0 at I;have hs0:W0.heap.size=w.heap.size+4:=by rw[<- Y];simp
 clear Y;refine wpIn_rangeFunc_ownG G h1 (gf:=347) (lb:=#[.pointer (some ⟨w.heap.size+1+1+1,0,none⟩)]) rfl C (enters_of func347 (by kernel_rfl) rfl)
  (all_stops F (n - 1) S C G (by omega) m (w.heap.size+1+1+1) W0 (by omega) I.b3.cell) (fun h k=>k.trans h)
  (fun W l o o' hl ho hc _=>World.cell?_of_block (World.putObj_heap_other (by simp only;omega))) (Below.refl _ _) (fun _=>rfl)
  (fun pre W=>Vt m i w 0 pre.length W/\¬(0<=i/\i<pre.length))
  (fun c pre W=>c = .ret/\∃(z : List Nat) (x:Nat),pre=z ++[x]/\i=(z.length:Int)/\Vt m i w (x:Nat) z.length W)
  (fun s A B row hs hg hr=>⟨hs.1.own (by omega) hg hr,hs.2⟩)
  (fun c s A B row hs hg hr=>by obtain⟨h1,p,x,h2,h3,h4⟩:=hs;exact⟨h1,p,x,h2,h3,h4.own (by omega) hg hr⟩)
  ⟨I,by simp⟩
  (fun x=>{ tmps:=#[.int .u64 m,.int .i64 i,undef,.pointer (some ⟨w.heap.size,0,none⟩),.pointer (some ⟨w.heap.size+1,0,none⟩),.pointer (some ⟨w.heap.size+1+1,0,none⟩),.int .i64 (x:Nat),.int .u64 m,.func (.func 347) #[] #[.pointer (some ⟨w.heap.size+1+1+1,0,none⟩)],.int .i64 (x:Nat),undef,undef,undef,undef,undef,undef],defers:=[] }) ?assign ?body ?done ?stop
 case assign=>
  intro l x W K J
  gi_wp2
  exact J
 case body=>
  rintro l pre x W ⟨q,hno⟩ hlen
  have hc0:=q.b0.cell;have hf0:=q.b0.frozen;have hc1:=q.b1.cell;have hf1:=q.b1.frozen;have hc2:=q.b2.cell;have hf2:=q.b2.frozen;have hl37:pre.length<37:=by
   have:(Ew m 37).length<=37:=by unfold Ew;exact Nat.le_trans (List.length_filter_le _ _) (by simp)
   omega
  by_cases hx:i=(pre.length:Int)
  ·subst hx
   gi_wp2
   refine⟨KeepsFrom.of_grownBy (grownBy_setCell' W _ _) (fun j e=>by cases e;omega),rfl,pre,x,rfl,rfl,VB q.b0 (by omega),q.b1.set _,VB q.b2 (by omega),VB q.b3 (by omega),Z2o q.below (by omega)⟩
  ·have hx' : ((pre.length:Int)==i)=false:=by simp;omega
   gi_wp2
   refine⟨KeepsFrom.of_grownBy (grownBy_setCell' W _ _) (fun j e=>by cases e;omega),World.cell?_of_block (Below.heap_setCell W _ _ _ (by simp only;omega)),⟨VB q.b0 (by omega),VB q.b1 (by omega),?_,VB q.b3 (by omega),Z2o q.below (by omega)⟩,by simp;omega⟩;have:=q.b2.set (.int .i64 (pre.length+1:Nat));simpa using this
 case done=>
  rintro D xs W hD rfl ⟨q,hno⟩ J
  have hc1:=q.b1.cell;have hf1:=q.b1.frozen
  gi_wp2
  have M : (W.setCell ⟨w.heap.size+1,0,none⟩ (.int .i64 (-1))).heap[D]? = some (.deferred (some [])):=(Below.heap_setCell W _ _ D (by simp only;omega)).trans J;have hb:=q.b1.set (.int .i64 (-1));refine⟨by simp,.inl ⟨_,_,rfl,run_takeDeferred M,?_⟩⟩;have O:=(Zcs (o' :=.deferred none) hb M rfl).cell;refine⟨.int .i64 (-1),?_,?_,?_⟩
  ·simp[results,f224,go_sem,O]
  ·unfold NC;rw[if_neg hno]
  ·exact(Z2o q.below (by omega)).trans (belowK_b (w:=w) (Nat.le_refl _) _ D _ _ (by omega) M rfl rfl)
 case stop=>
  rintro D c pre W hD hp ⟨rfl,z,x,rfl,hi,q⟩ J
  have hc1:=q.b1.cell
  gi_wp2
  refine⟨by simp,.inl ⟨_,_,rfl,run_takeDeferred J,?_⟩⟩;have O:=(Zcs (o' :=.deferred none) q.b1 J rfl).cell;refine⟨.int .i64 (x:Nat),?_,?_,?_⟩
  ·simp[results,f224,go_sem,O]
  ·obtain⟨t,ht⟩:=hp;unfold NC;rw[<- ht,hi];simp;omega
  ·exact q.below.trans (belowK_b (w:=w) (Nat.le_refl _) _ D _ _ (by omega) J rfl rfl)
theorem ZCO (m i:Int) : -1<=NC m i/\NC m i<37:=by
 unfold NC;split
 ·rename_i h;have q:i.toNat<(Ew m 37).length:=by omega
  have hm:(Ew m 37)[i.toNat]∈Ew m 37:=List.getElem_mem q;rw[List.getElem?_eq_getElem q,Option.getD_some];generalize (Ew m 37)[i.toNat]=c at hm;have:c<37:=by
   unfold Ew at hm;have:=(List.mem_filter.1 hm).1;simpa using this
  omega
 ·omega
open Go.Proofs.YtjodhcdmhobmoaaGreatDoor.Le
noncomputable def lX (a b:Int):Option Int:=some (NC a b)
noncomputable def ZnQ:Af U:={ ts:=[26,3],rt:=3,fn:=fun x=>lX x.1 x.2.1,ok:=by decide }
theorem Z7A:AA0 224 ZnQ:=by
 refine⟨⟨f224,func224,by kernel_rfl,by kernel_rfl⟩,?_⟩
 rintro ⟨m,i,_⟩ a F fz w vs q G z
 cases F;obtain⟨I,vs,rfl,C,z⟩:=z.Dq;obtain⟨J,vs,rfl,D,z⟩:=z.Dq;cases z.FI;cases C with
 | lit _ _=>cases D with
  | lit _ _=>
   refine(callsIn_wide.1 (ZEj Fence.wide 3 trivial trivial trivial trivial rfl (by omega) m i w)).mono ?_
   rintro e w' ⟨rfl,hb⟩
   refine⟨_,fz,rfl,hb,fun _ _ h=>h,fun _ _ h _=>h,fun b c h=>?_,.lit ?_ .nil,rfl⟩
   ·obtain⟨u,A⟩:=q b c h;exact⟨u,(hb.cell (p:=⟨b,c,none⟩) (cell_lt A)).trans A⟩
   ·have:=ZCO m i;simp[leaf,Lit.wf,IntKind.min,IntKind.max,IntKind.signed,IntKind.bits];omega
end Go.Proofs.YtjodhcdmhobmoaaGreatDoor
namespace Go.Proofs.YtjodhcdmhobmoaaGreatDoor
open Tryz
open Go Go.Proofs.YtjodhcdmhobmoaaGreatDoor.Le
set_option maxRecDepth 100000
noncomputable section
inductive Z2i where
 | b0 (a b c:Int)
def Zd0:Z2i->Tr U (Int⊕Z2i)
 | .b0 a c d=>.bind 30 (nT d) (fun(e:Int)=>.bind 30 (mX c e) (fun(b:Int)=>let i:=Int.tmod (AP (b)) 37;.bind 4 (mP a i) (fun(f:Bool)=>.br f (AA i) (.bind 3 (UI a) (fun(g:Int)=>.bind 3 (lX a (Int.fdiv (AP (g*(AP (b)))) (2 ^ (16:Nat)))) (fun(h:Int)=>AA h))))))
def Z2k (a b c:Int):Option Int:=AV Zd0 (.b0 a b c)
def Zvo:Z2i->Ac U
 | .b0 a b c=>Ai f135 [26,30,22] (a,b,c,())
theorem Zwu:AA1 135 [26,30,22] 3 (fun x=>Z2k x.1 x.2.1 x.2.2.1) rfl:=Aj (mc Z7T (mc Z9H (mc Z9 (mc Z7x (mc Z7A Ag))))) Ah AN Zvo func135 (fun p=>by cases p<;>kernel_rfl) (by kernel_rfl) fun _=>rfl
inductive Z2g where
 | b0 (a b:Int)
def Zvm:Z2g->Tr U (Int⊕Z2g)
 | .b0 a b=>AA (Int.tmod (AP ((AP ((Int.tmod a 37)+(Int.tmod b 37)))+74)) (37:Int))
def Z1N (a b:Int):Option Int:=AV Zvm (.b0 a b)
def Ztm:Z2g->Ac U
 | .b0 a b=>Ai f136 [3,3] (a,b,())
theorem ZrN:AA1 136 [3,3] 3 (fun x=>Z1N x.1 x.2.1) rfl:=Aj Ag Ah AN Ztm func136 (fun p=>by cases p<;>kernel_rfl) (by kernel_rfl) fun _=>rfl
inductive ZG where
 | b0 (a b:Int)
def Z7b:ZG->Tr U (Int⊕ZG)
 | .b0 b a=>let h:=(if (0:Int)>a then (0:Int) else a);let g:=(if (36:Int)<h then (36:Int) else h);.bind 4 (mP b g) (fun(d:Bool)=>.br d (AA g) (.bind 3 (UI b) (fun(e:Int)=>.br (e==0) (AA (-1:Int)) (.bind 3 (UI b) (fun(c:Int)=>.chk (c != 0) (.bind 3 (lX b (Int.tmod g c)) (fun(f:Int)=>AA f)))))))
def ZB (a b:Int):Option Int:=AV Z7b (.b0 a b)
def ZkH:ZG->Ac U
 | .b0 a b=>Ai f137 [26,3] (a,b,())
theorem ZkF:AA1 137 [26,3] 3 (fun x=>ZB x.1 x.2.1) rfl:=Aj (mc Z9 (mc Z7x (mc Z7A Ag))) Ah AN ZkH func137 (fun p=>by cases p<;>kernel_rfl) (by kernel_rfl) fun _=>rfl
inductive Z1W where
 | b0 (a:Ey) (b c:Int)
def Zcd:Z1W->Tr U ((Int×Int)⊕Z1W)
 | .b0 a b d=>.br (a.KW==2) (.bind 30 (nT a.IK) (fun(e:Int)=>.bind 30 (mX b e) (fun(f:Int)=>.bind 3 (Z2k a.Map b a.IK) (fun(g:Int)=>AA (g,(AP ((Int.tmod f 37)))))))) (.bind 3 (Z1N d a.Hop) (fun(c:Int)=>.bind 3 (ZB a.Map c) (fun(h:Int)=>AA (h,c))))
def Z2c (a:Ey) (b c:Int):Option (Int×Int):=AV Zcd (.b0 a b c)
def ZrP:Z1W->Ac U
 | .b0 a b c=>Ai f53 [28,30,3] (a,b,c,())
theorem Zs5:AA1 53 [28,30,3] 104 (fun x=>Z2c x.1 x.2.1 x.2.2.1) rfl:=Aj (mc Z7T (mc Z9H (mc Zwu (mc ZrN (mc ZkF Ag))))) Ah AN ZrP func53 (fun p=>by cases p<;>kernel_rfl) (by kernel_rfl) fun _=>rfl
inductive ZM where
 | b0 (a:A8)
def ZJ:ZM->Tr U (Int⊕ZM)
 | .b0 a=>.bind 104 (Z2c a.Bl a.Event a.Last) (fun(b:Int×Int)=>AA b.1)
def Nr (a:A8):Option Int:=AV ZJ (.b0 a)
def Zl8:ZM->Ac U
 | .b0 a=>Ai f15 [44] (a,())
theorem Z78:AA1 15 [44] 3 (fun x=>Nr x.1) rfl:=Aj (mc Zs5 Ag) Ah AN Zl8 func15 (fun p=>by cases p<;>kernel_rfl) (by kernel_rfl) fun _=>rfl
inductive Z0X where
 | b0 (a:Aw)
def Za8:Z0X->Tr U (Aw⊕Z0X)
 | .b0 a=>.bind 1344 (NF a.Payload) (fun(q:QG)=>kl q.q0 (AA (⟨a.Ba,q.q0⟩:Aw)))
def Yg (a:Aw):Option Aw:=AV Za8 (.b0 a)
def Zq0:Z0X->Ac U
 | .b0 a=>Ai f79 [68] (a,())
theorem Z0D:AA1 79 [68] 68 (fun x=>Yg x.1) rfl:=Aj Ag (hc [] jP Ah) AN Zq0 func79 (fun p=>by cases p<;>kernel_rfl) (by kernel_rfl) fun _=>rfl
inductive Z2O where
 | b0 (a:BQ)
 | b1 (a b:List Aw) (c d:Int) (e f:BQ)
def bU:Z2O->Tr U (SE⊕Z2O)
 | .b0 a=>let c:=(↑a.BA.length:Int);let b:=(List.replicate (Int.toNat 0) ((⟨0,[]⟩:Aw):Aw));.chk (decide (0<=(0:Int)/\(0:Int)<=c/\Int.toNat c*32<=lim/\c<=(↑maxLen:Int))) (.chk ((b.length==b.length)&&true) (AO (.b1 b a.BA c (0:Int) a Jj)))
 | .b1 a c d b e f=>.br (decide (b<d)) (.chk (kI b c) (.bind 68 (c[(Int.toNat b)]?) (fun(h:Aw)=>.bind 68 (Yg h) (fun(g:Aw)=>.chk true (kl a (.chk (kA (a.length+1) 32) (.chk (kL (a++[g])&&kL f.BA) (AO (.b1 (a++[g]) c d (AP (b+1)) e f))))))))) (kl a (AA (⟨({ e with BA:=a }:BQ)⟩:SE)))
def qK (a:BQ):Option SE:=AV bU (.b0 a)
def Zaa:Shape:=⟨[.agg [.v 33 7 true]],[]⟩
def Zpm:Shape:=⟨[(WJ 0)],[.row 68 true]⟩
noncomputable def Zyd:HMod U:=⟨[k6],[],Zaa,Zpm,true,1355,fun(y:SE)=>(((TU y.q0),()),(y.q0.BA,())),fun x=>qK x.1.1.1,okS rfl⟩
def Z9W:Lay:=⟨[1,2,3,11,12,13],[KP,KP,[.own 68 2],[.s 68 2],KP,KP],[.var k6,.var k8,.row true,.row true],⟨[PQ 0,PQ 1,.one (.own 68 2),OV 31,OV 3,OV 3],[VA 33 7,.var 33 7 (WJ 3),.row 68 true,.row 68 true]⟩⟩
def ZxQ:Nat->Option Lay
 | 3=>some Z9W
 | _=>none
def Zxg:Z2O->Ac U
 | .b0 a=>Ff f78 Zaa (((a,()),()),())
 | .b1 b c d e f a=>Ad f78 [1,1,0,1,0,0,0] Z9W (((),((),((),((c,()),((d,()),((e,()),())))))),((f,()),((TU a),(b,(a.BA,())))))
theorem Zca:Dy Tryz.prog B0 78 Zyd:=okR (mc Z0D Ag) Ah ZxQ [k8] [.row true] 0 Zxg func78 (fun p=>by cases p<;>kernel_rfl) (by kernel_rfl) fun x=>by kernel_rfl
inductive Z1Z where
 | b0 (a:BQ)
 | b1 (a b:BQ) (c:BD)
 | b2 (a:Int) (b c:BQ) (d e:BD)
 | b3 (a:Int) (b c:BQ) (d e:BD)
 | b4 (a b:BQ) (c d:BD)
def Ny:Z1Z->Tr U ((BQ×BD)⊕Z1Z)
 | .b0 a=>.bind 1355 (qK a) (fun(q:SE)=>.br (!q.q0.Open) (kl q.q0.BA (kl q.q0.BA (AO (.b1 ({ q.q0 with Open:=true,Empty:=((↑q.q0.BA.length:Int)==0) }:BQ) Jj E5)))) (kl q.q0.BA (AO (.b1 q.q0 Jj E5))))
 | .b1 a b c=>let f:=(↑a.BA.length:Int);let e:=(⟨a.SN,a.Dp,0,(⟨1,([]:List Int)⟩:Aw)⟩:BD);let d:=kl a.BA (AO (Z1Z.b3 f a b c e));kl a.BA (.br (!a.Empty) (.br (decide (f>0)) (kl a.BA (AO (.b2 f a b c e))) d) d)
 | .b2 b a c d e=>kl a.BA (.chk (kI (0:Int) a.BA) (kl a.BA (.bind 68 (a.BA[(Int.toNat 0)]?) (fun(f:Aw)=>.bind 68 (Yg f) (fun(g:Aw)=>kl a.BA (AO (.b3 (AP (b - 1)) a c d ({ e with Ak:=g }:BD))))))))
 | .b3 e a b c d=>.br (decide (e>0)) (kl a.BA (AO (.b4 a b c ({ d with MD:=1 }:BD)))) (kl a.BA (AO (.b4 a b c d)))
 | .b4 a c d b=>kl a.BA (AA (a,b))
def SA (a:BQ):Option (BQ×BD):=AV Ny (.b0 a)
def Z9k:Lay:=⟨[1,2,3],[KP,KP,KP],[.var k8,.var k6,.var k4,.row true],⟨[PQ 0,PQ 1,PQ 2],[.var 33 7 (WJ 3),VA 33 7,VA 70 5,.row 68 true]⟩⟩
def nG:Lay:=⟨[1,2,3,4,5],[KP,KP,KP,KP,KP],[.var k8,.var k6,.var k4,.var k4,.row true],⟨[PQ 0,PQ 1,PQ 2,PQ 3,OV 3],[.var 33 7 (WJ 4),VA 33 7,VA 70 5,VA 70 5,.row 68 true]⟩⟩
def Z9P:Lay:=⟨[1,2,3,4],[KP,KP,KP,KP],[.var k8,.var k6,.var k4,.var k4,.row true],⟨[PQ 0,PQ 1,PQ 2,PQ 3],[.var 33 7 (WJ 4),VA 33 7,VA 70 5,VA 70 5,.row 68 true]⟩⟩
def Zx2:Nat->Option Lay
 | 5=>some Z9k
 | 8=>some nG
 | 10=>some nG
 | 12=>some Z9P
 | _=>none
def Ztg:Z1Z->Ac U
 | .b0 a=>Ai f28 [33] (a,())
 | .b1 a b c=>Ad f28 [1,1,1,0] Z9k (((),((),((),()))),((TU a),((b,()),((c,()),(a.BA,())))))
 | .b2 b a c d e=>Ad f28 [1,1,1,1,1,0,1,0,0] nG (((),((),((),((),((b,()),()))))),((TU a),((c,()),((d,()),((e,()),(a.BA,()))))))
 | .b3 b a c d e=>Ad f28 [1,1,1,1,1,1,0,0] nG (((),((),((),((),((b,()),()))))),((TU a),((c,()),((d,()),((e,()),(a.BA,()))))))
 | .b4 a b c d=>Ad f28 [1,1,1,1,1,1,1,0] Z9P (((),((),((),((),())))),((TU a),((b,()),((c,()),((d,()),(a.BA,()))))))
theorem Zae:AA1 28 [33] 75 (fun x=>SA x.1) rfl:=Aj (mc Z0D Ag) (hc [] Zca Ah) Zx2 Ztg func28 (fun p=>by cases p<;>kernel_rfl) (by kernel_rfl) fun _=>rfl
inductive yE where
 | b0 (a:QZ)
def ZiQ:yE->Tr U (Bool⊕yE)
 | .b0 a=>AA (a.Link.Bd==0)
def xM (a:QZ):Option Bool:=AV ZiQ (.b0 a)
def Zhi:yE->Ac U
 | .b0 a=>Ai f63 [115] (a,())
theorem Zhq:AA1 63 [115] 4 (fun x=>xM x.1) rfl:=Aj Ag Ah AN Zhi func63 (fun p=>by cases p<;>kernel_rfl) (by kernel_rfl) fun _=>rfl
inductive Zq where
 | b0 (a:Aw)
def Z7d:Zq->Tr U (Bool⊕Zq)
 | .b0 a=>.br (a.Ba==1) (AA ((↑a.Payload.length:Int)==0)) (AA false)
def QM (a:Aw):Option Bool:=AV Z7d (.b0 a)
def Zkh:Zq->Ac U
 | .b0 a=>Ai f27 [68] (a,())
theorem Z8:AA1 27 [68] 4 (fun x=>QM x.1) rfl:=Aj Ag Ah AN Zkh func27 (fun p=>by cases p<;>kernel_rfl) (by kernel_rfl) fun _=>rfl
inductive Z0e where
 | b0 (a:Int)
def Z8f:Z0e->Tr U (Bool⊕Z0e)
 | .b0 a=>.br (a==0) (AA true) (AA (a==1))
def XQ (a:Int):Option Bool:=AV Z8f (.b0 a)
def ZlV:Z0e->Ac U
 | .b0 a=>Ai f231 [3] (a,())
theorem ZlP:AA1 231 [3] 4 (fun x=>XQ x.1) rfl:=Aj Ag Ah AN ZlV func231 (fun p=>by cases p<;>kernel_rfl) (by kernel_rfl) fun _=>rfl
inductive Zu where
 | b0 (a:BD)
 | b1 (a:Int) (b:BD)
 | b2 (a:Int) (b:BD)
 | b3 (a:Int)
def QN:Zu->Tr U (Int⊕Zu)
 | .b0 a=>let e:=AA (5:Int);.bind 4 (XQ a.SN) (fun(b:Bool)=>.br (!b) e (.bind 4 (XQ a.Dp) (fun(c:Bool)=>.br (!c) e (.bind 4 (XQ a.MD) (fun(d:Bool)=>.br (!d) e (AO (.b1 (↑a.Ak.Payload.length:Int) a)))))))
 | .b1 b a=>let c:=AA (12:Int);.br (decide (a.Ak.Ba<1)) c (.br (decide (a.Ak.Ba>3)) c (AO (.b2 b a)))
 | .b2 a b=>let c:=AO (Zu.b3 a);.br (a==0) (.br (b.Ak.Ba != 1) (AA (1:Int)) c) c
 | .b3 a=>.br (decide (a>255)) (AA (4:Int)) (AA (0:Int))
def UK (a:BD):Option Int:=AV QN (.b0 a)
def kX:Lay:=⟨[1,3],[KP,KP],[.var k4],⟨[PQ 0,OV 3],[VA 70 5]⟩⟩
def Z6w:Lay:=⟨[3],[KP],[],⟨[OV 3],[]⟩⟩
def Zl6:Nat->Option Lay
 | 4=>some kX
 | 6=>some kX
 | 8=>some Z6w
 | _=>none
def Zkr:Zu->Ac U
 | .b0 a=>Ai f153 [70] (a,())
 | .b1 a b=>AA3 f153 [1,1,0,0,1,1,0] kX (a,b,())
 | .b2 a b=>AA3 f153 [1,1,0,0,1,1,1,1,0] kX (a,b,())
 | .b3 a=>AA3 f153 [1,1,0,0,1,1,1,1,1,1,0] Z6w (a,())
theorem Zd:AA1 153 [70] 45 (fun x=>UK x.1) rfl:=Aj (mc ZlP Ag) Ah Zl6 Zkr func153 (fun p=>by cases p<;>kernel_rfl) (by kernel_rfl) fun _=>rfl
inductive ZI where
 | b0 (a:BD) (b:List Int)
def Zmq:ZI->Tr U (BD⊕ZI)
 | .b0 a b=>AA ({ a with Ak:=(⟨a.Ak.Ba,b⟩:Aw) }:BD)
def lK (a:BD) (b:List Int):Option BD:=AV Zmq (.b0 a b)
def Zl5:ZI->Ac U
 | .b0 a b=>Ai f154 [70,62] (a,b,())
theorem Zll:AA1 154 [70,62] 70 (fun x=>lK x.1 x.2.1) rfl:=Aj Ag Ah AN Zl5 func154 (fun p=>by cases p<;>kernel_rfl) (by kernel_rfl) fun _=>rfl
inductive Z07 where
 | b0 (a:List (List Int))
 | b1 (a:List Int) (b:List (List Int)) (c d:Int)
def XW:Z07->Tr U ((List Int)⊕Z07)
 | .b0 a=>.chk true (AO (.b1 ([]:List Int) a (↑a.length:Int) (0:Int)))
 | .b1 a c e b=>.br (decide (b<e)) (.chk (kI b c) (.bind 62 (c[(Int.toNat b)]?) (fun(d:List Int)=>kl a (.chk (kA (a.length+d.length) 1) (kl (a++d) (AO (.b1 (a++d) c e (AP (b+1))))))))) (kl a (AA a))
def Rj (a:List (List Int)):Option (List Int):=AV XW (.b0 a)
def Z73:Lay:=⟨[3,6,7,8],[[.own 5 1],[.s 62 1],KP,KP],[.row true],⟨[.one (.own 5 0),OV 256,OV 3,OV 3],[.row 5 true]⟩⟩
def ZmB:Nat->Option Lay
 | 3=>some Z73
 | _=>none
def Zmo:Z07->Ac U
 | .b0 a=>Ai f155 [256] (a,())
 | .b1 a b c d=>AA3 f155 [1,1,0,1,0,0,0] Z73 (b,c,d,a,())
theorem XM:AA1 155 [256] 62 (fun x=>Rj x.1) rfl:=Aj Ag Ah ZmB Zmo func155 (fun p=>by cases p<;>kernel_rfl) (by kernel_rfl) fun _=>rfl
inductive ZH where
 | b0 (a:Cb)
def Z74:ZH->Tr U ((Int×Int)⊕ZH)
 | .b0 a=>.br (a.Bz==1) (AA ((1:Int),(0:Int))) (AA ((0:Int),(1:Int)))
def ZA (a:Cb):Option (Int×Int):=AV Z74 (.b0 a)
def Zka:ZH->Ac U
 | .b0 a=>Ai f156 [41] (a,())
theorem ZkB:AA1 156 [41] 194 (fun x=>ZA x.1) rfl:=Aj Ag Ah AN Zka func156 (fun p=>by cases p<;>kernel_rfl) (by kernel_rfl) fun _=>rfl
inductive Z0m where
 | b0 (a b:List Int)
 | b1 (a b c:List Int) (d e:Int)
def X6:Z0m->Tr U ((List Int)⊕Z0m)
 | .b0 a b=>let f:=(↑a.length:Int);let e:=(↑b.length:Int);let c:=(if e<f then e else f);let d:=(List.replicate (Int.toNat c) (0:Int));.chk (decide (0<=c/\c<=c/\Int.toNat c*1<=lim/\c<=(↑maxLen:Int))) (kl d (kl d (AO (.b1 a b d (↑(d.length):Int) (0:Int)))))
 | .b1 c d b e a=>let i:=Int.toNat a;.br (decide (a<e)) (.chk (kI a c) (.bind 5 (c[i]?) (fun(f:Int)=>.chk (kI a d) (.bind 5 (d[i]?) (fun(g:Int)=>let j:=b.set i (bits .xor .u8 f g);kl b (.chk (kI a b) (.chk (b.length==b.length&&decide (0<=i)) (.bind 5 (b[i]?) (fun(h:Int)=>.chk (j.length==b.length) (AO (.b1 c d j e (AP (a+1))))))))))))) (kl b (AA b))
def Z0G (a b:List Int):Option (List Int):=AV X6 (.b0 a b)
def Z7z:Lay:=⟨[0,1,5,14,15],[[.s 5 1],[.s 5 1],[.own 5 1],KP,KP],[.row true],⟨[OV 62,OV 62,.one (.own 5 0),OV 3,OV 3],[.row 5 true]⟩⟩
def Zqb:Nat->Option Lay
 | 3=>some Z7z
 | _=>none
def Zny:Z0m->Ac U
 | .b0 a b=>Ai f232 [62,62] (a,b,())
 | .b1 a b c d e=>AA3 f232 [1,1,0,1,0,0,0] Z7z (a,b,d,e,c,())
theorem ZmS:AA1 232 [62,62] 62 (fun x=>Z0G x.1 x.2.1) rfl:=Aj Ag Ah Zqb Zny func232 (fun p=>by cases p<;>kernel_rfl) (by kernel_rfl) fun _=>rfl
inductive Z0F where
 | b0 (a b:Int)
def Z0n:Z0F->Tr U (Int⊕Z0F)
 | .b0 b a=>.br (decide (a<=0)) (AA (0:Int)) (.br (decide (a>=64)) (AA b) (.chk (decide (0<=a)) (AA (bits .and .u64 b (IntKind.wrap .u64 ((IntKind.wrap .u64 ((1:Int)*2 ^ (min (Int.toNat a) (IntKind.bits .u64)))) - 1))))))
def QT (a b:Int):Option Int:=AV Z0n (.b0 a b)
def Z9y:Af U:=⟨[25,3],25,fun x=>QT x.1 x.2.1,by decide⟩
def Z87:Z0F->Ac U
 | .b0 a b=>Ai f379 [25,3] (a,b,())
theorem Z8W:AA0 379 Z9y:=Aj Ag Ah AN Z87 func379 (fun p=>by cases p<;>kernel_rfl) (by kernel_rfl) fun _=>rfl
inductive ZU where
 | b0 (a:Int)
def ZW:ZU->Tr U (JA⊕ZU)
 | .b0 a=>.bind 25 (QT a (32:Int)) (fun(b:Int)=>AA (⟨(IntKind.wrap .u32 ((Int.fdiv a (2 ^ (32:Nat))))),(IntKind.wrap .u32 (b))⟩:JA))
def mJ (a:Int):Option JA:=AV ZW (.b0 a)
def Z8S:Af U:=⟨[25],312,fun x=>mJ x.1,by decide⟩
def Z7E:ZU->Ac U
 | .b0 a=>Ai f355 [25] (a,())
theorem Zm5:AA0 355 Z8S:=Aj (mc Z8W Ag) Ah AN Z7E func355 (fun p=>by cases p<;>kernel_rfl) (by kernel_rfl) fun _=>rfl
inductive wM where
 | b0 (a b:Int)
def Z55:wM->Tr U (Int⊕wM)
 | .b0 b a=>let e:=IntKind.bits .u64;let c:=(bits .and .u64 (IntKind.wrap .u64 (a)) (63:Int));let d:=IntKind.wrap .u64 ((64:Int) - c);.chk (decide (0<=c)) (.chk (decide (0<=d)) (AA (bits .or .u64 (IntKind.wrap .u64 (b*2 ^ (min (Int.toNat c) e))) (Int.fdiv b (2 ^ (min (Int.toNat d) e))))))
def TZ (a b:Int):Option Int:=AV Z55 (.b0 a b)
def Z56:Af U:=⟨[25,3],25,fun x=>TZ x.1 x.2.1,by decide⟩
def Z52:wM->Ac U
 | .b0 a b=>Ai f380 [25,3] (a,b,())
theorem Zgb:AA0 380 Z56:=Aj Ag Ah AN Z52 func380 (fun p=>by cases p<;>kernel_rfl) (by kernel_rfl) fun _=>rfl
inductive wL where
 | b0 (a b:Int)
def Z59:wL->Tr U (Int⊕wL)
 | .b0 b a=>let e:=IntKind.bits .u32;let c:=(bits .and .u64 (IntKind.wrap .u64 (a)) (31:Int));let d:=IntKind.wrap .u64 ((32:Int) - c);.chk (decide (0<=c)) (.chk (decide (0<=d)) (AA (bits .or .u32 (IntKind.wrap .u32 (b*2 ^ (min (Int.toNat c) e))) (Int.fdiv b (2 ^ (min (Int.toNat d) e))))))
def QE (a b:Int):Option Int:=AV Z59 (.b0 a b)
def Z57:Af U:=⟨[22,3],22,fun x=>QE x.1 x.2.1,by decide⟩
def Z53:wL->Ac U
 | .b0 a b=>Ai f381 [22,3] (a,b,())
theorem Zgc:AA0 381 Z57:=Aj Ag Ah AN Z53 func381 (fun p=>by cases p<;>kernel_rfl) (by kernel_rfl) fun _=>rfl
inductive ZY where
 | b0 (a b c:Int)
def Z00:ZY->Tr U (Int⊕ZY)
 | .b0 b c d=>.bind 25 (TZ b (Int.tmod (AP ((11:Int)*(Int.tmod c 64))) (64:Int))) (fun(e:Int)=>.bind 25 (QT e (32:Int)) (fun(a:Int)=>let h:=IntKind.wrap .u32 (a);.bind 22 (QE (IntKind.wrap .u32 (d+h)) (7:Int)) (fun(f:Int)=>.bind 22 (QE h (16:Int)) (fun(g:Int)=>AA (bits .xor .u32 (IntKind.wrap .u32 (f*2654435761)) g)))))
def XY (a b c:Int):Option Int:=AV Z00 (.b0 a b c)
def Z88:Af U:=⟨[29,3,22],22,fun x=>XY x.1 x.2.1 x.2.2.1,by decide⟩
def Z7m:ZY->Ac U
 | .b0 a b c=>Ai f356 [29,3,22] (a,b,c,())
theorem Zmy:AA0 356 Z88:=Aj (mc Z8W (mc Zgb (mc Zgc Ag))) Ah AN Z7m func356 (fun p=>by cases p<;>kernel_rfl) (by kernel_rfl) fun _=>rfl
inductive wW where
 | b0 (a:JA)
def jU:wW->Tr U (Int⊕wW)
 | .b0 a=>AA (bits .or .u64 (IntKind.wrap .u64 ((IntKind.wrap .u64 (a.x0))*2 ^ (32:Nat))) (IntKind.wrap .u64 (a.x1)))
def WV (a:JA):Option Int:=AV jU (.b0 a)
def Z5T:Af U:=⟨[312],25,fun x=>WV x.1,by decide⟩
def Z5v:wW->Ac U
 | .b0 a=>Ai f357 [312] (a,())
theorem ZgG:AA0 357 Z5T:=Aj Ag Ah AN Z5v func357 (fun p=>by cases p<;>kernel_rfl) (by kernel_rfl) fun _=>rfl
inductive Z13 where
 | b0 (a b:Int)
 | b1 (a b:Int) (c:JA)
def I4:Z13->Tr U (Int⊕Z13)
 | .b0 a b=>.bind 312 (mJ b) (fun(c:JA)=>AO (.b1 a (0:Int) c))
 | .b1 c b a=>.br (decide (b<8)) (.bind 22 (XY c b a.x1) (fun(d:Int)=>AO (.b1 c (AP (b+1)) (⟨a.x1,(bits .xor .u32 a.x0 d)⟩:JA)))) (.bind 25 (WV a) (fun(e:Int)=>AA e))
def KJ (a b:Int):Option Int:=AV I4 (.b0 a b)
def nX:Af U:=⟨[29,25],25,fun x=>KJ x.1 x.2.1,by decide⟩
def Z8K:Lay:=⟨[0,5,9],[KP,KP,KP],[.var [.keep,.keep]],⟨[OV 29,PQ 0,OV 3],[VA 312 2]⟩⟩
def Zao:Nat->Option Lay
 | 3=>some Z8K
 | _=>none
def Z8Y:Z13->Ac U
 | .b0 a b=>Ai f322 [29,25] (a,b,())
 | .b1 a b c=>AA3 f322 [1,1,0,1,0,0,0] Z8K (a,b,c,())
theorem ZpU:AA0 322 nX:=Aj (mc Zm5 (mc Zmy (mc ZgG Ag))) Ah Zao Z8Y func322 (fun p=>by cases p<;>kernel_rfl) (by kernel_rfl) fun _=>rfl
inductive ZR where
 | b0 (a:Int)
def Z7y:ZR->Tr U (Bool⊕ZR)
 | .b0 a=>.br (decide (a>=1)) (AA (decide (a<=8))) (AA false)
def ZT (a:Int):Option Bool:=AV Z7y (.b0 a)
def Zle:ZR->Ac U
 | .b0 a=>Ai f321 [3] (a,())
theorem Zla:AA1 321 [3] 4 (fun x=>ZT x.1) rfl:=Aj Ag Ah AN Zle func321 (fun p=>by cases p<;>kernel_rfl) (by kernel_rfl) fun _=>rfl
inductive Z0A where
 | b0 (a:List Cc)
 | b1 (a:List Int) (b:List Cc) (c d:Int)
 | b2 (a:List Int) (b:List Cc) (c d:Int) (e:Cc)
 | b3 (a:List Int) (b:List Cc) (c d e f:Int) (g:Cc)
def LH:Z0A->Tr U (((List Int)×Int)⊕Z0A)
 | .b0 a=>.chk true (AO (.b1 ([]:List Int) a (↑a.length:Int) (0:Int)))
 | .b1 b d e c=>let g:=Tr.chk true (AA (([]:List Int),(5:Int)));.br (decide (c<e)) (.chk (kI c d) (.bind 252 (d[(Int.toNat c)]?) (fun(a:Cc)=>let i:=AP ((8:Int)*a.Size);let h:=kl b (AO (Z0A.b2 b d e c a));.bind 4 (ZT a.Size) (fun(f:Bool)=>.br (!f) g (.br (decide (a.Size<8)) (.chk (decide (0<=i)) (.br ((Int.fdiv a.Value (2 ^ (min (Int.toNat i) (IntKind.bits .u64)))) != 0) g h)) h))))) (kl b (AA (b,0)))
 | .b2 a c d e b=>kl a (AO (.b3 a c d e b.Size (0:Int) b))
 | .b3 a d e f g b c=>let i:=AP ((8:Int)*b);let h:=a++[(IntKind.wrap .u8 ((Int.fdiv c.Value (2 ^ (min (Int.toNat i) (IntKind.bits .u64))))))];.br (decide (b<g)) (.chk (decide (0<=i)) (.chk true (kl a (.chk (kA (a.length+1) 1) (kl h (AO (.b3 h d e f g (AP (b+1)) c))))))) (kl a (AO (.b1 a d e (AP (f+1)))))
def QS (a:List Cc):Option ((List Int)×Int):=AV LH (.b0 a)
def Z7g:Lay:=⟨[4,8,9,10],[[.own 5 1],[.s 252 2],KP,KP],[.row true],⟨[.one (.own 5 0),OV 253,OV 3,OV 3],[.row 5 true]⟩⟩
def Z7D:Lay:=⟨[4,6,8,9,10],[[.own 5 1],KP,[.s 252 2],KP,KP],[.row true,.var [.keep,.keep]],⟨[.one (.own 5 0),PQ 1,OV 253,OV 3,OV 3],[.row 5 true,VA 252 2]⟩⟩
def Z7C:Lay:=⟨[4,6,8,9,10,33,34],[[.own 5 1],KP,[.s 252 2],KP,KP,KP,KP],[.row true,.var [.keep,.keep]],⟨[.one (.own 5 0),PQ 1,OV 253,OV 3,OV 3,OV 3,OV 3],[.row 5 true,VA 252 2]⟩⟩
def Zpn:Nat->Option Lay
 | 3=>some Z7g
 | 7=>some Z7D
 | 8=>some Z7C
 | _=>none
def Znb:Z0A->Ac U
 | .b0 a=>Ai f230 [253] (a,())
 | .b1 a b c d=>AA3 f230 [1,1,0,1,0,0,0] Z7g (b,c,d,a,())
 | .b2 a b c d e=>AA3 f230 [1,1,0,1,0,0,1,1,0,0,1,1,0] Z7D (b,c,d,a,e,())
 | .b3 a b c d e f g=>AA3 f230 [1,1,0,1,0,0,1,1,0,0,1,1,1,0,0,0] Z7C (b,c,d,e,f,a,g,())
theorem Z0b:AA1 230 [253] 120 (fun x=>QS x.1) rfl:=Aj (mc Zla Ag) Ah Zpn Znb func230 (fun p=>by cases p<;>kernel_rfl) (by kernel_rfl) fun _=>rfl
inductive Z1r where
 | b0 (a:List Int)
 | b1 (a:List Cc) (b:List Int) (c d:Int)
def YX:Z1r->Tr U ((List Int)⊕Z1r)
 | .b0 a=>.chk true (AO (.b1 ([]:List Cc) a (↑a.length:Int) (0:Int)))
 | .b1 a c d b=>.br (decide (b<d)) (.chk (kI b c) (.bind 25 (c[(Int.toNat b)]?) (fun(e:Int)=>let g:=a++[(⟨8,e⟩:Cc)];.chk true (kl a (.chk (kA (a.length+1) 16) (kl g (AO (.b1 g c d (AP (b+1)))))))))) (kl a (.bind 120 (QS a) (fun(f:(List Int)×Int)=>AA f.1)))
def U8 (a:List Int):Option (List Int):=AV YX (.b0 a)
def Z8l:Lay:=⟨[3,8,9,10],[[.own 252 2],[.s 25 1],KP,KP],[.row true],⟨[.one (.own 252 0),OV 254,OV 3,OV 3],[.row 252 true]⟩⟩
def ZtQ:Nat->Option Lay
 | 3=>some Z8l
 | _=>none
def Zpe:Z1r->Ac U
 | .b0 a=>Ai f323 [254] (a,())
 | .b1 a b c d=>AA3 f323 [1,1,0,1,0,0,0] Z8l (b,c,d,a,())
theorem Z9M:AA1 323 [254] 62 (fun x=>U8 x.1) rfl:=Aj (mc Z0b Ag) Ah ZtQ Zpe func323 (fun p=>by cases p<;>kernel_rfl) (by kernel_rfl) fun _=>rfl
inductive Z0h where
 | b0 (a b c:Int)
 | b1 (a b c:Int) (d:List Int) (e:Int)
def Xw:Z0h->Tr U ((List Int)⊕Z0h)
 | .b0 b c a=>let f:=AP (a+8);let e:=(List.replicate (Int.toNat 0) (0:Int));.bind 25 (KJ b c) (fun(d:Int)=>.chk (decide (0<=(0:Int)/\(0:Int)<=f/\Int.toNat f*1<=lim/\f<=(↑maxLen:Int))) (kl e (AO (.b1 b a d e (0:Int)))))
 | .b1 d b e a f=>let j:=(↑a.length:Int);let i:=Int.toNat b;let h:=(decide (0<=b/\b<=j));kl a (.br (decide (j<b)) (.bind 25 (KJ d (IntKind.wrap .u64 (e+f))) (fun(g:Int)=>.chk true (.bind 62 (U8 ([g])) (fun(c:List Int)=>kl a (.chk (kA (a.length+c.length) 1) (kl (a++c) (AO (.b1 d b e (a++c) (IntKind.wrap .u64 (f+1)))))))))) (kl a (.chk h (.chk h (.chk (i==i) (kl a (AA ((a.drop 0).take (i - 0)))))))))
def Z0k (a b c:Int):Option (List Int):=AV Xw (.b0 a b c)
def Z7K:Lay:=⟨[0,2,7,8,9],[KP,KP,KP,[.own 5 1],KP],[.row true],⟨[OV 29,OV 3,OV 25,.one (.own 5 0),OV 25],[.row 5 true]⟩⟩
def Zpv:Nat->Option Lay
 | 4=>some Z7K
 | _=>none
def ZnS:Z0h->Ac U
 | .b0 a b c=>Ai f233 [29,25,3] (a,b,c,())
 | .b1 a b c d e=>AA3 f233 [1,1,1,0,1,0,0,0,0] Z7K (a,b,c,e,d,())
theorem ZmJ:AA1 233 [29,25,3] 62 (fun x=>Z0k x.1 x.2.1 x.2.2.1) rfl:=Aj (mc ZpU (mc Z9M Ag)) Ah Zpv ZnS func233 (fun p=>by cases p<;>kernel_rfl) (by kernel_rfl) fun _=>rfl
end
end Go.Proofs.YtjodhcdmhobmoaaGreatDoor
namespace Go.Proofs.YtjodhcdmhobmoaaGreatDoor
open Tryz
set_option maxRecDepth 100000
noncomputable section
attribute [local go_sem] Go.Oper.semAt_some
open Go Go.RowKit Go.Shelf
def J7 (ys:List Int):Nat->Int
 | 0=>0
 | m+1=>bits .or .u64 (J7 ys m) (IntKind.wrap .u64 (ys[m]?.getD 0*2 ^ (8*m)))
def JK (xs:List Int) (k:Nat):Int:=J7 ((xs.drop (8*k)).take 8) ((xs.drop (8*k)).take 8).length
def gN (xs:List Int):Nat:=(xs.length+7) / 8
theorem ZcA {a b:Nat} (h:a<=b):List.range a <+: List.range b:=by
 obtain⟨d,rfl⟩:∃d,b=a+d:=⟨b - a,by omega⟩;rw[List.range_add];exact List.prefix_append _ _
theorem meas {L k:Nat} {a b:Int} (h:8*k<L) (q:a=8*(k:Int)) (hb:b=8*(k:Int)+8):L+8 - (intOf (.int .i64 b)).toNat<L+8 - (intOf (.int .i64 a)).toNat:=by
 subst q hb;simp only[intOf];omega
structure BytesAt (W:World) (Bm b o cap:Nat) (a:Option Addr) (xs:List Int):Prop where
 box:W.cell? ⟨Bm,0,none⟩=some (.slice a xs.length cap)
 WE:xs≠[]->a=some ⟨b,o,none⟩
 cells:∀j (h:j<xs.length),W.cell? ⟨b,o+j,none⟩=some (.int .u8 xs[j])
 len:xs.length<=cap
 max:cap<=maxLen
 bd:∀x∈xs,0<=x/\x<256
set_option maxHeartbeats 1000000 in
theorem g1_in (F:Fence) (n:Nat) (hG1:F.fn 382) (hro:F.round=none) (hn:1<=n) (xs:List Int) (D:xs.length<=4611686018427387904) (b o cap:Nat) (a:Option Addr) (l Bm:Nat) (J Jx:List Nat->World->Prop)
  (hY:∀pre x W,J pre W->pre.length<gN xs->YieldAt F (n - 1) Tryz.prog l #[.int .u64 (JK xs x)] W fun e W' =>
   (e = .returned (.bool true)/\J (pre++[x]) W' /\ (BytesAt W Bm b o cap a xs->BytesAt W' Bm b o cap a xs))\/(e = .returned (.bool false)/\Jx (pre++[x]) W'))
  (W:World) (hB:BytesAt W Bm b o cap a xs) (h0:J [] W) :
  CallsIn F n Tryz.prog 382 #[.func (.yield l) #[] #[],.pointer (some ⟨Bm,0,none⟩)] W fun e W' =>(∃v,e = .returned v) /\
   ((∃ys,ys=List.range (gN xs)/\J ys W')\/(∃pre,pre <+: List.range (gN xs)/\Jx pre W')):=by
 refine callsIn_of_wp func382 rfl hG1 ?_ hro;simp only[Tryz.ntmps382,List.size_toArray,List.length_cons,List.length_nil,Nat.reduceAdd,Nat.reduceSub,Array.replicate_succ,Array.replicate_zero,List.push_toArray,List.append_toArray,List.nil_append,List.cons_append]
 gi_wp2
 gi_loopw [3] (fun i wr=>∃k:Nat,k<=gN xs/\i = .int .i64 ((8*k:Nat):Int)/\J (List.range k) wr/\BytesAt wr Bm b o cap a xs)
  (fun i _=>xs.length+8 - (intOf i).toNat)
 case atStart=>exact⟨0,by omega,rfl,by simpa using h0,hB⟩
 case round=>
  obtain⟨k,hk,rfl,hJ,hb⟩:=hrel;have hbox:=hb.box
  by_cases O:8*k<xs.length
  ·have hl:=hb.len;have hne:xs≠[]:=by rintro rfl;simp at O
   obtain rfl:=hb.WE hne;have hw:wrap64 (8*(k:Int)+8)=8*(k:Int)+8:=by unfold wrap64;omega
   have c1:(8*(k:Int)<xs.length):=by omega
   have c2:(0<=8*(k:Int)+8):=by omega
   have c3:(0<=8*(k:Int)):=by omega
   have c4:(8*(k:Int)<=8*(k:Int)+8):=by omega
   have c5:((xs.length:Int)<=cap):=by omega
   by_cases h8:8*k+8<=xs.length
   ·have d1:¬((xs.length:Int)<8*(k:Int)+8):=by omega
    have d2:(8*(k:Int)+8<=cap):=by omega
    have d3:(8*(k:Int)+8).toNat=8*k+8:=by omega
    have HL:=Lib.hid hl;have HE:=Lib.hid D;have S:=Lib.hid O;have HK:=Lib.hid hk;have Y:=Lib.hid h8;clear hl hne O hk h8 D
    gi_wp2
    gi_loopw [4,22] (fun acc j wi=>∃m:Nat,m<=8/\j = .int .i64 (m:Int)/\acc = .int .u64 (J7 ((xs.drop (8*k)).take 8) m)/\J (List.range k) wi/\BytesAt wi Bm b o cap (some ⟨b,o,none⟩) xs)
     (fun _ j _=>8 - (intOf j).toNat)
    case atStart=>exact⟨0,by omega,rfl,rfl,hJ,hb⟩
    case round=>
     obtain⟨m,hm,rfl,rfl,G,A⟩:=hrel;have hb2b:=A.box
     by_cases hm8:m<8
     ·have e1:((m:Int)<8):=by omega
      have e2:(0<=(m:Int)):=by omega
      have e3:m<8:=hm8;have hj:8*k+m<xs.length:=by have:=Y.out;omega
      have hcell:wr.cell? ⟨b,o+8*k+m,none⟩=some (.int .u8 xs[8*k+m]):=by rw[Nat.add_assoc];exact A.cells _ hj
      obtain⟨bd1,bd2⟩:=A.bd _ (List.getElem_mem hj);have e4:IntKind.wrap .u64 xs[8*k+m]=xs[8*k+m]:=by simp only[IntKind.wrap,IntKind.signed,IntKind.bits,Bool.false_and,Bool.false_eq_true,if_false];omega
      have e5:wrap64 (8*(m:Int))=8*(m:Int):=by unfold wrap64;omega
      clear hm;have M:J7 ((xs.drop (8*k)).take 8) (m+1)=bits .or .u64 (J7 ((xs.drop (8*k)).take 8) m) (IntKind.wrap .u64 (xs[8*k+m]*2 ^ (8*m))):=by
       simp only[J7];rw[List.getElem?_take,if_pos hm8,List.getElem?_drop,List.getElem?_eq_getElem hj];rfl
      have HG:=Lib.hid M;clear M
      gi_wp2
      go_roundw
      case rel=>exact⟨m+1,by omega,by go_num,by rw[HG.out],G,A⟩
      case measure=>simp[intOf];omega
     ·obtain rfl:m=8:=by omega
      have hb3:=A;obtain⟨fn,tmps,Q,body,hy,hR⟩:=hY (List.range k) k wr G (by have:=Y.out;simp[gN];omega);have hg:J7 ((xs.drop (8*k)).take 8) 8=JK xs k:=by
       have:=Y.out;unfold JK;rw[show ((xs.drop (8*k)).take 8).length=8 by simp;omega]
      have z:List.range k++[k]=List.range (k+1):=List.range_succ.symm;have C:List.range (k+1) <+: List.range (gN xs):=ZcA (by have:=S.out;unfold gN;omega);rw[z]at hR;have HS:=Lib.hid z;have HP:=Lib.hid C;clear z C
      gi_wp2
      refine hR.mono ?_
      rintro e W3 (⟨rfl,hJ3,N⟩|⟨rfl,I⟩)
      ·have hb4:=N hb3;clear N
       gi_wp2
       go_roundw
       case rel=>exact⟨k+1,by have:=S.out;unfold gN;omega,by simp only[Value.int.injEq,true_and];omega,hJ3,hb4⟩
       case measure=>exact meas (by have:=S.out;omega) (by omega) (by omega)
      ·gi_wp2
       refine bodyPost_ret (results_none rfl _ _ _) rfl ?_;exact⟨⟨_,rfl⟩,.inr ⟨_,HP.out,I⟩⟩
   ·have d1:((xs.length:Int)<8*(k:Int)+8):=by omega
    have d2:(8*(k:Int)<=xs.length):=by omega
    obtain⟨q,hq⟩:∃q,xs.length - 8*k=q:=⟨_,rfl⟩;have d3:(0<=(xs.length:Int)):=by omega
    have HQ:=Lib.hid hq;have HL:=Lib.hid hl;have HE:=Lib.hid D;have S:=Lib.hid O;have HK:=Lib.hid hk;have Y:=Lib.hid h8;clear hl hne O hk h8 D
    gi_wp2
    gi_loopw [4,22] (fun acc j wi=>∃m:Nat,m<=q/\j = .int .i64 (m:Int)/\acc = .int .u64 (J7 ((xs.drop (8*k)).take 8) m)/\J (List.range k) wi/\BytesAt wi Bm b o cap (some ⟨b,o,none⟩) xs)
     (fun _ j _=>q - (intOf j).toNat)
    case atStart=>exact⟨0,by omega,rfl,rfl,hJ,hb⟩
    case round=>
     obtain⟨m,hm,rfl,rfl,G,A⟩:=hrel;have hb2b:=A.box
     by_cases hm8:m<q
     ·have e1:((m:Int)<q):=by omega
      have e2:(0<=(m:Int)):=by omega
      have e3:m<xs.length - 8*k:=by have:=HQ.out;omega
      have hj:8*k+m<xs.length:=by have:=HQ.out;omega
      have hcell:wr.cell? ⟨b,o+8*k+m,none⟩=some (.int .u8 xs[8*k+m]):=by rw[Nat.add_assoc];exact A.cells _ hj
      obtain⟨bd1,bd2⟩:=A.bd _ (List.getElem_mem hj);have e4:IntKind.wrap .u64 xs[8*k+m]=xs[8*k+m]:=by simp only[IntKind.wrap,IntKind.signed,IntKind.bits,Bool.false_and,Bool.false_eq_true,if_false];omega
      have e5:wrap64 (8*(m:Int))=8*(m:Int):=by have:=HQ.out;have:=Y.out;unfold wrap64;omega
      clear hm;have M:J7 ((xs.drop (8*k)).take 8) (m+1)=bits .or .u64 (J7 ((xs.drop (8*k)).take 8) m) (IntKind.wrap .u64 (xs[8*k+m]*2 ^ (8*m))):=by
       simp only[J7];rw[List.getElem?_take,if_pos (by have:=HQ.out;have:=Y.out;omega),List.getElem?_drop,List.getElem?_eq_getElem hj];rfl
      have HG:=Lib.hid M;clear M
      gi_wp2
      go_roundw
      case rel=>exact⟨m+1,by omega,by go_num,by rw[HG.out],G,A⟩
      case measure=>simp[intOf];omega
     ·obtain rfl:m=q:=by omega
      have hb3:=A;obtain⟨fn,tmps,Q,body,hy,hR⟩:=hY (List.range k) k wr G (by have:=S.out;simp[gN];omega);have hg:J7 ((xs.drop (8*k)).take 8) m=JK xs k:=by
       have:=Y.out;unfold JK;rw[show ((xs.drop (8*k)).take 8).length=m by have:=HQ.out;simp only[List.length_take,List.length_drop];omega]
      have z:List.range k++[k]=List.range (k+1):=List.range_succ.symm;have C:List.range (k+1) <+: List.range (gN xs):=ZcA (by have:=S.out;unfold gN;omega);rw[z]at hR;have HS:=Lib.hid z;have HP:=Lib.hid C;clear z C
      gi_wp2
      refine hR.mono ?_
      rintro e W3 (⟨rfl,hJ3,N⟩|⟨rfl,I⟩)
      ·have hb4:=N hb3;clear N
       gi_wp2
       go_roundw
       case rel=>exact⟨k+1,by have:=S.out;unfold gN;omega,by simp only[Value.int.injEq,true_and];omega,hJ3,hb4⟩
       case measure=>exact meas (by have:=S.out;omega) (by omega) (by omega)
      ·gi_wp2
       refine bodyPost_ret (results_none rfl _ _ _) rfl ?_;exact⟨⟨_,rfl⟩,.inr ⟨_,HP.out,I⟩⟩
  ·have hkk:k<=(xs.length+7) / 8:=hk;have hdone:k=gN xs:=by unfold gN;omega
   rw[hdone]at hJ;have c1:¬(8*(k:Int)<xs.length):=by omega
   gi_wp2
   go_end0
   exact⟨⟨_,rfl⟩,.inl hJ⟩
def Vw (q:Int->Int->Option Int) (k:Int) (xs:List Int):Option Int:=
 if xs.length<=4611686018427387904 then (q k xs.length).bind fun s=>(List.range (gN xs)).foldlM (fun s g=>q k (bits .xor .u64 s (JK xs g))) s else none
def uS (F:Fence) (q:Int->Int->Option Int):Prop:=∀k s r,(Lit.int .u64 k).wf=true->(Lit.int .u64 s).wf=true->q k s=some r->(Lit.int .u64 r).wf=true /\
 ∀n w,CallsIn F n Tryz.prog 322 #[.int .u64 k,.int .u64 s] w fun e w' =>e = .returned (.int .u64 r)/\Below w.heap.size w w'
structure MK (W:World) (b o cap:Nat) (a:Option Addr) (xs:List Int):Prop where
 WE:xs≠[]->a=some ⟨b,o,none⟩
 cells:∀j (h:j<xs.length),W.cell? ⟨b,o+j,none⟩=some (.int .u8 xs[j])
 len:xs.length<=cap
 max:cap<=maxLen
 bd:∀x∈xs,0<=x/\x<256
theorem MK.below {W q : World} {n b o cap:Nat} {a:Option Addr} {xs:List Int} (h:MK W b o cap a xs) (hb:Below n W q) (hn:W.heap.size<=n\/b<n):MK q b o cap a xs:=
 ⟨h.WE,fun j z=>(hb.cell (p:=⟨b,o+j,none⟩) (by
  rcases hn with hn|hn
  ·exact Nat.lt_of_lt_of_le (by have:=h.cells j z;unfold World.cell? at this;split at this<;>first|exact(Array.getElem?_eq_some_iff.1 ‹_›).1|cases this) hn
  ·exact hn)).trans (h.cells j z),h.len,h.max,h.bd⟩
theorem BytesAt.of {W:World} {Bm b o cap:Nat} {a:Option Addr} {xs:List Int} (h:MK W b o cap a xs) (hb:W.cell? ⟨Bm,0,none⟩=some (.slice a xs.length cap)):BytesAt W Bm b o cap a xs:=⟨hb,h.WE,h.cells,h.len,h.max,h.bd⟩
theorem BytesAt.row {W:World} {Bm b o cap:Nat} {a:Option Addr} {xs:List Int} (h:BytesAt W Bm b o cap a xs):MK W b o cap a xs:=⟨h.WE,h.cells,h.len,h.max,h.bd⟩
theorem MK.same {W q : World} {b o cap:Nat} {a:Option Addr} {xs:List Int} (h:MK W b o cap a xs) (hb:xs≠[]->q.heap[b]? = W.heap[b]?):MK q b o cap a xs:=
 ⟨h.WE,fun j z=>(World.cell?_of_block (hb (by rintro rfl;cases z))).trans (h.cells j z),h.len,h.max,h.bd⟩
theorem MK.lt {W:World} {b o cap:Nat} {a:Option Addr} {xs:List Int} (h:MK W b o cap a xs) (q:xs≠[]):b<W.heap.size:=by
 have:=h.cells 0 (List.length_pos_iff.2 q);unfold World.cell? at this;split at this<;>first|exact(Array.getElem?_eq_some_iff.1 ‹_›).1|cases this
structure iK (k:Int) (w:World) (n5:Nat) (s:Int) (W:World):Prop where
 key:Boxed W w.heap.size 29 (.int .u64 k)
 st:Boxed W n5 25 (.int .u64 s)
 below:Below w.heap.size w W
theorem Zc6 {W q : World} {row:Option Nat} {B B0:Nat} {t:TypeId} {v:Value} (h:Boxed W B t v) (A:W.grownBy q row) (C:∀r,row=some r->B0<=r/\∃o:Obj,W.heap[r]? = some o/\o.isCells=false):Boxed q B t v:=by
 refine h.kept A ?_;intro e;obtain⟨_,o,z,hc⟩:=C B e.symm;rw[show W.heap[B]? = _ from h]at z;cases z;cases hc
theorem iK.own {k:Int} {w:World} {n5:Nat} {s:Int} {W W' : World} {row:Option Nat} {B0:Nat} (A:w.heap.size<=B0) (h:iK k w n5 s W) (q:W.grownBy W' row) (z:∀r,row=some r->B0<=r/\∃o:Obj,W.heap[r]? = some o/\o.isCells=false):iK k w n5 s W' :=
 ⟨Zc6 h.key q z,Zc6 h.st q z,h.below.grown q h.below.size (fun k e=>Nat.le_trans A (z k e).1)⟩
theorem wf_x (a b:Int):(Lit.int .u64 (bits .xor .u64 a b)).wf=true:=by
 have:=bits_within .xor .u64 a b;simp only[Lit.wf,Bool.and_eq_true,decide_eq_true_eq];exact this
theorem Zyb (F:Fence) (n:Nat) (z:F.fn 358) (q:F.round=none) (a:Option Addr) (l c:Nat) (w:World) :
  CallsIn F n Tryz.prog 358 #[.slice a l c] w fun e w' =>e = .returned (.func (.func 382) #[] #[.pointer (some ⟨w.heap.size,0,none⟩)])/\w' = w.alloc (.cells #[.slice a l c] 62):=by
 refine callsIn_of_wp func358 rfl z ?_ q;simp only[Tryz.ntmps358,List.size_toArray,List.length_cons,List.length_nil,Nat.reduceAdd,Nat.reduceSub,Array.replicate_succ,Array.replicate_zero,List.push_toArray,List.append_toArray,List.nil_append,List.cons_append]
 gi_wp2
 go_ret
 exact⟨rfl,rfl⟩
set_option maxHeartbeats 2000000 in
theorem ZEU (F:Fence) (hMIX:F.fn 322) (hG:F.fn 358) (hG1:F.fn 382) (hSELF:F.fn 324) (hro:F.round=none) (mx:Int->Int->Option Int) (hM:uS F mx) (hT:∀k s,(Lit.int .u64 s).wf=true->∃r,mx k s=some r) (n:Nat) (hn:3<=n) (k:Int) (xs:List Int) (r:Int) (hk:(Lit.int .u64 k).wf=true) (M:Vw mx k xs=some r) (b o cap:Nat) (a:Option Addr) (w:World) (hB:MK w b o cap a xs) :
  CallsIn F n Tryz.prog 324 #[.int .u64 k,.slice a xs.length cap] w fun e W' =>e = .returned (.int .u64 r)/\Below w.heap.size w W' :=by
 unfold Vw at M;split at M
 ·rename_i Q;cases h0:mx k xs.length with
  | none=>rw[h0]at M;cases M
  | some s0=>
   rw[h0]at M;change (List.range (gN xs)).foldlM (fun s g=>mx k (bits .xor .u64 s (JK xs g))) s0=some r at M;have hlw:(Lit.int .u64 (xs.length:Int)).wf=true:=by simp[Lit.wf,IntKind.min,IntKind.max,IntKind.signed,IntKind.bits];omega
   obtain⟨hs0,hC⟩:=hM k xs.length s0 hk hlw h0;have h1:1<=n:=by omega
   refine callsIn_of_wp_marks func324 rfl hSELF ?_ hro;simp only[Tryz.ntmps324,List.size_toArray,List.length_cons,List.length_nil,Nat.reduceAdd,Nat.reduceSub,Array.replicate_succ,Array.replicate_zero,List.push_toArray,List.append_toArray,List.nil_append,List.cons_append];have hcv:IntKind.wrap .u64 (xs.length:Int)=xs.length:=by simp only[IntKind.wrap,IntKind.signed,IntKind.bits,Bool.false_and,Bool.false_eq_true,if_false];omega
   have HR:=Lib.hid M;have HS:=Lib.hid hs0;have HL:=Lib.hid Q;clear M hs0 Q
   gi_wp2_with (gi_at_call 322;refine(hC (n - 1) _).mono ?_;rintro e q ⟨rfl,hb1⟩)
   gi_wp2_with (gi_at_call 358;refine(Zyb F (n - 1) hG hro _ _ _ _).mono ?_;rintro e w2 ⟨rfl,rfl⟩)
   have hb1' : w.heap.size<q.heap.size:=by have:=hb1.size;simp at this;omega
   obtain⟨W0,O⟩:∃W0,(q.alloc (Obj.cells #[Value.int IntKind.u64 s0] 25)).alloc (Obj.cells #[Value.slice a xs.length cap] 62)=W0:=⟨_,rfl⟩;have hk1:Boxed q w.heap.size 29 (.int .u64 k):=(hb1.block _ (by simp)).trans (Boxed.new w 29 _);have hI0:iK k w q.heap.size s0 W0:=by
    rw[<- O];refine⟨(hk1.alloc _).alloc _,(Boxed.new q 25 (.int .u64 s0)).alloc _,?_⟩;exact(((((Below.refl _ w).alloc (Nat.le_refl _) _).trans (hb1.mono (by simp))).alloc (Nat.le_of_lt hb1') _).alloc (by simp;omega) _)
   have C:BytesAt W0 (q.heap.size+1) b o cap a xs:=by
    refine BytesAt.of (hB.below hI0.below (.inl (Nat.le_refl _))) ?_;rw[<- O];simp
   have hs0' : W0.heap.size=q.heap.size+2:=by rw[<- O];simp
   rw[O];have HB:=Lib.hid C;clear O hk1;refine wpIn_rangeFunc_ownG hro h1 (gf:=382) (lb:=#[.pointer (some ⟨q.heap.size+1,0,none⟩)]) rfl hG1 (enters_of func382 (by kernel_rfl) rfl) (α:=Nat) (encs:=fun x=>#[Value.int .u64 (JK xs x)])
    (Kp:=fun A B=>BytesAt A (q.heap.size+1) b o cap a xs->BytesAt B (q.heap.size+1) b o cap a xs) (S:=fun ys=>ys=List.range (gN xs)) (Sp:=fun pre=>pre <+: List.range (gN xs)) (N:=gN xs) (w0:=W0)
    (fun l J Jx W hW _ _ hY hJ=>g1_in F (n - 1) hG1 hro (by omega) xs HL.out b o cap a l (q.heap.size+1) J Jx (fun pre x W1 h1 h2=>hY pre x W1 h1 h2)
     W (BytesAt.of (C.row.below hW (.inl (Nat.le_refl _))) ((hW.cell (p:=⟨q.heap.size+1,0,none⟩) (by simp;omega)).trans C.box)) hJ)
    (fun h k=>fun x=>k (h x))
    (fun W l o o' hl ho hc _ I=>BytesAt.of (I.row.same fun hx=>World.putObj_heap_other (by have:=C.row.lt hx;omega)) ((World.cell?_of_block (World.putObj_heap_other (by simp only;omega))).trans I.box))
    (Below.refl _ _) (fun _=>rfl)
    (fun pre W=>∃s,pre.foldlM (fun s g=>mx k (bits .xor .u64 s (JK xs g))) s0=some s/\(Lit.int .u64 s).wf=true/\iK k w q.heap.size s W)
    (fun _ _ _=>False)
    (fun p A B row hs hg M=>by obtain⟨s,q1,q2,q3⟩:=hs;exact⟨s,q1,q2,q3.own (by omega) hg M⟩)
    (fun c p A B row hs hg M=>hs)
    ⟨s0,rfl,HS.out,hI0⟩
    (fun x=>{ tmps:=#[.int .u64 k,.slice a xs.length cap,.pointer (some ⟨w.heap.size,0,none⟩),undef,.int .u64 0,.pointer (some ⟨q.heap.size,0,none⟩),.int .u64 (JK xs x),.int .u64 k,.slice a xs.length cap,.int .i64 xs.length,.int .u64 xs.length,.int .u64 s0,.slice a xs.length cap,.func (.func 382) #[] #[.pointer (some ⟨q.heap.size+1,0,none⟩)],.int .u64 (JK xs x),undef,undef,undef,undef,undef,undef],defers:=[] }) ?assign ?body ?done ?stop
   case assign=>
    intro l x W K hK
    gi_wp2
    exact hK
   case body=>
    rintro l pre x W ⟨s,q1,q2,G⟩ Q
    obtain⟨r',hr'⟩:=hT k (bits .xor .u64 s (JK xs x)) (wf_x _ _);obtain⟨hw',hC'⟩:=hM k _ r' hk (wf_x _ _) hr';have hc0:=G.key.cell;have hc1:=G.st.cell;have hf1:=G.st.frozen;have hMIXl:(F.inRound l).fn 322:=hMIX;have h3:1<=n - 1 - 1:=by omega
    gi_wp2_with (gi_at_call 322;refine(CallsIn.inRound l (hC' (n - 1 - 1 - 1) _)).mono ?_;rintro e W2 ⟨rfl,z⟩;have Y:Boxed W2 q.heap.size 25 (.int .u64 s):=(z.block _ G.st.lt).trans G.st;have hky2:Boxed W2 w.heap.size 29 (.int .u64 k):=(z.block _ G.key.lt).trans G.key;have hc2:=Y.cell;have hf2:=Y.frozen;clear hc0 hc1 hf1)
    refine⟨KeepsFrom.trans ⟨z.size,fun j o _ hj _=>(z.block _ (Array.getElem?_eq_some_iff.1 hj).1).trans hj⟩ (KeepsFrom.of_grownBy (grownBy_setCell' W2 _ _) (fun j e=>by cases e;omega)),fun I=>?_,r',?_,hw',?_⟩
    ·refine BytesAt.of ((I.row.below z (.inl (Nat.le_refl _))).same fun hx=>Below.heap_setCell _ _ _ _ (by have:=hB.lt hx;simp only;omega)) ?_;have hbm:q.heap.size+1<W.heap.size:=by
      have:=I.box;unfold World.cell? at this;split at this<;>first|exact(Array.getElem?_eq_some_iff.1 ‹_›).1|cases this
     exact(World.cell?_of_block (Below.heap_setCell _ _ _ _ (by simp only;omega))).trans ((z.cell (p:=⟨q.heap.size+1,0,none⟩) hbm).trans I.box)
    ·simp only[List.foldlM_append,q1,List.foldlM_cons,List.foldlM_nil,Option.bind_eq_bind,Option.bind_some,hr',Option.pure_def]
    ·exact⟨(Below.heap_setCell _ _ _ _ (by simp only;omega)).trans hky2,Y.set _,(G.below.trans (z.mono G.below.size)).setCell (p:=⟨q.heap.size,0,none⟩) (Nat.le_of_lt hb1') _⟩
   case done=>
    rintro D ys W hD rfl ⟨s,q1,q2,G⟩ hK
    have hsr:s=r:=Option.some.inj (q1.symm.trans HR.out);subst hsr;have hc1:=G.st.cell;have hf1:=G.st.frozen
    gi_wp2
    refine⟨by simp,.inl ⟨_,_,rfl,run_takeDeferred hK,?_⟩⟩;refine⟨.int .u64 s,?_,?_,?_⟩
    ·simp[results,f324,go_sem]
    ·rfl
    ·exact G.below.trans (belowK_b (w:=w) (Nat.le_refl _) _ D _ _ (by omega) hK rfl rfl)
   case stop=>
    rintro D c pre W hD hp hf hK
    exact hf.elim
 ·cases M
open Go.Proofs.YtjodhcdmhobmoaaGreatDoor.Le
theorem Zx6 {σ:Sg} {w:World}:∀{xs:List Int} {us:List Value},AQ σ w (xs.map fun x=>V.lit (.int .u8 x)) us->us=xs.map (fun x=>Value.int .u8 x)/\∀x∈xs,0<=x/\x<256:=by
 intro xs;induction xs with
 | nil=>intro us h;cases h.FI;exact⟨rfl,by simp⟩
 | cons x xs F=>
  intro us h;obtain⟨v,vs,rfl,q,z⟩:=h.Dq;obtain⟨C,D⟩:=F z;cases q with
  | lit A _=>
   refine⟨by rw[C];rfl,fun y hy=>?_⟩;rcases List.mem_cons.1 hy with rfl|hy
   ·simp[leaf,Lit.wf,IntKind.min,IntKind.max,IntKind.signed,IntKind.bits]at A;omega
   ·exact D y hy
theorem row_of {σ:Sg} {w:World} {xs:List Int} {v:Value} (h:AQ σ w [.sl false 1 (xs.map fun x=>V.lit (.int .u8 x))] [v]):∃a b o cap,v = .slice a xs.length cap/\MK w b o cap a xs:=by
 generalize q:(xs.map fun x=>V.lit (.int .u8 x))=es at h;cases h with
 | EY _=>
  have:xs=[]:=by simpa using q
  subst this;exact⟨none,0,0,0,rfl,⟨fun h=>absurd rfl h,fun j z=>(by cases z),Nat.le_refl _,Nat.zero_le _,by simp⟩⟩
 | FW a _=>
  have:xs=[]:=by simpa using q
  subst this;exact⟨_,0,0,_,rfl,⟨fun h=>absurd rfl h,fun j z=>(by cases z),Nat.zero_le _,by first|exact Nat.zero_le _|assumption,by simp⟩⟩
 | sl b o c e C J M N D F G _=>
  subst q;obtain⟨rfl,A⟩:=Zx6 C;refine⟨_,b,o,c,by rw[List.length_map],⟨fun _=>rfl,fun j z=>?_,by simpa using D,F,A⟩⟩;refine(G j (.int .u8 xs[j]) ?_).2;have:∀l:List Int,flat (l.map fun x=>Value.int .u8 x)=l.map fun x=>Value.int .u8 x:=by
   intro l;induction l with
   | nil=>rfl
   | cons y l I=>rw[List.map_cons,KR,I];rfl
  rw[this,List.getElem?_map,List.getElem?_eq_getElem z];rfl
theorem Zf0 (n:Int):0<=IntKind.wrap .u64 n:=by simp only[IntKind.wrap,IntKind.signed,IntKind.bits,Bool.false_and,Bool.false_eq_true,if_false];omega
theorem Ze8 (a b:Int):0<=bits .and .u64 a b:=(bits_within .and .u64 a b).1
theorem ZDE (a b:Int):∃r,TZ a b=some r:=⟨_,(AZ _ _).trans (by simp only[Z55,Tr.den,Hl,Zf0,Ze8,decide_true,cond_true];rfl)⟩
theorem ZeH (a b:Int):∃r,QE a b=some r:=⟨_,(AZ _ _).trans (by simp only[Z59,Tr.den,Hl,Zf0,Ze8,decide_true,cond_true];rfl)⟩
theorem Ze7 (a:Int):∃r,QT a 32=some r:=⟨_,(AZ _ _).trans (by simp[Z0n,Tr.den,Hl];rfl)⟩
theorem ZCw (a:Int):∃r,mJ a=some r:=by
 obtain⟨x,q⟩:=Ze7 a;exact⟨_,(AZ _ _).trans (by simp only[ZW,Tr.den,Hl,q,Option.bind_some];rfl)⟩
theorem ZeS (a:JA):∃r,WV a=some r:=⟨_,(AZ _ _).trans (by simp only[jU,Tr.den,Hl];rfl)⟩
theorem ZCK (a b c:Int):∃r,XY a b c=some r:=by
 obtain⟨x1,z⟩:=ZDE a (Int.tmod (AP ((11:Int)*(Int.tmod b (64:Int)))) (64:Int));obtain⟨q,A⟩:=Ze7 x1;obtain⟨F,C⟩:=ZeH (IntKind.wrap .u32 (c+(IntKind.wrap .u32 (q)))) 7;obtain⟨G,D⟩:=ZeH (IntKind.wrap .u32 (q)) 16;exact⟨_,(AZ _ _).trans (by simp only[Z00,Tr.den,Hl,z,A,C,D,Option.bind_some];rfl)⟩
theorem ZDN (k:Int):∀(n:Nat) (i:Int) (h:JA),0<=i->8 - i<=n->∃r,AV I4 (.b1 k i h)=some r:=by
 intro n;induction n with
 | zero=>
  intro i h z A;obtain⟨r,q⟩:=ZeS h;have:decide (i<(8:Int))=false:=by simp;omega
  exact⟨r,(AZ _ _).trans (by simp only[I4,Tr.den,Hl,this,cond_false,q,Option.bind_some])⟩
 | succ n G=>
  intro i h z A
  by_cases C:i<8
  ·obtain⟨x,F⟩:=ZCK k i h.x1;have D:AP (i+1)=i+1:=by simp[AP,IntKind.wrap,IntKind.signed,IntKind.bits];split<;>omega
   obtain⟨r,q⟩:=G (i+1) ⟨h.x1,bits .xor .u32 h.x0 x⟩ (by omega) (by omega);have:decide (i<(8:Int))=true:=by simp[C]
   exact⟨r,(AZ _ _).trans (by simp only[I4,Tr.den,Hl,this,cond_true,F,Option.bind_some,D,q])⟩
  ·obtain⟨r,q⟩:=ZeS h;have:decide (i<(8:Int))=false:=by simp;omega
   exact⟨r,(AZ _ _).trans (by simp only[I4,Tr.den,Hl,this,cond_false,q,Option.bind_some])⟩
theorem Zfo (k s:Int):∃r,KJ k s=some r:=by
 obtain⟨x,z⟩:=ZCw s;obtain⟨r,q⟩:=ZDN k 8 0 x (by omega) (by omega);exact⟨r,(AZ _ _).trans (by simp only[I4,Tr.den,Hl,z,Option.bind_some,q])⟩
def jC:Nat->Option (List V):=fun _=>none
def BZ:Env:=EV (U:=U) Tryz.prog jC 0 (fun _=>none) noH
abbrev Vz:={ms:FuncId->Option (Af U) // ∀g m,ms g=some m->Ae Tryz.prog BZ g m}
abbrev wH:={q:FuncId->List FuncId->Option (HMod U) // ∀g k m,q g k=some m->Dy Tryz.prog BZ g m}
def TN:Vz:=⟨fun _=>none,fun _ _ h=>nomatch h⟩
def TP:wH:=⟨fun _ _=>none,fun _ _ _ h=>nomatch h⟩
def TS {f:FuncId} {m:Af U} (h:Ae Tryz.prog BZ f m) (s:Vz):Vz:=⟨fun g=>bif Nat.beq g f then some m else s.1 g,fun g q e=>by
 cases hb:Nat.beq g f with
 | true=>dsimp only at e;rw[hb]at e;cases e;exact(Nat.eq_of_beq_eq_true hb)▸h
 | false=>dsimp only at e;rw[hb]at e;exact s.2 g q e⟩
abbrev Zft (f:FuncId) (fn:Func) (ms:Vz) (C:wH) (A:Nat->Option Lay) (rt:Nat) {z:Type} (T:z->Tr U (U.Ty rt⊕z)) (q:z->Ac U):Prop:=
 ∀p,Le.EU (EV Tryz.prog jC f ms.1 C.1) (Qv ms.1 C.1) A f fn 0 (iJ (EV Tryz.prog jC f ms.1 C.1) fn) 1000 (.run (q p).c) (q p).K (q p).st (q p).sk=(T p).map (TA (vO (U:=U) rt) q)
theorem okPz {f:FuncId} {fn:Func} {ms:Vz} {C:wH} {A:Nat->Option Lay} {m:Af U} {q:Type} {T:q->Tr U (U.Ty m.rt⊕q)} {F:q->Ac U} (h:Zft f fn ms C A m.rt T F) (b0:F8 U m.ts->q)
  (hc:Ed (EV Tryz.prog jC f ms.1 C.1) f (JY fn)=true) (z:Tryz.prog.funcs[f]? = some fn) (G:(fn.name == "runtime.NumGoroutine")=false) (hb:fn.body=some (JY fn))
  (hm:∀x,m.fn x=AV T (b0 x)) (D:∀x,F (b0 x)=Ai fn m.ts x):Ae Tryz.prog BZ f m:=
 Zdw rfl (Z3z _ rfl) Qk ms.2 C.2 z G hb hc m T F h b0 hm D
theorem TR {f rt:Nat} {ts:List Nat} {D:∀t∈ts,t∈U.keys} {fn:Func} {q:Type} {T:q->Tr U (U.Ty rt⊕q)} {b0:F8 U ts->q} (ms:Vz) (F:wH) (A:Nat->Option Lay) (G:q->Ac U) (z:Tryz.prog.funcs[f]? = some fn) (h:Zft f fn ms F A rt T G)
  (hc:(Ed (EV Tryz.prog jC f ms.1 F.1) f (JY fn),fn.name == "runtime.NumGoroutine",fn.body)=(true,false,some (JY fn))) (C:∀x,G (b0 x)=Ai fn ts x):Ae Tryz.prog BZ f ⟨ts,rt,fun x=>AV T (b0 x),D⟩:=
 okPz (m:=⟨ts,rt,fun x=>AV T (b0 x),D⟩) h b0 (congrArg (·.1) hc) z (congrArg (·.2.1) hc) (congrArg (·.2.2) hc) (fun _=>rfl) C
theorem Z7j:Ae Tryz.prog BZ 379 Z9y:=TR TN TP AN Z87 func379 (fun p=>by cases p<;>kernel_rfl) (by kernel_rfl) fun _=>rfl
theorem Zl2:Ae Tryz.prog BZ 355 Z8S:=TR (TS Z7j TN) TP AN Z7E func355 (fun p=>by cases p<;>kernel_rfl) (by kernel_rfl) fun _=>rfl
theorem Zga:Ae Tryz.prog BZ 380 Z56:=TR TN TP AN Z52 func380 (fun p=>by cases p<;>kernel_rfl) (by kernel_rfl) fun _=>rfl
theorem Zg9:Ae Tryz.prog BZ 381 Z57:=TR TN TP AN Z53 func381 (fun p=>by cases p<;>kernel_rfl) (by kernel_rfl) fun _=>rfl
theorem Zld:Ae Tryz.prog BZ 356 Z88:=TR (TS Z7j (TS Zga (TS Zg9 TN))) TP AN Z7m func356 (fun p=>by cases p<;>kernel_rfl) (by kernel_rfl) fun _=>rfl
theorem Zgz:Ae Tryz.prog BZ 357 Z5T:=TR TN TP AN Z5v func357 (fun p=>by cases p<;>kernel_rfl) (by kernel_rfl) fun _=>rfl
theorem ZnR:Ae Tryz.prog BZ 322 nX:=TR (TS Zl2 (TS Zld (TS Zgz TN))) TP Zao Z8Y func322 (fun p=>by cases p<;>kernel_rfl) (by kernel_rfl) fun _=>rfl
theorem Zeu (ok:Ae Tryz.prog BZ 322 nX):uS Fence.wide KJ:=by
 intro k s r A F D;have key:∀w,Calls Tryz.prog 322 #[.int .u64 k,.int .u64 s] w fun e w' =>(e = .returned (.int .u64 r)/\Below w.heap.size w w')/\(Lit.int .u64 r).wf=true:=fun w=>by
  have:=ok.pure (k,s,()) r D (fun _ _=>False) w [.int .u64 k,.int .u64 s] (fun _ _ h=>h.elim) (fun g r h=>by cases h) (.lit A (.lit F .nil));refine this.mono ?_
  rintro e w' ⟨u,q,rfl,hb,_,_,_,z,_⟩
  cases z with
  | lit C _=>exact⟨⟨rfl,hb⟩,C⟩
 refine⟨?_,fun n w=>callsIn_wide.2 ((key w).mono fun e w' h=>h.1)⟩;obtain⟨e,w',G,h,_⟩:=key { heap:=#[],os:=default,tape:=default,output:=default,drawn:=default } [];exact h.2
theorem fold_wf {F:Fence} {z:Int->Int->Option Int} (G:uS F z) {k:Int} (I:(Lit.int .u64 k).wf=true) {xs:List Int}:∀(l:List Nat) (s r:Int),(Lit.int .u64 s).wf=true->l.foldlM (fun s g=>z k (bits .xor .u64 s (JK xs g))) s=some r->(Lit.int .u64 r).wf=true:=by
 intro l;induction l with
 | nil=>intro s r q h;cases h;exact q
 | cons g l J=>
  intro s r q h;rw[List.foldlM_cons]at h;obtain⟨A,C,D⟩:=Option.bind_eq_some_iff.1 h;exact J A r (G k _ A I (Go.Proofs.YtjodhcdmhobmoaaGreatDoor.wf_x _ _) C).1 D
theorem ZEe {F:Fence} {C:Int->Int->Option Int} (q:uS F C) {k:Int} (z:(Lit.int .u64 k).wf=true) {xs:List Int} {r:Int} (h:Vw C k xs=some r):(Lit.int .u64 r).wf=true:=by
 unfold Vw at h;split at h
 ·rename_i A;obtain⟨D,G,I⟩:=Option.bind_eq_some_iff.1 h;refine fold_wf q z _ D r (q k _ D z ?_ G).1 I;simp[Lit.wf,IntKind.min,IntKind.max,IntKind.signed,IntKind.bits];omega
 ·cases h
def qL (k:Int) (xs:List Int):Option Int:=Vw KJ k xs
def Zdn:Af U:=⟨[29,62],25,fun x=>qL x.1 x.2.1,by decide⟩
theorem ZsF (ok:Ae Tryz.prog BZ 322 nX) (J:∀k s,(Lit.int .u64 s).wf=true->∃r,KJ k s=some r):AA0 324 Zdn:=by
 refine⟨⟨f324,func324,by kernel_rfl,by kernel_rfl⟩,?_⟩
 rintro ⟨k,xs,_⟩ r C fz w vs q N z
 obtain⟨O,vs,rfl,G,z⟩:=z.Dq;obtain⟨Q,vs,rfl,I,z⟩:=z.Dq;cases z.FI;obtain⟨a,b,o,cap,rfl,A⟩:=row_of (xs:=xs) I;cases G with
 | lit D _=>
  have M:(Lit.int .u64 r).wf=true:=ZEe (Zeu ok) D C;refine(callsIn_wide.1 (ZEU Fence.wide trivial trivial trivial trivial rfl KJ (Zeu ok) J 3 (by omega) k xs r D C b o cap a w A)).mono ?_
  rintro e w' ⟨rfl,hb⟩
  refine⟨_,fz,rfl,hb,fun _ _ h=>h,fun _ _ h _=>h,fun b c h=>?_,.lit M .nil,rfl⟩;obtain⟨u,F⟩:=q b c h;exact⟨u,(hb.cell (p:=⟨b,c,none⟩) (cell_lt F)).trans F⟩
theorem ZuZ:AA0 324 Zdn:=ZsF ZnR fun k s _=>Zfo k s
end
end Go.Proofs.YtjodhcdmhobmoaaGreatDoor
