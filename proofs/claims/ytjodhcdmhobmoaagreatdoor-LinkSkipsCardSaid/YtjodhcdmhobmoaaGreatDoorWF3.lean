/- A part of it. -/
import Derived.Test.YtjodhcdmhobmoaaGreatDoorWF2
import Derived.WalkKit
import Derived.OwnWalkIn
import Derived.TacticsInMore
import Derived.RegionIn
import Derived.LoopNIn
import Derived.LoopIn
import Derived.IntWalk
import Derived.Lib.Hide
import Derived.Maps.Own
import Derived.Laws.EntriesVeiled
import Derived.KernelRfl
set_option linter.unusedVariables false
set_option linter.unusedSimpArgs false
namespace Go.Proofs.YtjodhcdmhobmoaaGreatDoor
open Tryz
open Go Go.Proofs.YtjodhcdmhobmoaaGreatDoor.Le
set_option maxRecDepth 100000
noncomputable section
def ZeF:S1 (Int×Int×(List Int)×(List Int)×Unit) (List Int)
 | (c,d,a,e,_)=>.chk true (.bind 120 (bT ([(⟨4,(IntKind.wrap .u64 ((IntKind.wrap .u32 ((↑a.length:Int)))))⟩:FB)])) (fun(f:(List Int)×Int)=>.chk true (.bind 62 (UT ([d])) (fun(g:List Int)=>.chk true (.bind 62 (UN ([g,f.1,a,e])) (fun(h:List Int)=>.bind 25 (gY c h) (fun(i:Int)=>.chk true (.bind 62 (UT ([i])) (fun(b:List Int)=>.chk (decide (0<=(4:Int)/\(4:Int)<=(↑b.length:Int))) (AB ((b.drop 0).take ((Int.toNat 4) - 0))))))))))))
def Z2K (a b:Int) (c d:List Int):Option (List Int):=AU ZeF (a,b,c,d,())
theorem ZwG:AA1 234 [29,25,62,62] 62 (fun x=>Z2K x.1 x.2.1 x.2.2.1 x.2.2.2.1) rfl:=ok1 (mc aA (mc ZaQ (mc Z1n (mc Zes Ag)))) Af func234 (fun _=>by kernel_rfl) (by kernel_rfl)
def Z2N:S1 (Int×Int×(List Int)×(List Int)×Unit) ((List Int)×Int)
 | (b,c,e,a,_)=>let n:=([]:List Int);let m:=(↑a.length:Int);let h:=AQ (m - 4);let j:=(decide (0<=h/\h<=m));let i:=Int.toNat h;let l:=(a.drop 0).take (i - 0);let k:=(a.drop i).take (a.length - i);.br (decide (h<0)) (.chk true (AB (n,(3:Int)))) (.chk j (.bind 62 (Z2K b c e l) (fun(d:List Int)=>.chk (NG U 5 d) (.chk j (.chk (NG U 5 k) (.br (!((strOf U 5 d).toList==(strOf U 5 k).toList)) (.chk true (AB (n,(15:Int)))) (.bind 62 (Z1E b c h) (fun(f:List Int)=>.bind 62 (Z1r l f) (fun(g:List Int)=>AB (g,0))))))))))
def Z2L (a b:Int) (c d:List Int):Option ((List Int)×Int):=AU Z2N (a,b,c,d,())
theorem Zxf:AA1 206 [29,25,62,62] 120 (fun x=>Z2L x.1 x.2.1 x.2.2.1 x.2.2.2.1) rfl:=ok1 (mc Zss (mc Zsl (mc ZwG Ag))) Af func206 (fun _=>by kernel_rfl) (by kernel_rfl)
def Zo7:S1 (Int×RY×Int×Unit) Int
 | (a,b,c,_)=>AB (bits .xor .u64 b.CZ (IntKind.wrap .u64 ((IntKind.wrap .u64 ((2:Int)*a))+c)))
def ZW (a:Int) (b:RY) (c:Int):Option Int:=AU Zo7 (a,b,c,())
theorem ZmQ:AA1 235 [25,3385,3369] 25 (fun x=>ZW x.1 x.2.1 x.2.2.1) rfl:=ok1 Ag Af func235 (fun _=>by kernel_rfl) (by kernel_rfl)
inductive Z0C where
 | b0 (a:Bq) (b:Int)
def ZpR:Z0C->Tr U (Vd⊕Z0C)
 | .b0 a b=>AB (⟨a,b⟩:Vd)
def Z0D (a:Bq) (b:Int):Option Vd:=AU ZpR (.b0 a b)
def Z8w:Shape:=⟨[.agg [.v 41 7 true],OV 25],[]⟩
def Znk:Shape:=⟨[.one (.fn 235 [] [0,1])],[VA 41 7,.var 25 1 (OV 25)]⟩
noncomputable def ZpI:HMod U:=⟨[k8,KP],[],Z8w,Znk,true,1376,fun(y:Vd)=>(((),()),((y.q0,()),((y.q1,()),()))),fun x=>Z0D x.1.1.1 x.1.2.1.1,okS rfl⟩
def Zp1:Z0C->BH U
 | .b0 a b=>Dj f158 Z8w (((a,()),((b,()),())),())
theorem ZoH:Cf Tryz.prog B0 158 ZpI:=okR Ag Af AN [KP] [.var k8,.var KP] 0 Zp1 func158 (fun p=>by cases p<;>kernel_rfl) (by kernel_rfl) fun x=>by kernel_rfl
inductive Z0J where
 | b0 (a:Bq) (b:BM)
 | b1 (a b:BM)
 | b2 (a:Bq) (b c:BM)
def Ve:Z0J->Tr U ((BM×Int)⊕Z0J)
 | .b0 b a=>let e:=AP (Z0J.b1 a Dk);.bind 45 (nY a) (fun(c:Int)=>.br (c != 0) (AB (Dk,c)) (.br (!b.IY) e (.bind 4 (Vb a.Aw) (fun(d:Bool)=>.br d e (AP (.b2 b a Dk))))))
 | .b1 a d=>.chk true (.bind 62 (UN ([a.Aw.Payload])) (fun(b:List Int)=>.bind 70 (oN a b) (fun(c:BM)=>AB (c,0))))
 | .b2 a b h=>.br (decide ((↑b.Aw.Payload.length:Int)<5)) (AB (Dk,3)) (.bind 194 (Z0y a) (fun(e:Int×Int)=>.bind 1376 (Z0D a e.2) (fun(d:Vd)=>.bind 25 (ZW a.Rx (ZrW d.q0) d.q1) (fun(f:Int)=>.chk true (.bind 120 (Z2L a.Key f ([(IntKind.wrap .u8 (b.Aw.Bz))]) b.Aw.Payload) (fun(c:(List Int)×Int)=>.br (c.2 != 0) (AB (Dk,c.2)) (.bind 70 (oN b c.1) (fun(g:BM)=>AB (g,0)))))))))
def oJ (a:Bq) (b:BM):Option (BM×Int):=AU Ve (.b0 a b)
def Z8X:Lay:=LT [3,4] [.p 0,.p 1] [.s 70,.s 70]
def Z96:Lay:=LT [2,3,4] [.p 0,.p 1,.p 2] [.s 41,.s 70,.s 70]
def ZpQ:Z0J->BH U
 | .b0 a b=>Bg f109 [41,70] (a,b,())
 | .b1 a b=>AA3 f109 [1,1,0,1,0,0] Z8X (a,b,())
 | .b2 a b c=>AA3 f109 [1,1,1,0,0] Z96 (a,b,c,())
theorem Zpf:AA1 109 [41,70] 71 (fun x=>oJ x.1 x.2.1) rfl:=Bj (mc Z0h (mc Z8R (mc ZpH (mc aA (mc ZoY (mc Zxf (mc ZmQ Ag))))))) (hc [] ZoH Af) (al [(5,Z8X),(6,Z96)]) ZpQ func109 (fun p=>by cases p<;>kernel_rfl) (by kernel_rfl) fun _=>rfl
def ZcI:S1 (Az×Unit) Az
 | (a,_)=>.bind 1344 (Jk a.Payload) (fun(b:Kv)=>kl b.q0 (AB (⟨a.Bz,b.q0⟩:Az)))
def rC (a:Az):Option Az:=AU ZcI (a,())
theorem Zc0:AA1 79 [68] 68 (fun x=>rC x.1) rfl:=ok1 Ag (hc [] RH Af) func79 (fun _=>by kernel_rfl) (by kernel_rfl)
inductive Z3d where
 | b0 (a:BR)
 | b1 (a b:List Az) (c d:Int) (e f:BR)
def fZ:Z3d->Tr U (Wh⊕Z3d)
 | .b0 a=>let c:=(↑a.Ap.length:Int);let b:=(List.replicate (Int.toNat 0) ((⟨0,[]⟩:Az):Az));.chk (decide (0<=(0:Int)/\(0:Int)<=c/\Int.toNat c*32<=lim/\c<=(↑maxLen:Int))) (.chk ((b.length==b.length)&&true) (AP (.b1 b a.Ap c (0:Int) a KJ)))
 | .b1 a c d b e f=>.br (decide (b<d)) (.chk (kI b c) (.bind 68 (c[(Int.toNat b)]?) (fun(h:Az)=>.bind 68 (rC h) (fun(g:Az)=>.chk true (kl a (.chk (kA (a.length+1) 32) (.chk (kL (a++[g])&&kL f.Ap) (AP (.b1 (a++[g]) c d (AQ (b+1)) e f))))))))) (kl a (AB (⟨({ e with Ap:=a }:BR)⟩:Wh)))
def Z3r (a:BR):Option Wh:=AU fZ (.b0 a)
def Zd6:Shape:=⟨[.agg [.v 33 7 true]],[]⟩
def ZtW:Shape:=⟨[(zJ 0)],[.row 68 true]⟩
noncomputable def ZAK:HMod U:=⟨[k7],[],Zd6,ZtW,true,1377,fun(y:Wh)=>(((y8 y.q0),()),(y.q0.Ap,())),fun x=>Z3r x.1.1.1,okS rfl⟩
def Zdc:Lay:=⟨[1,2,3,11,12,13],[KP,KP,[.own 68 2],[.s 68 2],KP,KP],[.var k7,.var k17,.row true,.row true],⟨[PQ 0,PQ 1,.one (.own 68 2),OV 31,OV 3,OV 3],[VA 33 7,.var 33 7 (zJ 3),.row 68 true,.row 68 true]⟩⟩
def ZzQ:Z3d->BH U
 | .b0 a=>Dj f78 Zd6 (((a,()),()),())
 | .b1 b c d e f a=>Ae f78 [1,1,0,1,0,0,0] Zdc (((),((),((),((c,()),((d,()),((e,()),())))))),((f,()),((y8 a),(b,(a.Ap,())))))
theorem Zyy:Cf Tryz.prog B0 78 ZAK:=okR (mc Zc0 Ag) Af (al [(3,Zdc)]) [k17] [.row true] 0 ZzQ func78 (fun p=>by cases p<;>kernel_rfl) (by kernel_rfl) fun x=>by kernel_rfl
inductive Z2A where
 | b0 (a:BR) (b:BM)
 | b1 (a:Bool) (b:BR) (c:BM) (d:BR) (e:Az)
 | b2 (a b:Bool) (c:BR) (d:BM) (e:BR) (f:Az)
 | b3 (a b:Bool) (c:Int) (d:BR) (e:BM) (f:BR) (g:Az)
 | b4 (a b:Bool) (c:BR) (d:BM) (e:BR) (f:Az)
 | b5 (a b:Bool) (c d:BR) (e:Az)
def OE:Z2A->Tr U ((BR×Az×Bool×Bool)⊕Z2A)
 | .b0 c b=>let f:=(⟨0,([]:List Int)⟩:Az);.bind 1377 (Z3r c) (fun(a:Wh)=>let e:=kl a.q0.Ap (AP (Z2A.b2 false false a.q0 b KJ f));.bind 45 (nY b) (fun(d:Int)=>.br (d != 0) (kl a.q0.Ap (AB (a.q0,(⟨0,[]⟩:Az),false,false))) (.br a.q0.Open (.br (b.EI != a.q0.SN) (kl a.q0.Ap (AP (.b1 false a.q0 b KJ f))) e) e)))
 | .b1 b a c d e=>let h:=(↑a.Ap.length:Int);let f:=({ a with SN:=(AQ ((1:Int) - a.SN)) }:BR);let g:=kl a.Ap (AP (Z2A.b4 b true f c d e));kl a.Ap (.br (!a.Empty) (.br (decide (h>0)) (kl a.Ap (AP (.b3 b true h f c d e))) g) g)
 | .b2 e b a c d f=>let i:=AQ ((1:Int) - a.EI);.br (c.SN==a.EI) (.bind 4 (Vb c.Aw) (fun(g:Bool)=>.br (!g) (.bind 68 (rC c.Aw) (fun(h:Az)=>AP (.b5 true b ({ a with EI:=i,Taken:=(AQ (a.Taken+1)) }:BR) d h))) (AP (.b5 e b ({ a with EI:=i }:BR) d f)))) (AP (.b5 e b a d f))
 | .b3 c d a b e f g=>let j:=Int.toNat 1;let i:=Int.toNat a;let h:=(decide (0<=a/\a<=(↑b.Ap.length:Int)));kl b.Ap (.chk h (.chk (decide (0<=(1:Int)/\(1:Int)<=(↑i:Int))) (.chk h (.chk (i==i) (kl b.Ap (AP (.b4 c d ({ b with Ap:=((b.Ap.drop j).take (i - j)),EX:=(AQ (b.EX+1)) }:BR) e f g)))))))
 | .b4 a b c d e f=>AP (.b2 a b ({ c with Open:=false,Empty:=false }:BR) d e f)
 | .b5 a b c e d=>AB (c,d,a,b)
def sH (a:BR) (b:BM):Option (BR×Az×Bool×Bool):=AU OE (.b0 a b)
def Zc3:Lay:=⟨[2,3,4,5,6],[KP,KP,KP,KP,KP],[.var k17,.var k3,.var k7,.var [.keep,.s 5 1],.row true],⟨[PQ 0,PQ 1,PQ 2,PQ 3,OV 4],[.var 33 7 (zJ 4),VA 70 5,VA 33 7,VA 68 2,.row 68 true]⟩⟩
def qN:Lay:=LT [2,3,4,5,6,7] [.p 0,.p 1,.p 2,.p 3,.v 4,.v 4] [.s 33,.s 70,.s 33,.s 68]
def ZbH:Lay:=⟨[2,3,4,5,6,7,8],[KP,KP,KP,KP,KP,KP,KP],[.var k17,.var k3,.var k7,.var [.keep,.s 5 1],.row true],⟨[PQ 0,PQ 1,PQ 2,PQ 3,OV 4,OV 4,OV 3],[.var 33 7 (zJ 4),VA 70 5,VA 33 7,VA 68 2,.row 68 true]⟩⟩
def ZbA:Lay:=LT [2,4,5,6,7] [.p 0,.p 1,.p 2,.v 4,.v 4] [.s 33,.s 33,.s 68]
def Zxd:Z2A->BH U
 | .b0 a b=>Bg f110 [33,70] (a,b,())
 | .b1 b a c d e=>Ae f110 [1,1,1,0,1,0,0] Zc3 (((),((),((),((),((b,()),()))))),((y8 a),((c,()),((d,()),((e,()),(a.Ap,()))))))
 | .b2 a b c d e f=>AA3 f110 [1,1,1,1,0,0] qN (a,b,c,d,e,f,())
 | .b3 b c d a e f g=>Ae f110 [1,1,1,0,1,0,1,1,0,1,1,0,0] ZbH (((),((),((),((),((b,()),((c,()),((d,()),()))))))),((y8 a),((e,()),((f,()),((g,()),(a.Ap,()))))))
 | .b4 a b c d e f=>AA3 f110 [1,1,1,0,1,0,1,1,1] qN (a,b,c,d,e,f,())
 | .b5 a b c d e=>AA3 f110 [1,1,1,1,1,0] ZbA (a,b,c,d,e,())
theorem ZwH:AA1 110 [33,70] 163 (fun x=>sH x.1 x.2.1) rfl:=Bj (mc Z0h (mc Zc0 (mc Z8R Ag))) (hc [] Zyy Af) (al [(5,Zc3),(12,qN),(9,ZbH),(11,qN),(17,ZbA)]) Zxd func110 (fun p=>by cases p<;>kernel_rfl) (by kernel_rfl) fun _=>rfl
inductive aI where
 | b0 (a:Bq) (b c:Bool)
 | b1 (a:Bool) (b c:Bq)
 | b2 (a:Bool) (b c:Bq)
 | b3 (a b:Bq)
def Zal:aI->Tr U (Bq⊕aI)
 | .b0 a c b=>let d:=AP (aI.b2 b a MG);.br c (.br a.Nh (AP (.b1 b a MG)) d) d
 | .b1 b a c=>AP (.b2 b ({ a with Tx:=(IntKind.wrap .u64 (a.Tx+1)) }:Bq) c)
 | .b2 b a c=>.br b (.br a.IY (AP (.b3 a c)) (AB a)) (AB a)
 | .b3 a b=>AB ({ a with Rx:=(IntKind.wrap .u64 (a.Rx+1)) }:Bq)
def oW (a:Bq) (b c:Bool):Option Bq:=AU Zal (.b0 a b c)
def nS:Lay:=LT [2,3,6] [.v 4,.p 0,.p 1] [.s 41,.s 41]
def Z8O:Lay:=LT [3,6] [.p 0,.p 1] [.s 41,.s 41]
def Zpu:aI->BH U
 | .b0 a b c=>Bg f112 [41,4,4] (a,b,c,())
 | .b1 a b c=>AA3 f112 [1,0,1,0] nS (a,b,c,())
 | .b2 a b c=>AA3 f112 [1,1,0,0] nS (a,b,c,())
 | .b3 a b=>AA3 f112 [1,1,0,1,0] Z8O (a,b,())
theorem Z9k:AA1 112 [41,4,4] 41 (fun x=>oW x.1 x.2.1 x.2.2.1) rfl:=Bj Ag Af (al [(2,nS),(3,nS),(4,Z8O)]) Zpu func112 (fun p=>by cases p<;>kernel_rfl) (by kernel_rfl) fun _=>rfl
inductive YW where
 | b0 (a:Int) (b:List Au) (c:BQ)
 | b1 (a:Int) (b:List Au) (c d:Int) (e:BQ)
def Z6X:YW->Tr U (TW⊕YW)
 | .b0 c b a=>kl b (.chk (kL b&&(kL a.Link.Ar.Ap&&(kL a.Link.AA.A8&&(kL a.Link.AA.Aq&&(kL a.Link.Ac&&(kL a.Ak&&(kL a.Link.Ar.Ap&&(kL a.Link.AA.A8&&(kL a.Link.AA.Aq&&kL a.Link.Ac))))))))) (AP (.b1 c b (↑b.length:Int) (0:Int) a)))
 | .b1 d b g e a=>let i:=kL a.Link.Ar.Ap&&(kL a.Link.AA.A8&&(kL a.Link.AA.Aq&&kL a.Link.Ac));.br (decide (e<g)) (kl b (.chk (kI e b) (kl b (.bind 148 (b[(Int.toNat e)]?) (fun(c:Au)=>.bind 1344 (Jk c.Aw.Payload) (fun(f:Kv)=>let h:=a.Ak++[({ c with Event:=d,Aw:=(⟨c.Aw.Bz,f.q0⟩:Az) }:Au)];kl f.q0 (.chk true (kl a.Ak (.chk (kA (a.Ak.length+1) 160) (.chk (kL b&&(kL a.Link.Ar.Ap&&(kL a.Link.AA.A8&&(kL a.Link.AA.Aq&&(kL a.Link.Ac&&((h.length==h.length)&&i)))))) (AP (.b1 d b g (AQ (e+1)) (⟨a.Link,h⟩:BQ))))))))))))) (.chk (kL a.Link.Ar.Ap&&(kL a.Link.AA.A8&&(kL a.Link.AA.Aq&&(kL a.Link.Ac&&(kL a.Ak&&i))))) (AB (⟨a,b⟩:TW)))
def Zg (a:Int) (b:List Au) (c:BQ):Option TW:=AU Z6X (.b0 a b c)
def Z6x:Shape:=⟨[PQ 0,OV 30,.one (.own 148 1)],[.var 118 67 (TL 2),.row 148 true,.row 68 false,.row 156 false,.row 138 false,.row 156 false,.row 148 true]⟩
def Zk6:Shape:=⟨[],[.var 118 67 (TL 2),.row 148 true,.row 68 false,.row 156 false,.row 138 false,.row 156 false,.row 148 true]⟩
noncomputable def Zl1:HMod U:=⟨[KP,KP,[.own 148 18]],[.var k12,.row true,.row false,.row false,.row false,.row false,.row true],Z6x,Zk6,false,1370,fun(y:TW)=>((),((Qs y.q0),(y.q1,(VO y.q0)))),fun x=>Zg x.1.2.1.1 x.2.2.1 (match x with|⟨_,⟨v0,v1,v3,v5,v7,v9,z,A,C,D,F,G,I,J,M,N,O,Q,S,Y,v25,v26,v27,v28,v29,v30,v31,v32,v33,v34,v35,v36,v37,v38,v39,v40,v41,v42,v43,v44,v45,v46,v47,v48,_⟩,_,v2,v4,v6,v8,q,_⟩=>(⟨(⟨v0,v1,v3,v5,v7,v9,z,A,C,D,F,G,I,J,(⟨M,N,v2,O,Q,S,Y⟩:BR),v25,(⟨v26,v27,v28,v4,v29,v30,v6,v31,v32,v33,v34,v35,v36,v37,v38,v39,v40,v41,v42,v43⟩:AZ),v44,v45,v46,v8,v47,v48⟩:Ad),q⟩:BQ)),okS rfl⟩
def Z6s:Lay:=⟨[0,1,8,9,10],[KP,KP,[.own 148 18],KP,KP],[.var k12,.row true,.row false,.row false,.row false,.row false,.row true],⟨[PQ 0,OV 30,.one (.own 148 1),OV 3,OV 3],[.var 118 67 (TL 2),.row 148 true,.row 68 false,.row 156 false,.row 138 false,.row 156 false,.row 148 true]⟩⟩
def ZkB:YW->BH U
 | .b0 b c a=>Dj f181 Z6x (((),((b,()),((),()))),((Qs a),(c,(VO a))))
 | .b1 b c d e a=>Ae f181 [1,0,0,0] Z6s (((),((b,()),((),((d,()),((e,()),()))))),((Qs a),(c,(VO a))))
theorem ZkD:Cf Tryz.prog B0 181 Zl1:=okR Ag (hc [] RH Af) (al [(1,Z6s)]) [] [.var k12,.row true,.row false,.row false,.row false,.row false,.row true] 7 ZkB func181 (fun p=>by cases p<;>kernel_rfl) (by kernel_rfl) fun x=>by kernel_rfl
inductive Yk where
 | b0 (a b:Int) (c:BQ)
def Z8y:Yk->Tr U (UE⊕Yk)
 | .b0 d c a=>.chk (true&&(kL a.Link.Ar.Ap&&(kL a.Link.AA.A8&&(kL a.Link.AA.Aq&&(kL a.Link.Ac&&(kL a.Ak&&(kL a.Link.Ar.Ap&&(kL a.Link.AA.A8&&(kL a.Link.AA.Aq&&kL a.Link.Ac))))))))) (.bind 1370 (Zg d ([(⟨4,0,(⟨0,[]⟩:Az),Jl,(IntKind.wrap .u64 (c)),CE⟩:Au)]) (⟨({ a.Link with CQ:=c }:Ad),a.Ak⟩:BQ)) (fun(b:TW)=>.chk (kL b.q0.Link.Ar.Ap&&(kL b.q0.Link.AA.A8&&(kL b.q0.Link.AA.Aq&&(kL b.q0.Link.Ac&&(kL b.q0.Ak&&(kL b.q0.Link.Ar.Ap&&(kL b.q0.Link.AA.A8&&(kL b.q0.Link.AA.Aq&&kL b.q0.Link.Ac)))))))) (AB (⟨b.q0⟩:UE))))
def Z04 (a b:Int) (c:BQ):Option UE:=AU Z8y (.b0 a b c)
def Z7m:Shape:=⟨[PQ 0,OV 30,OV 3],[.var 118 67 (TL 1),.row 68 false,.row 156 false,.row 138 false,.row 156 false,.row 148 true]⟩
def ZkY:Shape:=⟨[],[.var 118 67 (TL 1),.row 68 false,.row 156 false,.row 138 false,.row 156 false,.row 148 true]⟩
noncomputable def Zo1:HMod U:=⟨[KP,KP,KP],[.var k12,.row false,.row false,.row false,.row false,.row true],Z7m,ZkY,false,1369,fun(y:UE)=>((),(tu14 y.q0)),fun x=>Z04 x.1.2.1.1 x.1.2.2.1.1 (match x with|⟨_,⟨v0,v2,v4,v6,v8,q,z,A,C,D,F,G,I,J,M,N,O,Q,S,Y,v25,v26,v27,v28,v29,v30,v31,v32,v33,v34,v35,v36,v37,v38,v39,v40,v41,v42,v43,v44,v45,v46,v47,v48,_⟩,v1,v3,v5,v7,v9,_⟩=>(⟨(⟨v0,v2,v4,v6,v8,q,z,A,C,D,F,G,I,J,(⟨M,N,v1,O,Q,S,Y⟩:BR),v25,(⟨v26,v27,v28,v3,v29,v30,v5,v31,v32,v33,v34,v35,v36,v37,v38,v39,v40,v41,v42,v43⟩:AZ),v44,v45,v46,v7,v47,v48⟩:Ad),v9⟩:BQ)),okS rfl⟩
def Znp:Yk->BH U
 | .b0 a b c=>Dj f90 Z7m (((),((a,()),((b,()),()))),(tu14 c))
theorem Znd:Cf Tryz.prog B0 90 Zo1:=okR Ag (hc [] ZkD Af) AN [] [.var k12,.row false,.row false,.row false,.row false,.row true] 6 Znp func90 (fun p=>by cases p<;>kernel_rfl) (by kernel_rfl) fun x=>by kernel_rfl
def Zaa:S1 (Int×Unit) Int
 | (a,_)=>let b:=(if (0:Int)>a then (0:Int) else a);AB (AQ ((64:Int)+(if (39:Int)<b then (39:Int) else b)))
def Z0I (a:Int):Option Int:=AU Zaa (a,())
theorem Zq9:AA1 236 [3] 3 (fun x=>Z0I x.1) rfl:=ok1 Ag Af func236 (fun _=>by kernel_rfl) (by kernel_rfl)
def Zb7:S1 (Int×Unit) (Int×Int)
 | (a,_)=>let b:=(AQ (a*2 ^ (1:Nat)));.br (decide (a<64)) (AB ((0:Int),b)) (AB ((1:Int),(bits .xor .i64 (bits .and .i64 b (127:Int)) (17:Int))))
def Z0Y (a:Int):Option (Int×Int):=AU Zb7 (a,())
theorem Zqz:AA1 237 [3] 104 (fun x=>Z0Y x.1) rfl:=ok1 Ag Af func237 (fun _=>by kernel_rfl) (by kernel_rfl)
inductive ZX where
 | b0 (a b:Int)
 | b1 (a:Int) (b:List Int) (c d:Int)
 | b2 (a:Int) (b:List Int) (c d e f:Int)
def Ny:ZX->Tr U (V7⊕ZX)
 | .b0 b a=>let d:=(List.replicate (Int.toNat a) (0:Int));.bind 3 (Z0I b) (fun(c:Int)=>.chk (decide (0<=a/\a<=a/\Int.toNat a*1<=lim/\a<=(↑maxLen:Int))) (kl d (kl d (AP (.b1 c d (↑(d.length):Int) (0:Int))))))
 | .b1 d a c b=>.br (decide (b<c)) (kl a (AP (.b2 d a b c b (0:Int)))) (kl a (AB (⟨a⟩:V7)))
 | .b2 e a b f g c=>let k:=Int.toNat b;.br (decide (c<8)) (.bind 104 (Z0Y e) (fun(d:Int×Int)=>kl a (.chk (kI b a) (kl a (.bind 5 (a[k]?) (fun(h:Int)=>let j:=a.set k (bits .or .u8 h (IntKind.wrap .u8 ((AQ (d.1*2 ^ (min (Int.toNat c) (IntKind.bits .i64)))))));.chk (decide (0<=c)) (kl a (.chk (kI b a) (.chk (a.length==a.length&&decide (0<=k)) (.bind 5 (a[k]?) (fun(i:Int)=>.chk (j.length==a.length) (AP (.b2 d.2 j b f g (AQ (c+1))))))))))))))) (kl a (AP (.b1 e a f (AQ (g+1)))))
def Z01 (a b:Int):Option V7:=AU Ny (.b0 a b)
def Z7G:Shape:=⟨[OV 3,OV 3],[]⟩
def Zl0:Shape:=⟨[.one (.own 5 0)],[.row 5 true]⟩
noncomputable def Zo2:HMod U:=⟨[KP,KP],[],Z7G,Zl0,true,1378,fun(y:V7)=>(((),()),(y.q0,())),fun x=>Z01 x.1.1.1 x.1.2.1.1,okS rfl⟩
def Z7k:Lay:=LT [5,6,15,16] [.v 3,.o 5 1 0,.v 3,.v 3] [.r 5]
def Z7y:Lay:=LT [5,6,7,15,16,19] [.v 3,.o 5 1 0,.v 3,.v 3,.v 3,.v 3] [.r 5]
def Zmh:ZX->BH U
 | .b0 a b=>Dj f160 Z7G (((a,()),((b,()),())),())
 | .b1 a b c d=>AA3 f160 [1,1,1,0,1,0,0,0] Z7k (a,c,d,b,())
 | .b2 a b c d e f=>AA3 f160 [1,1,1,0,1,0,0,1,1,0,0,1,1,0,0,0] Z7y (a,c,d,e,f,b,())
theorem ZmT:Cf Tryz.prog B0 160 Zo2:=okR (mc Zq9 (mc Zqz Ag)) Af (al [(4,Z7k),(7,Z7y)]) [[.own 5 1]] [.row true] 0 Zmh func160 (fun p=>by cases p<;>kernel_rfl) (by kernel_rfl) fun x=>by kernel_rfl
inductive Z0L where
 | b0 (a:Int) (b:List Int)
 | b1 (a b:List Int) (c d:Int)
def aB:Z0L->Tr U ((List Int)⊕Z0L)
 | .b0 c a=>let d:=(↑a.length:Int);.bind 1378 (Z01 c d) (fun(b:V7)=>kl b.q0 (AP (.b1 b.q0 a d (0:Int))))
 | .b1 a c d b=>let h:=Int.toNat b;.br (decide (b<d)) (.chk (kI b c) (.bind 5 (c[h]?) (fun(e:Int)=>kl a (.chk (kI b a) (kl a (.bind 5 (a[h]?) (fun(f:Int)=>let i:=a.set h (bits .xor .u8 f e);kl a (.chk (kI b a) (.chk (a.length==a.length&&decide (0<=h)) (.bind 5 (a[h]?) (fun(g:Int)=>.chk (i.length==a.length) (AP (.b1 i c d (AQ (b+1))))))))))))))) (kl a (AB a))
def oU (a:Int) (b:List Int):Option (List Int):=AU aB (.b0 a b)
def Z8Q:Lay:=LT [5,12,13,14] [.o 5 1 0,.v 62,.v 3,.v 3] [.r 5]
def ZpV:Z0L->BH U
 | .b0 a b=>Bg f67 [3,62] (a,b,())
 | .b1 a b c d=>AA3 f67 [1,1,0,1,0,0,0] Z8Q (b,c,d,a,())
theorem ZpY:AA1 67 [3,62] 62 (fun x=>oU x.1 x.2.1) rfl:=Bj Ag (hc [] ZmT Af) (al [(3,Z8Q)]) ZpV func67 (fun p=>by cases p<;>kernel_rfl) (by kernel_rfl) fun _=>rfl
def ZdS:S1 (Int×Int×Unit) Int
 | (a,b,_)=>let i:=(2 ^ (4:Nat));let g:=(bits .and .u32 (bits .xor .u32 a (IntKind.wrap .u32 (b))) (15:Int));let f:=([0,1788928,3577856,3003392,7155712,7764992,6006784,4252672,14311424,12659712,15529984,16233472,12013568,11279360,8505344,10126336]:List Int);.chk (decide (0<=g/\g<16)) (.bind 22 (f[(Int.toNat g)]?) (fun(c:Int)=>let h:=(bits .xor .u32 (Int.fdiv a i) c);let e:=(bits .and .u32 (bits .xor .u32 h (IntKind.wrap .u32 ((Int.fdiv b i)))) (15:Int));.chk (decide (0<=e/\e<16)) (.bind 22 (f[(Int.toNat e)]?) (fun(d:Int)=>AB (bits .xor .u32 (Int.fdiv h i) d)))))
def tN (a b:Int):Option Int:=AU ZdS (a,b,())
theorem Zx4:AA1 238 [22,5] 22 (fun x=>tN x.1 x.2.1) rfl:=ok1 Ag Af func238 (fun _=>by kernel_rfl) (by kernel_rfl)
inductive Z30 where
 | b0 (a:Int) (b:List Int)
 | b1 (a:Int) (b:List Int) (c d:Int)
def gU:Z30->Tr U (Int⊕Z30)
 | .b0 b a=>AP (.b1 (bits .and .u32 b (16777215:Int)) a (↑a.length:Int) (0:Int))
 | .b1 c b d a=>.br (decide (a<d)) (.chk (kI a b) (.bind 5 (b[(Int.toNat a)]?) (fun(e:Int)=>.bind 22 (tN c e) (fun(f:Int)=>AP (.b1 f b d (AQ (a+1))))))) (AB c)
def Z3h (a:Int) (b:List Int):Option Int:=AU gU (.b0 a b)
def Zdl:Lay:=LT [5,10,11,12] [.v 22,.v 62,.v 3,.v 3] []
def Zz7:Z30->BH U
 | .b0 a b=>Bg f161 [22,62] (a,b,())
 | .b1 a b c d=>AA3 f161 [1,1,0,1,0,0,0] Zdl (a,b,c,d,())
theorem Zza:AA1 161 [22,62] 22 (fun x=>Z3h x.1 x.2.1) rfl:=Bj (mc Zx4 Ag) Af (al [(3,Zdl)]) Zz7 func161 (fun p=>by cases p<;>kernel_rfl) (by kernel_rfl) fun _=>rfl
def Zc9:S1 (Int×(List Int)×Unit) (List Int)
 | (d,c,_)=>.bind 22 (Z3h d c) (fun(a:Int)=>.bind 1344 (Jk c) (fun(b:Kv)=>let e:=b.q0++[(IntKind.wrap .u8 (a)),(IntKind.wrap .u8 ((Int.fdiv a (2 ^ (8:Nat))))),(IntKind.wrap .u8 ((Int.fdiv a (2 ^ (16:Nat)))))];.chk true (kl b.q0 (.chk (kA (b.q0.length+3) 1) (kl e (AB e))))))
def Z1m (a:Int) (b:List Int):Option (List Int):=AU Zc9 (a,b,())
theorem Zsc:AA1 68 [22,62] 62 (fun x=>Z1m x.1 x.2.1) rfl:=ok1 (mc Zza Ag) (hc [] RH Af) func68 (fun _=>by kernel_rfl) (by kernel_rfl)
inductive Zl where
 | b0 (a b:List Int)
 | b1 (a b:List Int) (c d:Int)
def V4:Zl->Tr U (Bool⊕Zl)
 | .b0 a b=>let c:=(↑a.length:Int);.br (c != (↑b.length:Int)) (AB false) (AP (.b1 a b c (0:Int)))
 | .b1 b c d a=>let g:=Int.toNat a;.br (decide (a<d)) (.chk (kI a b) (.bind 5 (b[g]?) (fun(e:Int)=>.chk (kI a c) (.bind 5 (c[g]?) (fun(f:Int)=>.br (e != f) (AB false) (AP (.b1 b c d (AQ (a+1))))))))) (AB true)
def Zk (a b:List Int):Option Bool:=AU V4 (.b0 a b)
def Z6I:Lay:=LT [0,1,12,13] [.v 62,.v 62,.v 3,.v 3] []
def Zlo:Zl->BH U
 | .b0 a b=>Bg f174 [62,62] (a,b,())
 | .b1 a b c d=>AA3 f174 [1,1,0,1,0,0,0] Z6I (a,b,c,d,())
theorem Zli:AA1 174 [62,62] 4 (fun x=>Zk x.1 x.2.1) rfl:=Bj Ag Af (al [(4,Z6I)]) Zlo func174 (fun p=>by cases p<;>kernel_rfl) (by kernel_rfl) fun _=>rfl
def Z1K:S1 (Int×(List Int)×Unit) ((List Int)×Int)
 | (c,a,_)=>let j:=([]:List Int);let i:=(↑a.length:Int);let f:=AQ (i - 3);let h:=(a.drop 0).take ((Int.toNat f) - 0);let g:=(decide (0<=f/\f<=i));.br (decide (f<0)) (.chk true (AB (j,(3:Int)))) (.chk g (.bind 62 (Z1m c h) (fun(d:List Int)=>.bind 4 (Zk d a) (fun(e:Bool)=>.br (!e) (.chk true (AB (j,(10:Int)))) (.chk g (.bind 1344 (Jk h) (fun(b:Kv)=>kl b.q0 (AB (b.q0,0)))))))))
def qX (a:Int) (b:List Int):Option ((List Int)×Int):=AU Z1K (a,b,())
theorem Zu2:AA1 76 [22,62] 120 (fun x=>qX x.1 x.2.1) rfl:=ok1 (mc Zsc (mc Zli Ag)) (hc [] RH Af) func76 (fun _=>by kernel_rfl) (by kernel_rfl)
def Z7V:S1 (Int×Int×Unit) Int
 | (a,b,_)=>.chk (decide (0<=a)) (AB (AQ ((bits .and .u8 (Int.fdiv b (2 ^ (min (Int.toNat a) (IntKind.bits .u8)))) (1:Int)))))
def Yd (a b:Int):Option Int:=AU Z7V (a,b,())
theorem ZlQ:AA1 175 [3,338] 3 (fun x=>Yd x.1 x.2.1) rfl:=ok1 Ag Af func175 (fun _=>by kernel_rfl) (by kernel_rfl)
inductive Z0o where
 | b0 (a:List Int)
 | b1 (a:BM)
 | b2 (a:List Int) (b c:Int) (d:BM) (e:Int)
def Yv:Z0o->Tr U ((BM×Int)⊕Z0o)
 | .b0 a=>.br (decide ((↑a.length:Int)<2)) (AB (Dk,3)) (.chk (kI (0:Int) a) (.bind 5 (a[(Int.toNat 0)]?) (fun(b:Int)=>let d:=(AQ ((bits .and .u8 b (3:Int))));.chk (kI (1:Int) a) (.bind 5 (a[(Int.toNat 1)]?) (fun(c:Int)=>let e:=AP (Z0o.b2 a (AQ (c)) d Dk b);.br ((Int.fdiv b (2 ^ (5:Nat))) != 0) (AB (Dk,2)) (.br (d==0) (AB (Dk,12)) (.br ((AQ (c))==0) (.br (d != 1) (AP (.b1 Dk)) e) e)))))))
 | .b1 a=>AB (Dk,1)
 | .b2 a c d i b=>let k:=Int.toNat 2;let j:=(↑a.length:Int);let l:=AQ (j - 2);.br (decide (l<c)) (AB (Dk,3)) (.br (decide (l>c)) (AB (Dk,2)) (.bind 3 (Yd (3:Int) b) (fun(e:Int)=>.bind 3 (Yd (2:Int) b) (fun(f:Int)=>.bind 3 (Yd (4:Int) b) (fun(g:Int)=>.chk (decide (0<=(2:Int)/\(2:Int)<=j)) (.chk true (.bind 62 (UN ([((a.drop k).take (a.length - k))])) (fun(h:List Int)=>AB ((⟨e,f,g,(⟨d,h⟩:Az)⟩:BM),(0:Int))))))))))
def nX (a:List Int):Option (BM×Int):=AU Yv (.b0 a)
def Z8h:Lay:=LT [2] [.p 0] [.s 70]
def Z7X:Lay:=LT [0,2,4,5,6] [.v 62,.p 0,.p 1,.v 3,.v 3] [.s 70,.v 5]
def ZnJ:Z0o->BH U
 | .b0 a=>Bg f77 [62] (a,())
 | .b1 a=>AA3 f77 [1,1,1,1,0,0,1,1,1,1,1,0,0] Z8h (a,())
 | .b2 a b c d e=>AA3 f77 [1,1,1,1,0,0,1,1,1,1,1,1,0] Z7X (a,b,c,d,e,())
theorem ZnZ:AA1 77 [62] 71 (fun x=>nX x.1) rfl:=Bj (mc aA (mc ZlQ Ag)) Af (al [(10,Z8h),(11,Z7X)]) ZnJ func77 (fun p=>by cases p<;>kernel_rfl) (by kernel_rfl) fun _=>rfl
end
noncomputable section
inductive Ya where
 | b0 (a:List Int) (b:Int) (c:BQ)
def Z8i:Ya->Tr U (Pz⊕Ya)
 | .b0 f g a=>let j:=kL a.Link.Ac&&(kL a.Ak&&(kL a.Link.Ar.Ap&&(kL a.Link.AA.A8&&(kL a.Link.AA.Aq&&(kL a.Link.DJ&&kL a.Link.Ac)))));let k:=kL a.Link.Ar.Ap&&(kL a.Link.AA.A8&&(kL a.Link.AA.Aq&&(kL a.Link.DJ&&j)));kl a.Link.Ar.Ap (kl a.Link.AA.A8 (kl a.Link.AA.Aq (kl a.Link.DJ (kl a.Link.Ac (.bind 3 (oQ a.Link) (fun(h:Int)=>.bind 62 (oU h f) (fun(i:List Int)=>.bind 120 (qX a.Link.Df.VE i) (fun(d:(List Int)×Int)=>.br (d.2 != 0) (.chk k (.bind 1354 (Yj false a) (fun(c:Oa)=>.chk (kL c.q0.Link.Ar.Ap&&(kL c.q0.Link.AA.A8&&(kL c.q0.Link.AA.Aq&&(kL c.q0.Link.Ac&&(kL c.q0.Ak&&(kL c.q0.Link.Ar.Ap&&(kL c.q0.Link.AA.A8&&(kL c.q0.Link.AA.Aq&&(kL c.q1&&kL c.q0.Link.Ac))))))))) (AB (⟨Dk,false,c.q0,c.q1⟩:Pz))))) (.bind 71 (nX d.1) (fun(e:BM×Int)=>.br (e.2 != 0) (kl a.Link.DJ (.chk (kL a.Link.Ar.Ap&&(kL a.Link.AA.A8&&(kL a.Link.AA.Aq&&j))) (AB (⟨Dk,false,a,a.Link.DJ⟩:Pz)))) (.chk k (.bind 1354 (Yj true a) (fun(b:Oa)=>.chk (kL b.q0.Link.Ar.Ap&&(kL b.q0.Link.AA.A8&&(kL b.q0.Link.AA.Aq&&(kL b.q0.Link.Ac&&(kL b.q0.Ak&&(kL b.q0.Link.Ar.Ap&&(kL b.q0.Link.AA.A8&&(kL b.q0.Link.AA.Aq&&(kL b.q1&&kL b.q0.Link.Ac))))))))) (AB (⟨e.1,true,(⟨({ b.q0.Link with Hm:=g,GU:=true,Good:=true }:Ad),b.q0.Ak⟩:BQ),b.q1⟩:Pz)))))))))))))))
def ZJ (a:List Int) (b:Int) (c:BQ):Option Pz:=AU Z8i (.b0 a b c)
def Z75:Shape:=⟨[PQ 0,OV 62,OV 3],[.var 118 67 (Xp 1),.row 68 true,.row 156 true,.row 138 true,.row 99 true,.row 156 true,.row 148 true]⟩
def ZkU:Shape:=⟨[.agg [.v 70 5 true],OV 4],[.var 118 67 (ag9 1 2 3 5 6),.row 68 false,.row 156 false,.row 138 false,.row 99 false,.row 156 false,.row 148 true]⟩
noncomputable def Zmv:HMod U:=⟨[KP,[.s 5 1],KP],[.var k14,.row true,.row true,.row true,.row true,.row true,.row true],Z75,ZkU,false,1368,fun(y:Pz)=>(((y.q0,()),((y.q1,()),())),((Qs y.q2),(y.q2.Link.Ar.Ap,(y.q2.Link.AA.A8,(y.q2.Link.AA.Aq,(y.q3,(y.q2.Link.Ac,(y.q2.Ak,())))))))),fun x=>ZJ x.1.2.1.1 x.1.2.2.1.1 (match x with|⟨_,⟨v0,v2,v4,v6,v8,q,A,C,D,F,G,I,J,M,N,O,Q,S,Y,v25,v26,v27,v28,v29,v30,v31,v32,v33,v34,v35,v36,v37,v38,v39,v40,v41,v42,v43,v44,v45,v46,v47,v48,_⟩,v1,v3,v5,v7,v9,z,_⟩=>(⟨(⟨v0,v2,v4,v6,v8,q,A,C,D,F,G,I,J,M,(⟨N,O,v1,Q,S,Y,v25⟩:BR),v26,(⟨v27,v28,v29,v3,v30,v31,v5,v32,v33,v34,v35,v36,v37,v38,v39,v40,v41,v42,v43,v44⟩:AZ),v45,v46,v7,v9,v47,v48⟩:Ad),z⟩:BQ)),okS rfl⟩
def ZlN:Ya->BH U
 | .b0 a b c=>Dj f108 Z75 (((),((a,()),((b,()),()))),(TM c))
theorem Zly:Cf Tryz.prog B0 108 Zmv:=okR (mc Z9r (mc ZpY (mc Zu2 (mc ZnZ Ag)))) (hc [] Z7T Af) AN [k3,KP] [.var k12,.row false,.row false,.row false,.row false,.row false,.row true] 7 ZlN func108 (fun p=>by cases p<;>kernel_rfl) (by kernel_rfl) fun x=>by kernel_rfl
end
end Go.Proofs.YtjodhcdmhobmoaaGreatDoor
namespace Go.Proofs.YtjodhcdmhobmoaaGreatDoor
open Tryz
open Go Go.RowKit Go.Maps Go.MapKept Go.ChangeMaps
attribute [local go_sem] Oper.semAt_some
set_option maxRecDepth 100000
theorem hao (w:World) (o:Obj) (i:Nat) (h:i<w.heap.size):(w.alloc o).heap[i]? = w.heap[i]?:=by
 show (w.heap.push o)[i]? = w.heap[i]?;rw[Array.getElem?_push,if_neg (Nat.ne_of_lt h)]
theorem ZD9 (F:Fence) (n:Nat) (h:F.fn 289) (q:F.round=none) (W:World):CallsIn F n Tryz.prog 289 #[] W fun e z =>e = .returned (.agg #[.slice none 0 0,.func (.func 348) #[] #[],.func (.func 349) #[] #[],.func (.func 309) #[] #[]])/\z = W.alloc (.cells #[.slice none 0 0,.func (.func 348) #[] #[],.func (.func 349) #[] #[],.func (.func 309) #[] #[]] 248):=by
 refine callsIn_of_wp func289 rfl h ?_ q;simp only[Tryz.ntmps289,List.size_toArray,List.length_cons,List.length_nil,Nat.reduceAdd,Nat.reduceSub,Array.replicate_succ,Array.replicate_zero,List.push_toArray,List.append_toArray,List.nil_append,List.cons_append]
 gi_wp2
 exact bodyPost_ret (results_cell_row rfl _ _ W.heap.size 248 _ _ _ rfl (heap_alloc_new _ _) (by rfl) rfl (by rfl)) rfl ⟨rfl,rfl⟩
theorem ZFI (F:Fence) (n:Nat) (h:F.fn 290) (q:F.round=none) (W:World):CallsIn F n Tryz.prog 290 #[] W fun e z =>e = .returned (.agg #[.slice (some ⟨W.heap.size+1,0,none⟩) 1 1,.func (.func 350) #[] #[],.func (.func 351) #[] #[],.func (.func 309) #[] #[]])/\z = (W.alloc (.cells #[.slice (some ⟨W.heap.size+1,0,none⟩) 1 1,.func (.func 350) #[] #[],.func (.func 351) #[] #[],.func (.func 309) #[] #[]] 248)).alloc (.cells #[.int .i64 8] 3):=by
 refine callsIn_of_wp func290 rfl h ?_ q;simp only[Tryz.ntmps290,List.size_toArray,List.length_cons,List.length_nil,Nat.reduceAdd,Nat.reduceSub,Array.replicate_succ,Array.replicate_zero,List.push_toArray,List.append_toArray,List.nil_append,List.cons_append]
 gi_wp2
 exact bodyPost_ret (results_cell_row rfl _ _ W.heap.size 248 _ _ _ rfl ((hao _ _ _ (by simp)).trans (heap_alloc_new _ _)) (by rfl) rfl (by rfl)) rfl ⟨rfl,rfl⟩
theorem ZEi (F:Fence) (n:Nat) (h:F.fn 291) (q:F.round=none) (W:World):CallsIn F n Tryz.prog 291 #[] W fun e z =>e = .returned (.agg #[.slice (some ⟨W.heap.size+1,0,none⟩) 1 1,.func (.func 352) #[] #[],.func (.func 353) #[] #[],.func (.func 354) #[] #[]])/\z = (W.alloc (.cells #[.slice (some ⟨W.heap.size+1,0,none⟩) 1 1,.func (.func 352) #[] #[],.func (.func 353) #[] #[],.func (.func 354) #[] #[]] 248)).alloc (.cells #[.int .i64 1] 3):=by
 refine callsIn_of_wp func291 rfl h ?_ q;simp only[Tryz.ntmps291,List.size_toArray,List.length_cons,List.length_nil,Nat.reduceAdd,Nat.reduceSub,Array.replicate_succ,Array.replicate_zero,List.push_toArray,List.append_toArray,List.nil_append,List.cons_append]
 gi_wp2
 exact bodyPost_ret (results_cell_row rfl _ _ W.heap.size 248 _ _ _ rfl ((hao _ _ _ (by simp)).trans (heap_alloc_new _ _)) (by rfl) rfl (by rfl)) rfl ⟨rfl,rfl⟩
structure FS (w0 w:World) (L:List (Int×Value)) (R:List (Nat×Array Value)):Prop where
 map:MA w w0.heap.size L
 rows:∀p∈R,w0.heap.size<p.1/\w.heap[p.1]? = some (.cells p.2 3)
 below:Below w0.heap.size w0 w
 sz:w0.heap.size<w.heap.size
theorem FS.start (w:World):FS w (w.alloc (.map #[] 0)) [] []:=
 ⟨⟨#[],0,(MapKept.heap_alloc w _).1,rfl⟩,by simp,(Below.refl _ _).alloc (Nat.le_refl _) _,by simp⟩
theorem FS.cells {w0 w:World} {L R} (h:FS w0 w L R) (cs:Array Value) (t:TypeId):FS w0 (w.alloc (.cells cs t)) L R:=by
 obtain⟨⟨es,c,hb,C⟩,q,A,z⟩:=h;refine⟨⟨es,c,(hao _ _ _ z).trans hb,C⟩,fun p hp=>⟨(q p hp).1,(hao _ _ _ ?_).trans (q p hp).2⟩,A.alloc (Nat.le_of_lt z) _,by simp;omega⟩;have:=(q p hp).2;exact(Array.getElem?_eq_some_iff.1 this).1
theorem FS.row {w0 w:World} {L R} (h:FS w0 w L R) (cs:Array Value):FS w0 (w.alloc (.cells cs 3)) L ((w.heap.size,cs)::R):=by
 have q:=h.cells cs 3;refine⟨q.map,fun p hp=>?_,q.below,q.sz⟩;rcases List.mem_cons.1 hp with rfl|hp
 ·exact⟨h.sz,heap_alloc_new _ _⟩
 ·exact q.rows p hp
theorem FS.rowA {w0 w:World} {L R} (h:FS w0 w L R) (cs:Array Value) (a:Nat) (q:a=w.heap.size):FS w0 (w.alloc (.cells cs 3)) L ((a,cs)::R):=q▸h.row cs
theorem FS.put {w0 w:World} {L R} (h:FS w0 w L R) (k:Int) (v:Value) (hk:(Lit.int .i64 k).wf=true) (q:L.all (fun p=>p.1 != k)=true) (I:L.all (fun p=>(Lit.int .i64 p.1).wf)=true) :
  ∃w',(Instr.mapUpdate 249 (.map (some w0.heap.size)) (.int .i64 k) v).run Tryz.prog w = .ok () w' /\ FS w0 w' (L++[(k,v)]) R:=by
 have z:Tryz.prog.underlying 3=some (.int .i64):=by rfl
 obtain⟨w',F,G,A⟩:=h.map.put (int_keyed z) (t:=249) (e:=248) (by rfl) k v (keyOf_int_mk z hk) q (fun p hp=>keyOf_int_mk z (List.all_eq_true.1 I p hp));have J:=A.size;refine⟨w',F,G,fun p hp=>⟨(h.rows p hp).1,?_⟩,h.below.grown A h.below.size (fun k e=>by cases e;exact Nat.le_refl _),by have:=h.sz;omega⟩;have D:=(h.rows p hp).2;obtain⟨_,_,_,_,C⟩:=A;exact(C p.1 (Array.getElem?_eq_some_iff.1 D).1 (fun e=>by have:=(h.rows p hp).1;injection e with e;omega)).trans D
def frmL (D F G I J M N O Q q z A C:Nat):List (Int×Value):=[(5,.agg #[.slice none 0 0,.func (.func 348) #[] #[],.func (.func 349) #[] #[],.func (.func 309) #[] #[]]),
 (6,.agg #[.slice none 0 0,.func (.func 348) #[] #[],.func (.func 349) #[] #[],.func (.func 309) #[] #[]]),
 (18,.agg #[.slice none 0 0,.func (.func 348) #[] #[],.func (.func 349) #[] #[],.func (.func 309) #[] #[]]),
 (19,.agg #[.slice none 0 0,.func (.func 348) #[] #[],.func (.func 349) #[] #[],.func (.func 309) #[] #[]]),
 (8,.agg #[.slice (some ⟨D,0,none⟩) 1 1,.func (.func 350) #[] #[],.func (.func 351) #[] #[],.func (.func 309) #[] #[]]),
 (9,.agg #[.slice (some ⟨F,0,none⟩) 1 1,.func (.func 350) #[] #[],.func (.func 351) #[] #[],.func (.func 309) #[] #[]]),
 (20,.agg #[.slice (some ⟨G,0,none⟩) 1 1,.func (.func 352) #[] #[],.func (.func 353) #[] #[],.func (.func 354) #[] #[]]),
 (21,.agg #[.slice (some ⟨I,0,none⟩) 1 1,.func (.func 352) #[] #[],.func (.func 353) #[] #[],.func (.func 354) #[] #[]]),
 (0,.agg #[.slice (some ⟨J,0,none⟩) 6 6,.func (.func 292) #[] #[],.func (.func 294) #[] #[],.func (.func 296) #[] #[]]),
 (1,.agg #[.slice (some ⟨M,0,none⟩) 2 2,.func (.func 297) #[] #[],.func (.func 298) #[] #[],.func (.func 299) #[] #[]]),
 (15,.agg #[.slice (some ⟨N,0,none⟩) 5 5,.func (.func 300) #[] #[],.func (.func 301) #[] #[],.func (.func 302) #[] #[]]),
 (2,.agg #[.slice (some ⟨O,0,none⟩) 1 1,.func (.func 303) #[] #[],.func (.func 304) #[] #[],.func (.func 305) #[] #[]]),
 (3,.agg #[.slice (some ⟨Q,0,none⟩) 2 2,.func (.func 307) #[] #[],.func (.func 308) #[] #[],.func (.func 309) #[] #[]]),
 (4,.agg #[.slice (some ⟨q,0,none⟩) 1 1,.func (.func 310) #[] #[],.func (.func 311) #[] #[],.func (.func 309) #[] #[]]),
 (7,.agg #[.slice (some ⟨z,0,none⟩) 1 1,.func (.func 312) #[] #[],.func (.func 313) #[] #[],.func (.func 314) #[] #[]]),
 (12,.agg #[.slice (some ⟨A,0,none⟩) 1 1,.func (.func 315) #[] #[],.func (.func 316) #[] #[],.func (.func 317) #[] #[]]),
 (13,.agg #[.slice (some ⟨C,0,none⟩) 2 2,.func (.func 318) #[] #[],.func (.func 319) #[] #[],.func (.func 320) #[] #[]])]
def Ko (D F G I J M N O Q q z A C:Nat):List (Nat×Array Value):=[(C,#[.int .i64 1,.int .i64 1]),(A,#[.int .i64 1]),(z,#[.int .i64 1]),(q,#[.int .i64 8]),(Q,#[.int .i64 8,.int .i64 8]),(O,#[.int .i64 1]),(N,#[.int .i64 1,.int .i64 2,.int .i64 2,.int .i64 2,.int .i64 2]),(M,#[.int .i64 5,.int .i64 2]),(J,#[.int .i64 1,.int .i64 2,.int .i64 2,.int .i64 2,.int .i64 2,.int .i64 2]),(I,#[.int .i64 1]),(G,#[.int .i64 1]),(F,#[.int .i64 8]),(D,#[.int .i64 8])]
set_option maxHeartbeats 4000000 in
theorem ZCK (F:Fence) (n:Nat) (h9:F.fn 289) (h0:F.fn 290) (h1:F.fn 291) (h:F.fn 229) (q:F.round=none) (hn:1<=n) (w:World):CallsIn F n Tryz.prog 229 #[] w fun e W' =>e = .returned (.map (some w.heap.size))/\∃a1 a2 a3 a4 a5 a6 a7 a8 a9 z A C D,FS w W' (frmL a1 a2 a3 a4 a5 a6 a7 a8 a9 z A C D) (Ko a1 a2 a3 a4 a5 a6 a7 a8 a9 z A C D):=by
 have hmm:=@run_makeMap Tryz.prog;have G0:=FS.start w;have H1:=G0.cells #[.slice none 0 0,.func (.func 348) #[] #[],.func (.func 349) #[] #[],.func (.func 309) #[] #[]] 248;obtain⟨w1,u1,G1⟩:=H1.put 5 (.agg #[.slice none 0 0,.func (.func 348) #[] #[],.func (.func 349) #[] #[],.func (.func 309) #[] #[]]) (by decide) rfl rfl;have H2:=G1.cells #[.slice none 0 0,.func (.func 348) #[] #[],.func (.func 349) #[] #[],.func (.func 309) #[] #[]] 248;obtain⟨w2,u2,G2⟩:=H2.put 6 (.agg #[.slice none 0 0,.func (.func 348) #[] #[],.func (.func 349) #[] #[],.func (.func 309) #[] #[]]) (by decide) rfl rfl;have H3:=G2.cells #[.slice none 0 0,.func (.func 348) #[] #[],.func (.func 349) #[] #[],.func (.func 309) #[] #[]] 248;obtain⟨w3,u3,G3⟩:=H3.put 18 (.agg #[.slice none 0 0,.func (.func 348) #[] #[],.func (.func 349) #[] #[],.func (.func 309) #[] #[]]) (by decide) rfl rfl;have H4:=G3.cells #[.slice none 0 0,.func (.func 348) #[] #[],.func (.func 349) #[] #[],.func (.func 309) #[] #[]] 248;obtain⟨S,u4,G4⟩:=H4.put 19 (.agg #[.slice none 0 0,.func (.func 348) #[] #[],.func (.func 349) #[] #[],.func (.func 309) #[] #[]]) (by decide) rfl rfl;have H5:=(G4.cells #[.slice (some ⟨S.heap.size+1,0,none⟩) 1 1,.func (.func 350) #[] #[],.func (.func 351) #[] #[],.func (.func 309) #[] #[]] 248).rowA #[.int .i64 8] (S.heap.size+1) (by simp);obtain⟨Y,u5,G5⟩:=H5.put 8 (.agg #[.slice (some ⟨S.heap.size+1,0,none⟩) 1 1,.func (.func 350) #[] #[],.func (.func 351) #[] #[],.func (.func 309) #[] #[]]) (by decide) rfl rfl;have H6:=(G5.cells #[.slice (some ⟨Y.heap.size+1,0,none⟩) 1 1,.func (.func 350) #[] #[],.func (.func 351) #[] #[],.func (.func 309) #[] #[]] 248).rowA #[.int .i64 8] (Y.heap.size+1) (by simp);obtain⟨w6,u6,G6⟩:=H6.put 9 (.agg #[.slice (some ⟨Y.heap.size+1,0,none⟩) 1 1,.func (.func 350) #[] #[],.func (.func 351) #[] #[],.func (.func 309) #[] #[]]) (by decide) rfl rfl;have H7:=(G6.cells #[.slice (some ⟨w6.heap.size+1,0,none⟩) 1 1,.func (.func 352) #[] #[],.func (.func 353) #[] #[],.func (.func 354) #[] #[]] 248).rowA #[.int .i64 1] (w6.heap.size+1) (by simp);obtain⟨w7,u7,G7⟩:=H7.put 20 (.agg #[.slice (some ⟨w6.heap.size+1,0,none⟩) 1 1,.func (.func 352) #[] #[],.func (.func 353) #[] #[],.func (.func 354) #[] #[]]) (by decide) rfl rfl;have H8:=(G7.cells #[.slice (some ⟨w7.heap.size+1,0,none⟩) 1 1,.func (.func 352) #[] #[],.func (.func 353) #[] #[],.func (.func 354) #[] #[]] 248).rowA #[.int .i64 1] (w7.heap.size+1) (by simp);obtain⟨w8,u8,G8⟩:=H8.put 21 (.agg #[.slice (some ⟨w7.heap.size+1,0,none⟩) 1 1,.func (.func 352) #[] #[],.func (.func 353) #[] #[],.func (.func 354) #[] #[]]) (by decide) rfl rfl;have H9:=G8.row #[.int .i64 1,.int .i64 2,.int .i64 2,.int .i64 2,.int .i64 2,.int .i64 2];obtain⟨w9,u9,G9⟩:=H9.put 0 (.agg #[.slice (some ⟨w8.heap.size,0,none⟩) 6 6,.func (.func 292) #[] #[],.func (.func 294) #[] #[],.func (.func 296) #[] #[]]) (by decide) rfl rfl;have H10:=G9.row #[.int .i64 5,.int .i64 2];obtain⟨G,u10,G10⟩:=H10.put 1 (.agg #[.slice (some ⟨w9.heap.size,0,none⟩) 2 2,.func (.func 297) #[] #[],.func (.func 298) #[] #[],.func (.func 299) #[] #[]]) (by decide) rfl rfl;have H11:=G10.row #[.int .i64 1,.int .i64 2,.int .i64 2,.int .i64 2,.int .i64 2];obtain⟨I,u11,G11⟩:=H11.put 15 (.agg #[.slice (some ⟨G.heap.size,0,none⟩) 5 5,.func (.func 300) #[] #[],.func (.func 301) #[] #[],.func (.func 302) #[] #[]]) (by decide) rfl rfl;have H12:=G11.row #[.int .i64 1];obtain⟨J,u12,G12⟩:=H12.put 2 (.agg #[.slice (some ⟨I.heap.size,0,none⟩) 1 1,.func (.func 303) #[] #[],.func (.func 304) #[] #[],.func (.func 305) #[] #[]]) (by decide) rfl rfl;have H13:=G12.row #[.int .i64 8,.int .i64 8];obtain⟨M,u13,G13⟩:=H13.put 3 (.agg #[.slice (some ⟨J.heap.size,0,none⟩) 2 2,.func (.func 307) #[] #[],.func (.func 308) #[] #[],.func (.func 309) #[] #[]]) (by decide) rfl rfl;have H14:=G13.row #[.int .i64 8];obtain⟨N,u14,G14⟩:=H14.put 4 (.agg #[.slice (some ⟨M.heap.size,0,none⟩) 1 1,.func (.func 310) #[] #[],.func (.func 311) #[] #[],.func (.func 309) #[] #[]]) (by decide) rfl rfl;have H15:=G14.row #[.int .i64 1];obtain⟨O,u15,G15⟩:=H15.put 7 (.agg #[.slice (some ⟨N.heap.size,0,none⟩) 1 1,.func (.func 312) #[] #[],.func (.func 313) #[] #[],.func (.func 314) #[] #[]]) (by decide) rfl rfl;have H16:=G15.row #[.int .i64 1];obtain⟨Q,u16,G16⟩:=H16.put 12 (.agg #[.slice (some ⟨O.heap.size,0,none⟩) 1 1,.func (.func 315) #[] #[],.func (.func 316) #[] #[],.func (.func 317) #[] #[]]) (by decide) rfl rfl;have H17:=G16.row #[.int .i64 1,.int .i64 1];obtain⟨w17,u17,G17⟩:=H17.put 13 (.agg #[.slice (some ⟨Q.heap.size,0,none⟩) 2 2,.func (.func 318) #[] #[],.func (.func 319) #[] #[],.func (.func 320) #[] #[]]) (by decide) rfl rfl;refine callsIn_of_wp func229 rfl h ?_ q;simp only[Tryz.ntmps229,List.size_toArray,List.length_cons,List.length_nil,Nat.reduceAdd,Nat.reduceSub,Array.replicate_succ,Array.replicate_zero,List.push_toArray,List.append_toArray,List.nil_append,List.cons_append]
 gi_wp2_with (first|(gi_at_call 289;refine(ZD9 F (n - 1) h9 q _).mono ?_;rintro e w' ⟨rfl,rfl⟩)|(gi_at_call 290;refine(ZFI F (n - 1) h0 q _).mono ?_;rintro e w' ⟨rfl,rfl⟩)|(gi_at_call 291;refine(ZEi F (n - 1) h1 q _).mono ?_;rintro e w' ⟨rfl,rfl⟩))
 exact bodyPost_ret (results_tmp rfl _ _ _) rfl ⟨rfl,S.heap.size+1,Y.heap.size+1,w6.heap.size+1,w7.heap.size+1,w8.heap.size,w9.heap.size,G.heap.size,I.heap.size,J.heap.size,M.heap.size,N.heap.size,O.heap.size,Q.heap.size,G17⟩
open Go.Proofs.YtjodhcdmhobmoaaGreatDoor.Le
theorem Lh {w0 w:World} {L R} (h:FS w0 w L R) (fz:Nat->Nat->Prop) {a:Nat} (xs:List Int) (hp:(a,(xs.map (Value.int .i64 ·)).toArray)∈R) (I:xs.all (fun x=>(Lit.int .i64 x).wf)=true) (hl:xs.length<=100) :
  AV (bare (fun b c=>fz b c\/(w0.heap.size<b/\∃u,w.cell? ⟨b,c,none⟩=some u))) w [.sl false 1 (xs.map fun x=>.lit (.int .i64 x))] [.slice (some ⟨a,0,none⟩) xs.length xs.length]:=by
 obtain⟨F,G⟩:=h.rows _ hp;have z:∀ys:List Int,ys.all (fun x=>(Lit.int .i64 x).wf)=true->AV (bare (fun b c=>fz b c\/(w0.heap.size<b/\∃u,w.cell? ⟨b,c,none⟩=some u))) w (ys.map fun x=>.lit (.int .i64 x)) (ys.map (Value.int .i64 ·)):=by
  intro ys;induction ys with
  | nil=>intro _;exact .nil
  | cons y ys C=>
   intro A;simp only[List.all_cons,Bool.and_eq_true]at A;exact .lit A.1 (C A.2)
 have q:∀ys:List Int,flat (ys.map (Value.int .i64 ·))=ys.map (Value.int .i64 ·):=by
  intro ys;induction ys with
  | nil=>rfl
  | cons y ys C=>
   show [Value.int .i64 y]++flat (ys.map (Value.int .i64 ·))=_;rw[C];rfl
 have hc:∀j,w.cell? ⟨a,j,none⟩=(xs.map (Value.int .i64 ·)).toArray[j]?:=fun j=>cell_of_row w a j _ 3 _ G;have:=AV.sl (xs:=[]) (vs:=[]) a 0 xs.length 1 (z xs I) (by intro x J;obtain⟨n,_,rfl⟩:=List.mem_map.1 J;rfl) (by intro u hu;obtain⟨n,_,rfl⟩:=List.mem_map.1 hu;rfl)
  (by rw[q];intro u hu;obtain⟨n,_,rfl⟩:=List.mem_map.1 hu;rfl) (by simp) (by rw[show maxLen=9223372036854775807 from rfl];omega)
  (by
   intro j u D;rw[q]at D;have e:w.cell? ⟨a,0+j,none⟩=some u:=by rw[Nat.zero_add,hc];simpa using D
   exact⟨.inr ⟨F,u,e⟩,e⟩) .nil
 rw[List.length_map]at this;exact this
theorem JJ {σ:Sg} {w:World} {k:Int} {xs:List Int} {q:Value} {a b c:Nat} {r:List V} {z:List Value} (hk:(Lit.int .i64 k).wf=true) (hs:AV σ w [.sl false 1 (xs.map fun x=>.lit (.int .i64 x))] [q]) (A:q.oneCell' = true) (h:AV σ w r z) :
  AV σ w (.lit (.int .i64 k) :: .agg [.sl false 1 (xs.map fun x=>.lit (.int .i64 x)),.fn a [] [],.fn b [] [],.fn c [] []]::r) (.int .i64 k :: .agg #[q,.func (.func a) #[] #[],.func (.func b) #[] #[],.func (.func c) #[] #[]]::z):=
 .lit hk (.agg (ws:=[q,.func (.func a) #[] #[],.func (.func b) #[] #[],.func (.func c) #[] #[]]) (AV.F8.2 ⟨hs,.fn (us:=[]) (ws:=[]) .nil .nil (.fn (us:=[]) (ws:=[]) .nil .nil (.fn (us:=[]) (ws:=[]) .nil .nil .nil))⟩) (by intro u hu;simp only[List.mem_cons,List.not_mem_nil,or_false]at hu;rcases hu with rfl|rfl|rfl|rfl<;>first|exact A|rfl) h)
noncomputable def QC:Option Unit:=some ()
noncomputable def Zpz:Ai U:={ ts:=[],rt:=249,fn:=fun _=>QC,ok:=by decide }
theorem Z8Y:AA0 229 Zpz:=by
 refine⟨⟨f229,func229,by kernel_rfl,by kernel_rfl⟩,?_⟩
 rintro x a ha fz w vs z hg hr
 cases ha;cases hr.Fj;refine(callsIn_wide.1 (ZCK Fence.wide 3 trivial trivial trivial trivial rfl (by omega) w)).mono ?_
 rintro e w' ⟨rfl,J,M,N,O,Q,S,Y,a8,a9,A,C,D,F,h⟩
 refine⟨_,fun b c=>fz b c\/(w.heap.size<b/\∃u,w'.cell? ⟨b,c,none⟩=some u),rfl,h.below,fun _ _ h=>.inl h,fun b c h hb=>h.elim id (fun h=>absurd hb (by omega)),fun b c G=>?_,?_,rfl⟩
 ·rcases G with G|⟨_,G⟩
  ·obtain⟨u,hu⟩:=z b c G;exact⟨u,(h.below.cell (p:=⟨b,c,none⟩) (cell_lt hu)).trans hu⟩
  ·exact G
 ·obtain⟨es,c,hb,he⟩:=h.map;have I:(frmL J M N O Q S Y a8 a9 A C D F).flatMap (fun p=>[Value.int .i64 p.1,p.2])=es.toList.flatMap (fun e=>[e.key,e.val]):=by
   have h1:(es.toList.map fun x=>(x.key,x.val)).flatMap (fun q:Value×Value=>[q.1,q.2])=es.toList.flatMap (fun e=>[e.key,e.val]):=by rw[List.flatMap_map]
   rw[<- h1,he,List.flatMap_map]
  refine .Gf w.heap.size es c (us:=(frmL J M N O Q S Y a8 a9 A C D F).flatMap (fun p=>[Value.int .i64 p.1,p.2])) ?_ hb I .nil;exact JJ (xs:=[]) (by decide) (.Ew .nil) rfl (JJ (xs:=[]) (by decide) (.Ew .nil) rfl (JJ (xs:=[]) (by decide) (.Ew .nil) rfl (JJ (xs:=[]) (by decide) (.Ew .nil) rfl (JJ (xs:=[8]) (by decide) (Lh h fz [8] (by simp[Ko]) (by decide) (by decide)) rfl (JJ (xs:=[8]) (by decide) (Lh h fz [8] (by simp[Ko]) (by decide) (by decide)) rfl (JJ (xs:=[1]) (by decide) (Lh h fz [1] (by simp[Ko]) (by decide) (by decide)) rfl (JJ (xs:=[1]) (by decide) (Lh h fz [1] (by simp[Ko]) (by decide) (by decide)) rfl (JJ (xs:=[1,2,2,2,2,2]) (by decide) (Lh h fz [1,2,2,2,2,2] (by simp[Ko]) (by decide) (by decide)) rfl (JJ (xs:=[5,2]) (by decide) (Lh h fz [5,2] (by simp[Ko]) (by decide) (by decide)) rfl (JJ (xs:=[1,2,2,2,2]) (by decide) (Lh h fz [1,2,2,2,2] (by simp[Ko]) (by decide) (by decide)) rfl (JJ (xs:=[1]) (by decide) (Lh h fz [1] (by simp[Ko]) (by decide) (by decide)) rfl (JJ (xs:=[8,8]) (by decide) (Lh h fz [8,8] (by simp[Ko]) (by decide) (by decide)) rfl (JJ (xs:=[8]) (by decide) (Lh h fz [8] (by simp[Ko]) (by decide) (by decide)) rfl (JJ (xs:=[1]) (by decide) (Lh h fz [1] (by simp[Ko]) (by decide) (by decide)) rfl (JJ (xs:=[1]) (by decide) (Lh h fz [1] (by simp[Ko]) (by decide) (by decide)) rfl (JJ (xs:=[1,1]) (by decide) (Lh h fz [1,1] (by simp[Ko]) (by decide) (by decide)) rfl (.nil)))))))))))))))))
end Go.Proofs.YtjodhcdmhobmoaaGreatDoor
namespace Go.Proofs.YtjodhcdmhobmoaaGreatDoor
open Tryz
open Go Go.Proofs.YtjodhcdmhobmoaaGreatDoor.Le
set_option maxRecDepth 100000
noncomputable section
inductive Z0j where
 | b0 (a:DR)
def ZoR:Z0j->Tr U (UK⊕Z0j)
 | .b0 a=>.chk true (AB (⟨[(IntKind.wrap .u64 (a.FP)),(IntKind.wrap .u64 (a.FC)),(IntKind.wrap .u64 (a.E5)),(IntKind.wrap .u64 (a.C9)),(IntKind.wrap .u64 (a.FY))]⟩:UK))
def nO (a:DR):Option UK:=AU ZoR (.b0 a)
def Z89:Shape:=⟨[.agg [.v 24 5 true]],[]⟩
def Zme:Shape:=⟨[.one (.own 25 0)],[.row 25 true]⟩
noncomputable def Zpd:HMod U:=⟨[k19],[],Z89,Zme,true,1391,fun(y:UK)=>(((),()),(y.q0,())),fun x=>nO x.1.1.1,okS rfl⟩
def Zo3:Z0j->BH U
 | .b0 a=>Dj f293 Z89 (((a,()),()),())
theorem Z8E:Cf Tryz.prog B0 293 Zpd:=okR Ag Af AN [[.own 25 1]] [.row true] 0 Zo3 func293 (fun p=>by cases p<;>kernel_rfl) (by kernel_rfl) fun x=>by kernel_rfl
def Z8F:S1 (AO×Unit) (List Int)
 | (b,_)=>.bind 1391 (nO b.BL) (fun(a:UK)=>let c:=a.q0++[(IntKind.wrap .u64 (b.DZ))];.chk true (kl a.q0 (.chk (kA (a.q0.length+1) 8) (kl c (AB c)))))
def Z07 (a:AO):Option (List Int):=AU Z8F (a,())
theorem ZnE:AA1 292 [156] 254 (fun x=>Z07 x.1) rfl:=ok1 Ag (hc [] Z8E Af) func292 (fun _=>by kernel_rfl) (by kernel_rfl)
inductive Z0p where
 | b0 (a:List Gg)
 | b1 (a:List Gg) (b c:Int)
 | b2 (a:List Gg) (b c:Int)
def Yr:Z0p->Tr U (Bool⊕Z0p)
 | .b0 a=>AP (.b1 a (↑a.length:Int) (0:Int))
 | .b1 c d a=>.br (decide (a<d)) (.chk (kI a c) (.bind 174 (c[(Int.toNat a)]?) (fun(b:Gg)=>.br (decide (b.VP<b.f_low)) (AB false) (.br (decide (b.VP>b.wW)) (AB false) (AP (.b2 c d a)))))) (AB true)
 | .b2 a b c=>AP (.b1 a b (AQ (c+1)))
def Z0i (a:List Gg):Option Bool:=AU Yr (.b0 a)
def nC:Lay:=LT [5,6,7] [.v 240,.v 3,.v 3] []
def Zo6:Z0p->BH U
 | .b0 a=>Bg f124 [240] (a,())
 | .b1 a b c=>AA3 f124 [1,0,1,0,0,0] nC (a,b,c,())
 | .b2 a b c=>AA3 f124 [1,0,1,0,0,1,1,1] nC (a,b,c,())
theorem ZnL:AA1 124 [240] 4 (fun x=>Z0i x.1) rfl:=Bj Ag Af (al [(2,nC),(6,nC)]) Zo6 func124 (fun p=>by cases p<;>kernel_rfl) (by kernel_rfl) fun _=>rfl
def Z6A:S1 (DR×Unit) Int
 | (a,_)=>.chk true (.bind 4 (Z0i ([(⟨a.FP,1,8⟩:Gg),(⟨a.FC,0,3200⟩:Gg),(⟨a.E5,6,3200⟩:Gg),(⟨a.C9,0,499⟩:Gg),(⟨a.FY,10,3200⟩:Gg)])) (fun(b:Bool)=>.br (!b) (AB (5:Int)) (.br (decide (a.FP>=a.E5)) (AB (11:Int)) (.br (decide (a.FC>a.E5)) (AB (11:Int)) (.br (decide ((AQ (a.FY*10000))<=(AQ ((AQ ((AQ ((2:Int)*(AQ (a.C9+1))))*a.E5))*1250)))) (AB (11:Int)) (AB (0:Int)))))))
def lT (a:DR):Option Int:=AU Z6A (a,())
theorem Z6y:AA1 122 [24] 45 (fun x=>lT x.1) rfl:=ok1 (mc ZnL Ag) Af func122 (fun _=>by kernel_rfl) (by kernel_rfl)
def Z8C:S1 (AO×Unit) Int
 | (a,_)=>.bind 45 (lT a.BL) (fun(b:Int)=>AB b)
def Z02 (a:AO):Option Int:=AU Z8C (a,())
theorem ZnB:AA1 296 [156] 45 (fun x=>Z02 x.1) rfl:=ok1 (mc Z6y Ag) Af func296 (fun _=>by kernel_rfl) (by kernel_rfl)
def Zof:S1 (AO×Unit) (List Int)
 | (a,_)=>.chk true (AB ([a.Map,(IntKind.wrap .u64 (a.DZ))]))
def Z0a (a:AO):Option (List Int):=AU Zof (a,())
theorem ZnG:AA1 297 [156] 254 (fun x=>Z0a x.1) rfl:=ok1 Ag Af func297 (fun _=>by kernel_rfl) (by kernel_rfl)
def Z9g:S1 (Int×Unit) Int
 | (a,_)=>.br ((bits .andNot .u64 a (137438953471:Int)) != 0) (AB (5:Int)) (.bind 3 (Va a) (fun(b:Int)=>.br (decide (b<2)) (AB (1:Int)) (AB (0:Int))))
def Z0B (a:Int):Option Int:=AU Z9g (a,())
theorem Zpa:AA1 123 [26] 45 (fun x=>Z0B x.1) rfl:=ok1 (mc Z0m Ag) Af func123 (fun _=>by kernel_rfl) (by kernel_rfl)
def Z8I:S1 (AO×Unit) Int
 | (a,_)=>.bind 45 (Z0B a.Map) (fun(b:Int)=>AB b)
def Z0b (a:AO):Option Int:=AU Z8I (a,())
theorem ZmF:AA1 299 [156] 45 (fun x=>Z0b x.1) rfl:=ok1 (mc Zpa Ag) Af func299 (fun _=>by kernel_rfl) (by kernel_rfl)
def Z8K:S1 (AO×Unit) (List Int)
 | (b,_)=>.bind 1391 (nO b.BL) (fun(a:UK)=>kl a.q0 (AB a.q0))
def ZV (a:AO):Option (List Int):=AU Z8K (a,())
theorem ZmY:AA1 300 [156] 254 (fun x=>ZV x.1) rfl:=ok1 Ag (hc [] Z8E Af) func300 (fun _=>by kernel_rfl) (by kernel_rfl)
def Z8D:S1 (AO×Unit) Int
 | (a,_)=>.bind 45 (lT a.BL) (fun(b:Int)=>AB b)
def ZT (a:AO):Option Int:=AU Z8D (a,())
theorem Znq:AA1 302 [156] 45 (fun x=>ZT x.1) rfl:=ok1 (mc Z6y Ag) Af func302 (fun _=>by kernel_rfl) (by kernel_rfl)
def ZmE:S1 (AO×Unit) (List Int)
 | (a,_)=>.chk true (AB ([(IntKind.wrap .u64 (a.CQ))]))
def ZG (a:AO):Option (List Int):=AU ZmE (a,())
theorem ZlP:AA1 303 [156] 254 (fun x=>ZG x.1) rfl:=ok1 Ag Af func303 (fun _=>by kernel_rfl) (by kernel_rfl)
def Z8L:S1 (Int×Int×Int×Unit) Int
 | (a,b,c,_)=>.br (decide (a<b)) (AB (5:Int)) (.br (decide (a>c)) (AB (5:Int)) (AB (0:Int)))
def RN (a b c:Int):Option Int:=AU Z8L (a,b,c,())
theorem Yi:AA1 306 [3,3,3] 45 (fun x=>RN x.1 x.2.1 x.2.2.1) rfl:=ok1 Ag Af func306 (fun _=>by kernel_rfl) (by kernel_rfl)
def Z86:S1 (AO×Unit) Int
 | (a,_)=>.bind 45 (RN a.CQ (0:Int) (255:Int)) (fun(b:Int)=>AB b)
def ZP (a:AO):Option Int:=AU Z86 (a,())
theorem Zmd:AA1 305 [156] 45 (fun x=>ZP x.1) rfl:=ok1 (mc Yi Ag) Af func305 (fun _=>by kernel_rfl) (by kernel_rfl)
def ZmV:S1 (AO×Unit) (List Int)
 | (a,_)=>.chk true (AB ([a.CZ,a.Mark]))
def ZM (a:AO):Option (List Int):=AU ZmV (a,())
theorem Zmc:AA1 307 [156] 254 (fun x=>ZM x.1) rfl:=ok1 Ag Af func307 (fun _=>by kernel_rfl) (by kernel_rfl)
def Zaj:S1 (AO×Unit) Int
 | (a,_)=>AB (0:Int)
def Ob (a:AO):Option Int:=AU Zaj (a,())
theorem Zps:AA1 309 [156] 45 (fun x=>Ob x.1) rfl:=ok1 Ag Af func309 (fun _=>by kernel_rfl) (by kernel_rfl)
def Zms:S1 (AO×Unit) (List Int)
 | (a,_)=>.chk true (AB ([a.CZ]))
def Zx (a:AO):Option (List Int):=AU Zms (a,())
theorem Zlv:AA1 310 [156] 254 (fun x=>Zx x.1) rfl:=ok1 Ag Af func310 (fun _=>by kernel_rfl) (by kernel_rfl)
def Zmg:S1 (AO×Unit) (List Int)
 | (a,_)=>.chk true (AB ([(IntKind.wrap .u64 (a.ER))]))
def ZH (a:AO):Option (List Int):=AU Zmg (a,())
theorem Zm2:AA1 312 [156] 254 (fun x=>ZH x.1) rfl:=ok1 Ag Af func312 (fun _=>by kernel_rfl) (by kernel_rfl)
def Z87:S1 (AO×Unit) Int
 | (a,_)=>.bind 45 (RN a.ER (0:Int) (255:Int)) (fun(b:Int)=>AB b)
def ZI (a:AO):Option Int:=AU Z87 (a,())
theorem ZlC:AA1 314 [156] 45 (fun x=>ZI x.1) rfl:=ok1 (mc Yi Ag) Af func314 (fun _=>by kernel_rfl) (by kernel_rfl)
def Znj:S1 (AO×Unit) (List Int)
 | (a,_)=>.chk true (AB ([(IntKind.wrap .u64 (a.Version))]))
def Zq (a:AO):Option (List Int):=AU Znj (a,())
theorem Zm9:AA1 315 [156] 254 (fun x=>Zq x.1) rfl:=ok1 Ag Af func315 (fun _=>by kernel_rfl) (by kernel_rfl)
def Z85:S1 (AO×Unit) Int
 | (a,_)=>.bind 45 (RN a.Version (0:Int) (255:Int)) (fun(b:Int)=>AB b)
def Zy (a:AO):Option Int:=AU Z85 (a,())
theorem Zmf:AA1 317 [156] 45 (fun x=>Zy x.1) rfl:=ok1 (mc Yi Ag) Af func317 (fun _=>by kernel_rfl) (by kernel_rfl)
def Zno:S1 (AO×Unit) (List Int)
 | (a,_)=>.chk true (AB ([(IntKind.wrap .u64 (a.CQ)),(IntKind.wrap .u64 (a.ER))]))
def Zz (a:AO):Option (List Int):=AU Zno (a,())
theorem ZlM:AA1 318 [156] 254 (fun x=>Zz x.1) rfl:=ok1 Ag Af func318 (fun _=>by kernel_rfl) (by kernel_rfl)
def Z8d:S1 (AO×Unit) Int
 | (a,_)=>.bind 45 (RN a.CQ (0:Int) (255:Int)) (fun(b:Int)=>.bind 45 (RN a.ER (0:Int) (255:Int)) (fun(c:Int)=>AB (if c>b then c else b)))
def Zu (a:AO):Option Int:=AU Z8d (a,())
theorem Zm3:AA1 320 [156] 45 (fun x=>Zu x.1) rfl:=ok1 (mc Yi Ag) Af func320 (fun _=>by kernel_rfl) (by kernel_rfl)
def Zop:S1 (AO×Unit) (List Int)
 | (a,_)=>.chk true (AB ([]:List Int))
def V8 (a:AO):Option (List Int):=AU Zop (a,())
theorem Zmu:AA1 348 [156] 254 (fun x=>V8 x.1) rfl:=ok1 Ag Af func348 (fun _=>by kernel_rfl) (by kernel_rfl)
def Zlk:S1 (AO×Unit) (List Int)
 | (a,_)=>.chk true (AB ([a.D7]))
def lY (a:AO):Option (List Int):=AU Zlk (a,())
theorem ZkK:AA1 350 [156] 254 (fun x=>lY x.1) rfl:=ok1 Ag Af func350 (fun _=>by kernel_rfl) (by kernel_rfl)
def Zn9:S1 (AO×Unit) (List Int)
 | (a,_)=>.chk true (AB ([(IntKind.wrap .u64 (a.Length))]))
def mX (a:AO):Option (List Int):=AU Zn9 (a,())
theorem ZlD:AA1 352 [156] 254 (fun x=>mX x.1) rfl:=ok1 Ag Af func352 (fun _=>by kernel_rfl) (by kernel_rfl)
def Z83:S1 (AO×Unit) Int
 | (a,_)=>.bind 45 (RN a.Length (27:Int) (251:Int)) (fun(b:Int)=>AB b)
def mP (a:AO):Option Int:=AU Z83 (a,())
theorem Zlz:AA1 354 [156] 45 (fun x=>mP x.1) rfl:=ok1 (mc Yi Ag) Af func354 (fun _=>by kernel_rfl) (by kernel_rfl)
def Z8x:S1 ((List Int)×Unit) DR
 | (a,_)=>.chk (kI (0:Int) a) (.bind 25 (a[(Int.toNat 0)]?) (fun(b:Int)=>.chk (kI (1:Int) a) (.bind 25 (a[(Int.toNat 1)]?) (fun(c:Int)=>.chk (kI (2:Int) a) (.bind 25 (a[(Int.toNat 2)]?) (fun(d:Int)=>.chk (kI (3:Int) a) (.bind 25 (a[(Int.toNat 3)]?) (fun(e:Int)=>.chk (kI (4:Int) a) (.bind 25 (a[(Int.toNat 4)]?) (fun(f:Int)=>AB (⟨(AQ (b)),(AQ (c)),(AQ (d)),(AQ (e)),(AQ (f))⟩:DR)))))))))))
def nN (a:List Int):Option DR:=AU Z8x (a,())
theorem Z7Z:AA1 295 [254] 24 (fun x=>nN x.1) rfl:=ok1 Ag Af func295 (fun _=>by kernel_rfl) (by kernel_rfl)
inductive Z06 where
 | b0 (a:List Int) (b:AO)
def Z8G:Z06->Tr U (UI⊕Z06)
 | .b0 a b=>.bind 24 (nN a) (fun(c:DR)=>.chk (kI (5:Int) a) (.bind 25 (a[(Int.toNat 5)]?) (fun(d:Int)=>AB (⟨({ b with BL:=c,DZ:=(IntKind.wrap .u16 (d)) }:AO)⟩:UI))))
def UB (a:List Int) (b:AO):Option UI:=AU Z8G (.b0 a b)
def Z7I:Shape:=⟨[PQ 0,OV 254],[VA 156 15]⟩
def Zl8:Shape:=⟨[],[VA 156 15]⟩
noncomputable def ZnR:HMod U:=⟨[KP,[.s 25 1]],[.var k0],Z7I,Zl8,false,1382,fun(y:UI)=>((),((y.q0,()),())),fun x=>UB x.1.2.1.1 x.2.1.1,okS rfl⟩
def Zmz:Z06->BH U
 | .b0 a b=>Dj f294 Z7I (((),((a,()),())),((b,()),()))
theorem Z84:Cf Tryz.prog B0 294 ZnR:=okR (mc Z7Z Ag) Af AN [] [.var k0] 1 Zmz func294 (fun p=>by cases p<;>kernel_rfl) (by kernel_rfl) fun x=>by kernel_rfl
inductive Z08 where
 | b0 (a:List Int) (b:AO)
def Zo0:Z08->Tr U (UC⊕Z08)
 | .b0 a b=>.chk (kI (0:Int) a) (.bind 25 (a[(Int.toNat 0)]?) (fun(c:Int)=>.chk (kI (1:Int) a) (.bind 25 (a[(Int.toNat 1)]?) (fun(d:Int)=>AB (⟨({ b with Map:=c,DZ:=(IntKind.wrap .u16 (d)) }:AO)⟩:UC)))))
def UD (a:List Int) (b:AO):Option UC:=AU Zo0 (.b0 a b)
def Z7M:Shape:=⟨[PQ 0,OV 254],[VA 156 15]⟩
def Zlm:Shape:=⟨[],[VA 156 15]⟩
noncomputable def Zo4:HMod U:=⟨[KP,[.s 25 1]],[.var k0],Z7M,Zlm,false,1383,fun(y:UC)=>((),((y.q0,()),())),fun x=>UD x.1.2.1.1 x.2.1.1,okS rfl⟩
def ZnF:Z08->BH U
 | .b0 a b=>Dj f298 Z7M (((),((a,()),())),((b,()),()))
theorem Z82:Cf Tryz.prog B0 298 Zo4:=okR Ag Af AN [] [.var k0] 1 ZnF func298 (fun p=>by cases p<;>kernel_rfl) (by kernel_rfl) fun x=>by kernel_rfl
inductive ZR where
 | b0 (a:List Int) (b:AO)
def Z8n:ZR->Tr U (UG⊕ZR)
 | .b0 a b=>.bind 24 (nN a) (fun(c:DR)=>AB (⟨({ b with BL:=c }:AO)⟩:UG))
def UJ (a:List Int) (b:AO):Option UG:=AU Z8n (.b0 a b)
def Z7s:Shape:=⟨[PQ 0,OV 254],[VA 156 15]⟩
def Zld:Shape:=⟨[],[VA 156 15]⟩
noncomputable def Zom:HMod U:=⟨[KP,[.s 25 1]],[.var k0],Z7s,Zld,false,1384,fun(y:UG)=>((),((y.q0,()),())),fun x=>UJ x.1.2.1.1 x.2.1.1,okS rfl⟩
def Zna:ZR->BH U
 | .b0 a b=>Dj f301 Z7s (((),((a,()),())),((b,()),()))
theorem Z8g:Cf Tryz.prog B0 301 Zom:=okR (mc Z7Z Ag) Af AN [] [.var k0] 1 Zna func301 (fun p=>by cases p<;>kernel_rfl) (by kernel_rfl) fun x=>by kernel_rfl
inductive Zr where
 | b0 (a:List Int) (b:AO)
def Zmi:Zr->Tr U (Tt⊕Zr)
 | .b0 a b=>.chk (kI (0:Int) a) (.bind 25 (a[(Int.toNat 0)]?) (fun(c:Int)=>AB (⟨({ b with CQ:=(AQ (c)) }:AO)⟩:Tt)))
def Tu (a:List Int) (b:AO):Option Tt:=AU Zmi (.b0 a b)
def Z7e:Shape:=⟨[PQ 0,OV 254],[VA 156 15]⟩
def ZkT:Shape:=⟨[],[VA 156 15]⟩
noncomputable def Znw:HMod U:=⟨[KP,[.s 25 1]],[.var k0],Z7e,ZkT,false,1385,fun(y:Tt)=>((),((y.q0,()),())),fun x=>Tu x.1.2.1.1 x.2.1.1,okS rfl⟩
def ZlR:Zr->BH U
 | .b0 a b=>Dj f304 Z7e (((),((a,()),())),((b,()),()))
theorem Z7A:Cf Tryz.prog B0 304 Znw:=okR Ag Af AN [] [.var k0] 1 ZlR func304 (fun p=>by cases p<;>kernel_rfl) (by kernel_rfl) fun x=>by kernel_rfl
inductive Zt where
 | b0 (a:List Int) (b:AO)
def Zn5:Zt->Tr U (Tq⊕Zt)
 | .b0 a b=>.chk (kI (0:Int) a) (.bind 25 (a[(Int.toNat 0)]?) (fun(c:Int)=>.chk (kI (1:Int) a) (.bind 25 (a[(Int.toNat 1)]?) (fun(d:Int)=>AB (⟨({ b with CZ:=c,Mark:=d }:AO)⟩:Tq)))))
def Tz (a:List Int) (b:AO):Option Tq:=AU Zn5 (.b0 a b)
def Z6U:Shape:=⟨[PQ 0,OV 254],[VA 156 15]⟩
def ZkG:Shape:=⟨[],[VA 156 15]⟩
noncomputable def Znc:HMod U:=⟨[KP,[.s 25 1]],[.var k0],Z6U,ZkG,false,1386,fun(y:Tq)=>((),((y.q0,()),())),fun x=>Tz x.1.2.1.1 x.2.1.1,okS rfl⟩
def ZlO:Zt->BH U
 | .b0 a b=>Dj f308 Z6U (((),((a,()),())),((b,()),()))
theorem Z7v:Cf Tryz.prog B0 308 Znc:=okR Ag Af AN [] [.var k0] 1 ZlO func308 (fun p=>by cases p<;>kernel_rfl) (by kernel_rfl) fun x=>by kernel_rfl
inductive ZE where
 | b0 (a:List Int) (b:AO)
def Zmq:ZE->Tr U (Ti⊕ZE)
 | .b0 a b=>.chk (kI (0:Int) a) (.bind 25 (a[(Int.toNat 0)]?) (fun(c:Int)=>AB (⟨({ b with CZ:=c }:AO)⟩:Ti)))
def Tm (a:List Int) (b:AO):Option Ti:=AU Zmq (.b0 a b)
def Z6W:Shape:=⟨[PQ 0,OV 254],[VA 156 15]⟩
def ZkN:Shape:=⟨[],[VA 156 15]⟩
noncomputable def Zni:HMod U:=⟨[KP,[.s 25 1]],[.var k0],Z6W,ZkN,false,1387,fun(y:Ti)=>((),((y.q0,()),())),fun x=>Tm x.1.2.1.1 x.2.1.1,okS rfl⟩
def ZlY:ZE->BH U
 | .b0 a b=>Dj f311 Z6W (((),((a,()),())),((b,()),()))
theorem Z7J:Cf Tryz.prog B0 311 Zni:=okR Ag Af AN [] [.var k0] 1 ZlY func311 (fun p=>by cases p<;>kernel_rfl) (by kernel_rfl) fun x=>by kernel_rfl
inductive Zo where
 | b0 (a:List Int) (b:AO)
def Zmy:Zo->Tr U (Tj⊕Zo)
 | .b0 a b=>.chk (kI (0:Int) a) (.bind 25 (a[(Int.toNat 0)]?) (fun(c:Int)=>AB (⟨({ b with ER:=(AQ (c)) }:AO)⟩:Tj)))
def UA (a:List Int) (b:AO):Option Tj:=AU Zmy (.b0 a b)
def Z7a:Shape:=⟨[PQ 0,OV 254],[VA 156 15]⟩
def Zkz:Shape:=⟨[],[VA 156 15]⟩
noncomputable def ZmD:HMod U:=⟨[KP,[.s 25 1]],[.var k0],Z7a,Zkz,false,1388,fun(y:Tj)=>((),((y.q0,()),())),fun x=>UA x.1.2.1.1 x.2.1.1,okS rfl⟩
def ZlJ:Zo->BH U
 | .b0 a b=>Dj f313 Z7a (((),((a,()),())),((b,()),()))
theorem Z7u:Cf Tryz.prog B0 313 ZmD:=okR Ag Af AN [] [.var k0] 1 ZlJ func313 (fun p=>by cases p<;>kernel_rfl) (by kernel_rfl) fun x=>by kernel_rfl
inductive ZL where
 | b0 (a:List Int) (b:AO)
def Zn7:ZL->Tr U (Tf⊕ZL)
 | .b0 a b=>.chk (kI (0:Int) a) (.bind 25 (a[(Int.toNat 0)]?) (fun(c:Int)=>AB (⟨({ b with Version:=(AQ (c)) }:AO)⟩:Tf)))
def Tv (a:List Int) (b:AO):Option Tf:=AU Zn7 (.b0 a b)
def Z6T:Shape:=⟨[PQ 0,OV 254],[VA 156 15]⟩
def ZkC:Shape:=⟨[],[VA 156 15]⟩
noncomputable def Zml:HMod U:=⟨[KP,[.s 25 1]],[.var k0],Z6T,ZkC,false,1389,fun(y:Tf)=>((),((y.q0,()),())),fun x=>Tv x.1.2.1.1 x.2.1.1,okS rfl⟩
def ZlX:ZL->BH U
 | .b0 a b=>Dj f316 Z6T (((),((a,()),())),((b,()),()))
theorem Z7N:Cf Tryz.prog B0 316 Zml:=okR Ag Af AN [] [.var k0] 1 ZlX func316 (fun p=>by cases p<;>kernel_rfl) (by kernel_rfl) fun x=>by kernel_rfl
inductive Zv where
 | b0 (a:List Int) (b:AO)
def ZmL:Zv->Tr U (Td⊕Zv)
 | .b0 a b=>.chk (kI (0:Int) a) (.bind 25 (a[(Int.toNat 0)]?) (fun(c:Int)=>.chk (kI (1:Int) a) (.bind 25 (a[(Int.toNat 1)]?) (fun(d:Int)=>AB (⟨({ b with CQ:=(AQ (c)),ER:=(AQ (d)) }:AO)⟩:Td)))))
def Tn (a:List Int) (b:AO):Option Td:=AU ZmL (.b0 a b)
def Z7g:Shape:=⟨[PQ 0,OV 254],[VA 156 15]⟩
def ZkR:Shape:=⟨[],[VA 156 15]⟩
noncomputable def ZmG:HMod U:=⟨[KP,[.s 25 1]],[.var k0],Z7g,ZkR,false,1390,fun(y:Td)=>((),((y.q0,()),())),fun x=>Tn x.1.2.1.1 x.2.1.1,okS rfl⟩
def ZlL:Zv->BH U
 | .b0 a b=>Dj f319 Z7g (((),((a,()),())),((b,()),()))
theorem Z7z:Cf Tryz.prog B0 319 ZmG:=okR Ag Af AN [] [.var k0] 1 ZlL func319 (fun p=>by cases p<;>kernel_rfl) (by kernel_rfl) fun x=>by kernel_rfl
inductive ZZ where
 | b0 (a:List Int) (b:AO)
def Zoq:ZZ->Tr U (Kw⊕ZZ)
 | .b0 b a=>AB (⟨a⟩:Kw)
def JU (a:List Int) (b:AO):Option Kw:=AU Zoq (.b0 a b)
def Z7q:Shape:=⟨[PQ 0,OV 254],[VA 156 15]⟩
def Zlb:Shape:=⟨[],[VA 156 15]⟩
noncomputable def ZnH:HMod U:=⟨[KP,[.s 25 1]],[.var k0],Z7q,Zlb,false,1379,fun(y:Kw)=>((),((y.q0,()),())),fun x=>JU x.1.2.1.1 x.2.1.1,okS rfl⟩
def Zn4:ZZ->BH U
 | .b0 a b=>Dj f349 Z7q (((),((a,()),())),((b,()),()))
theorem Z8f:Cf Tryz.prog B0 349 ZnH:=okR Ag Af AN [] [.var k0] 1 Zn4 func349 (fun p=>by cases p<;>kernel_rfl) (by kernel_rfl) fun x=>by kernel_rfl
inductive Zf where
 | b0 (a:List Int) (b:AO)
def Zl9:Zf->Tr U (Pq⊕Zf)
 | .b0 a b=>.chk (kI (0:Int) a) (.bind 25 (a[(Int.toNat 0)]?) (fun(c:Int)=>AB (⟨({ b with D7:=c }:AO)⟩:Pq)))
def O7 (a:List Int) (b:AO):Option Pq:=AU Zl9 (.b0 a b)
def Z6o:Shape:=⟨[PQ 0,OV 254],[VA 156 15]⟩
def Zk2:Shape:=⟨[],[VA 156 15]⟩
noncomputable def Zl7:HMod U:=⟨[KP,[.s 25 1]],[.var k0],Z6o,Zk2,false,1380,fun(y:Pq)=>((),((y.q0,()),())),fun x=>O7 x.1.2.1.1 x.2.1.1,okS rfl⟩
def ZkV:Zf->BH U
 | .b0 a b=>Dj f351 Z6o (((),((a,()),())),((b,()),()))
theorem Z6B:Cf Tryz.prog B0 351 Zl7:=okR Ag Af AN [] [.var k0] 1 ZkV func351 (fun p=>by cases p<;>kernel_rfl) (by kernel_rfl) fun x=>by kernel_rfl
inductive ZB where
 | b0 (a:List Int) (b:AO)
def Zny:ZB->Tr U (QA⊕ZB)
 | .b0 a b=>.chk (kI (0:Int) a) (.bind 25 (a[(Int.toNat 0)]?) (fun(c:Int)=>AB (⟨({ b with Length:=(AQ (c)) }:AO)⟩:QA)))
def O8 (a:List Int) (b:AO):Option QA:=AU Zny (.b0 a b)
def Z6V:Shape:=⟨[PQ 0,OV 254],[VA 156 15]⟩
def Zku:Shape:=⟨[],[VA 156 15]⟩
noncomputable def Znu:HMod U:=⟨[KP,[.s 25 1]],[.var k0],Z6V,Zku,false,1381,fun(y:QA)=>((),((y.q0,()),())),fun x=>O8 x.1.2.1.1 x.2.1.1,okS rfl⟩
def ZlU:ZB->BH U
 | .b0 a b=>Dj f353 Z6V (((),((a,()),())),((b,()),()))
theorem Z7o:Cf Tryz.prog B0 353 Znu:=okR Ag Af AN [] [.var k0] 1 ZlU func353 (fun p=>by cases p<;>kernel_rfl) (by kernel_rfl) fun x=>by kernel_rfl
def F7 (z:AO) (g:AO->Option (List Int)) (ky:Nat) (f:List Int->AO->Option (U.Ty ky)) (q:U.Ty ky->AO) (h:AO->Option Int):Tr U (Int⊕(AO×Unit)):=
 .br (!true) (AB (12:Int)) (.bind 254 (g z) (fun(A:List Int)=>.bind ky (f A (⟨z.Kind,CE,0,0,0,0,0,0,0,0,0⟩:AO)) (fun D=>.br (!(eqC (q D) z)) (AB (1:Int)) (.bind 45 (h z) (fun(C:Int)=>AB C)))))
def JF:S1 (AO×Unit) Int
 | (a,_)=>let e:=F7 a mX 1381 O8 QA.q0 mP;let d:=F7 a lY 1380 O7 Pq.q0 Ob;let c:=F7 a V8 1379 JU Kw.q0 Ob;.bind 249 (QC) (fun(b:Unit)=>.br (a.Kind==5) c (.br (a.Kind==6) c (.br (a.Kind==18) c (.br (a.Kind==19) c (.br (a.Kind==8) d (.br (a.Kind==9) d (.br (a.Kind==20) e (.br (a.Kind==21) e (.br (a.Kind==0) (F7 a Z07 1382 UB UI.q0 Z02) (.br (a.Kind==1) (F7 a Z0a 1383 UD UC.q0 Z0b) (.br (a.Kind==15) (F7 a ZV 1384 UJ UG.q0 ZT) (.br (a.Kind==2) (F7 a ZG 1385 Tu Tt.q0 ZP) (.br (a.Kind==3) (F7 a ZM 1386 Tz Tq.q0 Ob) (.br (a.Kind==4) (F7 a Zx 1387 Tm Ti.q0 Ob) (.br (a.Kind==7) (F7 a ZH 1388 UA Tj.q0 ZI) (.br (a.Kind==12) (F7 a Zq 1389 Tv Tf.q0 Zy) (.br (a.Kind==13) (F7 a Zz 1390 Tn Td.q0 Zu) (.br (!false) (AB (12:Int)) (.fail)))))))))))))))))))
def OA (a:AO):Option Int:=AU JF (a,())
theorem Zp0:AA1 228 [156] 45 (fun x=>OA x.1) rfl:=ok1 (mc Z8Y (mc ZnE (mc ZnB (mc ZnG (mc ZmF (mc ZmY (mc Znq (mc ZlP (mc Zmd (mc Zmc (mc Zps (mc Zlv (mc Zm2 (mc ZlC (mc Zm9 (mc Zmf (mc ZlM (mc Zm3 (mc Zmu (mc ZkK (mc ZlD (mc Zlz Ag)))))))))))))))))))))) (hc [] Z84 (hc [] Z82 (hc [] Z8g (hc [] Z7A (hc [] Z7v (hc [] Z7J (hc [] Z7u (hc [] Z7N (hc [] Z7z (hc [] Z8f (hc [] Z6B (hc [] Z7o Af)))))))))))) func228 (fun _=>by kernel_rfl) (by kernel_rfl)
end
noncomputable section
inductive Z0T where
 | b0 (a b:List Int)
 | b1 (a b:List Int) (c:Int) (d:List Int) (e f:Int)
 | b2 (a b c:List Int) (d e:Int)
 | b3 (a b:List Int) (c d:Int) (e:List Int) (f g h i:Int)
def Kz:Z0T->Tr U (((List Int)×(List Int)×Int)⊕Z0T)
 | .b0 b a=>AP (.b1 b a (0:Int) a (↑a.length:Int) (0:Int))
 | .b1 b c e d f a=>let i:=([]:List Int);.br (decide (a<f)) (.chk (kI a d) (.bind 3 (d[(Int.toNat a)]?) (fun(g:Int)=>.bind 4 (oO g) (fun(h:Bool)=>.br (!h) (.chk true (.chk true (AB (i,i,(5:Int))))) (AP (.b1 b c (AQ (e+g)) d f (AQ (a+1)))))))) (.br (decide ((↑b.length:Int)<e)) (.chk true (.chk true (AB (i,i,(3:Int))))) (.chk true (AP (.b2 b i c (↑c.length:Int) (0:Int)))))
 | .b2 d a c e b=>.br (decide (b<e)) (.chk (kI b c) (.bind 3 (c[(Int.toNat b)]?) (fun(f:Int)=>kl a (AP (.b3 d a f (0:Int) c e b f (0:Int)))))) (.chk true (.bind 62 (UN ([d])) (fun(g:List Int)=>kl a (AB (a,g,(0:Int))))))
 | .b3 a b d e f g h i c=>let l:=Int.toNat d;let k:=AQ ((8:Int)*c);.br (decide (c<i)) (.chk (kI c a) (.bind 5 (a[(Int.toNat c)]?) (fun(j:Int)=>.chk (decide (0<=k)) (kl b (AP (.b3 a b d (bits .or .u64 e (IntKind.wrap .u64 ((IntKind.wrap .u64 (j))*2 ^ (min (Int.toNat k) (IntKind.bits .u64))))) f g h i (AQ (c+1)))))))) (.chk true (kl b (.chk (kA (b.length+1) 8) (.chk (decide (0<=d/\d<=(↑a.length:Int))) (kl (b++[e]) (AP (.b2 ((a.drop l).take (a.length - l)) (b++[e]) f g (AQ (h+1)))))))))
def aS (a b:List Int):Option ((List Int)×(List Int)×Int):=AU Kz (.b0 a b)
def Z9e:Lay:=LT [0,1,7,15,16,17] [.v 62,.v 226,.v 3,.v 226,.v 3,.v 3] []
def Z9i:Lay:=LT [0,10,32,33,34] [.v 62,.o 25 1 0,.v 226,.v 3,.v 3] [.r 25]
def Z9s:Lay:=LT [0,10,12,13,32,33,34,38,39] [.v 62,.o 25 1 0,.v 3,.v 25,.v 226,.v 3,.v 3,.v 3,.v 3] [.r 25]
def Zqd:Z0T->BH U
 | .b0 a b=>Bg f276 [62,226] (a,b,())
 | .b1 a b c d e f=>AA3 f276 [1,1,0,1,0,0,0] Z9e (a,b,c,d,e,f,())
 | .b2 a b c d e=>AA3 f276 [1,1,1,1,1,0,1,0,0,0] Z9i (a,c,d,e,b,())
 | .b3 a b c d e f g h i=>AA3 f276 [1,1,1,1,1,0,1,0,0,1,1,0,0,1,1,0,1,0,0,0] Z9s (a,c,d,e,f,g,h,i,b,())
theorem Zrf:AA1 276 [62,226] 279 (fun x=>aS x.1 x.2.1) rfl:=Bj (mc aA (mc Z9o Ag)) Af (al [(3,Z9e),(13,Z9i),(17,Z9s)]) Zqd func276 (fun p=>by cases p<;>kernel_rfl) (by kernel_rfl) fun _=>rfl
def JE (z sz:List Int) (ky:Nat) (f:List Int->AO->Option (U.Ty ky)) (q:U.Ty ky->AO):Tr U ((AO×Int)⊕((List Int)×Unit)):=
 .br (!true) (AB (EZ,12)) (.chk (decide (0<=(1:Int)/\(1:Int)<=(↑z.length:Int))) (.bind 279 (aS ((z.drop (Int.toNat 1)).take (z.length - (Int.toNat 1))) sz) (fun(A:(List Int)×(List Int)×Int)=>.br (A.2.2 != 0) (AB (EZ,A.2.2)) (.br (decide ((↑A.2.1.length:Int)>0)) (AB (EZ,2)) (.chk (kI (0:Int) z) (.bind 5 (z[(Int.toNat 0)]?) (fun(F:Int)=>.bind ky (f A.1 (⟨(AQ (F)),CE,0,0,0,0,0,0,0,0,0⟩:AO)) (fun D=>.bind 45 (OA (q D)) (fun(C:Int)=>.br (C != 0) (AB (EZ,C)) (AB (q D,0)))))))))))
def Z92:S1 ((List Int)×Unit) (AO×Int)
 | (a,_)=>let m:=Int.toNat 1;let l:=(kI (0:Int) a);let k:=(↑a.length:Int);let j:=a[(Int.toNat 0)]?;let i:=JE a [1] 1381 O8 QA.q0;let h:=JE a [8] 1380 O7 Pq.q0;let g:=JE a [] 1379 JU Kw.q0;.br (k==0) (AB (EZ,3)) (.bind 249 (QC) (fun(e:Unit)=>.chk l (.bind 5 j (fun(b:Int)=>let f:=AQ (b);.br (f==5) g (.br (f==6) g (.br (f==18) g (.br (f==19) g (.br (f==8) h (.br (f==9) h (.br (f==20) i (.br (f==21) i (.br (f==0) (JE a [1,2,2,2,2,2] 1382 UB UI.q0) (.br (f==1) (JE a [5,2] 1383 UD UC.q0) (.br (f==15) (JE a [1,2,2,2,2] 1384 UJ UG.q0) (.br (f==2) (JE a [1] 1385 Tu Tt.q0) (.br (f==3) (JE a [8,8] 1386 Tz Tq.q0) (.br (f==4) (JE a [8] 1387 Tm Ti.q0) (.br (f==7) (JE a [1] 1388 UA Tj.q0) (.br (f==12) (JE a [1] 1389 Tv Tf.q0) (.br (f==13) (JE a [1,1] 1390 Tn Td.q0) (.br (!false) (AB (EZ,12)) (.chk (decide (0<=(1:Int)/\(1:Int)<=k)) (.bind 279 (aS ((a.drop m).take (a.length - m)) ([])) (fun(c:(List Int)×(List Int)×Int)=>.br (c.2.2 != 0) (AB (EZ,c.2.2)) (.br (decide ((↑c.2.1.length:Int)>0)) (AB (EZ,2)) (.chk l (.bind 5 j (fun(d:Int)=>.fail))))))))))))))))))))))))))))
def MC (a:List Int):Option (AO×Int):=AU Z92 (a,())
theorem Z8m:AA1 207 [62] 231 (fun x=>MC x.1) rfl:=ok1 (mc Zp0 (mc Z8Y (mc Zrf Ag))) (hc [] Z84 (hc [] Z82 (hc [] Z8g (hc [] Z7A (hc [] Z7v (hc [] Z7J (hc [] Z7u (hc [] Z7N (hc [] Z7z (hc [] Z8f (hc [] Z6B (hc [] Z7o Af)))))))))))) func207 (fun _=>by kernel_rfl) (by kernel_rfl)
inductive Yp where
 | b0 (a:AZ) (b:AO)
 | b1 (a:AO) (b:AZ) (c:BD)
 | b2 (a:AO) (b:AZ) (c:BD)
 | b3 (a:AZ) (b:BD)
 | b4 (a:AZ) (b:BD)
def Z98:Yp->Tr U ((AZ×(List Au))⊕Yp)
 | .b0 c b=>.bind 1363 (Vg c (0:Int) (0:Int)) (fun(a:OB)=>let e:=kL a.q0.AA.A8&&(kL a.q0.AA.Aq&&(kL a.q0.f_out&&kL a.q0.BG));let d:=Tr.chk e (AP (Yp.b2 b ED a.q0));.br (a.q0.AA.Eb==0) (.br (a.q0.AA.Own==2) (.br (b.Kind==2) (.chk e (AP (.b1 b ED a.q0))) d) d) d)
 | .b1 b c a=>.chk (kL a.AA.A8&&(kL a.AA.Aq&&(kL a.f_out&&kL a.BG))) (AP (.b2 b c ({ a with AA:=({ a.AA with Eb:=22 }:AZ) }:BD)))
 | .b2 c b a=>let e:=kL a.AA.A8&&(kL a.AA.Aq&&(kL a.f_out&&kL a.BG));let f:=Tr.chk e (AP (Yp.b4 b a));.bind 4 (Tc c.Kind) (fun(d:Bool)=>.br d (.br (a.AA.Own==c.Kind) (.chk e (AP (.b3 b a))) f) f)
 | .b3 b a=>.chk (kL a.AA.A8&&(kL a.AA.Aq&&(kL a.f_out&&kL a.BG))) (AP (.b4 b ({ a with AA:=({ a.AA with Told:=true }:AZ) }:BD)))
 | .b4 b a=>kl a.AA.A8 (kl a.AA.Aq (.chk true (AB (a.AA,([]:List Au)))))
def Z0g (a:AZ) (b:AO):Option (AZ×(List Au)):=AU Z98 (.b0 a b)
def mW:Lay:=⟨[3,4,6],[KP,KP,KP],[.var k0,.var k1,.var k5,.row true,.row true,.row true,.row true],⟨[PQ 0,PQ 1,PQ 2],[VA 156 15,VA 39 20,.var 211 24 (Ep 3),.row 156 true,.row 138 true,.row 156 true,.row 148 true]⟩⟩
def nG:Lay:=⟨[4,6],[KP,KP],[.var k1,.var k5,.row true,.row true,.row true,.row true],⟨[PQ 0,PQ 1],[VA 39 20,.var 211 24 (Ep 2),.row 156 true,.row 138 true,.row 156 true,.row 148 true]⟩⟩
def Zob:Yp->BH U
 | .b0 a b=>Bg f208 [39,156] (a,b,())
 | .b1 a b c=>Ae f208 [1,1,0,1,0] mW (((),((),((),()))),((a,()),((b,()),(FV c))))
 | .b2 a b c=>Ae f208 [1,1,1,0,0] mW (((),((),((),()))),((a,()),((b,()),(FV c))))
 | .b3 a b=>Ae f208 [1,1,1,0,1,0] nG (((),((),())),((a,()),(FV b)))
 | .b4 a b=>Ae f208 [1,1,1,1,0] nG (((),((),())),((a,()),(FV b)))
theorem Zoy:AA1 208 [39,156] 233 (fun x=>Z0g x.1 x.2.1) rfl:=Bj (mc YZ Ag) (hc [] oD Af) (al [(3,mW),(4,mW),(5,nG),(6,nG)]) Zob func208 (fun p=>by cases p<;>kernel_rfl) (by kernel_rfl) fun _=>rfl
def Zae:S1 (Bq×Bool×Bool×Unit) Bq
 | (a,b,c,_)=>AB ({ a with Nh:=b,IY:=c }:Bq)
def oV (a:Bq) (b c:Bool):Option Bq:=AU Zae (a,b,c,())
theorem Z9j:AA1 209 [41,4,4] 41 (fun x=>oV x.1 x.2.1 x.2.2.1) rfl:=ok1 Ag Af func209 (fun _=>by kernel_rfl) (by kernel_rfl)
inductive YX where
 | b0 (a:Int) (b:List Au) (c:BQ)
 | b1 (a:Int) (b:List Au) (c d:Int) (e:BQ)
def Z6Q:YX->Tr U (Px⊕YX)
 | .b0 c b a=>.chk (kL a.Link.Ac&&(kL a.Ak&&kL a.Link.Ac)) (AP (.b1 c b (↑b.length:Int) (0:Int) a))
 | .b1 c f g d a=>.br (decide (d<g)) (.chk (kI d f) (.bind 148 (f[(Int.toNat d)]?) (fun(b:Au)=>.bind 1344 (Jk b.Aw.Payload) (fun(e:Kv)=>let h:=a.Ak++[({ b with Event:=c,Aw:=(⟨b.Aw.Bz,e.q0⟩:Az) }:Au)];kl e.q0 (.chk true (kl a.Ak (.chk (kA (a.Ak.length+1) 160) (.chk (kL a.Link.Ac&&((h.length==h.length)&&kL a.Link.Ac)) (AP (.b1 c f g (AQ (d+1)) (⟨a.Link,h⟩:BQ))))))))))) (.chk (kL a.Link.Ac&&(kL a.Ak&&kL a.Link.Ac)) (AB (⟨a⟩:Px)))
def lV (a:Int) (b:List Au) (c:BQ):Option Px:=AU Z6Q (.b0 a b c)
def Z6z:Shape:=⟨[PQ 0,OV 30,OV 77],[.var 118 67 (Jh 1),.row 156 false,.row 148 true]⟩
def Zk3:Shape:=⟨[],[.var 118 67 (Jh 1),.row 156 false,.row 148 true]⟩
noncomputable def Zl6:HMod U:=⟨[KP,KP,[.s 148 18]],[.var k9,.row false,.row true],Z6z,Zk3,false,1372,fun(y:Px)=>((),(VF y.q0)),fun x=>lV x.1.2.1.1 x.1.2.2.1.1 (match x with|⟨_,⟨Y,v2,v4,v5,v6,v7,v8,v9,q,z,A,C,D,F,G,I,J,M,N,O,Q,S,_⟩,v1,v3,_⟩=>(⟨(⟨Y,v2,v4,v5,v6,v7,v8,v9,q,z,A,C,D,F,G,I,J,M,N,O,v1,Q,S⟩:Ad),v3⟩:BQ)),okS rfl⟩
def Z6u:Lay:=⟨[0,1,8,9,10],[KP,KP,[.s 148 18],KP,KP],[.var k9,.row false,.row true],⟨[PQ 0,OV 30,OV 77,OV 3,OV 3],[.var 118 67 (Jh 1),.row 156 false,.row 148 true]⟩⟩
def ZkJ:YX->BH U
 | .b0 a b c=>Dj f181 Z6z (((),((a,()),((b,()),()))),(VF c))
 | .b1 a b c d e=>Ae f181 [1,0,0,0] Z6u (((),((a,()),((b,()),((c,()),((d,()),()))))),(VF e))
theorem Z6H:Cf Tryz.prog B0 181 Zl6:=okR Ag (hc [] RH Af) (al [(1,Z6u)]) [] [.var k9,.row false,.row true] 3 ZkJ func181 (fun p=>by cases p<;>kernel_rfl) (by kernel_rfl) fun x=>by kernel_rfl
inductive YU where
 | b0 (a:Az) (b:Bool) (c:BQ)
 | b1 (a:BQ) (b:Az)
def Z6M:YU->Tr U (Nu⊕YU)
 | .b0 b c a=>let f:=(⟨({ a.Link with EX:=true }:Ad),a.Ak⟩:BQ);let e:=kL a.Link.Ac&&(kL a.Ak&&(kL a.Link.AA.A8&&(kL a.Link.AA.Aq&&kL a.Link.Ac)));let g:=kL a.Link.AA.A8&&(kL a.Link.AA.Aq&&e);.br c (kl a.Link.AA.A8 (kl a.Link.AA.Aq (.chk e (AB (⟨f,a.Link.AA.A8,a.Link.AA.Aq⟩:Nu))))) (.br a.Link.EL.Nh (.bind 41 (oW a.Link.EL true false) (fun(d:Bq)=>.chk g (AP (.b1 (⟨({ a.Link with EX:=true,EL:=d }:Ad),a.Ak⟩:BQ) b)))) (.chk g (AP (.b1 f b))))
 | .b1 a d=>let g:=kl a.Link.AA.A8 (kl a.Link.AA.Aq (.chk (kL a.Link.Ac&&(kL a.Ak&&(kL a.Link.AA.A8&&(kL a.Link.AA.Aq&&kL a.Link.Ac)))) (AB (⟨a,a.Link.AA.A8,a.Link.AA.Aq⟩:Nu))));.br (d.Bz != 3) g (.bind 231 (MC d.Payload) (fun(c:AO×Int)=>.br (c.2 != 0) g (kl a.Link.AA.A8 (kl a.Link.AA.Aq (.bind 233 (Z0g a.Link.AA c.1) (fun(e:AZ×(List Au))=>.chk (kL a.Link.Ac&&(kL a.Ak&&kL a.Link.Ac)) (.bind 1372 (lV a.Link.Event e.2 (⟨({ a.Link with AA:=e.1 }:Ad),a.Ak⟩:BQ)) (fun(b:Px)=>let h:=kL b.q0.Link.Ac&&(kL b.q0.Ak&&(kL a.Link.AA.A8&&(kL a.Link.AA.Aq&&kL b.q0.Link.Ac)));.br (c.1.Kind==5) (.bind 41 (oV b.q0.Link.EL true b.q0.Link.EL.IY) (fun(f:Bq)=>.chk h (AB (⟨(⟨({ b.q0.Link with EL:=f }:Ad),b.q0.Ak⟩:BQ),a.Link.AA.A8,a.Link.AA.Aq⟩:Nu)))) (.chk h (AB (⟨b.q0,a.Link.AA.A8,a.Link.AA.Aq⟩:Nu)))))))))))
def Za (a:Az) (b:Bool) (c:BQ):Option Nu:=AU Z6M (.b0 a b c)
def Z6i:Shape:=⟨[PQ 0,.agg [.v 68 2 true],OV 4],[.var 118 67 (ag10 1),.row 156 false,.row 138 false,.row 156 false,.row 148 true]⟩
def ZjC:Shape:=⟨[],[.var 118 67 (Jh 3),.row 156 false,.row 138 false,.row 156 false,.row 148 true]⟩
noncomputable def ZkO:HMod U:=⟨[KP,[.keep,.s 5 1],KP],[.var k20,.row false,.row false,.row false,.row true],Z6i,ZjC,false,1371,fun(y:Nu)=>((),((Qw y.q0),(y.q1,(y.q2,(y.q0.Link.Ac,(y.q0.Ak,())))))),fun x=>Za x.1.2.1.1 x.1.2.2.1.1 (match x with|⟨_,⟨v0,v2,v4,v6,v8,v9,q,z,A,C,D,F,G,I,J,M,N,O,Q,S,Y,v25,v26,v27,v28,v29,v30,v31,v32,v33,v34,v35,v36,v37,v38,v39,v40,v41,v42,_⟩,v1,v3,v5,v7,_⟩=>(⟨(⟨v0,v2,v4,v6,v8,v9,q,z,A,C,D,F,G,I,J,M,(⟨N,O,Q,v1,S,Y,v3,v25,v26,v27,v28,v29,v30,v31,v32,v33,v34,v35,v36,v37⟩:AZ),v38,v39,v40,v5,v41,v42⟩:Ad),v7⟩:BQ)),okS rfl⟩
def Z6c:Lay:=⟨[0,4],[KP,KP],[.var k20,.row false,.row false,.row false,.row true,.var [.keep,.s 5 1]],⟨[PQ 0,PQ 5],[.var 118 67 (ag10 1),.row 156 false,.row 138 false,.row 156 false,.row 148 true,VA 68 2]⟩⟩
def Zkt:YU->BH U
 | .b0 b c a=>Dj f111 Z6i (((),((b,()),((c,()),()))),((a.Link.CB,(a.Link.Df,(a.Link.Clock,(a.Link.Event,(a.Link.Last,(a.Link.F9,(a.Link.Size,(a.Link.Sync,(a.Link.Hm,(a.Link.GU,(a.Link.Ez,(a.Link.Good,(a.Link.EX,(a.Link.More,(a.Link.Ar,(a.Link.DY,(a.Link.AA.CB,(a.Link.AA.Own,(a.Link.AA.Since,(a.Link.AA.Other,(a.Link.AA.Fv,(a.Link.AA.Told,(a.Link.AA.D7,(a.Link.AA.I7,(a.Link.AA.Fq,(a.Link.AA.Gi,(a.Link.AA.Version,(a.Link.AA.Length,(a.Link.AA.Limit,(a.Link.AA.CZ,(a.Link.AA.Gw,(a.Link.AA.Mark,(a.Link.AA.Dy,(a.Link.AA.Eb,(a.Link.EL,(a.Link.Key,(a.Link.DJ,(a.Link.CQ,(a.Link.Hq,()))))))))))))))))))))))))))))))))))))))),(a.Link.AA.A8,(a.Link.AA.Aq,(a.Link.Ac,(a.Ak,()))))))
 | .b1 a b=>AA3 f111 [1,1,1,1,0,0] Z6c (a.Link.CB,a.Link.Df,a.Link.Clock,a.Link.Event,a.Link.Last,a.Link.F9,a.Link.Size,a.Link.Sync,a.Link.Hm,a.Link.GU,a.Link.Ez,a.Link.Good,a.Link.EX,a.Link.More,a.Link.Ar,a.Link.DY,a.Link.AA.CB,a.Link.AA.Own,a.Link.AA.Since,a.Link.AA.Other,a.Link.AA.Fv,a.Link.AA.Told,a.Link.AA.D7,a.Link.AA.I7,a.Link.AA.Fq,a.Link.AA.Gi,a.Link.AA.Version,a.Link.AA.Length,a.Link.AA.Limit,a.Link.AA.CZ,a.Link.AA.Gw,a.Link.AA.Mark,a.Link.AA.Dy,a.Link.AA.Eb,a.Link.EL,a.Link.Key,a.Link.DJ,a.Link.CQ,a.Link.Hq,a.Link.AA.A8,a.Link.AA.Aq,a.Link.Ac,a.Ak,b,())
theorem Zko:Cf Tryz.prog B0 111 ZkO:=okR (mc Z9k (mc Z8m (mc Zoy (mc Z9j Ag)))) (hc [] Z6H Af) (al [(5,Z6c)]) [] [.var k9,.row false,.row false,.row false,.row true] 5 Zkt func111 (fun p=>by cases p<;>kernel_rfl) (by kernel_rfl) fun x=>by kernel_rfl
end
noncomputable section
inductive Y0 where
 | b0 (a:Int) (b:List Au) (c:BQ)
 | b1 (a:Int) (b:List Au) (c d:Int) (e:BQ)
def Z73:Y0->Tr U (TY⊕Y0)
 | .b0 c a b=>kl a (.chk (kL a&&(kL b.Link.Ac&&(kL b.Ak&&kL b.Link.Ac))) (AP (.b1 c a (↑a.length:Int) (0:Int) b)))
 | .b1 d b g e a=>.br (decide (e<g)) (kl b (.chk (kI e b) (kl b (.bind 148 (b[(Int.toNat e)]?) (fun(c:Au)=>.bind 1344 (Jk c.Aw.Payload) (fun(f:Kv)=>let h:=a.Ak++[({ c with Event:=d,Aw:=(⟨c.Aw.Bz,f.q0⟩:Az) }:Au)];kl f.q0 (.chk true (kl a.Ak (.chk (kA (a.Ak.length+1) 160) (.chk (kL b&&(kL a.Link.Ac&&((h.length==h.length)&&kL a.Link.Ac))) (AP (.b1 d b g (AQ (e+1)) (⟨a.Link,h⟩:BQ))))))))))))) (.chk (kL a.Link.Ac&&(kL a.Ak&&kL a.Link.Ac)) (AB (⟨a,b⟩:TY)))
def Zd (a:Int) (b:List Au) (c:BQ):Option TY:=AU Z73 (.b0 a b c)
def Z6w:Shape:=⟨[PQ 0,OV 30,.one (.own 148 1)],[.var 118 67 (Jh 2),.row 148 true,.row 156 false,.row 148 true]⟩
def Zkc:Shape:=⟨[],[.var 118 67 (Jh 2),.row 148 true,.row 156 false,.row 148 true]⟩
noncomputable def Zl3:HMod U:=⟨[KP,KP,[.own 148 18]],[.var k9,.row true,.row false,.row true],Z6w,Zkc,false,1374,fun(y:TY)=>((),((Qw y.q0),(y.q1,(y.q0.Link.Ac,(y.q0.Ak,()))))),fun x=>Zd x.1.2.1.1 x.2.2.1 (match x with|⟨_,⟨Y,v1,v3,v5,v6,v7,v8,v9,q,z,A,C,D,F,G,I,J,M,N,O,Q,S,_⟩,_,v2,v4,_⟩=>(⟨(⟨Y,v1,v3,v5,v6,v7,v8,v9,q,z,A,C,D,F,G,I,J,M,N,O,v2,Q,S⟩:Ad),v4⟩:BQ)),okS rfl⟩
def Z6v:Lay:=⟨[0,1,8,9,10],[KP,KP,[.own 148 18],KP,KP],[.var k9,.row true,.row false,.row true],⟨[PQ 0,OV 30,.one (.own 148 1),OV 3,OV 3],[.var 118 67 (Jh 2),.row 148 true,.row 156 false,.row 148 true]⟩⟩
def ZkL:Y0->BH U
 | .b0 b c a=>Dj f181 Z6w (((),((b,()),((),()))),((Qw a),(c,(a.Link.Ac,(a.Ak,())))))
 | .b1 b c d e a=>Ae f181 [1,0,0,0] Z6v (((),((b,()),((),((d,()),((e,()),()))))),((Qw a),(c,(a.Link.Ac,(a.Ak,())))))
theorem ZkH:Cf Tryz.prog B0 181 Zl3:=okR Ag (hc [] RH Af) (al [(1,Z6v)]) [] [.var k9,.row true,.row false,.row true] 4 ZkL func181 (fun p=>by cases p<;>kernel_rfl) (by kernel_rfl) fun x=>by kernel_rfl
def Zci:S1 (Int×ByteArray×(List Int)×Unit) Int
 | (b,a,c,_)=>.chk (X6 U 5 a) (.bind 62 (UT c) (fun(d:List Int)=>kl (KL U 5 a) (.chk true (.chk true (.bind 62 (UN ([(KL U 5 a),[(0:Int)],d])) (fun(e:List Int)=>.bind 25 (gY b e) (fun(f:Int)=>AB f)))))))
def Z1k (a:Int) (b:ByteArray) (c:List Int):Option Int:=AU Zci (a,b,c,())
theorem Zsi:AA1 338 [29,9,254] 29 (fun x=>Z1k x.1 x.2.1 x.2.2.1) rfl:=ok1 (mc aA (mc Z1n (mc Zes Ag))) Af func338 (fun _=>by kernel_rfl) (by kernel_rfl)
inductive Z17 where
 | b0 (a b c d:Int)
 | b1 (a b c d:Int) (e:Bq)
def pO:Z17->Tr U (Bq⊕Z17)
 | .b0 a b c d=>.br (a != 1) (AP (.b1 (0:Int) b c d MG)) (AP (.b1 a b c d MG))
 | .b1 c d a b f=>.chk true (.bind 29 (Z1k d (⟨#[115,101,115,115,105,111,110]⟩:ByteArray) ([a,b])) (fun(e:Int)=>AB (⟨c,e,(bits .xor .u64 a b),false,false,0,0⟩:Bq)))
def Z18 (a b c d:Int):Option Bq:=AU pO (.b0 a b c d)
def Z9p:Lay:=LT [0,1,2,3,8] [.v 3,.v 29,.v 25,.v 25,.p 0] [.s 41]
def ZqF:Z17->BH U
 | .b0 a b c d=>Bg f265 [3,29,25,25] (a,b,c,d,())
 | .b1 a b c d e=>AA3 f265 [1,1,0] Z9p (a,b,c,d,e,())
theorem Zrg:AA1 265 [3,29,25,25] 41 (fun x=>Z18 x.1 x.2.1 x.2.2.1 x.2.2.2.1) rfl:=Bj (mc Zsi Ag) Af (al [(3,Z9p)]) ZqF func265 (fun p=>by cases p<;>kernel_rfl) (by kernel_rfl) fun _=>rfl
inductive YM where
 | b0 (a:AO) (b:BD)
def Z5W:YM->Tr U (Jj⊕YM)
 | .b0 b a=>let c:=a.f_out++[b];.chk true (kl a.f_out (.chk (kA (a.f_out.length+1) 120) (.chk (kL a.AA.A8&&(kL a.AA.Aq&&(kL c&&kL a.BG))) (AB (⟨({ a with f_out:=c }:BD)⟩:Jj)))))
def O5 (a:AO) (b:BD):Option Jj:=AU Z5W (.b0 a b)
def Z5I:Shape:=⟨[PQ 0,.agg [.v 156 15 true]],[.var 211 24 (Ep 1),.row 156 true,.row 138 true,.row 156 true,.row 148 true]⟩
def Zj7:Shape:=⟨[],[.var 211 24 (Ep 1),.row 156 true,.row 138 true,.row 156 true,.row 148 true]⟩
noncomputable def ZjA:HMod U:=⟨[KP,k0],[.var k5,.row true,.row true,.row true,.row true],Z5I,Zj7,false,1398,fun(y:Jj)=>((),(FV y.q0)),fun x=>O5 x.1.2.1.1 (match x with|⟨_,⟨Y,v2,v4,v6,v8,v9,q,z,A,C,D,F,G,I,J,M,N,O,Q,S,_⟩,v1,v3,v5,v7,_⟩=>(⟨(⟨Y,v2,v4,v1,v6,v8,v3,v9,q,z,A,C,D,F,G,I,J,M,N,O⟩:AZ),Q,S,v5,v7⟩:BD)),okS rfl⟩
def Zjs:YM->BH U
 | .b0 a b=>Dj f256 Z5I (((),((a,()),())),(FV b))
theorem Qy:Cf Tryz.prog B0 256 ZjA:=okR Ag Af AN [] [.var k5,.row true,.row true,.row true,.row true] 5 Zjs func256 (fun p=>by cases p<;>kernel_rfl) (by kernel_rfl) fun x=>by kernel_rfl
inductive YL where
 | b0 (a:AO) (b:BD)
 | b1 (a:BD) (b:List BC)
def Z6a:YL->Tr U (Kt⊕YL)
 | .b0 b a=>let f:=kL a.AA.A8&&(kL a.f_out&&(kL a.BG&&kL a.AA.Aq));.bind 4 (Pg (UL a)) (fun(d:Bool)=>.br d (kl a.AA.Aq (.chk f (AB (⟨a,a.AA.Aq⟩:Kt)))) (.bind 138 (mQ b) (fun(e:BC)=>kl a.AA.Aq (.bind 269 (pM a.AA.Aq a.FX e) (fun(c:(List BC)×Int)=>let g:=({ a with AA:=({ a.AA with Other:=b.Kind,Fv:=a.Hg,Aq:=c.1 }:AZ) }:BD);let h:=Tr.chk f (AB (⟨g,a.AA.Aq⟩:Kt));.br (c.2==0) (.br (b.Kind==0) (.br (a.AA.Own==15) (.chk f (AP (.b1 g a.AA.Aq))) h) h) (.br (c.2==18) (kl a.AA.Aq (.chk f (AB (⟨({ a with AA:=({ a.AA with Eb:=40 }:AZ) }:BD),a.AA.Aq⟩:Kt)))) (kl a.AA.Aq (.chk f (AB (⟨({ a with AA:=({ a.AA with Eb:=42 }:AZ) }:BD),a.AA.Aq⟩:Kt))))))))))
 | .b1 a b=>.chk (kL a.AA.A8&&(kL a.f_out&&(kL a.BG&&kL b))) (AB (⟨({ a with AA:=({ a.AA with Own:=-1 }:AZ) }:BD),b⟩:Kt))
def lL (a:AO) (b:BD):Option Kt:=AU Z6a (.b0 a b)
def Z5L:Shape:=⟨[PQ 0,.agg [.v 156 15 true]],[.var 211 24 (Ep 1),.row 156 true,.row 138 true,.row 156 true,.row 148 true]⟩
def Zj3:Shape:=⟨[],[.var 211 24 (ag11 1 3 4),.row 156 true,.row 138 false,.row 156 true,.row 148 true]⟩
noncomputable def ZjK:HMod U:=⟨[KP,k0],[.var k5,.row true,.row true,.row true,.row true],Z5L,Zj3,false,1392,fun(y:Kt)=>((),((tu13 y.q0),(y.q0.AA.A8,(y.q1,(y.q0.f_out,(y.q0.BG,())))))),fun x=>lL x.1.2.1.1 (match x with|⟨_,⟨Y,v2,v4,v6,v8,v9,q,z,A,C,D,F,G,I,J,M,N,O,Q,S,_⟩,v1,v3,v5,v7,_⟩=>(⟨(⟨Y,v2,v4,v1,v6,v8,v3,v9,q,z,A,C,D,F,G,I,J,M,N,O⟩:AZ),Q,S,v5,v7⟩:BD)),okS rfl⟩
def Z5K:Lay:=⟨[0],[KP],[.var k13,.row true,.row false,.row true,.row true],⟨[PQ 0],[.var 211 24 (ag11 1 3 4),.row 156 true,.row 138 false,.row 156 true,.row 148 true]⟩⟩
def Zjj:YL->BH U
 | .b0 a b=>Dj f366 Z5L (((),((a,()),())),(FV b))
 | .b1 a b=>Ae f366 [1,1,1,1,1,1,0] Z5K (((),()),((tu13 a),(a.AA.A8,(b,(a.f_out,(a.BG,()))))))
theorem Zjz:Cf Tryz.prog B0 366 ZjK:=okR (mc TQ (mc Za1 (mc Z7F Ag))) Af (al [(10,Z5K)]) [] [.var k13,.row true,.row false,.row true,.row true] 5 Zjj func366 (fun p=>by cases p<;>kernel_rfl) (by kernel_rfl) fun x=>by kernel_rfl
inductive YF where
 | b0 (a:AO) (b:BD)
def Z5D:YF->Tr U (Qx⊕YF)
 | .b0 b a=>let c:=kL a.AA.A8&&(kL a.AA.Aq&&(kL a.f_out&&kL a.BG));.br (b.CQ==0) (.chk c (AB (⟨({ a with AA:=({ a.AA with Eb:=19 }:AZ) }:BD)⟩:Qx))) (.chk c (AB (⟨({ a with AA:=({ a.AA with Eb:=b.CQ }:AZ) }:BD)⟩:Qx)))
def zO (a:AO) (b:BD):Option Qx:=AU Z5D (.b0 a b)
def Z5z:Shape:=⟨[PQ 0,.agg [.v 156 15 true]],[.var 211 24 (Ep 1),.row 156 true,.row 138 true,.row 156 true,.row 148 true]⟩
def ZiX:Shape:=⟨[],[.var 211 24 (Ep 1),.row 156 true,.row 138 true,.row 156 true,.row 148 true]⟩
noncomputable def Zj5:HMod U:=⟨[KP,k0],[.var k5,.row true,.row true,.row true,.row true],Z5z,ZiX,false,1393,fun(y:Qx)=>((),(FV y.q0)),fun x=>zO x.1.2.1.1 (match x with|⟨_,⟨Y,v2,v4,v6,v8,v9,q,z,A,C,D,F,G,I,J,M,N,O,Q,S,_⟩,v1,v3,v5,v7,_⟩=>(⟨(⟨Y,v2,v4,v1,v6,v8,v3,v9,q,z,A,C,D,F,G,I,J,M,N,O⟩:AZ),Q,S,v5,v7⟩:BD)),okS rfl⟩
def Zj0:YF->BH U
 | .b0 a b=>Dj f367 Z5z (((),((a,()),())),(FV b))
theorem ZiY:Cf Tryz.prog B0 367 Zj5:=okR Ag Af AN [] [.var k5,.row true,.row true,.row true,.row true] 5 Zj0 func367 (fun p=>by cases p<;>kernel_rfl) (by kernel_rfl) fun x=>by kernel_rfl
inductive YT where
 | b0 (a b:Int) (c:BD)
def Z6E:YT->Tr U (Ku⊕YT)
 | .b0 b c a=>let d:=a.BG++[(⟨b,0,(⟨0,[]⟩:Az),Jl,c,CE⟩:Au)];.chk true (kl a.BG (.chk (kA (a.BG.length+1) 160) (.chk (kL a.AA.A8&&(kL a.AA.Aq&&(kL a.f_out&&(d.length==d.length)))) (AB (⟨({ a with BG:=d }:BD)⟩:Ku)))))
def Po (a b:Int) (c:BD):Option Ku:=AU Z6E (.b0 a b c)
def Z6g:Shape:=⟨[PQ 0,OV 3,OV 25],[.var 211 24 (Ep 1),.row 156 true,.row 138 true,.row 156 true,.row 148 true]⟩
def ZjW:Shape:=⟨[],[.var 211 24 (Ep 1),.row 156 true,.row 138 true,.row 156 true,.row 148 true]⟩
noncomputable def ZkM:HMod U:=⟨[KP,KP,KP],[.var k5,.row true,.row true,.row true,.row true],Z6g,ZjW,false,1395,fun(y:Ku)=>((),(FV y.q0)),fun x=>Po x.1.2.1.1 x.1.2.2.1.1 (match x with|⟨_,⟨Y,v2,v4,v6,v8,v9,q,z,A,C,D,F,G,I,J,M,N,O,Q,S,_⟩,v1,v3,v5,v7,_⟩=>(⟨(⟨Y,v2,v4,v1,v6,v8,v3,v9,q,z,A,C,D,F,G,I,J,M,N,O⟩:AZ),Q,S,v5,v7⟩:BD)),okS rfl⟩
def Zkp:YT->BH U
 | .b0 a b c=>Dj f386 Z6g (((),((a,()),((b,()),()))),(FV c))
theorem TT:Cf Tryz.prog B0 386 ZkM:=okR Ag Af AN [] [.var k5,.row true,.row true,.row true,.row true] 5 Zkp func386 (fun p=>by cases p<;>kernel_rfl) (by kernel_rfl) fun x=>by kernel_rfl
inductive YR where
 | b0 (a:AO) (b:BD)
 | b1 (a:BD) (b:AO)
def Z6t:YR->Tr U (Pm⊕YR)
 | .b0 b a=>let d:=kL a.AA.A8&&(kL a.AA.Aq&&(kL a.f_out&&kL a.BG));let e:=Tr.chk d (AB (⟨a⟩:Pm));.bind 4 (Pg (UL a)) (fun(c:Bool)=>.br c e (.br (a.AA.Dy != 0) e (.chk d (AP (.b1 a b)))))
 | .b1 a c=>.chk (kL a.AA.A8&&(kL a.AA.Aq&&(kL a.f_out&&kL a.BG))) (.bind 1395 (Po (8:Int) c.Mark ({ a with AA:=({ a.AA with Other:=3,Fv:=a.Hg,Gw:=c.CZ,Mark:=c.Mark,Dy:=1 }:AZ) }:BD)) (fun(b:Ku)=>.chk (kL b.q0.AA.A8&&(kL b.q0.AA.Aq&&(kL b.q0.f_out&&kL b.q0.BG))) (AB (⟨b.q0⟩:Pm))))
def Z4 (a:AO) (b:BD):Option Pm:=AU Z6t (.b0 a b)
def Z64:Shape:=⟨[PQ 0,.agg [.v 156 15 true]],[.var 211 24 (Ep 1),.row 156 true,.row 138 true,.row 156 true,.row 148 true]⟩
def Zjo:Shape:=⟨[],[.var 211 24 (Ep 1),.row 156 true,.row 138 true,.row 156 true,.row 148 true]⟩
noncomputable def Zkj:HMod U:=⟨[KP,k0],[.var k5,.row true,.row true,.row true,.row true],Z64,Zjo,false,1394,fun(y:Pm)=>((),(FV y.q0)),fun x=>Z4 x.1.2.1.1 (match x with|⟨_,⟨Y,v2,v4,v6,v8,v9,q,z,A,C,D,F,G,I,J,M,N,O,Q,S,_⟩,v1,v3,v5,v7,_⟩=>(⟨(⟨Y,v2,v4,v1,v6,v8,v3,v9,q,z,A,C,D,F,G,I,J,M,N,O⟩:AZ),Q,S,v5,v7⟩:BD)),okS rfl⟩
def Z68:Lay:=⟨[0,3],[KP,KP],[.var k5,.row true,.row true,.row true,.row true,.var k0],⟨[PQ 0,PQ 5],[.var 211 24 (Ep 1),.row 156 true,.row 138 true,.row 156 true,.row 148 true,VA 156 15]⟩⟩
def ZjZ:YR->BH U
 | .b0 a b=>Dj f368 Z64 (((),((a,()),())),(FV b))
 | .b1 a b=>Ae f368 [1,1,0] Z68 (((),((),())),((Xq a),(a.AA.A8,(a.AA.Aq,(a.f_out,(a.BG,((b,()),())))))))
theorem ZjY:Cf Tryz.prog B0 368 Zkj:=okR (mc TQ Ag) (hc [] TT Af) (al [(2,Z68)]) [] [.var k5,.row true,.row true,.row true,.row true] 5 ZjZ func368 (fun p=>by cases p<;>kernel_rfl) (by kernel_rfl) fun x=>by kernel_rfl
inductive YQ where
 | b0 (a:AO) (b:BD)
 | b1 (a:BD) (b:AO)
def Z6d:YQ->Tr U (Ph⊕YQ)
 | .b0 b a=>let d:=kL a.AA.A8&&(kL a.AA.Aq&&(kL a.f_out&&kL a.BG));let e:=Tr.chk d (AB (⟨a⟩:Ph));.bind 4 (Pg (UL a)) (fun(c:Bool)=>.br c (.br (a.AA.Dy==1) (.chk d (AP (.b1 a b))) e) e)
 | .b1 a b=>.chk (kL a.AA.A8&&(kL a.AA.Aq&&(kL a.f_out&&kL a.BG))) (AB (⟨({ a with AA:=({ a.AA with Gw:=b.CZ,Dy:=2 }:AZ) }:BD)⟩:Ph))
def zW (a:AO) (b:BD):Option Ph:=AU Z6d (.b0 a b)
def Z5R:Shape:=⟨[PQ 0,.agg [.v 156 15 true]],[.var 211 24 (Ep 1),.row 156 true,.row 138 true,.row 156 true,.row 148 true]⟩
def Zji:Shape:=⟨[],[.var 211 24 (Ep 1),.row 156 true,.row 138 true,.row 156 true,.row 148 true]⟩
noncomputable def Zk1:HMod U:=⟨[KP,k0],[.var k5,.row true,.row true,.row true,.row true],Z5R,Zji,false,1396,fun(y:Ph)=>((),(FV y.q0)),fun x=>zW x.1.2.1.1 (match x with|⟨_,⟨Y,v2,v4,v6,v8,v9,q,z,A,C,D,F,G,I,J,M,N,O,Q,S,_⟩,v1,v3,v5,v7,_⟩=>(⟨(⟨Y,v2,v4,v1,v6,v8,v3,v9,q,z,A,C,D,F,G,I,J,M,N,O⟩:AZ),Q,S,v5,v7⟩:BD)),okS rfl⟩
def Z5P:Lay:=⟨[0,3],[KP,KP],[.var k5,.row true,.row true,.row true,.row true,.var k0],⟨[PQ 0,PQ 5],[.var 211 24 (Ep 1),.row 156 true,.row 138 true,.row 156 true,.row 148 true,VA 156 15]⟩⟩
def ZjT:YQ->BH U
 | .b0 a b=>Dj f369 Z5R (((),((a,()),())),(FV b))
 | .b1 a b=>Ae f369 [1,1,0] Z5P (((),((),())),((Xq a),(a.AA.A8,(a.AA.Aq,(a.f_out,(a.BG,((b,()),())))))))
theorem ZjJ:Cf Tryz.prog B0 369 Zk1:=okR (mc TQ Ag) Af (al [(2,Z5P)]) [] [.var k5,.row true,.row true,.row true,.row true] 5 ZjT func369 (fun p=>by cases p<;>kernel_rfl) (by kernel_rfl) fun x=>by kernel_rfl
inductive YI where
 | b0 (a:AO) (b:BD)
 | b1 (a:BD)
def Z62:YI->Tr U (Pe⊕YI)
 | .b0 c a=>let d:=kL a.AA.A8&&(kL a.AA.Aq&&(kL a.f_out&&kL a.BG));let e:=Tr.chk d (AB (⟨a⟩:Pe));.bind 4 (Pg (UL a)) (fun(b:Bool)=>.br b (.br (a.AA.Dy==2) (.chk d (AP (.b1 a))) e) e)
 | .b1 a=>.chk (kL a.AA.A8&&(kL a.AA.Aq&&(kL a.f_out&&kL a.BG))) (.bind 1398 (O5 (⟨6,CE,0,0,0,0,0,0,0,0,0⟩:AO) ({ a with AA:=({ a.AA with Dy:=3 }:AZ) }:BD)) (fun(b:Jj)=>.chk (kL b.q0.AA.A8&&(kL b.q0.AA.Aq&&(kL b.q0.f_out&&kL b.q0.BG))) (AB (⟨b.q0⟩:Pe))))
def zS (a:AO) (b:BD):Option Pe:=AU Z62 (.b0 a b)
def Z5E:Shape:=⟨[PQ 0,.agg [.v 156 15 true]],[.var 211 24 (Ep 1),.row 156 true,.row 138 true,.row 156 true,.row 148 true]⟩
def Zj4:Shape:=⟨[],[.var 211 24 (Ep 1),.row 156 true,.row 138 true,.row 156 true,.row 148 true]⟩
noncomputable def ZjV:HMod U:=⟨[KP,k0],[.var k5,.row true,.row true,.row true,.row true],Z5E,Zj4,false,1397,fun(y:Pe)=>((),(FV y.q0)),fun x=>zS x.1.2.1.1 (match x with|⟨_,⟨Y,v2,v4,v6,v8,v9,q,z,A,C,D,F,G,I,J,M,N,O,Q,S,_⟩,v1,v3,v5,v7,_⟩=>(⟨(⟨Y,v2,v4,v1,v6,v8,v3,v9,q,z,A,C,D,F,G,I,J,M,N,O⟩:AZ),Q,S,v5,v7⟩:BD)),okS rfl⟩
def Z5M:Lay:=⟨[0],[KP],[.var k5,.row true,.row true,.row true,.row true],⟨[PQ 0],[.var 211 24 (Ep 1),.row 156 true,.row 138 true,.row 156 true,.row 148 true]⟩⟩
def Zjw:YI->BH U
 | .b0 a b=>Dj f370 Z5E (((),((a,()),())),(FV b))
 | .b1 a=>AA3 f370 [1,1,0,0] Z5M (a.AA.CB,a.AA.Own,a.AA.Since,a.AA.Other,a.AA.Fv,a.AA.Told,a.AA.D7,a.AA.I7,a.AA.Fq,a.AA.Gi,a.AA.Version,a.AA.Length,a.AA.Limit,a.AA.CZ,a.AA.Gw,a.AA.Mark,a.AA.Dy,a.AA.Eb,a.FX,a.Hg,a.AA.A8,a.AA.Aq,a.f_out,a.BG,())
theorem Zjp:Cf Tryz.prog B0 370 ZjV:=okR (mc TQ Ag) (hc [] Qy Af) (al [(2,Z5M)]) [] [.var k5,.row true,.row true,.row true,.row true] 5 Zjw func370 (fun p=>by cases p<;>kernel_rfl) (by kernel_rfl) fun x=>by kernel_rfl
inductive Y4 where
 | b0 (a:AO) (b:BD)
def Z7n:Y4->Tr U (Py⊕Y4)
 | .b0 e a=>let g:=kL a.AA.A8&&(kL a.AA.Aq&&(kL a.f_out&&kL a.BG));.br (a.AA.Dy != 3) (.chk g (AB (⟨a⟩:Py))) (.chk g (.bind 1395 (Po (3:Int) (0:Int) ({ a with AA:=({ a.AA with Dy:=4 }:AZ) }:BD)) (fun(b:Ku)=>let f:=kL b.q0.AA.A8&&(kL b.q0.AA.Aq&&(kL b.q0.f_out&&kL b.q0.BG));.bind 4 (Pg (UL b.q0)) (fun(d:Bool)=>.br d (.chk f (AB (⟨({ b.q0 with AA:=({ b.q0.AA with Own:=-1 }:AZ) }:BD)⟩:Py))) (.chk f (.bind 1398 (O5 (⟨6,CE,0,0,0,0,0,0,0,0,0⟩:AO) b.q0) (fun(c:Jj)=>.chk (kL c.q0.AA.A8&&(kL c.q0.AA.Aq&&(kL c.q0.f_out&&kL c.q0.BG))) (AB (⟨({ c.q0 with AA:=({ c.q0.AA with Other:=-1 }:AZ) }:BD)⟩:Py)))))))))
def Zn (a:AO) (b:BD):Option Py:=AU Z7n (.b0 a b)
def Z6C:Shape:=⟨[PQ 0,.agg [.v 156 15 true]],[.var 211 24 (Ep 1),.row 156 true,.row 138 true,.row 156 true,.row 148 true]⟩
def Zkm:Shape:=⟨[],[.var 211 24 (Ep 1),.row 156 true,.row 138 true,.row 156 true,.row 148 true]⟩
noncomputable def ZlF:HMod U:=⟨[KP,k0],[.var k5,.row true,.row true,.row true,.row true],Z6C,Zkm,false,1399,fun(y:Py)=>((),(FV y.q0)),fun x=>Zn x.1.2.1.1 (match x with|⟨_,⟨Y,v2,v4,v6,v8,v9,q,z,A,C,D,F,G,I,J,M,N,O,Q,S,_⟩,v1,v3,v5,v7,_⟩=>(⟨(⟨Y,v2,v4,v1,v6,v8,v3,v9,q,z,A,C,D,F,G,I,J,M,N,O⟩:AZ),Q,S,v5,v7⟩:BD)),okS rfl⟩
def Zlc:Y4->BH U
 | .b0 a b=>Dj f371 Z6C (((),((a,()),())),(FV b))
theorem Zlf:Cf Tryz.prog B0 371 ZlF:=okR (mc TQ Ag) (hc [] Qy (hc [] TT Af)) AN [] [.var k5,.row true,.row true,.row true,.row true] 5 Zlc func371 (fun p=>by cases p<;>kernel_rfl) (by kernel_rfl) fun x=>by kernel_rfl
inductive YH where
 | b0 (a:AO) (b:BD)
 | b1 (a:BD) (b:AO)
 | b2 (a:BD) (b:AO)
def Z5N:YH->Tr U (Lu⊕YH)
 | .b0 b a=>let e:=kL a.AA.A8&&(kL a.AA.Aq&&(kL a.f_out&&kL a.BG));let d:=Tr.chk e (AB (⟨a⟩:Lu));.br (a.AA.Own != b.ER) d (.bind 4 (Tc a.AA.Own) (fun(c:Bool)=>.br c d (.br (a.AA.Own==2) d (.br (a.AA.Own == -1) d (.chk e (AP (.b1 a b)))))))
 | .b1 a b=>let c:=kL a.AA.A8&&(kL a.AA.Aq&&(kL a.f_out&&kL a.BG));.br (a.AA.Own==3) (.chk c (AP (.b2 ({ a with AA:=({ a.AA with Dy:=0 }:AZ) }:BD) b))) (.chk c (AP (.b2 a b)))
 | .b2 a c=>.chk (kL a.AA.A8&&(kL a.AA.Aq&&(kL a.f_out&&kL a.BG))) (.bind 1395 (Po (9:Int) (IntKind.wrap .u64 (c.ER)) ({ a with AA:=({ a.AA with Own:=-1 }:AZ) }:BD)) (fun(b:Ku)=>.chk (kL b.q0.AA.A8&&(kL b.q0.AA.Aq&&(kL b.q0.f_out&&kL b.q0.BG))) (AB (⟨b.q0⟩:Lu))))
def lJ (a:AO) (b:BD):Option Lu:=AU Z5N (.b0 a b)
def Z5C:Shape:=⟨[PQ 0,.agg [.v 156 15 true]],[.var 211 24 (Ep 1),.row 156 true,.row 138 true,.row 156 true,.row 148 true]⟩
def Zj1:Shape:=⟨[],[.var 211 24 (Ep 1),.row 156 true,.row 138 true,.row 156 true,.row 148 true]⟩
noncomputable def Zjn:HMod U:=⟨[KP,k0],[.var k5,.row true,.row true,.row true,.row true],Z5C,Zj1,false,1400,fun(y:Lu)=>((),(FV y.q0)),fun x=>lJ x.1.2.1.1 (match x with|⟨_,⟨Y,v2,v4,v6,v8,v9,q,z,A,C,D,F,G,I,J,M,N,O,Q,S,_⟩,v1,v3,v5,v7,_⟩=>(⟨(⟨Y,v2,v4,v1,v6,v8,v3,v9,q,z,A,C,D,F,G,I,J,M,N,O⟩:AZ),Q,S,v5,v7⟩:BD)),okS rfl⟩
def lI:Lay:=⟨[0,3],[KP,KP],[.var k5,.row true,.row true,.row true,.row true,.var k0],⟨[PQ 0,PQ 5],[.var 211 24 (Ep 1),.row 156 true,.row 138 true,.row 156 true,.row 148 true,VA 156 15]⟩⟩
def Zjb:YH->BH U
 | .b0 a b=>Dj f372 Z5C (((),((a,()),())),(FV b))
 | .b1 a b=>Ae f372 [1,1,0,0] lI (((),((),())),((Xq a),(a.AA.A8,(a.AA.Aq,(a.f_out,(a.BG,((b,()),())))))))
 | .b2 a b=>Ae f372 [1,1,1,0] lI (((),((),())),((Xq a),(a.AA.A8,(a.AA.Aq,(a.f_out,(a.BG,((b,()),())))))))
theorem Zjd:Cf Tryz.prog B0 372 Zjn:=okR (mc YZ Ag) (hc [] TT Af) (al [(2,lI),(4,lI)]) [] [.var k5,.row true,.row true,.row true,.row true] 5 Zjb func372 (fun p=>by cases p<;>kernel_rfl) (by kernel_rfl) fun x=>by kernel_rfl
inductive YG where
 | b0 (a:AO) (b:BD)
 | b1 (a:Bool) (b:BD) (c:AO)
def Z5V:YG->Tr U (O4⊕YG)
 | .b0 b a=>let e:=b.Kind==9;let c:=kL a.AA.A8&&(kL a.AA.Aq&&(kL a.f_out&&kL a.BG));let d:=Tr.chk c (AP (YG.b1 e a b));.br e (.br (a.AA.Own != 8) (.chk c (AB (⟨a⟩:O4))) d) d
 | .b1 e b d=>let g:=bits .and .u64 b.AA.D7 d.D7;.chk (kL b.AA.A8&&(kL b.AA.Aq&&(kL b.f_out&&kL b.BG))) (.bind 1395 (Po (5:Int) g ({ b with AA:=({ b.AA with I7:=g,Fq:=true }:AZ) }:BD)) (fun(a:Ku)=>let f:=kL a.q0.AA.A8&&(kL a.q0.AA.Aq&&(kL a.q0.f_out&&kL a.q0.BG));.br e (.chk f (AB (⟨({ a.q0 with AA:=({ a.q0.AA with Own:=-1 }:AZ) }:BD)⟩:O4))) (.chk f (.bind 1398 (O5 (⟨9,CE,0,0,0,0,0,0,a.q0.AA.D7,0,0⟩:AO) a.q0) (fun(c:Jj)=>.chk (kL c.q0.AA.A8&&(kL c.q0.AA.Aq&&(kL c.q0.f_out&&kL c.q0.BG))) (AB (⟨c.q0⟩:O4)))))))
def lK (a:AO) (b:BD):Option O4:=AU Z5V (.b0 a b)
def Z5A:Shape:=⟨[PQ 0,.agg [.v 156 15 true]],[.var 211 24 (Ep 1),.row 156 true,.row 138 true,.row 156 true,.row 148 true]⟩
def ZiZ:Shape:=⟨[],[.var 211 24 (Ep 1),.row 156 true,.row 138 true,.row 156 true,.row 148 true]⟩
noncomputable def Zjl:HMod U:=⟨[KP,k0],[.var k5,.row true,.row true,.row true,.row true],Z5A,ZiZ,false,1401,fun(y:O4)=>((),(FV y.q0)),fun x=>lK x.1.2.1.1 (match x with|⟨_,⟨Y,v2,v4,v6,v8,v9,q,z,A,C,D,F,G,I,J,M,N,O,Q,S,_⟩,v1,v3,v5,v7,_⟩=>(⟨(⟨Y,v2,v4,v1,v6,v8,v3,v9,q,z,A,C,D,F,G,I,J,M,N,O⟩:AZ),Q,S,v5,v7⟩:BD)),okS rfl⟩
def Z5B:Lay:=⟨[0,3,4],[KP,KP,KP],[.var k5,.row true,.row true,.row true,.row true,.var k0],⟨[PQ 0,PQ 5,OV 4],[.var 211 24 (Ep 1),.row 156 true,.row 138 true,.row 156 true,.row 148 true,VA 156 15]⟩⟩
def Zjh:YG->BH U
 | .b0 a b=>Dj f373 Z5A (((),((a,()),())),(FV b))
 | .b1 b a c=>Ae f373 [1,1,1,0] Z5B (((),((),((b,()),()))),((Xq a),(a.AA.A8,(a.AA.Aq,(a.f_out,(a.BG,((c,()),())))))))
theorem Zjg:Cf Tryz.prog B0 373 Zjl:=okR Ag (hc [] Qy (hc [] TT Af)) (al [(3,Z5B)]) [] [.var k5,.row true,.row true,.row true,.row true] 5 Zjh func373 (fun p=>by cases p<;>kernel_rfl) (by kernel_rfl) fun x=>by kernel_rfl
inductive YK where
 | b0 (a:AO) (b:BD)
def Z60:YK->Tr U (P9⊕YK)
 | .b0 d b=>.chk (kL b.AA.A8&&(kL b.AA.Aq&&(kL b.f_out&&kL b.BG))) (.bind 1395 (Po (6:Int) (IntKind.wrap .u64 (d.Version)) ({ b with AA:=({ b.AA with Version:=d.Version }:AZ) }:BD)) (fun(a:Ku)=>let e:=kL a.q0.AA.A8&&(kL a.q0.AA.Aq&&(kL a.q0.f_out&&kL a.q0.BG));.br (a.q0.AA.Own==12) (.chk e (AB (⟨({ a.q0 with AA:=({ a.q0.AA with Own:=-1 }:AZ) }:BD)⟩:P9))) (.br (!a.q0.AA.Gi) (.chk e (.bind 1398 (O5 (⟨12,CE,0,0,0,0,0,0,0,11,0⟩:AO) ({ a.q0 with AA:=({ a.q0.AA with Gi:=true }:AZ) }:BD)) (fun(c:Jj)=>.chk (kL c.q0.AA.A8&&(kL c.q0.AA.Aq&&(kL c.q0.f_out&&kL c.q0.BG))) (AB (⟨c.q0⟩:P9))))) (.chk e (AB (⟨a.q0⟩:P9))))))
def zT (a:AO) (b:BD):Option P9:=AU Z60 (.b0 a b)
def Z5F:Shape:=⟨[PQ 0,.agg [.v 156 15 true]],[.var 211 24 (Ep 1),.row 156 true,.row 138 true,.row 156 true,.row 148 true]⟩
def Zj6:Shape:=⟨[],[.var 211 24 (Ep 1),.row 156 true,.row 138 true,.row 156 true,.row 148 true]⟩
noncomputable def ZjM:HMod U:=⟨[KP,k0],[.var k5,.row true,.row true,.row true,.row true],Z5F,Zj6,false,1402,fun(y:P9)=>((),(FV y.q0)),fun x=>zT x.1.2.1.1 (match x with|⟨_,⟨Y,v2,v4,v6,v8,v9,q,z,A,C,D,F,G,I,J,M,N,O,Q,S,_⟩,v1,v3,v5,v7,_⟩=>(⟨(⟨Y,v2,v4,v1,v6,v8,v3,v9,q,z,A,C,D,F,G,I,J,M,N,O⟩:AZ),Q,S,v5,v7⟩:BD)),okS rfl⟩
def Zjt:YK->BH U
 | .b0 a b=>Dj f374 Z5F (((),((a,()),())),(FV b))
theorem Zjr:Cf Tryz.prog B0 374 ZjM:=okR Ag (hc [] Qy (hc [] TT Af)) AN [] [.var k5,.row true,.row true,.row true,.row true] 5 Zjt func374 (fun p=>by cases p<;>kernel_rfl) (by kernel_rfl) fun x=>by kernel_rfl
end
noncomputable section
inductive YN where
 | b0 (a:AO) (b:BD)
def Z6f:YN->Tr U (Pj⊕YN)
 | .b0 c a=>let g:=kL a.AA.A8&&(kL a.AA.Aq&&(kL a.f_out&&kL a.BG));let f:=a.BG++[(⟨12,0,(⟨0,[]⟩:Az),Jl,0,c.BL⟩:Au)];.bind 4 (Pg (UL a)) (fun(d:Bool)=>.br (!d) (.chk g (AB (⟨a⟩:Pj))) (.bind 4 (Tc a.AA.Own) (fun(e:Bool)=>.br e (.chk g (.bind 1398 (O5 (⟨13,CE,0,0,42,15,0,0,0,0,0⟩:AO) a) (fun(b:Jj)=>.chk (kL b.q0.AA.A8&&(kL b.q0.AA.Aq&&(kL b.q0.f_out&&kL b.q0.BG))) (AB (⟨b.q0⟩:Pj))))) (.chk true (kl a.BG (.chk (kA (a.BG.length+1) 160) (.chk (kL a.AA.A8&&(kL a.AA.Aq&&(kL a.f_out&&(f.length==f.length)))) (AB (⟨({ a with AA:=({ a.AA with Other:=15,Fv:=a.Hg }:AZ),BG:=f }:BD)⟩:Pj)))))))))
def zZ (a:AO) (b:BD):Option Pj:=AU Z6f (.b0 a b)
def Z5T:Shape:=⟨[PQ 0,.agg [.v 156 15 true]],[.var 211 24 (Ep 1),.row 156 true,.row 138 true,.row 156 true,.row 148 true]⟩
def Zje:Shape:=⟨[],[.var 211 24 (Ep 1),.row 156 true,.row 138 true,.row 156 true,.row 148 true]⟩
noncomputable def Zkd:HMod U:=⟨[KP,k0],[.var k5,.row true,.row true,.row true,.row true],Z5T,Zje,false,1403,fun(y:Pj)=>((),(FV y.q0)),fun x=>zZ x.1.2.1.1 (match x with|⟨_,⟨Y,v2,v4,v6,v8,v9,q,z,A,C,D,F,G,I,J,M,N,O,Q,S,_⟩,v1,v3,v5,v7,_⟩=>(⟨(⟨Y,v2,v4,v1,v6,v8,v3,v9,q,z,A,C,D,F,G,I,J,M,N,O⟩:AZ),Q,S,v5,v7⟩:BD)),okS rfl⟩
def ZjO:YN->BH U
 | .b0 a b=>Dj f375 Z5T (((),((a,()),())),(FV b))
theorem ZjH:Cf Tryz.prog B0 375 Zkd:=okR (mc TQ (mc YZ Ag)) (hc [] Qy Af) AN [] [.var k5,.row true,.row true,.row true,.row true] 5 ZjO func375 (fun p=>by cases p<;>kernel_rfl) (by kernel_rfl) fun x=>by kernel_rfl
inductive YV where
 | b0 (a:AO) (b:BD)
def Z6K:YV->Tr U (TV⊕YV)
 | .b0 c a=>.chk (kL a.AA.A8&&(kL a.AA.Aq&&(kL a.f_out&&kL a.BG))) (.bind 1398 (O5 (⟨19,CE,0,0,0,0,0,0,0,0,0⟩:AO) a) (fun(b:Jj)=>.chk (kL b.q0.AA.A8&&(kL b.q0.AA.Aq&&(kL b.q0.f_out&&kL b.q0.BG))) (AB (⟨b.q0⟩:TV))))
def Zb (a:AO) (b:BD):Option TV:=AU Z6K (.b0 a b)
def Z6e:Shape:=⟨[PQ 0,.agg [.v 156 15 true]],[.var 211 24 (Ep 1),.row 156 true,.row 138 true,.row 156 true,.row 148 true]⟩
def ZjU:Shape:=⟨[],[.var 211 24 (Ep 1),.row 156 true,.row 138 true,.row 156 true,.row 148 true]⟩
noncomputable def ZkI:HMod U:=⟨[KP,k0],[.var k5,.row true,.row true,.row true,.row true],Z6e,ZjU,false,1404,fun(y:TV)=>((),(FV y.q0)),fun x=>Zb x.1.2.1.1 (match x with|⟨_,⟨Y,v2,v4,v6,v8,v9,q,z,A,C,D,F,G,I,J,M,N,O,Q,S,_⟩,v1,v3,v5,v7,_⟩=>(⟨(⟨Y,v2,v4,v1,v6,v8,v3,v9,q,z,A,C,D,F,G,I,J,M,N,O⟩:AZ),Q,S,v5,v7⟩:BD)),okS rfl⟩
def Zks:YV->BH U
 | .b0 a b=>Dj f376 Z6e (((),((a,()),())),(FV b))
theorem Zkh:Cf Tryz.prog B0 376 ZkI:=okR Ag (hc [] Qy Af) AN [] [.var k5,.row true,.row true,.row true,.row true] 5 Zks func376 (fun p=>by cases p<;>kernel_rfl) (by kernel_rfl) fun x=>by kernel_rfl
inductive YP where
 | b0 (a:AO) (b:BD)
def Z6k:YP->Tr U (RD⊕YP)
 | .b0 c a=>let d:=kL a.AA.A8&&(kL a.AA.Aq&&(kL a.f_out&&kL a.BG));.br (a.AA.Own==18) (.chk d (.bind 1395 (Po (7:Int) (0:Int) ({ a with AA:=({ a.AA with Own:=-1 }:AZ) }:BD)) (fun(b:Ku)=>.chk (kL b.q0.AA.A8&&(kL b.q0.AA.Aq&&(kL b.q0.f_out&&kL b.q0.BG))) (AB (⟨b.q0⟩:RD))))) (.chk d (AB (⟨a⟩:RD)))
def zY (a:AO) (b:BD):Option RD:=AU Z6k (.b0 a b)
def Z5Q:Shape:=⟨[PQ 0,.agg [.v 156 15 true]],[.var 211 24 (Ep 1),.row 156 true,.row 138 true,.row 156 true,.row 148 true]⟩
def Zja:Shape:=⟨[],[.var 211 24 (Ep 1),.row 156 true,.row 138 true,.row 156 true,.row 148 true]⟩
noncomputable def Zk7:HMod U:=⟨[KP,k0],[.var k5,.row true,.row true,.row true,.row true],Z5Q,Zja,false,1405,fun(y:RD)=>((),(FV y.q0)),fun x=>zY x.1.2.1.1 (match x with|⟨_,⟨Y,v2,v4,v6,v8,v9,q,z,A,C,D,F,G,I,J,M,N,O,Q,S,_⟩,v1,v3,v5,v7,_⟩=>(⟨(⟨Y,v2,v4,v1,v6,v8,v3,v9,q,z,A,C,D,F,G,I,J,M,N,O⟩:AZ),Q,S,v5,v7⟩:BD)),okS rfl⟩
def ZjS:YP->BH U
 | .b0 a b=>Dj f377 Z5Q (((),((a,()),())),(FV b))
theorem ZjP:Cf Tryz.prog B0 377 Zk7:=okR Ag (hc [] TT Af) AN [] [.var k5,.row true,.row true,.row true,.row true] 5 ZjS func377 (fun p=>by cases p<;>kernel_rfl) (by kernel_rfl) fun x=>by kernel_rfl
inductive YO where
 | b0 (a:AO) (b:BD)
 | b1 (a:Bool) (b:BD) (c:AO)
def Z6j:YO->Tr U (O6⊕YO)
 | .b0 b a=>let e:=b.Kind==21;let c:=kL a.AA.A8&&(kL a.AA.Aq&&(kL a.f_out&&kL a.BG));let d:=Tr.chk c (AP (YO.b1 e a b));.br e (.br (a.AA.Own != 20) (.chk c (AB (⟨a⟩:O6))) d) d
 | .b1 e b d=>let g:=if b.AA.Limit<d.Length then b.AA.Limit else d.Length;.chk (kL b.AA.A8&&(kL b.AA.Aq&&(kL b.f_out&&kL b.BG))) (.bind 1395 (Po (11:Int) (IntKind.wrap .u64 (g)) ({ b with AA:=({ b.AA with Length:=g }:AZ) }:BD)) (fun(a:Ku)=>let f:=kL a.q0.AA.A8&&(kL a.q0.AA.Aq&&(kL a.q0.f_out&&kL a.q0.BG));.br e (.chk f (AB (⟨({ a.q0 with AA:=({ a.q0.AA with Own:=-1 }:AZ) }:BD)⟩:O6))) (.chk f (.bind 1398 (O5 (⟨21,CE,0,0,0,0,0,0,0,0,a.q0.AA.Limit⟩:AO) a.q0) (fun(c:Jj)=>.chk (kL c.q0.AA.A8&&(kL c.q0.AA.Aq&&(kL c.q0.f_out&&kL c.q0.BG))) (AB (⟨c.q0⟩:O6)))))))
def lM (a:AO) (b:BD):Option O6:=AU Z6j (.b0 a b)
def Z5O:Shape:=⟨[PQ 0,.agg [.v 156 15 true]],[.var 211 24 (Ep 1),.row 156 true,.row 138 true,.row 156 true,.row 148 true]⟩
def Zjc:Shape:=⟨[],[.var 211 24 (Ep 1),.row 156 true,.row 138 true,.row 156 true,.row 148 true]⟩
noncomputable def Zka:HMod U:=⟨[KP,k0],[.var k5,.row true,.row true,.row true,.row true],Z5O,Zjc,false,1406,fun(y:O6)=>((),(FV y.q0)),fun x=>lM x.1.2.1.1 (match x with|⟨_,⟨Y,v2,v4,v6,v8,v9,q,z,A,C,D,F,G,I,J,M,N,O,Q,S,_⟩,v1,v3,v5,v7,_⟩=>(⟨(⟨Y,v2,v4,v1,v6,v8,v3,v9,q,z,A,C,D,F,G,I,J,M,N,O⟩:AZ),Q,S,v5,v7⟩:BD)),okS rfl⟩
def Z5U:Lay:=⟨[0,3,4],[KP,KP,KP],[.var k5,.row true,.row true,.row true,.row true,.var k0],⟨[PQ 0,PQ 5,OV 4],[.var 211 24 (Ep 1),.row 156 true,.row 138 true,.row 156 true,.row 148 true,VA 156 15]⟩⟩
def ZjF:YO->BH U
 | .b0 a b=>Dj f378 Z5O (((),((a,()),())),(FV b))
 | .b1 b a c=>Ae f378 [1,1,1,0] Z5U (((),((),((b,()),()))),((Xq a),(a.AA.A8,(a.AA.Aq,(a.f_out,(a.BG,((c,()),())))))))
theorem ZjI:Cf Tryz.prog B0 378 Zka:=okR Ag (hc [] Qy (hc [] TT Af)) (al [(3,Z5U)]) [] [.var k5,.row true,.row true,.row true,.row true] 5 ZjF func378 (fun p=>by cases p<;>kernel_rfl) (by kernel_rfl) fun x=>by kernel_rfl
inductive V6 where
 | b0 (a:AZ) (b:AO) (c d:Int)
 | b1 (a:AZ) (b:BD)
def hdB (A:AO) (y:BD) (ky:Nat) (f:AO->BD->Option (U.Ty ky)) (q:U.Ty ky->BD):Tr U ((AZ×(List AO)×(List Au))⊕V6):=
 .chk (kL y.AA.A8&&(kL y.AA.Aq&&(kL y.f_out&&kL y.BG))) (.bind ky (f A y) (fun z=>kl (q z).AA.Aq (.chk (kL (q z).AA.A8&&(kL (q z).f_out&&kL (q z).BG)) (AP (.b1 ED (q z))))))
def Z88:V6->Tr U ((AZ×(List AO)×(List Au))⊕V6)
 | .b0 f a g h=>let j:=(if (255:Int)<a.Kind then (255:Int) else a.Kind);.bind 1363 (Vg f g h) (fun(b:OB)=>let n:=lL a b.q0;let m:=hdB a b.q0 1406 lM O6.q0;let l:=hdB a b.q0 1401 lK O4.q0;let k:=hdB a b.q0 1400 lJ Lu.q0;let i:=kL b.q0.AA.A8&&(kL b.q0.AA.Aq&&(kL b.q0.f_out&&kL b.q0.BG));.br (b.q0.AA.Eb != 0) (kl b.q0.AA.A8 (kl b.q0.AA.Aq (.chk true (.chk true (AB (b.q0.AA,([]:List AO),([]:List Au))))))) (.br (a.Kind==0) (.chk i (.bind 1392 n (fun(d:Kt)=>.chk (kL d.q0.AA.A8&&(kL d.q0.f_out&&kL d.q0.BG)) (AP (.b1 ED d.q0))))) (.br (a.Kind==1) (.chk i (.bind 1392 n (fun(e:Kt)=>.chk (kL e.q0.AA.A8&&(kL e.q0.f_out&&kL e.q0.BG)) (AP (.b1 ED e.q0))))) (.br (a.Kind==2) (hdB a b.q0 1393 zO Qx.q0) (.br (a.Kind==3) (hdB a b.q0 1394 Z4 Pm.q0) (.br (a.Kind==4) (hdB a b.q0 1396 zW Ph.q0) (.br (a.Kind==5) (hdB a b.q0 1397 zS Pe.q0) (.br (a.Kind==6) (hdB a b.q0 1399 Zn Py.q0) (.br (a.Kind==7) k (.br (a.Kind==13) k (.br (a.Kind==8) l (.br (a.Kind==9) l (.br (a.Kind==12) (hdB a b.q0 1402 zT P9.q0) (.br (a.Kind==15) (hdB a b.q0 1403 zZ Pj.q0) (.br (a.Kind==18) (hdB a b.q0 1404 Zb TV.q0) (.br (a.Kind==19) (hdB a b.q0 1405 zY RD.q0) (.br (a.Kind==20) m (.br (a.Kind==21) m (.chk i (.bind 1398 (O5 (⟨7,CE,0,0,0,(if j>0 then j else (0:Int)),0,0,0,0,0⟩:AO) b.q0) (fun(c:Jj)=>kl c.q0.AA.Aq (.chk (kL c.q0.AA.A8&&(kL c.q0.f_out&&kL c.q0.BG)) (AP (.b1 ED c.q0))))))))))))))))))))))))
 | .b1 b a=>kl a.AA.A8 (kl a.f_out (kl a.BG (AB (a.AA,a.f_out,a.BG))))
def ZO (a:AZ) (b:AO) (c d:Int):Option (AZ×(List AO)×(List Au)):=AU Z88 (.b0 a b c d)
def Z6Z:Lay:=⟨[8,11],[KP,KP],[.var k1,.var k13,.row true,.row true,.row true],⟨[PQ 0,PQ 1],[VA 39 20,.var 211 24 (kW 2),.row 156 true,.row 156 true,.row 148 true]⟩⟩
def ZlG:V6->BH U
 | .b0 a b c d=>Bg f277 [39,156,30,3] (a,b,c,d,())
 | .b1 a b=>Ae f277 [1,1,1,1,0] Z6Z (((),((),())),((a,()),(YC b)))
theorem ZlT:AA1 277 [39,156,30,3] 237 (fun x=>ZO x.1 x.2.1 x.2.2.1 x.2.2.2.1) rfl:=Bj Ag (hc [] oD (hc [] Qy (hc [] Zjz (hc [] ZiY (hc [] ZjY (hc [] ZjJ (hc [] Zjp (hc [] Zlf (hc [] Zjd (hc [] Zjg (hc [] Zjr (hc [] ZjH (hc [] Zkh (hc [] ZjP (hc [] ZjI Af))))))))))))))) (al [(8,Z6Z)]) ZlG func277 (fun p=>by cases p<;>kernel_rfl) (by kernel_rfl) fun _=>rfl
inductive Y6 where
 | b0 (a:AO) (b:Int) (c:BQ)
 | b1 (a:BQ) (b:AZ)
def Z8a:Y6->Tr U (O9⊕Y6)
 | .b0 d e b=>.bind 237 (ZO b.Link.AA d b.Link.Event e) (fun(c:AZ×(List AO)×(List Au))=>let h:=b.Link.Ac++c.2.1;kl b.Link.Ac (.chk (kA (b.Link.Ac.length+c.2.1.length) 120) (.chk (kL h&&(kL b.Ak&&kL h)) (.bind 1372 (lV b.Link.Event c.2.2 (⟨({ b.Link with AA:=c.1,Ac:=h }:Ad),b.Ak⟩:BQ)) (fun(a:Px)=>let g:=kL a.q0.Link.Ac&&(kL a.q0.Ak&&kL a.q0.Link.Ac);let f:=Tr.chk g (AB (⟨a.q0⟩:O9));.br (a.q0.Link.CB==0) (.br (d.Kind==5) (.br (c.1.Dy==3) (.chk g (AP (.b1 a.q0 c.1))) f) f) f)))))
 | .b1 a b=>.bind 41 (Z18 a.Link.CB a.Link.Key b.CZ b.Gw) (fun(c:Bq)=>.bind 41 (oV c true true) (fun(d:Bq)=>.chk (kL a.Link.Ac&&(kL a.Ak&&kL a.Link.Ac)) (AB (⟨(⟨({ a.Link with EL:=d }:Ad),a.Ak⟩:BQ)⟩:O9))))
def ZC (a:AO) (b:Int) (c:BQ):Option O9:=AU Z8a (.b0 a b c)
def Z76:Shape:=⟨[PQ 0,.agg [.v 156 15 true],OV 3],[.var 118 67 (Jh 1),.row 156 false,.row 148 true]⟩
def ZkF:Shape:=⟨[],[.var 118 67 (Jh 1),.row 156 false,.row 148 true]⟩
noncomputable def ZmW:HMod U:=⟨[KP,k0,KP],[.var k9,.row false,.row true],Z76,ZkF,false,1375,fun(y:O9)=>((),(VF y.q0)),fun x=>ZC x.1.2.1.1 x.1.2.2.1.1 (match x with|⟨_,⟨Y,v2,v4,v5,v6,v7,v8,v9,q,z,A,C,D,F,G,I,J,M,N,O,Q,S,_⟩,v1,v3,_⟩=>(⟨(⟨Y,v2,v4,v5,v6,v7,v8,v9,q,z,A,C,D,F,G,I,J,M,N,O,v1,Q,S⟩:Ad),v3⟩:BQ)),okS rfl⟩
def Z7d:Lay:=⟨[0,6],[KP,KP],[.var k9,.row false,.row true,.var k1],⟨[PQ 0,PQ 3],[.var 118 67 (Jh 1),.row 156 false,.row 148 true,VA 39 20]⟩⟩
def Zm0:Y6->BH U
 | .b0 a b c=>Dj f210 Z76 (((),((a,()),((b,()),()))),(VF c))
 | .b1 a b=>Ae f210 [1,1,1,1,1,1,0] Z7d (((),((),())),((Qw a),(a.Link.Ac,(a.Ak,((b,()),())))))
theorem ZlV:Cf Tryz.prog B0 210 ZmW:=okR (mc Z9j (mc Zrg (mc ZlT Ag))) (hc [] Z6H Af) (al [(6,Z7d)]) [] [.var k9,.row false,.row true] 3 Zm0 func210 (fun p=>by cases p<;>kernel_rfl) (by kernel_rfl) fun x=>by kernel_rfl
inductive Y5 where
 | b0 (a:Az) (b:Int) (c:BQ)
 | b1 (a:BQ) (b:Az)
def Z7O:Y5->Tr U (Nw⊕Y5)
 | .b0 b f a=>let g:=kL a.Link.Ac&&(kL a.Ak&&kL a.Link.Ac);let h:=Tr.chk g (AB (⟨a⟩:Nw));.br (b.Bz != 3) (.chk (true&&g) (.bind 1374 (Zd a.Link.Event ([(⟨1,0,b,Jl,0,CE⟩:Au)]) a) (fun(c:TY)=>.chk (kL c.q0.Link.Ac&&(kL c.q0.Ak&&kL c.q0.Link.Ac)) (AB (⟨c.q0⟩:Nw))))) (.bind 231 (MC b.Payload) (fun(e:AO×Int)=>.br (e.2==0) (.chk g (.bind 1375 (ZC e.1 f a) (fun(d:O9)=>.chk (kL d.q0.Link.Ac&&(kL d.q0.Ak&&kL d.q0.Link.Ac)) (AB (⟨d.q0⟩:Nw))))) (.br (e.2==12) (.br (decide ((↑b.Payload.length:Int)>0)) (.chk g (AP (.b1 a b))) h) h)))
 | .b1 a c=>.chk (kI (0:Int) c.Payload) (.bind 5 (c.Payload[(Int.toNat 0)]?) (fun(b:Int)=>let d:=a.Link.Ac++[(⟨7,CE,0,0,0,(AQ (b)),0,0,0,0,0⟩:AO)];let e:=d.length==d.length;.chk true (kl a.Link.Ac (.chk (kA (a.Link.Ac.length+1) 120) (.chk (e&&(kL a.Ak&&e)) (AB (⟨(⟨({ a.Link with Ac:=d }:Ad),a.Ak⟩:BQ)⟩:Nw)))))))
def Zj (a:Az) (b:Int) (c:BQ):Option Nw:=AU Z7O (.b0 a b c)
def Z6F:Shape:=⟨[PQ 0,.agg [.v 68 2 true],OV 3],[.var 118 67 (Jh 1),.row 156 false,.row 148 true]⟩
def Zkl:Shape:=⟨[],[.var 118 67 (Jh 1),.row 156 false,.row 148 true]⟩
noncomputable def Zlu:HMod U:=⟨[KP,[.keep,.s 5 1],KP],[.var k9,.row false,.row true],Z6F,Zkl,false,1373,fun(y:Nw)=>((),(VF y.q0)),fun x=>Zj x.1.2.1.1 x.1.2.2.1.1 (match x with|⟨_,⟨Y,v2,v4,v5,v6,v7,v8,v9,q,z,A,C,D,F,G,I,J,M,N,O,Q,S,_⟩,v1,v3,_⟩=>(⟨(⟨Y,v2,v4,v5,v6,v7,v8,v9,q,z,A,C,D,F,G,I,J,M,N,O,v1,Q,S⟩:Ad),v3⟩:BQ)),okS rfl⟩
def Z6D:Lay:=⟨[0,4],[KP,KP],[.var k9,.row false,.row true,.var [.keep,.s 5 1]],⟨[PQ 0,PQ 3],[.var 118 67 (Jh 1),.row 156 false,.row 148 true,VA 68 2]⟩⟩
def ZkX:Y5->BH U
 | .b0 a b c=>Dj f113 Z6F (((),((a,()),((b,()),()))),(VF c))
 | .b1 a b=>Ae f113 [1,1,1,0,1,1,1,0] Z6D (((),((),())),((Qw a),(a.Link.Ac,(a.Ak,((b,()),())))))
theorem Zlg:Cf Tryz.prog B0 113 Zlu:=okR (mc Z8m Ag) (hc [] ZkH (hc [] ZlV Af)) (al [(7,Z6D)]) [] [.var k9,.row false,.row true] 3 ZkX func113 (fun p=>by cases p<;>kernel_rfl) (by kernel_rfl) fun x=>by kernel_rfl
inductive aF where
 | b0 (a:Ad) (b:List Int) (c:Bool) (d:Int)
 | b1 (a:List Int) (b:Int) (c:Ad) (d:BQ)
 | b2 (a:List Int) (b:Int) (c:Ad) (d:BQ)
 | b3 (a:Int) (b:Bool) (c:Ad) (d:BQ) (e:BM)
 | b4 (a:Int) (b:Bool) (c:Ad) (d:BQ) (e:BM)
 | b5 (a:Int) (b c:Bool) (d:Ad) (e:BQ) (f:BM) (g:Az)
 | b6 (a:Int) (b c:Bool) (d:Ad) (e:BQ) (f:BM) (g:Az)
 | b7 (a:Int) (b c:Bool) (d:Ad) (e:BQ) (f:BM) (g:Az)
 | b8 (a:Int) (b:Ad) (c:BQ) (d:BM) (e:Az)
 | b9 (a:Ad) (b:BQ) (c:BM)
def Z9N:aF->Tr U ((Ad×(List Au)×Bool)⊕aF)
 | .b0 d b e c=>.bind 1353 (rX d) (fun(a:QD)=>let h:=(⟨({ a.q0.Link with Ez:=true }:Ad),a.q0.Ak⟩:BQ);let g:=kL a.q0.Link.Ar.Ap&&(kL a.q0.Link.AA.A8&&(kL a.q0.Link.AA.Aq&&(kL a.q0.Link.DJ&&(kL a.q0.Link.Ac&&kL a.q0.Ak))));let i:=Tr.chk g (AP (aF.b2 b c EM h));.bind 4 (nD (WG a.q0)) (fun(f:Bool)=>.br (!f) (kl a.q0.Link.Ar.Ap (kl a.q0.Link.AA.A8 (kl a.q0.Link.AA.Aq (kl a.q0.Link.DJ (kl a.q0.Link.Ac (.chk true (AB (a.q0.Link,([]:List Au),false)))))))) (.br e (.br (a.q0.Link.CB==1) (.chk g (AP (.b1 b c EM h))) i) i)))
 | .b1 c b d a=>.chk (kL a.Link.Ar.Ap&&(kL a.Link.AA.A8&&(kL a.Link.AA.Aq&&(kL a.Link.DJ&&(kL a.Link.Ac&&kL a.Ak))))) (AP (.b2 c b d (⟨({ a.Link with F9:=b,Size:=0,Sync:=b }:Ad),a.Ak⟩:BQ)))
 | .b2 e c d b=>.chk (kL b.Link.Ar.Ap&&(kL b.Link.AA.A8&&(kL b.Link.AA.Aq&&(kL b.Link.DJ&&(kL b.Link.Ac&&kL b.Ak))))) (.bind 1368 (ZJ e c b) (fun(a:Pz)=>let g:=kL a.q2.Link.Ar.Ap&&(kL a.q2.Link.AA.A8&&(kL a.q2.Link.AA.Aq&&(kL a.q2.Link.Ac&&(kL a.q2.Ak&&(kL a.q2.Link.Ar.Ap&&(kL a.q2.Link.AA.A8&&(kL a.q2.Link.AA.Aq&&kL a.q2.Link.Ac)))))));let h:=Tr.chk g (AP (aF.b4 c a.q2.Link.EL.IY d a.q2 a.q0));.br (!a.q1) (kl a.q2.Link.Ar.Ap (kl a.q2.Link.AA.A8 (kl a.q2.Link.AA.Aq (kl a.q2.Link.Ac (.chk true (AB (a.q2.Link,([]:List Au),false))))))) (.br (a.q0.SN==a.q2.Link.Ar.EI) (.bind 4 (Vb a.q0.Aw) (fun(f:Bool)=>.br (!f) (.br a.q2.Link.EL.IY (.chk g (AP (.b3 c a.q2.Link.EL.IY d a.q2 a.q0))) h) h)) h)))
 | .b3 d e f a g=>let h:=kL a.Link.Ar.Ap&&(kL a.Link.AA.A8&&(kL a.Link.AA.Aq&&(kL a.Link.Ac&&(kL a.Ak&&(kL a.Link.Ar.Ap&&(kL a.Link.AA.A8&&(kL a.Link.AA.Aq&&kL a.Link.Ac)))))));.bind 71 (oJ a.Link.EL g) (fun(c:BM×Int)=>.br (c.2 != 0) (.chk h (.bind 1369 (Z04 a.Link.Event (61:Int) a) (fun(b:UE)=>kl b.q0.Link.Ar.Ap (kl b.q0.Link.AA.A8 (kl b.q0.Link.AA.Aq (kl b.q0.Link.Ac (kl b.q0.Ak (AB (b.q0.Link,b.q0.Ak,false))))))))) (.chk h (AP (.b4 d e f a c.1))))
 | .b4 b c d a e=>let g:=(⟨0,([]:List Int)⟩:Az);let f:=kL a.Link.Ar.Ap&&(kL a.Link.AA.A8&&(kL a.Link.AA.Aq&&(kL a.Link.Ac&&(kL a.Ak&&(kL a.Link.Ar.Ap&&(kL a.Link.AA.A8&&(kL a.Link.AA.Aq&&kL a.Link.Ac)))))));.br a.Link.Ar.Empty (.chk f (AP (.b5 b c true d a e g))) (kl a.Link.Ar.Ap (.chk f (AP (.b5 b c ((↑a.Link.Ar.Ap.length:Int)==0) d a e g))))
 | .b5 c d b e a f g=>let i:=kL a.Link.Ar.Ap&&(kL a.Link.AA.A8&&(kL a.Link.AA.Aq&&(kL a.Link.Ac&&(kL a.Ak&&(kL a.Link.Ar.Ap&&(kL a.Link.AA.A8&&(kL a.Link.AA.Aq&&kL a.Link.Ac)))))));.br (!b) (kl a.Link.Ar.Ap (.chk (kI (0:Int) a.Link.Ar.Ap) (kl a.Link.Ar.Ap (.bind 68 (a.Link.Ar.Ap[(Int.toNat 0)]?) (fun(h:Az)=>.chk i (AP (.b6 c d b e a f h))))))) (.chk i (AP (.b6 c d b e a f g)))
 | .b6 e f h g a d i=>kl a.Link.Ar.Ap (.bind 163 (sH a.Link.Ar d) (fun(b:BR×Az×Bool×Bool)=>let j:=(⟨({ a.Link with Ar:=b.1 }:Ad),a.Ak⟩:BQ);.br b.2.2.2 (.chk (kL a.Link.AA.A8&&(kL a.Link.AA.Aq&&(kL a.Link.Ac&&(kL a.Ak&&(kL a.Link.AA.A8&&(kL a.Link.AA.Aq&&kL a.Link.Ac)))))) (.bind 1371 (Za i h j) (fun(c:Nu)=>.chk (kL c.q0.Link.Ac&&(kL c.q0.Ak&&kL c.q0.Link.Ac)) (AP (.b7 e f b.2.2.1 g c.q0 d b.2.1))))) (kl a.Link.AA.A8 (kl a.Link.AA.Aq (.chk (kL a.Link.Ac&&(kL a.Ak&&kL a.Link.Ac)) (AP (.b7 e f b.2.2.1 g j d b.2.1)))))))
 | .b7 d f g b a c e=>let i:=kL a.Link.Ac&&(kL a.Ak&&kL a.Link.Ac);.br g (.br f (.bind 41 (oW a.Link.EL false true) (fun(h:Bq)=>.chk i (AP (.b8 d b (⟨({ a.Link with EL:=h }:Ad),a.Ak⟩:BQ) c e)))) (.chk i (AP (.b8 d b a c e)))) (.chk i (AP (.b9 b a c)))
 | .b8 c d a e f=>.chk (kL a.Link.Ac&&(kL a.Ak&&kL a.Link.Ac)) (.bind 1373 (Zj f c a) (fun(b:Nw)=>.chk (kL b.q0.Link.Ac&&(kL b.q0.Ak&&kL b.q0.Link.Ac)) (AP (.b9 d b.q0 e))))
 | .b9 c a b=>.br (b.MD==1) (kl a.Link.Ac (kl a.Ak (AB (a.Link,a.Ak,true)))) (kl a.Link.Ac (kl a.Ak (AB (a.Link,a.Ak,a.Link.More))))
def Z0H (a:Ad) (b:List Int) (c:Bool) (d:Int):Option (Ad×(List Au)×Bool):=AU Z9N (.b0 a b c d)
def nT:Lay:=⟨[1,3,8,11],[[.s 5 1],KP,KP,KP],[.var k2,.var k14,.row true,.row true,.row true,.row true,.row true,.row true],⟨[OV 62,OV 3,PQ 0,PQ 1],[VA 44 66,.var 118 67 (Xp 2),.row 68 true,.row 156 true,.row 138 true,.row 99 true,.row 156 true,.row 148 true]⟩⟩
def nR:Lay:=⟨[3,8,11,12,14],[KP,KP,KP,KP,KP],[.var k2,.var k12,.var k3,.row false,.row false,.row false,.row false,.row true],⟨[OV 3,PQ 0,PQ 1,PQ 2,OV 4],[VA 44 66,.var 118 67 (TL 3),VA 70 5,.row 68 false,.row 156 false,.row 138 false,.row 156 false,.row 148 true]⟩⟩
def nV:Lay:=⟨[3,8,11,12,14,17,18],[KP,KP,KP,KP,KP,KP,KP],[.var k2,.var k12,.var k3,.var [.keep,.s 5 1],.row false,.row false,.row false,.row false,.row true],⟨[OV 3,PQ 0,PQ 1,PQ 2,OV 4,PQ 3,OV 4],[VA 44 66,.var 118 67 (TL 4),VA 70 5,VA 68 2,.row 68 false,.row 156 false,.row 138 false,.row 156 false,.row 148 true]⟩⟩
def Z8N:Lay:=⟨[3,8,11,12,14,20,21],[KP,KP,KP,KP,KP,KP,KP],[.var k2,.var k9,.var k3,.var [.keep,.s 5 1],.row false,.row true],⟨[OV 3,PQ 0,PQ 1,PQ 2,OV 4,PQ 3,OV 4],[VA 44 66,.var 118 67 (Jh 4),VA 70 5,VA 68 2,.row 156 false,.row 148 true]⟩⟩
def Z93:Lay:=⟨[3,8,11,12,20],[KP,KP,KP,KP,KP],[.var k2,.var k9,.var k3,.var [.keep,.s 5 1],.row false,.row true],⟨[OV 3,PQ 0,PQ 1,PQ 2,PQ 3],[VA 44 66,.var 118 67 (Jh 4),VA 70 5,VA 68 2,.row 156 false,.row 148 true]⟩⟩
def Z8U:Lay:=⟨[8,11,12],[KP,KP,KP],[.var k2,.var k9,.var k3,.row false,.row true],⟨[PQ 0,PQ 1,PQ 2],[VA 44 66,.var 118 67 (Jh 3),VA 70 5,.row 156 false,.row 148 true]⟩⟩
def Zq6:aF->BH U
 | .b0 a b c d=>Bg f34 [44,62,4,3] (a,b,c,d,())
 | .b1 a b c d=>Ae f34 [1,1,1,1,0,1,0] nT (((a,()),((b,()),((),((),())))),((c,()),(TM d)))
 | .b2 a b c d=>Ae f34 [1,1,1,1,1,0] nT (((a,()),((b,()),((),((),())))),((c,()),(TM d)))
 | .b3 b c d a e=>Ae f34 [1,1,1,1,1,1,1,1,0,1,0,0] nR (((b,()),((),((),((),((c,()),()))))),((d,()),((Qs a),((e,()),(VO a)))))
 | .b4 b c d a e=>Ae f34 [1,1,1,1,1,1,1,1,1,0] nR (((b,()),((),((),((),((c,()),()))))),((d,()),((Qs a),((e,()),(VO a)))))
 | .b5 b c d e a f g=>Ae f34 [1,1,1,1,1,1,1,1,1,1,1,0,0] nV (((b,()),((),((),((),((c,()),((),((d,()),()))))))),((e,()),((Qs a),((f,()),((g,()),(VO a))))))
 | .b6 b c d e a f g=>Ae f34 [1,1,1,1,1,1,1,1,1,1,1,1,0] nV (((b,()),((),((),((),((c,()),((),((d,()),()))))))),((e,()),((Qs a),((f,()),((g,()),(VO a))))))
 | .b7 b c d e a f g=>Ae f34 [1,1,1,1,1,1,1,1,1,1,1,1,1,1,1,0,0] Z8N (((b,()),((),((),((),((c,()),((),((d,()),()))))))),((e,()),((Qw a),((f,()),((g,()),(a.Link.Ac,(a.Ak,())))))))
 | .b8 b c a d e=>Ae f34 [1,1,1,1,1,1,1,1,1,1,1,1,1,1,1,0,1,0,1] Z93 (((b,()),((),((),((),((),()))))),((c,()),((Qw a),((d,()),((e,()),(a.Link.Ac,(a.Ak,())))))))
 | .b9 b a c=>Ae f34 [1,1,1,1,1,1,1,1,1,1,1,1,1,1,1,1,0] Z8U (((),((),((),()))),((b,()),((Qw a),((c,()),(a.Link.Ac,(a.Ak,()))))))
theorem Zpg:AA1 34 [44,62,4,3] 86 (fun x=>Z0H x.1 x.2.1 x.2.2.1 x.2.2.2.1) rfl:=Bj (mc Z0h (mc Z7E (mc Zpf (mc ZwH (mc Z9k Ag))))) (hc [] ZbZ (hc [] Znd (hc [] Zly (hc [] Zko (hc [] Zlg Af))))) (al [(6,nT),(7,nT),(12,nR),(17,nR),(19,nV),(21,nV),(25,Z8N),(28,Z93),(29,Z8U)]) Zq6 func34 (fun p=>by cases p<;>kernel_rfl) (by kernel_rfl) fun _=>rfl
end
noncomputable section
def Zd5:S1 (Ad×Unit) Bool
 | (a,_)=>.br (decide ((↑a.Ar.Ap.length:Int)<=64)) (.br (decide ((↑a.Ac.length:Int)<=64)) (.br (decide ((↑a.AA.A8.length:Int)<=64)) (AB (decide ((↑a.AA.Aq.length:Int)<=4))) (AB false)) (AB false)) (AB false)
def Z1V (a:Ad):Option Bool:=AU Zd5 (a,())
theorem Ztl:AA1 36 [44] 4 (fun x=>Z1V x.1) rfl:=ok1 Ag Af func36 (fun _=>by kernel_rfl) (by kernel_rfl)
inductive Yg where
 | b0 (a:JV) (b:List Bool)
 | b1 (a:List Bool) (b:Int) (c:Ad)
 | b2 (a:List Bool) (b c d:Int) (e:Ad)
 | b3 (a:List Bool) (b c d:Int) (e:Ad)
 | b4 (a:List Bool) (b c:Int) (d:Ad)
 | b5 (a:List Bool) (b c d:Int) (e:Ad)
 | b6 (a:List Bool) (b c d:Int) (e:Ad)
def QB:Yg->Tr U (Bool⊕Yg)
 | .b0 c b=>let f:=AB true;.bind 4 (ZaX) (fun(d:Bool)=>.br (!d) (AB false) (.bind 60 (Z0k c) (fun(a:Ad×Int×Bool)=>.br (!a.2.2) f (.br (a.1.CB != 1) f (.br (decide ((↑b.length:Int)>200)) f (.bind 4 (Z1V a.1) (fun(e:Bool)=>.br (!e) f (AP (.b1 b a.2.1 a.1)))))))))
 | .b1 a b c=>AP (.b2 a b (0:Int) (0:Int) c)
 | .b2 b d e c a=>let h:=AP (Yg.b4 b (AQ (d+1)) c a);.br (decide (c<(↑b.length:Int))) (.br (!a.Ez) (.bind 44 (Z2O a) (fun(f:Ad)=>.bind 4 (aW f) (fun(g:Bool)=>.br g (AP (.b3 b (AQ (d+1)) e c a)) h))) h) (AB true)
 | .b3 a b c d e=>AP (.b5 a b (AQ (c+1)) d e)
 | .b4 a c b d=>.chk (kI b a) (.bind 4 (a[(Int.toNat b)]?) (fun(e:Bool)=>.br e (.chk true (.bind 86 (Z0H d ([(1:Int),2,3,4,5,(6:Int)]) true c) (fun(f:Ad×(List Au)×Bool)=>AP (.b5 a c (0:Int) b f.1)))) (AP (.b5 a c (0:Int) b d))))
 | .b5 c d b e a=>let f:=AP (Yg.b6 c d b e a);.br (a.CQ==0) (.br (decide (b>a.Df.BL.C9)) (AB false) f) f
 | .b6 b a c d e=>.bind 78 (Z1f e a) (fun(f:Ad×(List Au))=>AP (.b2 b a c (AQ (d+1)) f.1))
def Z8u (a:JV) (b:List Bool):Option Bool:=AU QB (.b0 a b)
def Ym:Ai U:=⟨[59,89],4,fun x=>Z8u x.1 x.2.1,by decide⟩
def Z7x:Lay:=LT [1,5,6] [.v 89,.p 0,.v 3] [.s 44]
def RI:Lay:=LT [1,5,6,8,9] [.v 89,.p 0,.v 3,.v 3,.v 3] [.s 44]
def Z7H:Lay:=LT [1,5,6,9] [.v 89,.p 0,.v 3,.v 3] [.s 44]
def Znl:Yg->BH U
 | .b0 a b=>Bg f9 [59,89] (a,b,())
 | .b1 a b c=>AA3 f9 [1,1,1,1,0] Z7x (a,b,c,())
 | .b2 a b c d e=>AA3 f9 [1,1,1,1,1,0,1,0,0,0,0] RI (a,b,c,d,e,())
 | .b3 a b c d e=>AA3 f9 [1,1,1,1,1,0,1,0,0,1,0,0,1,0,1,0] RI (a,b,c,d,e,())
 | .b4 a b c d=>AA3 f9 [1,1,1,1,1,0,1,0,0,1,0,0,1,0,1,1,0] Z7H (a,b,c,d,())
 | .b5 a b c d e=>AA3 f9 [1,1,1,1,1,0,1,0,0,1,0,0,1,1,0,0] RI (a,b,c,d,e,())
 | .b6 a b c d e=>AA3 f9 [1,1,1,1,1,0,1,0,0,1,0,0,1,1,1] RI (a,b,c,d,e,())
theorem Zmp:AA0 9 Ym:=Bj (mc Zqg (mc Zat (mc Zoh (mc Zx6 (mc ZrQ (mc Zpg (mc Ztl Ag))))))) Af (al [(6,Z7x),(8,RI),(12,RI),(13,Z7H),(16,RI),(18,RI)]) Znl func9 (fun p=>by cases p<;>kernel_rfl) (by kernel_rfl) fun _=>rfl
end
end Go.Proofs.YtjodhcdmhobmoaaGreatDoor
