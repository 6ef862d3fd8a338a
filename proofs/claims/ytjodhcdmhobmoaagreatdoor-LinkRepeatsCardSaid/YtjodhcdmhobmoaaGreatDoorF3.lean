/- A part of it. -/
import Derived.Test.YtjodhcdmhobmoaaGreatDoorF2
import Derived.WalkKit
import Derived.OwnWalkIn
import Derived.TacticsInMore
import Derived.RegionIn
import Derived.LoopNIn
import Derived.LoopIn
import Derived.IntWalk
import Derived.Lib.Hide
import Derived.Maps.Own
import Derived.Laws.EntriesVeiled
import Derived.KernelRfl
set_option linter.unusedVariables false
set_option linter.unusedSimpArgs false
namespace Go.Proofs.YtjodhcdmhobmoaaGreatDoor
open Tryz
open Go Go.Proofs.YtjodhcdmhobmoaaGreatDoor.Le
set_option maxRecDepth 100000
noncomputable section
inductive Z1Q where
 | b0 (a b:Int) (c d:List Int)
def Zch:Z1Q->Tr U ((List Int)⊕Z1Q)
 | .b0 c d a e=>.chk true (.bind 120 (QS ([(⟨4,(IntKind.wrap .u64 ((IntKind.wrap .u32 ((↑a.length:Int)))))⟩:Cc)])) (fun(f:(List Int)×Int)=>.chk true (.bind 62 (U8 ([d])) (fun(g:List Int)=>.chk true (.bind 62 (Rj ([g,f.1,a,e])) (fun(h:List Int)=>.bind 25 (qL c h) (fun(i:Int)=>.chk true (.bind 62 (U8 ([i])) (fun(b:List Int)=>.chk (decide (0<=(4:Int)/\(4:Int)<=(↑b.length:Int))) (AA ((b.drop 0).take ((Int.toNat 4) - 0))))))))))))
def Z1L (a b:Int) (c d:List Int):Option (List Int):=AV Zch (.b0 a b c d)
def Zt2:Z1Q->Ac U
 | .b0 a b c d=>Ai f234 [29,25,62,62] (a,b,c,d,())
theorem Zsh:AA1 234 [29,25,62,62] 62 (fun x=>Z1L x.1 x.2.1 x.2.2.1 x.2.2.2.1) rfl:=Aj (mc XM (mc Z0b (mc Z9M (mc ZuZ Ag)))) Ah AN Zt2 func234 (fun p=>by cases p<;>kernel_rfl) (by kernel_rfl) fun _=>rfl
inductive Z1M where
 | b0 (a b:Int) (c d:List Int)
def ZbR:Z1M->Tr U ((List Int)⊕Z1M)
 | .b0 a b e c=>.bind 62 (Z0k a b (↑c.length:Int)) (fun(f:List Int)=>.bind 62 (Z0G c f) (fun(d:List Int)=>.bind 62 (Z1L a b e d) (fun(g:List Int)=>.chk true (.bind 62 (Rj ([d,g])) (fun(h:List Int)=>AA h)))))
def Z1F (a b:Int) (c d:List Int):Option (List Int):=AV ZbR (.b0 a b c d)
def Ztw:Z1M->Ac U
 | .b0 a b c d=>Ai f157 [29,25,62,62] (a,b,c,d,())
theorem ZrS:AA1 157 [29,25,62,62] 62 (fun x=>Z1F x.1 x.2.1 x.2.2.1 x.2.2.2.1) rfl:=Aj (mc XM (mc ZmS (mc ZmJ (mc Zsh Ag)))) Ah AN Ztw func157 (fun p=>by cases p<;>kernel_rfl) (by kernel_rfl) fun _=>rfl
inductive zT where
 | b0 (a:Int) (b:QQ) (c:Int)
def Zjj:zT->Tr U (Int⊕zT)
 | .b0 a b c=>AA (bits .xor .u64 b.Bq (IntKind.wrap .u64 ((IntKind.wrap .u64 ((2:Int)*a))+c)))
def yX (a:Int) (b:QQ) (c:Int):Option Int:=AV Zjj (.b0 a b c)
def Zi4:zT->Ac U
 | .b0 a b c=>Ai f235 [25,3385,3369] (a,b,c,())
theorem Zi3:AA1 235 [25,3385,3369] 25 (fun x=>yX x.1 x.2.1 x.2.2.1) rfl:=Aj Ag Ah AN Zi4 func235 (fun p=>by cases p<;>kernel_rfl) (by kernel_rfl) fun _=>rfl
inductive Zo where
 | b0 (a:Cb) (b:Int)
def Zlo:Zo->Tr U (UJ⊕Zo)
 | .b0 a b=>AA (⟨a,b⟩:UJ)
def Zr (a:Cb) (b:Int):Option UJ:=AV Zlo (.b0 a b)
def Z6v:Shape:=⟨[.agg [.v 41 7 true],OV 25],[]⟩
def Zit:Shape:=⟨[.one (.fn 235 [] [0,1])],[VA 41 7,.var 25 1 (OV 25)]⟩
noncomputable def Zl0:HMod U:=⟨[k7,KP],[],Z6v,Zit,true,1356,fun(y:UJ)=>(((),()),((y.q0,()),((y.q1,()),()))),fun x=>Zr x.1.1.1 x.1.2.1.1,okS rfl⟩
def Zke:Zo->Ac U
 | .b0 a b=>Ff f158 Z6v (((a,()),((b,()),())),())
theorem Zkn:Dy Tryz.prog B0 158 Zl0:=okR Ag Ah AN [KP] [.var k7,.var KP] 0 Zke func158 (fun p=>by cases p<;>kernel_rfl) (by kernel_rfl) fun x=>by kernel_rfl
inductive ZL where
 | b0 (a:Cb) (b:BD)
 | b1 (a b:BD)
 | b2 (a:Cb) (b c:BD)
def UL:ZL->Tr U ((BD×Int)⊕ZL)
 | .b0 b a=>let e:=AO (ZL.b1 a E5);.bind 45 (UK a) (fun(c:Int)=>.br (c != 0) (AA (E5,c)) (.br (!b.Gm) e (.bind 4 (QM a.Ak) (fun(d:Bool)=>.br d e (AO (.b2 b a E5))))))
 | .b1 a d=>.chk true (.bind 62 (Rj ([a.Ak.Payload])) (fun(b:List Int)=>.bind 70 (lK a b) (fun(c:BD)=>AA (c,0))))
 | .b2 a b g=>.br (decide ((↑b.Ak.Payload.length:Int)>251)) (AA (E5,4)) (.bind 194 (ZA a) (fun(c:Int×Int)=>.bind 1356 (Zr a c.1) (fun(q:UJ)=>.bind 25 (yX a.Tx (Zn3 q.q0) q.q1) (fun(d:Int)=>.chk true (.bind 62 (Z1F a.Key d ([(IntKind.wrap .u8 (b.Ak.Ba))]) b.Ak.Payload) (fun(e:List Int)=>.bind 70 (lK b e) (fun(f:BD)=>AA (f,0))))))))
def lM (a:Cb) (b:BD):Option (BD×Int):=AV UL (.b0 a b)
def Z6M:Lay:=⟨[3,4],[KP,KP],[.var k4,.var k4],⟨[PQ 0,PQ 1],[VA 70 5,VA 70 5]⟩⟩
def Z6X:Lay:=⟨[2,3,4],[KP,KP,KP],[.var k7,.var k4,.var k4],⟨[PQ 0,PQ 1,PQ 2],[VA 41 7,VA 70 5,VA 70 5]⟩⟩
def ZlW:Nat->Option Lay
 | 5=>some Z6M
 | 6=>some Z6X
 | _=>none
def Zlj:ZL->Ac U
 | .b0 a b=>Ai f65 [41,70] (a,b,())
 | .b1 a b=>AA3 f65 [1,1,0,1,0,0] Z6M (a,b,())
 | .b2 a b c=>AA3 f65 [1,1,1,0,0] Z6X (a,b,c,())
theorem ZkY:AA1 65 [41,70] 71 (fun x=>lM x.1 x.2.1) rfl:=Aj (mc Z8 (mc Zd (mc Zll (mc XM (mc ZkB (mc ZrS (mc Zi3 Ag))))))) (hc [] Zkn Ah) ZlW Zlj func65 (fun p=>by cases p<;>kernel_rfl) (by kernel_rfl) fun _=>rfl
inductive xU where
 | b0 (a b c:Int)
def Z6l:xU->Tr U (QH⊕xU)
 | .b0 b a c=>.chk (decide (0<=a)) (AA (⟨(bits .or .u8 c (IntKind.wrap .u8 ((IntKind.wrap .u8 (b))*2 ^ (min (Int.toNat a) (IntKind.bits .u8)))))⟩:QH))
def Wj (a b c:Int):Option QH:=AV Z6l (.b0 a b c)
def Z5q:Shape:=⟨[OV 3,OV 3,PQ 0],[.var 5 1 (OV 5)]⟩
def Zgp:Shape:=⟨[],[.var 5 1 (OV 5)]⟩
noncomputable def Zi7:HMod U:=⟨[KP,KP,KP],[.var KP],Z5q,Zgp,false,1357,fun(y:QH)=>((),((y.q0,()),())),fun x=>Wj x.1.1.1 x.1.2.1.1 x.2.1.1,okS rfl⟩
def Zhl:xU->Ac U
 | .b0 a b c=>Ff f159 Z5q (((a,()),((b,()),((),()))),((c,()),()))
theorem ZgV:Dy Tryz.prog B0 159 Zi7:=okR Ag Ah AN [] [.var KP] 1 Zhl func159 (fun p=>by cases p<;>kernel_rfl) (by kernel_rfl) fun x=>by kernel_rfl
inductive zZ where
 | b0 (a:BD)
def Z6W:zZ->Tr U (((List Int)×Int)⊕zZ)
 | .b0 a=>.bind 45 (UK a) (fun(b:Int)=>.br (b != 0) (.chk true (AA (([]:List Int),b))) (.bind 1357 (Wj a.Dp (2:Int) (IntKind.wrap .u8 (a.Ak.Ba))) (fun(q:QH)=>.bind 1357 (Wj a.SN (3:Int) q.q0) (fun(z:QH)=>.bind 1357 (Wj a.MD (4:Int) z.q0) (fun(A:QH)=>.chk true (.chk true (.bind 62 (Rj ([[A.q0,(IntKind.wrap .u8 ((↑a.Ak.Payload.length:Int)))],a.Ak.Payload])) (fun(c:List Int)=>AA (c,0)))))))))
def lC (a:BD):Option ((List Int)×Int):=AV Z6W (.b0 a)
def ZjQ:zZ->Ac U
 | .b0 a=>Ai f66 [70] (a,())
theorem Zjq:AA1 66 [70] 120 (fun x=>lC x.1) rfl:=Aj (mc Zd (mc XM Ag)) (hc [] ZgV Ah) AN ZjQ func66 (fun p=>by cases p<;>kernel_rfl) (by kernel_rfl) fun _=>rfl
inductive ZQ where
 | b0 (a:Int)
def Z7u:ZQ->Tr U (Int⊕ZQ)
 | .b0 a=>let b:=(if (0:Int)>a then (0:Int) else a);AA (AP ((64:Int)+(if (39:Int)<b then (39:Int) else b)))
def ZN (a:Int):Option Int:=AV Z7u (.b0 a)
def Zlx:ZQ->Ac U
 | .b0 a=>Ai f236 [3] (a,())
theorem Zlh:AA1 236 [3] 3 (fun x=>ZN x.1) rfl:=Aj Ag Ah AN Zlx func236 (fun p=>by cases p<;>kernel_rfl) (by kernel_rfl) fun _=>rfl
inductive ZZ where
 | b0 (a:Int)
def Z8O:ZZ->Tr U ((Int×Int)⊕ZZ)
 | .b0 a=>let b:=(AP (a*2 ^ (1:Nat)));.br (decide (a<64)) (AA ((0:Int),b)) (AA ((1:Int),(bits .xor .i64 (bits .and .i64 b (127:Int)) (17:Int))))
def Z08 (a:Int):Option (Int×Int):=AV Z8O (.b0 a)
def Zmk:ZZ->Ac U
 | .b0 a=>Ai f237 [3] (a,())
theorem Zme:AA1 237 [3] 104 (fun x=>Z08 x.1) rfl:=Aj Ag Ah AN Zmk func237 (fun p=>by cases p<;>kernel_rfl) (by kernel_rfl) fun _=>rfl
inductive zH where
 | b0 (a b:Int)
 | b1 (a:Int) (b:List Int) (c d:Int)
 | b2 (a:Int) (b:List Int) (c d e f:Int)
def NG:zH->Tr U (UD⊕zH)
 | .b0 b a=>let d:=(List.replicate (Int.toNat a) (0:Int));.bind 3 (ZN b) (fun(c:Int)=>.chk (decide (0<=a/\a<=a/\Int.toNat a*1<=lim/\a<=(↑maxLen:Int))) (kl d (kl d (AO (.b1 c d (↑(d.length):Int) (0:Int))))))
 | .b1 d a c b=>.br (decide (b<c)) (kl a (AO (.b2 d a b c b (0:Int)))) (kl a (AA (⟨a⟩:UD)))
 | .b2 e a b f g c=>let k:=Int.toNat b;.br (decide (c<8)) (.bind 104 (Z08 e) (fun(d:Int×Int)=>kl a (.chk (kI b a) (kl a (.bind 5 (a[k]?) (fun(h:Int)=>let j:=a.set k (bits .or .u8 h (IntKind.wrap .u8 ((AP (d.1*2 ^ (min (Int.toNat c) (IntKind.bits .i64)))))));.chk (decide (0<=c)) (kl a (.chk (kI b a) (.chk (a.length==a.length&&decide (0<=k)) (.bind 5 (a[k]?) (fun(i:Int)=>.chk (j.length==a.length) (AO (.b2 d.2 j b f g (AP (c+1))))))))))))))) (kl a (AO (.b1 e a f (AP (g+1)))))
def zO (a b:Int):Option UD:=AV NG (.b0 a b)
def Z5W:Shape:=⟨[OV 3,OV 3],[]⟩
def ZgQ:Shape:=⟨[.one (.own 5 0)],[.row 5 true]⟩
noncomputable def Zk3:HMod U:=⟨[KP,KP],[],Z5W,ZgQ,true,1358,fun(y:UD)=>(((),()),(y.q0,())),fun x=>zO x.1.1.1 x.1.2.1.1,okS rfl⟩
def Z5C:Lay:=⟨[5,6,15,16],[KP,[.own 5 1],KP,KP],[.row true],⟨[OV 3,.one (.own 5 0),OV 3,OV 3],[.row 5 true]⟩⟩
def Z5Q:Lay:=⟨[5,6,7,15,16,19],[KP,[.own 5 1],KP,KP,KP,KP],[.row true],⟨[OV 3,.one (.own 5 0),OV 3,OV 3,OV 3,OV 3],[.row 5 true]⟩⟩
def ZjC:Nat->Option Lay
 | 4=>some Z5C
 | 7=>some Z5Q
 | _=>none
def ZhP:zH->Ac U
 | .b0 a b=>Ff f160 Z5W (((a,()),((b,()),())),())
 | .b1 a b c d=>AA3 f160 [1,1,1,0,1,0,0,0] Z5C (a,c,d,b,())
 | .b2 a b c d e f=>AA3 f160 [1,1,1,0,1,0,0,1,1,0,0,1,1,0,0,0] Z5Q (a,c,d,e,f,b,())
theorem Zig:Dy Tryz.prog B0 160 Zk3:=okR (mc Zlh (mc Zme Ag)) Ah ZjC [[.own 5 1]] [.row true] 0 ZhP func160 (fun p=>by cases p<;>kernel_rfl) (by kernel_rfl) fun x=>by kernel_rfl
inductive ZK where
 | b0 (a:Int) (b:List Int)
 | b1 (a b:List Int) (c d:Int)
def XK:ZK->Tr U ((List Int)⊕ZK)
 | .b0 b a=>let c:=(↑a.length:Int);.bind 1358 (zO b c) (fun(q:UD)=>kl q.q0 (AO (.b1 q.q0 a c (0:Int))))
 | .b1 a c d b=>let h:=Int.toNat b;.br (decide (b<d)) (.chk (kI b c) (.bind 5 (c[h]?) (fun(e:Int)=>kl a (.chk (kI b a) (kl a (.bind 5 (a[h]?) (fun(f:Int)=>let i:=a.set h (bits .xor .u8 f e);kl a (.chk (kI b a) (.chk (a.length==a.length&&decide (0<=h)) (.bind 5 (a[h]?) (fun(g:Int)=>.chk (i.length==a.length) (AO (.b1 i c d (AP (b+1))))))))))))))) (kl a (AA a))
def lS (a:Int) (b:List Int):Option (List Int):=AV XK (.b0 a b)
def Z6Y:Lay:=⟨[5,12,13,14],[[.own 5 1],[.s 5 1],KP,KP],[.row true],⟨[.one (.own 5 0),OV 62,OV 3,OV 3],[.row 5 true]⟩⟩
def ZlX:Nat->Option Lay
 | 3=>some Z6Y
 | _=>none
def Zly:ZK->Ac U
 | .b0 a b=>Ai f67 [3,62] (a,b,())
 | .b1 a b c d=>AA3 f67 [1,1,0,1,0,0,0] Z6Y (b,c,d,a,())
theorem Z70:AA1 67 [3,62] 62 (fun x=>lS x.1 x.2.1) rfl:=Aj Ag (hc [] Zig Ah) ZlX Zly func67 (fun p=>by cases p<;>kernel_rfl) (by kernel_rfl) fun _=>rfl
inductive Z1A where
 | b0 (a b:Int)
def Zbu:Z1A->Tr U (Int⊕Z1A)
 | .b0 a b=>let i:=(2 ^ (4:Nat));let g:=(bits .and .u32 (bits .xor .u32 a (IntKind.wrap .u32 (b))) (15:Int));let f:=([0,1788928,3577856,3003392,7155712,7764992,6006784,4252672,14311424,12659712,15529984,16233472,12013568,11279360,8505344,10126336]:List Int);.chk (decide (0<=g/\g<16)) (.bind 22 (f[(Int.toNat g)]?) (fun(c:Int)=>let h:=(bits .xor .u32 (Int.fdiv a i) c);let e:=(bits .and .u32 (bits .xor .u32 h (IntKind.wrap .u32 ((Int.fdiv b i)))) (15:Int));.chk (decide (0<=e/\e<16)) (.bind 22 (f[(Int.toNat e)]?) (fun(d:Int)=>AA (bits .xor .u32 (Int.fdiv h i) d)))))
def pY (a b:Int):Option Int:=AV Zbu (.b0 a b)
def Zrh:Z1A->Ac U
 | .b0 a b=>Ai f238 [22,5] (a,b,())
theorem ZqP:AA1 238 [22,5] 22 (fun x=>pY x.1 x.2.1) rfl:=Aj Ag Ah AN Zrh func238 (fun p=>by cases p<;>kernel_rfl) (by kernel_rfl) fun _=>rfl
inductive Z2m where
 | b0 (a:Int) (b:List Int)
 | b1 (a:Int) (b:List Int) (c d:Int)
def eF:Z2m->Tr U (Int⊕Z2m)
 | .b0 b a=>AO (.b1 (bits .and .u32 b (16777215:Int)) a (↑a.length:Int) (0:Int))
 | .b1 c b d a=>.br (decide (a<d)) (.chk (kI a b) (.bind 5 (b[(Int.toNat a)]?) (fun(e:Int)=>.bind 22 (pY c e) (fun(f:Int)=>AO (.b1 f b d (AP (a+1))))))) (AA c)
def Z2F (a:Int) (b:List Int):Option Int:=AV eF (.b0 a b)
def ZaR:Lay:=⟨[5,10,11,12],[KP,[.s 5 1],KP,KP],[],⟨[OV 22,OV 62,OV 3,OV 3],[]⟩⟩
def Zzf:Nat->Option Lay
 | 3=>some ZaR
 | _=>none
def ZvD:Z2m->Ac U
 | .b0 a b=>Ai f161 [22,62] (a,b,())
 | .b1 a b c d=>AA3 f161 [1,1,0,1,0,0,0] ZaR (a,b,c,d,())
theorem Zuv:AA1 161 [22,62] 22 (fun x=>Z2F x.1 x.2.1) rfl:=Aj (mc ZqP Ag) Ah Zzf ZvD func161 (fun p=>by cases p<;>kernel_rfl) (by kernel_rfl) fun _=>rfl
inductive Z0I where
 | b0 (a:Int) (b:List Int)
def Z9D:Z0I->Tr U ((List Int)⊕Z0I)
 | .b0 c b=>.bind 22 (Z2F c b) (fun(a:Int)=>.bind 1344 (NF b) (fun(q:QG)=>let d:=q.q0++[(IntKind.wrap .u8 (a)),(IntKind.wrap .u8 ((Int.fdiv a (2 ^ (8:Nat))))),(IntKind.wrap .u8 ((Int.fdiv a (2 ^ (16:Nat)))))];.chk true (kl q.q0 (.chk (kA (q.q0.length+3) 1) (kl d (AA d))))))
def Xh (a:Int) (b:List Int):Option (List Int):=AV Z9D (.b0 a b)
def Znh:Z0I->Ac U
 | .b0 a b=>Ai f68 [22,62] (a,b,())
theorem Z8g:AA1 68 [22,62] 62 (fun x=>Xh x.1 x.2.1) rfl:=Aj (mc Zuv Ag) (hc [] jP Ah) AN Znh func68 (fun p=>by cases p<;>kernel_rfl) (by kernel_rfl) fun _=>rfl
inductive Z0V where
 | b0 (a:A8)
 | b1 (a b:List Aw) (c d:Int) (e:A8)
def nS:Z0V->Tr U (U5⊕Z0V)
 | .b0 a=>let b:=(↑a.Az.BA.length:Int);let c:=(List.replicate (Int.toNat b) ((⟨0,[]⟩:Aw):Aw));.chk (decide (0<=b/\b<=b/\Int.toNat b*32<=lim/\b<=(↑maxLen:Int))) (kl c (AO (.b1 c a.Az.BA b (0:Int) a)))
 | .b1 a d f b c=>let h:=Int.toNat b;.br (decide (b<f)) (.chk (kI b d) (.bind 68 (d[h]?) (fun(e:Aw)=>.bind 1344 (NF e.Payload) (fun(q:QG)=>let i:=(a.set h (⟨e.Ba,q.q0⟩:Aw));kl a (.chk (kI b a) (.chk (a.length==a.length&&decide (0<=h)) (.bind 68 (a[h]?) (fun(g:Aw)=>kl q.q0 (.chk (i.length==a.length) (AO (.b1 i d f (AP (b+1)) c))))))))))) (.bind 1345 (WO c.Am.BJ) (fun(z:RV)=>.bind 1346 (jJ c.Am.CO) (fun(A:WQ)=>.bind 1347 (jO c.DI) (fun(C:WR)=>.bind 1345 (WO c.BC) (fun(D:RV)=>.chk (kL a&&(kL z.q0&&(kL A.q0&&(kL C.q0&&(kL D.q0&&true))))) (AA (⟨(⟨({ c with Az:=({ c.Az with BA:=a }:BQ),Am:=({ c.Am with BJ:=z.q0,CO:=A.q0 }:Aa),DI:=C.q0,BC:=D.q0 }:A8),([]:List BB)⟩:FO)⟩:U5)))))))
def Z1q (a:A8):Option U5:=AV nS (.b0 a)
def Z8D:Shape:=⟨[.agg [.v 44 66 true]],[]⟩
def Zmu:Shape:=⟨[PQ 0],[.var 118 67 (ag3 1),.row 68 true,.row 156 true,.row 138 true,.row 99 true,.row 156 true,.row 148 true]⟩
noncomputable def ZsS:HMod U:=⟨[k2],[],Z8D,Zmu,true,1353,fun(y:U5)=>(((),()),((y.q0.Link.Bz,(y.q0.Link.Bl,(y.q0.Link.Clock,(y.q0.Link.Event,(y.q0.Link.Last,(y.q0.Link.IL,(y.q0.Link.Size,(y.q0.Link.Sync,(y.q0.Link.J6,(y.q0.Link.JH,(y.q0.Link.Jd,(y.q0.Link.Good,(y.q0.Link.Fz,(y.q0.Link.More,(y.q0.Link.Az.SN,(y.q0.Link.Az.Dp,(y.q0.Link.Az.Open,(y.q0.Link.Az.Empty,(y.q0.Link.Az.Fz,(y.q0.Link.Az.Taken,(y.q0.Link.Hg,(y.q0.Link.Am.Bz,(y.q0.Link.Am.Own,(y.q0.Link.Am.Since,(y.q0.Link.Am.Other,(y.q0.Link.Am.JC,(y.q0.Link.Am.Told,(y.q0.Link.Am.CW,(y.q0.Link.Am.MI,(y.q0.Link.Am.Hm,(y.q0.Link.Am.JV,(y.q0.Link.Am.Version,(y.q0.Link.Am.Length,(y.q0.Link.Am.Limit,(y.q0.Link.Am.Bq,(y.q0.Link.Am.Jc,(y.q0.Link.Am.Mark,(y.q0.Link.Am.EJ,(y.q0.Link.Am.GR,(y.q0.Link.DY,(y.q0.Link.Key,(y.q0.Link.Bd,(y.q0.Link.Ic,()))))))))))))))))))))))))))))))))))))))))))),(y.q0.Link.Az.BA,(y.q0.Link.Am.BJ,(y.q0.Link.Am.CO,(y.q0.Link.DI,(y.q0.Link.BC,(y.q0.Dt,())))))))),fun x=>Z1q x.1.1.1,okS rfl⟩
def Z8i:Lay:=⟨[1,3,13,14,15],[KP,[.own 68 2],[.s 68 2],KP,KP],[.var k2,.row true],⟨[PQ 0,.one (.own 68 1),OV 31,OV 3,OV 3],[VA 44 66,.row 68 true]⟩⟩
def ZsO:Nat->Option Lay
 | 3=>some Z8i
 | _=>none
def ZoE:Z0V->Ac U
 | .b0 a=>Ff f62 Z8D (((a,()),()),())
 | .b1 a b c d e=>AA3 f62 [1,1,0,1,0,0,0] Z8i (b,c,d,e,a,())
theorem ZpG:Dy Tryz.prog B0 62 ZsS:=okR Ag (hc [] jP (hc [] Zgh (hc [] Zgo (hc [] ZgB Ah)))) ZsO [KP] [.var k14,.row true,.row true,.row true,.row true,.row true,.row true] 0 ZoE func62 (fun p=>by cases p<;>kernel_rfl) (by kernel_rfl) fun x=>by kernel_rfl
inductive zS where
 | b0 (a:Aa)
def Z6C:zS->Tr U (Bool⊕zS)
 | .b0 a=>.br (a.EJ==1) (AA true) (.br (a.EJ==2) (AA true) (AA (a.EJ==3)))
def zV (a:Aa):Option Bool:=AV Z6C (.b0 a)
def Zj1:zS->Ac U
 | .b0 a=>Ai f149 [39] (a,())
theorem Zil:AA1 149 [39] 4 (fun x=>zV x.1) rfl:=Aj Ag Ah AN Zj1 func149 (fun p=>by cases p<;>kernel_rfl) (by kernel_rfl) fun _=>rfl
inductive Z06 where
 | b0 (a:Int)
def Z8U:Z06->Tr U (Bool⊕Z06)
 | .b0 a=>let c:=AA true;let b:=AA false;.br (a==3) (.br (a==3) c b) (.br (a==4) (.br (a==4) c b) (.br (a==5) (.br (a==5) c b) (.br (a==6) (.br (a==6) c b) (.br (a==13) c b))))
def Z01 (a:Int):Option Bool:=AV Z8U (.b0 a)
def Zmx:Z06->Ac U
 | .b0 a=>Ai f150 [3] (a,())
theorem Zms:AA1 150 [3] 4 (fun x=>Z01 x.1) rfl:=Aj Ag Ah AN Zmx func150 (fun p=>by cases p<;>kernel_rfl) (by kernel_rfl) fun _=>rfl
end
end Go.Proofs.YtjodhcdmhobmoaaGreatDoor
namespace Go.Proofs.YtjodhcdmhobmoaaGreatDoor
open Tryz
open Go Go.RowKit Go.Maps Go.MapKept Go.ChangeMaps
attribute [local go_sem] Oper.semAt_some
set_option maxRecDepth 100000
theorem hao (w:World) (o:Obj) (i:Nat) (h:i<w.heap.size):(w.alloc o).heap[i]? = w.heap[i]?:=by
 show (w.heap.push o)[i]? = w.heap[i]?;rw[Array.getElem?_push,if_neg (Nat.ne_of_lt h)]
theorem ZAt (F:Fence) (n:Nat) (h:F.fn 289) (q:F.round=none) (W:World):CallsIn F n Tryz.prog 289 #[] W fun e z =>e = .returned (.agg #[.slice none 0 0,.func (.func 348) #[] #[],.func (.func 349) #[] #[],.func (.func 309) #[] #[]])/\z = W.alloc (.cells #[.slice none 0 0,.func (.func 348) #[] #[],.func (.func 349) #[] #[],.func (.func 309) #[] #[]] 248):=by
 refine callsIn_of_wp func289 rfl h ?_ q;simp only[Tryz.ntmps289,List.size_toArray,List.length_cons,List.length_nil,Nat.reduceAdd,Nat.reduceSub,Array.replicate_succ,Array.replicate_zero,List.push_toArray,List.append_toArray,List.nil_append,List.cons_append]
 gi_wp2
 exact bodyPost_ret (results_cell_row rfl _ _ W.heap.size 248 _ _ _ rfl (heap_alloc_new _ _) (by rfl) rfl (by rfl)) rfl ⟨rfl,rfl⟩
theorem ZCs (F:Fence) (n:Nat) (h:F.fn 290) (q:F.round=none) (W:World):CallsIn F n Tryz.prog 290 #[] W fun e z =>e = .returned (.agg #[.slice (some ⟨W.heap.size+1,0,none⟩) 1 1,.func (.func 350) #[] #[],.func (.func 351) #[] #[],.func (.func 309) #[] #[]])/\z = (W.alloc (.cells #[.slice (some ⟨W.heap.size+1,0,none⟩) 1 1,.func (.func 350) #[] #[],.func (.func 351) #[] #[],.func (.func 309) #[] #[]] 248)).alloc (.cells #[.int .i64 8] 3):=by
 refine callsIn_of_wp func290 rfl h ?_ q;simp only[Tryz.ntmps290,List.size_toArray,List.length_cons,List.length_nil,Nat.reduceAdd,Nat.reduceSub,Array.replicate_succ,Array.replicate_zero,List.push_toArray,List.append_toArray,List.nil_append,List.cons_append]
 gi_wp2
 exact bodyPost_ret (results_cell_row rfl _ _ W.heap.size 248 _ _ _ rfl ((hao _ _ _ (by simp)).trans (heap_alloc_new _ _)) (by rfl) rfl (by rfl)) rfl ⟨rfl,rfl⟩
theorem ZC6 (F:Fence) (n:Nat) (h:F.fn 291) (q:F.round=none) (W:World):CallsIn F n Tryz.prog 291 #[] W fun e z =>e = .returned (.agg #[.slice (some ⟨W.heap.size+1,0,none⟩) 1 1,.func (.func 352) #[] #[],.func (.func 353) #[] #[],.func (.func 354) #[] #[]])/\z = (W.alloc (.cells #[.slice (some ⟨W.heap.size+1,0,none⟩) 1 1,.func (.func 352) #[] #[],.func (.func 353) #[] #[],.func (.func 354) #[] #[]] 248)).alloc (.cells #[.int .i64 1] 3):=by
 refine callsIn_of_wp func291 rfl h ?_ q;simp only[Tryz.ntmps291,List.size_toArray,List.length_cons,List.length_nil,Nat.reduceAdd,Nat.reduceSub,Array.replicate_succ,Array.replicate_zero,List.push_toArray,List.append_toArray,List.nil_append,List.cons_append]
 gi_wp2
 exact bodyPost_ret (results_cell_row rfl _ _ W.heap.size 248 _ _ _ rfl ((hao _ _ _ (by simp)).trans (heap_alloc_new _ _)) (by rfl) rfl (by rfl)) rfl ⟨rfl,rfl⟩
def MA (w:World) (b:Nat) (L:List (Int×Value)):Prop:=∃es c,w.heap[b]? = some (.map es c)/\es.toList.map (fun x=>(x.key,x.val))=L.map fun p=>(Value.int .i64 p.1,p.2)
theorem MA.put {P:Program} {w:World} {b:Nat} {L:List (Int×Value)} (h:MA w b L) (K:Keyed P 3) {t e:TypeId} (ht:P.underlying t=some (.map 3 e)) (k:Int) (v:Value) (M:keyOf P 3 (.int .i64 k)=some (.int .i64 k)) (A:L.all (fun p=>p.1 != k)=true) (S:∀p∈L,keyOf P 3 (.int .i64 p.1)=some (.int .i64 p.1)) :
  ∃w',(Instr.mapUpdate t (.map (some b)) (.int .i64 k) v).run P w = .ok () w' /\ MA w' b (L++[(k,v)])/\w.grownBy w' (some b):=by
 obtain⟨es,c,hb,J⟩:=h;have z:∀x∈es.toList,∃p∈L,x.key = .int .i64 p.1:=fun x D=>by
  have I:(x.key,x.val)∈es.toList.map (fun x=>(x.key,x.val)):=List.mem_map.2 ⟨x,D,rfl⟩;rw[J]at I;obtain⟨p,C,q⟩:=List.mem_map.1 I;exact⟨p,C,(congrArg Prod.fst q).symm⟩
 have Y:∀o:Obj,w.grownBy (setBlock w b o) (some b):=fun o=>⟨rfl,rfl,rfl,by simp[setBlock],fun i _ hi=>heap_setBlock_other hb _ (fun e=>hi (by rw[e]))⟩;rcases K.find w M es.toList (fun x D=>by obtain⟨p,C,q⟩:=z x D;exact⟨_,by rw[q];exact S p C⟩) with ⟨F,G⟩|⟨j,N,F,G,O⟩
 ·refine⟨setBlock w b (.map (es.push ⟨.int .i64 k,v,c⟩) (c+1)),?_,⟨_,_,heap_setBlock_same hb _,?_⟩,Y _⟩
  ·simp[Instr.mapUpdate,run_underlying ht,MapKept.run_getObj_map hb,K.check w false M,F,MapKept.run_setObj_map _ hb,Result.andThen,setBlock]
  ·rw[Array.toList_push,List.map_append,J,List.map_append];rfl
 ·exfalso;obtain⟨p,C,q⟩:=z N (List.mem_of_getElem? G);have:=List.all_eq_true.1 A p C;rw[O]at q;injection q with _ Q
  rw[Q]at this;simp at this
structure FS (w0 w:World) (L:List (Int×Value)) (R:List (Nat×Array Value)):Prop where
 map:MA w w0.heap.size L
 rows:∀p∈R,w0.heap.size<p.1/\w.heap[p.1]? = some (.cells p.2 3)
 below:Below w0.heap.size w0 w
 sz:w0.heap.size<w.heap.size
theorem FS.start (w:World):FS w (w.alloc (.map #[] 0)) [] []:=
 ⟨⟨#[],0,(MapKept.heap_alloc w _).1,rfl⟩,by simp,(Below.refl _ _).alloc (Nat.le_refl _) _,by simp⟩
theorem FS.cells {w0 w:World} {L R} (h:FS w0 w L R) (cs:Array Value) (t:TypeId):FS w0 (w.alloc (.cells cs t)) L R:=by
 obtain⟨⟨es,c,hb,D⟩,q,C,A⟩:=h;refine⟨⟨es,c,(hao _ _ _ A).trans hb,D⟩,fun p z=>⟨(q p z).1,(hao _ _ _ ?_).trans (q p z).2⟩,C.alloc (Nat.le_of_lt A) _,by simp;omega⟩;have:=(q p z).2;exact(Array.getElem?_eq_some_iff.1 this).1
theorem FS.row {w0 w:World} {L R} (h:FS w0 w L R) (cs:Array Value):FS w0 (w.alloc (.cells cs 3)) L ((w.heap.size,cs)::R):=by
 have q:=h.cells cs 3;refine⟨q.map,fun p hp=>?_,q.below,q.sz⟩;rcases List.mem_cons.1 hp with rfl|hp
 ·exact⟨h.sz,heap_alloc_new _ _⟩
 ·exact q.rows p hp
theorem FS.rowA {w0 w:World} {L R} (h:FS w0 w L R) (cs:Array Value) (a:Nat) (q:a=w.heap.size):FS w0 (w.alloc (.cells cs 3)) L ((a,cs)::R):=q▸h.row cs
theorem FS.put {w0 w:World} {L R} (h:FS w0 w L R) (k:Int) (v:Value) (M:(Lit.int .i64 k).wf=true) (q:L.all (fun p=>p.1 != k)=true) (J:L.all (fun p=>(Lit.int .i64 p.1).wf)=true) :
  ∃w',(Instr.mapUpdate 249 (.map (some w0.heap.size)) (.int .i64 k) v).run Tryz.prog w = .ok () w' /\ FS w0 w' (L++[(k,v)]) R:=by
 have A:Tryz.prog.underlying 3=some (.int .i64):=by rfl
 obtain⟨w',G,I,C⟩:=h.map.put (int_keyed A) (t:=249) (e:=248) (by rfl) k v (keyOf_int_mk A M) q (fun p z=>keyOf_int_mk A (List.all_eq_true.1 J p z));have N:=C.size;refine⟨w',G,I,fun p z=>⟨(h.rows p z).1,?_⟩,h.below.grown C h.below.size (fun k e=>by cases e;exact Nat.le_refl _),by have:=h.sz;omega⟩;have F:=(h.rows p z).2;obtain⟨_,_,_,_,D⟩:=C;exact(D p.1 (Array.getElem?_eq_some_iff.1 F).1 (fun e=>by have:=(h.rows p z).1;injection e with e;omega)).trans F
def frmL (D F G I J M N O Q q z A C:Nat):List (Int×Value):=[(5,.agg #[.slice none 0 0,.func (.func 348) #[] #[],.func (.func 349) #[] #[],.func (.func 309) #[] #[]]),
 (6,.agg #[.slice none 0 0,.func (.func 348) #[] #[],.func (.func 349) #[] #[],.func (.func 309) #[] #[]]),
 (18,.agg #[.slice none 0 0,.func (.func 348) #[] #[],.func (.func 349) #[] #[],.func (.func 309) #[] #[]]),
 (19,.agg #[.slice none 0 0,.func (.func 348) #[] #[],.func (.func 349) #[] #[],.func (.func 309) #[] #[]]),
 (8,.agg #[.slice (some ⟨D,0,none⟩) 1 1,.func (.func 350) #[] #[],.func (.func 351) #[] #[],.func (.func 309) #[] #[]]),
 (9,.agg #[.slice (some ⟨F,0,none⟩) 1 1,.func (.func 350) #[] #[],.func (.func 351) #[] #[],.func (.func 309) #[] #[]]),
 (20,.agg #[.slice (some ⟨G,0,none⟩) 1 1,.func (.func 352) #[] #[],.func (.func 353) #[] #[],.func (.func 354) #[] #[]]),
 (21,.agg #[.slice (some ⟨I,0,none⟩) 1 1,.func (.func 352) #[] #[],.func (.func 353) #[] #[],.func (.func 354) #[] #[]]),
 (0,.agg #[.slice (some ⟨J,0,none⟩) 6 6,.func (.func 292) #[] #[],.func (.func 294) #[] #[],.func (.func 296) #[] #[]]),
 (1,.agg #[.slice (some ⟨M,0,none⟩) 2 2,.func (.func 297) #[] #[],.func (.func 298) #[] #[],.func (.func 299) #[] #[]]),
 (15,.agg #[.slice (some ⟨N,0,none⟩) 5 5,.func (.func 300) #[] #[],.func (.func 301) #[] #[],.func (.func 302) #[] #[]]),
 (2,.agg #[.slice (some ⟨O,0,none⟩) 1 1,.func (.func 303) #[] #[],.func (.func 304) #[] #[],.func (.func 305) #[] #[]]),
 (3,.agg #[.slice (some ⟨Q,0,none⟩) 2 2,.func (.func 307) #[] #[],.func (.func 308) #[] #[],.func (.func 309) #[] #[]]),
 (4,.agg #[.slice (some ⟨q,0,none⟩) 1 1,.func (.func 310) #[] #[],.func (.func 311) #[] #[],.func (.func 309) #[] #[]]),
 (7,.agg #[.slice (some ⟨z,0,none⟩) 1 1,.func (.func 312) #[] #[],.func (.func 313) #[] #[],.func (.func 314) #[] #[]]),
 (12,.agg #[.slice (some ⟨A,0,none⟩) 1 1,.func (.func 315) #[] #[],.func (.func 316) #[] #[],.func (.func 317) #[] #[]]),
 (13,.agg #[.slice (some ⟨C,0,none⟩) 2 2,.func (.func 318) #[] #[],.func (.func 319) #[] #[],.func (.func 320) #[] #[]])]
def Jy (D F G I J M N O Q q z A C:Nat):List (Nat×Array Value):=[(C,#[.int .i64 1,.int .i64 1]),(A,#[.int .i64 1]),(z,#[.int .i64 1]),(q,#[.int .i64 8]),(Q,#[.int .i64 8,.int .i64 8]),(O,#[.int .i64 1]),(N,#[.int .i64 1,.int .i64 2,.int .i64 2,.int .i64 2,.int .i64 2]),(M,#[.int .i64 5,.int .i64 2]),(J,#[.int .i64 1,.int .i64 2,.int .i64 2,.int .i64 2,.int .i64 2,.int .i64 2]),(I,#[.int .i64 1]),(G,#[.int .i64 1]),(F,#[.int .i64 8]),(D,#[.int .i64 8])]
set_option maxHeartbeats 4000000 in
theorem ZAn (F:Fence) (n:Nat) (h9:F.fn 289) (h0:F.fn 290) (h1:F.fn 291) (h:F.fn 229) (q:F.round=none) (hn:1<=n) (w:World):CallsIn F n Tryz.prog 229 #[] w fun e W' =>e = .returned (.map (some w.heap.size))/\∃a1 a2 a3 a4 a5 a6 a7 a8 a9 z A C D,FS w W' (frmL a1 a2 a3 a4 a5 a6 a7 a8 a9 z A C D) (Jy a1 a2 a3 a4 a5 a6 a7 a8 a9 z A C D):=by
 have hmm:=@run_makeMap Tryz.prog;have G0:=FS.start w;have H1:=G0.cells #[.slice none 0 0,.func (.func 348) #[] #[],.func (.func 349) #[] #[],.func (.func 309) #[] #[]] 248;obtain⟨w1,u1,G1⟩:=H1.put 5 (.agg #[.slice none 0 0,.func (.func 348) #[] #[],.func (.func 349) #[] #[],.func (.func 309) #[] #[]]) (by decide) rfl rfl;have H2:=G1.cells #[.slice none 0 0,.func (.func 348) #[] #[],.func (.func 349) #[] #[],.func (.func 309) #[] #[]] 248;obtain⟨w2,u2,G2⟩:=H2.put 6 (.agg #[.slice none 0 0,.func (.func 348) #[] #[],.func (.func 349) #[] #[],.func (.func 309) #[] #[]]) (by decide) rfl rfl;have H3:=G2.cells #[.slice none 0 0,.func (.func 348) #[] #[],.func (.func 349) #[] #[],.func (.func 309) #[] #[]] 248;obtain⟨w3,u3,G3⟩:=H3.put 18 (.agg #[.slice none 0 0,.func (.func 348) #[] #[],.func (.func 349) #[] #[],.func (.func 309) #[] #[]]) (by decide) rfl rfl;have H4:=G3.cells #[.slice none 0 0,.func (.func 348) #[] #[],.func (.func 349) #[] #[],.func (.func 309) #[] #[]] 248;obtain⟨S,u4,G4⟩:=H4.put 19 (.agg #[.slice none 0 0,.func (.func 348) #[] #[],.func (.func 349) #[] #[],.func (.func 309) #[] #[]]) (by decide) rfl rfl;have H5:=(G4.cells #[.slice (some ⟨S.heap.size+1,0,none⟩) 1 1,.func (.func 350) #[] #[],.func (.func 351) #[] #[],.func (.func 309) #[] #[]] 248).rowA #[.int .i64 8] (S.heap.size+1) (by simp);obtain⟨Y,u5,G5⟩:=H5.put 8 (.agg #[.slice (some ⟨S.heap.size+1,0,none⟩) 1 1,.func (.func 350) #[] #[],.func (.func 351) #[] #[],.func (.func 309) #[] #[]]) (by decide) rfl rfl;have H6:=(G5.cells #[.slice (some ⟨Y.heap.size+1,0,none⟩) 1 1,.func (.func 350) #[] #[],.func (.func 351) #[] #[],.func (.func 309) #[] #[]] 248).rowA #[.int .i64 8] (Y.heap.size+1) (by simp);obtain⟨w6,u6,G6⟩:=H6.put 9 (.agg #[.slice (some ⟨Y.heap.size+1,0,none⟩) 1 1,.func (.func 350) #[] #[],.func (.func 351) #[] #[],.func (.func 309) #[] #[]]) (by decide) rfl rfl;have H7:=(G6.cells #[.slice (some ⟨w6.heap.size+1,0,none⟩) 1 1,.func (.func 352) #[] #[],.func (.func 353) #[] #[],.func (.func 354) #[] #[]] 248).rowA #[.int .i64 1] (w6.heap.size+1) (by simp);obtain⟨w7,u7,G7⟩:=H7.put 20 (.agg #[.slice (some ⟨w6.heap.size+1,0,none⟩) 1 1,.func (.func 352) #[] #[],.func (.func 353) #[] #[],.func (.func 354) #[] #[]]) (by decide) rfl rfl;have H8:=(G7.cells #[.slice (some ⟨w7.heap.size+1,0,none⟩) 1 1,.func (.func 352) #[] #[],.func (.func 353) #[] #[],.func (.func 354) #[] #[]] 248).rowA #[.int .i64 1] (w7.heap.size+1) (by simp);obtain⟨w8,u8,G8⟩:=H8.put 21 (.agg #[.slice (some ⟨w7.heap.size+1,0,none⟩) 1 1,.func (.func 352) #[] #[],.func (.func 353) #[] #[],.func (.func 354) #[] #[]]) (by decide) rfl rfl;have H9:=G8.row #[.int .i64 1,.int .i64 2,.int .i64 2,.int .i64 2,.int .i64 2,.int .i64 2];obtain⟨w9,u9,G9⟩:=H9.put 0 (.agg #[.slice (some ⟨w8.heap.size,0,none⟩) 6 6,.func (.func 292) #[] #[],.func (.func 294) #[] #[],.func (.func 296) #[] #[]]) (by decide) rfl rfl;have H10:=G9.row #[.int .i64 5,.int .i64 2];obtain⟨G,u10,G10⟩:=H10.put 1 (.agg #[.slice (some ⟨w9.heap.size,0,none⟩) 2 2,.func (.func 297) #[] #[],.func (.func 298) #[] #[],.func (.func 299) #[] #[]]) (by decide) rfl rfl;have H11:=G10.row #[.int .i64 1,.int .i64 2,.int .i64 2,.int .i64 2,.int .i64 2];obtain⟨I,u11,G11⟩:=H11.put 15 (.agg #[.slice (some ⟨G.heap.size,0,none⟩) 5 5,.func (.func 300) #[] #[],.func (.func 301) #[] #[],.func (.func 302) #[] #[]]) (by decide) rfl rfl;have H12:=G11.row #[.int .i64 1];obtain⟨J,u12,G12⟩:=H12.put 2 (.agg #[.slice (some ⟨I.heap.size,0,none⟩) 1 1,.func (.func 303) #[] #[],.func (.func 304) #[] #[],.func (.func 305) #[] #[]]) (by decide) rfl rfl;have H13:=G12.row #[.int .i64 8,.int .i64 8];obtain⟨M,u13,G13⟩:=H13.put 3 (.agg #[.slice (some ⟨J.heap.size,0,none⟩) 2 2,.func (.func 307) #[] #[],.func (.func 308) #[] #[],.func (.func 309) #[] #[]]) (by decide) rfl rfl;have H14:=G13.row #[.int .i64 8];obtain⟨N,u14,G14⟩:=H14.put 4 (.agg #[.slice (some ⟨M.heap.size,0,none⟩) 1 1,.func (.func 310) #[] #[],.func (.func 311) #[] #[],.func (.func 309) #[] #[]]) (by decide) rfl rfl;have H15:=G14.row #[.int .i64 1];obtain⟨O,u15,G15⟩:=H15.put 7 (.agg #[.slice (some ⟨N.heap.size,0,none⟩) 1 1,.func (.func 312) #[] #[],.func (.func 313) #[] #[],.func (.func 314) #[] #[]]) (by decide) rfl rfl;have H16:=G15.row #[.int .i64 1];obtain⟨Q,u16,G16⟩:=H16.put 12 (.agg #[.slice (some ⟨O.heap.size,0,none⟩) 1 1,.func (.func 315) #[] #[],.func (.func 316) #[] #[],.func (.func 317) #[] #[]]) (by decide) rfl rfl;have H17:=G16.row #[.int .i64 1,.int .i64 1];obtain⟨w17,u17,G17⟩:=H17.put 13 (.agg #[.slice (some ⟨Q.heap.size,0,none⟩) 2 2,.func (.func 318) #[] #[],.func (.func 319) #[] #[],.func (.func 320) #[] #[]]) (by decide) rfl rfl;refine callsIn_of_wp func229 rfl h ?_ q;simp only[Tryz.ntmps229,List.size_toArray,List.length_cons,List.length_nil,Nat.reduceAdd,Nat.reduceSub,Array.replicate_succ,Array.replicate_zero,List.push_toArray,List.append_toArray,List.nil_append,List.cons_append]
 gi_wp2_with (first|(gi_at_call 289;refine(ZAt F (n - 1) h9 q _).mono ?_;rintro e w' ⟨rfl,rfl⟩)|(gi_at_call 290;refine(ZCs F (n - 1) h0 q _).mono ?_;rintro e w' ⟨rfl,rfl⟩)|(gi_at_call 291;refine(ZC6 F (n - 1) h1 q _).mono ?_;rintro e w' ⟨rfl,rfl⟩))
 exact bodyPost_ret (results_tmp rfl _ _ _) rfl ⟨rfl,S.heap.size+1,Y.heap.size+1,w6.heap.size+1,w7.heap.size+1,w8.heap.size,w9.heap.size,G.heap.size,I.heap.size,J.heap.size,M.heap.size,N.heap.size,O.heap.size,Q.heap.size,G17⟩
open Go.Proofs.YtjodhcdmhobmoaaGreatDoor.Le
theorem KZ {w0 w:World} {L R} (h:FS w0 w L R) (fz:Nat->Nat->Prop) {a:Nat} (xs:List Int) (J:(a,(xs.map (Value.int .i64 ·)).toArray)∈R) (M:xs.all (fun x=>(Lit.int .i64 x).wf)=true) (O:xs.length<=100) :
  AQ (bare (fun b c=>fz b c\/(w0.heap.size<b/\∃u,w.cell? ⟨b,c,none⟩=some u))) w [.sl false 1 (xs.map fun x=>.lit (.int .i64 x))] [.slice (some ⟨a,0,none⟩) xs.length xs.length]:=by
 obtain⟨G,I⟩:=h.rows _ J;have A:∀ys:List Int,ys.all (fun x=>(Lit.int .i64 x).wf)=true->AQ (bare (fun b c=>fz b c\/(w0.heap.size<b/\∃u,w.cell? ⟨b,c,none⟩=some u))) w (ys.map fun x=>.lit (.int .i64 x)) (ys.map (Value.int .i64 ·)):=by
  intro ys;induction ys with
  | nil=>intro _;exact .nil
  | cons y ys D=>
   intro C;simp only[List.all_cons,Bool.and_eq_true]at C;exact .lit C.1 (D C.2)
 have q:∀ys:List Int,flat (ys.map (Value.int .i64 ·))=ys.map (Value.int .i64 ·):=by
  intro ys;induction ys with
  | nil=>rfl
  | cons y ys D=>
   show [Value.int .i64 y]++flat (ys.map (Value.int .i64 ·))=_;rw[D];rfl
 have hc:∀j,w.cell? ⟨a,j,none⟩=(xs.map (Value.int .i64 ·)).toArray[j]?:=fun j=>cell_of_row w a j _ 3 _ I;have:=AQ.sl (xs:=[]) (vs:=[]) a 0 xs.length 1 (A xs M) (by intro x N;obtain⟨n,_,rfl⟩:=List.mem_map.1 N;rfl) (by intro u z;obtain⟨n,_,rfl⟩:=List.mem_map.1 z;rfl)
  (by rw[q];intro u z;obtain⟨n,_,rfl⟩:=List.mem_map.1 z;rfl) (by simp) (by rw[show maxLen=9223372036854775807 from rfl];omega)
  (by
   intro j u F;rw[q]at F;have e:w.cell? ⟨a,0+j,none⟩=some u:=by rw[Nat.zero_add,hc];simpa using F
   exact⟨.inr ⟨G,u,e⟩,e⟩) .nil
 rw[List.length_map]at this;exact this
theorem Ij {σ:Sg} {w:World} {k:Int} {xs:List Int} {q:Value} {a b c:Nat} {r:List V} {A:List Value} (C:(Lit.int .i64 k).wf=true) (F:AQ σ w [.sl false 1 (xs.map fun x=>.lit (.int .i64 x))] [q]) (D:q.oneCell' = true) (h:AQ σ w r A) :
  AQ σ w (.lit (.int .i64 k) :: .agg [.sl false 1 (xs.map fun x=>.lit (.int .i64 x)),.fn a [] [],.fn b [] [],.fn c [] []]::r) (.int .i64 k :: .agg #[q,.func (.func a) #[] #[],.func (.func b) #[] #[],.func (.func c) #[] #[]]::A):=
 .lit C (.agg (ws:=[q,.func (.func a) #[] #[],.func (.func b) #[] #[],.func (.func c) #[] #[]]) (AQ.FD.2 ⟨F,.fn (us:=[]) (ws:=[]) .nil .nil (.fn (us:=[]) (ws:=[]) .nil .nil (.fn (us:=[]) (ws:=[]) .nil .nil .nil))⟩) (by intro u z;simp only[List.mem_cons,List.not_mem_nil,or_false]at z;rcases z with rfl|rfl|rfl|rfl<;>first|exact D|rfl) h)
noncomputable def Gz:Option Unit:=some ()
noncomputable def ZkX:Af U:={ ts:=[],rt:=249,fn:=fun _=>Gz,ok:=by decide }
theorem Z6K:AA0 229 ZkX:=by
 refine⟨⟨f229,func229,by kernel_rfl,by kernel_rfl⟩,?_⟩
 rintro x a ha fz w vs z hg hr
 cases ha;cases hr.FI;refine(callsIn_wide.1 (ZAn Fence.wide 3 trivial trivial trivial trivial rfl (by omega) w)).mono ?_
 rintro e w' ⟨rfl,J,M,N,O,Q,S,Y,a8,a9,A,C,D,F,h⟩
 refine⟨_,fun b c=>fz b c\/(w.heap.size<b/\∃u,w'.cell? ⟨b,c,none⟩=some u),rfl,h.below,fun _ _ h=>.inl h,fun b c h hb=>h.elim id (fun h=>absurd hb (by omega)),fun b c G=>?_,?_,rfl⟩
 ·rcases G with G|⟨_,G⟩
  ·obtain⟨u,hu⟩:=z b c G;exact⟨u,(h.below.cell (p:=⟨b,c,none⟩) (cell_lt hu)).trans hu⟩
  ·exact G
 ·obtain⟨es,c,hb,he⟩:=h.map;have I:(frmL J M N O Q S Y a8 a9 A C D F).flatMap (fun p=>[Value.int .i64 p.1,p.2])=es.toList.flatMap (fun e=>[e.key,e.val]):=by
   have h1:(es.toList.map fun x=>(x.key,x.val)).flatMap (fun q:Value×Value=>[q.1,q.2])=es.toList.flatMap (fun e=>[e.key,e.val]):=by rw[List.flatMap_map]
   rw[<- h1,he,List.flatMap_map]
  refine .GY w.heap.size es c (us:=(frmL J M N O Q S Y a8 a9 A C D F).flatMap (fun p=>[Value.int .i64 p.1,p.2])) ?_ hb I .nil;exact Ij (xs:=[]) (by decide) (.EY .nil) rfl (Ij (xs:=[]) (by decide) (.EY .nil) rfl (Ij (xs:=[]) (by decide) (.EY .nil) rfl (Ij (xs:=[]) (by decide) (.EY .nil) rfl (Ij (xs:=[8]) (by decide) (KZ h fz [8] (by simp[Jy]) (by decide) (by decide)) rfl (Ij (xs:=[8]) (by decide) (KZ h fz [8] (by simp[Jy]) (by decide) (by decide)) rfl (Ij (xs:=[1]) (by decide) (KZ h fz [1] (by simp[Jy]) (by decide) (by decide)) rfl (Ij (xs:=[1]) (by decide) (KZ h fz [1] (by simp[Jy]) (by decide) (by decide)) rfl (Ij (xs:=[1,2,2,2,2,2]) (by decide) (KZ h fz [1,2,2,2,2,2] (by simp[Jy]) (by decide) (by decide)) rfl (Ij (xs:=[5,2]) (by decide) (KZ h fz [5,2] (by simp[Jy]) (by decide) (by decide)) rfl (Ij (xs:=[1,2,2,2,2]) (by decide) (KZ h fz [1,2,2,2,2] (by simp[Jy]) (by decide) (by decide)) rfl (Ij (xs:=[1]) (by decide) (KZ h fz [1] (by simp[Jy]) (by decide) (by decide)) rfl (Ij (xs:=[8,8]) (by decide) (KZ h fz [8,8] (by simp[Jy]) (by decide) (by decide)) rfl (Ij (xs:=[8]) (by decide) (KZ h fz [8] (by simp[Jy]) (by decide) (by decide)) rfl (Ij (xs:=[1]) (by decide) (KZ h fz [1] (by simp[Jy]) (by decide) (by decide)) rfl (Ij (xs:=[1]) (by decide) (KZ h fz [1] (by simp[Jy]) (by decide) (by decide)) rfl (Ij (xs:=[1,1]) (by decide) (KZ h fz [1,1] (by simp[Jy]) (by decide) (by decide)) rfl (.nil)))))))))))))))))
end Go.Proofs.YtjodhcdmhobmoaaGreatDoor
namespace Go.Proofs.YtjodhcdmhobmoaaGreatDoor
open Tryz
open Go Go.Proofs.YtjodhcdmhobmoaaGreatDoor.Le
set_option maxRecDepth 100000
noncomputable section
inductive Z5 where
 | b0 (a:DL)
def ZkG:Z5->Tr U (Rf⊕Z5)
 | .b0 a=>.chk true (AA (⟨[(IntKind.wrap .u64 (a.ET)),(IntKind.wrap .u64 (a.ES)),(IntKind.wrap .u64 (a.Dl)),(IntKind.wrap .u64 (a.Dx)),(IntKind.wrap .u64 (a.Ea))]⟩:Rf))
def kY (a:DL):Option Rf:=AV ZkG (.b0 a)
def Z64:Shape:=⟨[.agg [.v 24 5 true]],[]⟩
def Zhg:Shape:=⟨[.one (.own 25 0)],[.row 25 true]⟩
noncomputable def ZkL:HMod U:=⟨[k12],[],Z64,Zhg,true,1371,fun(y:Rf)=>(((),()),(y.q0,())),fun x=>kY x.1.1.1,okS rfl⟩
def Zk5:Z5->Ac U
 | .b0 a=>Ff f293 Z64 (((a,()),()),())
theorem Z6y:Dy Tryz.prog B0 293 ZkL:=okR Ag Ah AN [[.own 25 1]] [.row true] 0 Zk5 func293 (fun p=>by cases p<;>kernel_rfl) (by kernel_rfl) fun x=>by kernel_rfl
inductive zN where
 | b0 (a:AL)
def Z6s:zN->Tr U ((List Int)⊕zN)
 | .b0 a=>.bind 1371 (kY a.BI) (fun(q:Rf)=>let b:=q.q0++[(IntKind.wrap .u64 (a.DF))];.chk true (kl q.q0 (.chk (kA (q.q0.length+1) 8) (kl b (AA b)))))
def kR (a:AL):Option (List Int):=AV Z6s (.b0 a)
def Zi8:zN->Ac U
 | .b0 a=>Ai f292 [156] (a,())
theorem Z6i:AA1 292 [156] 254 (fun x=>kR x.1) rfl:=Aj Ag (hc [] Z6y Ah) AN Zi8 func292 (fun p=>by cases p<;>kernel_rfl) (by kernel_rfl) fun _=>rfl
inductive Zi where
 | b0 (a:List F9)
 | b1 (a:List F9) (b c:Int)
 | b2 (a:List F9) (b c:Int)
def Wx:Zi->Tr U (Bool⊕Zi)
 | .b0 a=>AO (.b1 a (↑a.length:Int) (0:Int))
 | .b1 c d a=>.br (decide (a<d)) (.chk (kI a c) (.bind 174 (c[(Int.toNat a)]?) (fun(b:F9)=>.br (decide (b.TW<b.f_low)) (AA false) (.br (decide (b.TW>b.uK)) (AA false) (AO (.b2 c d a)))))) (AA true)
 | .b2 a b c=>AO (.b1 a b (AP (c+1)))
def Za (a:List F9):Option Bool:=AV Wx (.b0 a)
def jX:Lay:=⟨[5,6,7],[[.s 174 3],KP,KP],[],⟨[OV 240,OV 3,OV 3],[]⟩⟩
def ZkQ:Nat->Option Lay
 | 2=>some jX
 | 6=>some jX
 | _=>none
def ZjK:Zi->Ac U
 | .b0 a=>Ai f124 [240] (a,())
 | .b1 a b c=>AA3 f124 [1,0,1,0,0,0] jX (a,b,c,())
 | .b2 a b c=>AA3 f124 [1,0,1,0,0,1,1,1] jX (a,b,c,())
theorem Zjg:AA1 124 [240] 4 (fun x=>Za x.1) rfl:=Aj Ag Ah ZkQ ZjK func124 (fun p=>by cases p<;>kernel_rfl) (by kernel_rfl) fun _=>rfl
inductive wR where
 | b0 (a:DL)
def Z5e:wR->Tr U (Int⊕wR)
 | .b0 a=>let c:=AA (11:Int);.chk true (.bind 4 (Za ([(⟨a.ET,1,8⟩:F9),(⟨a.ES,0,3200⟩:F9),(⟨a.Dl,6,3200⟩:F9),(⟨a.Dx,0,499⟩:F9),(⟨a.Ea,10,3200⟩:F9)])) (fun(b:Bool)=>.br (!b) (AA (5:Int)) (.br (decide (a.ET>=a.Dl)) c (.br (decide (a.ES>a.Dl)) c (.br (decide ((AP (a.Ea*10000))<=(AP ((AP ((AP ((2:Int)*(AP (a.Dx+1))))*a.Dl))*1250)))) c (AA (0:Int)))))))
def jI (a:DL):Option Int:=AV Z5e (.b0 a)
def Zgm:wR->Ac U
 | .b0 a=>Ai f122 [24] (a,())
theorem Z5c:AA1 122 [24] 45 (fun x=>jI x.1) rfl:=Aj (mc Zjg Ag) Ah AN Zgm func122 (fun p=>by cases p<;>kernel_rfl) (by kernel_rfl) fun _=>rfl
inductive zA where
 | b0 (a:AL)
def Z6t:zA->Tr U (Int⊕zA)
 | .b0 a=>.bind 45 (jI a.BI) (fun(b:Int)=>AA b)
def yT (a:AL):Option Int:=AV Z6t (.b0 a)
def ZiL:zA->Ac U
 | .b0 a=>Ai f296 [156] (a,())
theorem ZiB:AA1 296 [156] 45 (fun x=>yT x.1) rfl:=Aj (mc Z5c Ag) Ah AN ZiL func296 (fun p=>by cases p<;>kernel_rfl) (by kernel_rfl) fun _=>rfl
inductive zQ where
 | b0 (a:AL)
def ZjG:zQ->Tr U ((List Int)⊕zQ)
 | .b0 a=>.chk true (AA ([a.Map,(IntKind.wrap .u64 (a.DF))]))
def kU (a:AL):Option (List Int):=AV ZjG (.b0 a)
def Zi1:zQ->Ac U
 | .b0 a=>Ai f297 [156] (a,())
theorem Z69:AA1 297 [156] 254 (fun x=>kU x.1) rfl:=Aj Ag Ah AN Zi1 func297 (fun p=>by cases p<;>kernel_rfl) (by kernel_rfl) fun _=>rfl
inductive ZE where
 | b0 (a:Int)
def Z79:ZE->Tr U (Int⊕ZE)
 | .b0 a=>.br ((bits .andNot .u64 a (137438953471:Int)) != 0) (AA (5:Int)) (.bind 3 (UI a) (fun(b:Int)=>.br (decide (b<2)) (AA (1:Int)) (AA (0:Int))))
def Zl (a:Int):Option Int:=AV Z79 (.b0 a)
def ZkN:ZE->Ac U
 | .b0 a=>Ai f123 [26] (a,())
theorem Zkq:AA1 123 [26] 45 (fun x=>Zl x.1) rfl:=Aj (mc Z9 Ag) Ah AN ZkN func123 (fun p=>by cases p<;>kernel_rfl) (by kernel_rfl) fun _=>rfl
inductive zU where
 | b0 (a:AL)
def Z6x:zU->Tr U (Int⊕zU)
 | .b0 a=>.bind 45 (Zl a.Map) (fun(b:Int)=>AA b)
def zG (a:AL):Option Int:=AV Z6x (.b0 a)
def ZiT:zU->Ac U
 | .b0 a=>Ai f299 [156] (a,())
theorem ZhU:AA1 299 [156] 45 (fun x=>zG x.1) rfl:=Aj (mc Zkq Ag) Ah AN ZiT func299 (fun p=>by cases p<;>kernel_rfl) (by kernel_rfl) fun _=>rfl
inductive zB where
 | b0 (a:AL)
def Z6u:zB->Tr U ((List Int)⊕zB)
 | .b0 a=>.bind 1371 (kY a.BI) (fun(q:Rf)=>kl q.q0 (AA q.q0))
def kV (a:AL):Option (List Int):=AV Z6u (.b0 a)
def Ziv:zB->Ac U
 | .b0 a=>Ai f300 [156] (a,())
theorem Z68:AA1 300 [156] 254 (fun x=>kV x.1) rfl:=Aj Ag (hc [] Z6y Ah) AN Ziv func300 (fun p=>by cases p<;>kernel_rfl) (by kernel_rfl) fun _=>rfl
inductive yV where
 | b0 (a:AL)
def Z6H:yV->Tr U (Int⊕yV)
 | .b0 a=>.bind 45 (jI a.BI) (fun(b:Int)=>AA b)
def zM (a:AL):Option Int:=AV Z6H (.b0 a)
def ZiO:yV->Ac U
 | .b0 a=>Ai f302 [156] (a,())
theorem ZiY:AA1 302 [156] 45 (fun x=>zM x.1) rfl:=Aj (mc Z5c Ag) Ah AN ZiO func302 (fun p=>by cases p<;>kernel_rfl) (by kernel_rfl) fun _=>rfl
inductive yD where
 | b0 (a:AL)
def Zin:yD->Tr U ((List Int)⊕yD)
 | .b0 a=>.chk true (AA ([(IntKind.wrap .u64 (a.Bd))]))
def kD (a:AL):Option (List Int):=AV Zin (.b0 a)
def Zh3:yD->Ac U
 | .b0 a=>Ai f303 [156] (a,())
theorem Z5D:AA1 303 [156] 254 (fun x=>kD x.1) rfl:=Aj Ag Ah AN Zh3 func303 (fun p=>by cases p<;>kernel_rfl) (by kernel_rfl) fun _=>rfl
inductive Zk where
 | b0 (a b c:Int)
def Z6T:Zk->Tr U (Int⊕Zk)
 | .b0 a b c=>let d:=AA (5:Int);.br (decide (a<b)) d (.br (decide (a>c)) d (AA (0:Int)))
def QJ (a b c:Int):Option Int:=AV Z6T (.b0 a b c)
def ZjM:Zk->Ac U
 | .b0 a b c=>Ai f306 [3,3,3] (a,b,c,())
theorem Wn:AA1 306 [3,3,3] 45 (fun x=>QJ x.1 x.2.1 x.2.2.1) rfl:=Aj Ag Ah AN ZjM func306 (fun p=>by cases p<;>kernel_rfl) (by kernel_rfl) fun _=>rfl
inductive xO where
 | b0 (a:AL)
def Z6o:xO->Tr U (Int⊕xO)
 | .b0 a=>.bind 45 (QJ a.Bd (0:Int) (255:Int)) (fun(b:Int)=>AA b)
def yB (a:AL):Option Int:=AV Z6o (.b0 a)
def Zhz:xO->Ac U
 | .b0 a=>Ai f305 [156] (a,())
theorem Zhn:AA1 305 [156] 45 (fun x=>yB x.1) rfl:=Aj (mc Wn Ag) Ah AN Zhz func305 (fun p=>by cases p<;>kernel_rfl) (by kernel_rfl) fun _=>rfl
inductive xK where
 | b0 (a:AL)
def Zj4:xK->Tr U ((List Int)⊕xK)
 | .b0 a=>.chk true (AA ([a.Bq,a.Mark]))
def kC (a:AL):Option (List Int):=AV Zj4 (.b0 a)
def Zhx:xK->Ac U
 | .b0 a=>Ai f307 [156] (a,())
theorem Z5B:AA1 307 [156] 254 (fun x=>kC x.1) rfl:=Aj Ag Ah AN Zhx func307 (fun p=>by cases p<;>kernel_rfl) (by kernel_rfl) fun _=>rfl
inductive ZO where
 | b0 (a:AL)
def Z7I:ZO->Tr U (Int⊕ZO)
 | .b0 a=>AA (0:Int)
def Nq (a:AL):Option Int:=AV Z7I (.b0 a)
def Zl7:ZO->Ac U
 | .b0 a=>Ai f309 [156] (a,())
theorem ZlA:AA1 309 [156] 45 (fun x=>Nq x.1) rfl:=Aj Ag Ah AN Zl7 func309 (fun p=>by cases p<;>kernel_rfl) (by kernel_rfl) fun _=>rfl
inductive xA where
 | b0 (a:AL)
def Ziw:xA->Tr U ((List Int)⊕xA)
 | .b0 a=>.chk true (AA ([a.Bq]))
def jV (a:AL):Option (List Int):=AV Ziw (.b0 a)
def Zhu:xA->Ac U
 | .b0 a=>Ai f310 [156] (a,())
theorem Z5H:AA1 310 [156] 254 (fun x=>jV x.1) rfl:=Aj Ag Ah AN Zhu func310 (fun p=>by cases p<;>kernel_rfl) (by kernel_rfl) fun _=>rfl
inductive yH where
 | b0 (a:AL)
def ZhR:yH->Tr U ((List Int)⊕yH)
 | .b0 a=>.chk true (AA ([(IntKind.wrap .u64 (a.DT))]))
def jW (a:AL):Option (List Int):=AV ZhR (.b0 a)
def Zh2:yH->Ac U
 | .b0 a=>Ai f312 [156] (a,())
theorem Z5Y:AA1 312 [156] 254 (fun x=>jW x.1) rfl:=Aj Ag Ah AN Zh2 func312 (fun p=>by cases p<;>kernel_rfl) (by kernel_rfl) fun _=>rfl
inductive yL where
 | b0 (a:AL)
def Z61:yL->Tr U (Int⊕yL)
 | .b0 a=>.bind 45 (QJ a.DT (0:Int) (255:Int)) (fun(b:Int)=>AA b)
def xG (a:AL):Option Int:=AV Z61 (.b0 a)
def Zhc:yL->Ac U
 | .b0 a=>Ai f314 [156] (a,())
theorem Zhj:AA1 314 [156] 45 (fun x=>xG x.1) rfl:=Aj (mc Wn Ag) Ah AN Zhc func314 (fun p=>by cases p<;>kernel_rfl) (by kernel_rfl) fun _=>rfl
inductive xX where
 | b0 (a:AL)
def Zj2:xX->Tr U ((List Int)⊕xX)
 | .b0 a=>.chk true (AA ([(IntKind.wrap .u64 (a.Version))]))
def jY (a:AL):Option (List Int):=AV Zj2 (.b0 a)
def ZgY:xX->Ac U
 | .b0 a=>Ai f315 [156] (a,())
theorem Z5O:AA1 315 [156] 254 (fun x=>jY x.1) rfl:=Aj Ag Ah AN ZgY func315 (fun p=>by cases p<;>kernel_rfl) (by kernel_rfl) fun _=>rfl
inductive yK where
 | b0 (a:AL)
def Z67:yK->Tr U (Int⊕yK)
 | .b0 a=>.bind 45 (QJ a.Version (0:Int) (255:Int)) (fun(b:Int)=>AA b)
def xH (a:AL):Option Int:=AV Z67 (.b0 a)
def Zhk:yK->Ac U
 | .b0 a=>Ai f317 [156] (a,())
theorem Zht:AA1 317 [156] 45 (fun x=>xH x.1) rfl:=Aj (mc Wn Ag) Ah AN Zhk func317 (fun p=>by cases p<;>kernel_rfl) (by kernel_rfl) fun _=>rfl
inductive xR where
 | b0 (a:AL)
def Zia:xR->Tr U ((List Int)⊕xR)
 | .b0 a=>.chk true (AA ([(IntKind.wrap .u64 (a.Bd)),(IntKind.wrap .u64 (a.DT))]))
def kM (a:AL):Option (List Int):=AV Zia (.b0 a)
def Zhd:xR->Ac U
 | .b0 a=>Ai f318 [156] (a,())
theorem Z5L:AA1 318 [156] 254 (fun x=>kM x.1) rfl:=Aj Ag Ah AN Zhd func318 (fun p=>by cases p<;>kernel_rfl) (by kernel_rfl) fun _=>rfl
inductive xP where
 | b0 (a:AL)
def Z6q:xP->Tr U (Int⊕xP)
 | .b0 a=>.bind 45 (QJ a.Bd (0:Int) (255:Int)) (fun(b:Int)=>.bind 45 (QJ a.DT (0:Int) (255:Int)) (fun(c:Int)=>AA (if c>b then c else b)))
def xQ (a:AL):Option Int:=AV Z6q (.b0 a)
def Zho:xP->Ac U
 | .b0 a=>Ai f320 [156] (a,())
theorem Zhh:AA1 320 [156] 45 (fun x=>xQ x.1) rfl:=Aj (mc Wn Ag) Ah AN Zho func320 (fun p=>by cases p<;>kernel_rfl) (by kernel_rfl) fun _=>rfl
inductive zX where
 | b0 (a:AL)
def ZjN:zX->Tr U ((List Int)⊕zX)
 | .b0 a=>.chk true (AA ([]:List Int))
def Np (a:AL):Option (List Int):=AV ZjN (.b0 a)
def Zik:zX->Ac U
 | .b0 a=>Ai f348 [156] (a,())
theorem Z6h:AA1 348 [156] 254 (fun x=>Np x.1) rfl:=Aj Ag Ah AN Zik func348 (fun p=>by cases p<;>kernel_rfl) (by kernel_rfl) fun _=>rfl
inductive wU where
 | b0 (a:AL)
def ZgH:wU->Tr U ((List Int)⊕wU)
 | .b0 a=>.chk true (AA ([a.CW]))
def Tj (a:AL):Option (List Int):=AV ZgH (.b0 a)
def Zgt:wU->Ac U
 | .b0 a=>Ai f350 [156] (a,())
theorem Z5j:AA1 350 [156] 254 (fun x=>Tj x.1) rfl:=Aj Ag Ah AN Zgt func350 (fun p=>by cases p<;>kernel_rfl) (by kernel_rfl) fun _=>rfl
inductive xJ where
 | b0 (a:AL)
def ZiC:xJ->Tr U ((List Int)⊕xJ)
 | .b0 a=>.chk true (AA ([(IntKind.wrap .u64 (a.Length))]))
def Tv (a:AL):Option (List Int):=AV ZiC (.b0 a)
def ZhD:xJ->Ac U
 | .b0 a=>Ai f352 [156] (a,())
theorem Z5X:AA1 352 [156] 254 (fun x=>Tv x.1) rfl:=Aj Ag Ah AN ZhD func352 (fun p=>by cases p<;>kernel_rfl) (by kernel_rfl) fun _=>rfl
inductive xE where
 | b0 (a:AL)
def Z60:xE->Tr U (Int⊕xE)
 | .b0 a=>.bind 45 (QJ a.Length (27:Int) (251:Int)) (fun(b:Int)=>AA b)
def kF (a:AL):Option Int:=AV Z60 (.b0 a)
def Zh6:xE->Ac U
 | .b0 a=>Ai f354 [156] (a,())
theorem ZgW:AA1 354 [156] 45 (fun x=>kF x.1) rfl:=Aj (mc Wn Ag) Ah AN Zh6 func354 (fun p=>by cases p<;>kernel_rfl) (by kernel_rfl) fun _=>rfl
inductive yR where
 | b0 (a:List Int)
def Z6F:yR->Tr U (DL⊕yR)
 | .b0 a=>.chk (kI (0:Int) a) (.bind 25 (a[(Int.toNat 0)]?) (fun(b:Int)=>.chk (kI (1:Int) a) (.bind 25 (a[(Int.toNat 1)]?) (fun(c:Int)=>.chk (kI (2:Int) a) (.bind 25 (a[(Int.toNat 2)]?) (fun(d:Int)=>.chk (kI (3:Int) a) (.bind 25 (a[(Int.toNat 3)]?) (fun(e:Int)=>.chk (kI (4:Int) a) (.bind 25 (a[(Int.toNat 4)]?) (fun(f:Int)=>AA (⟨(AP (b)),(AP (c)),(AP (d)),(AP (e)),(AP (f))⟩:DL)))))))))))
def kT (a:List Int):Option DL:=AV Z6F (.b0 a)
def ZiG:yR->Ac U
 | .b0 a=>Ai f295 [254] (a,())
theorem Z6d:AA1 295 [254] 24 (fun x=>kT x.1) rfl:=Aj Ag Ah AN ZiG func295 (fun p=>by cases p<;>kernel_rfl) (by kernel_rfl) fun _=>rfl
inductive zI where
 | b0 (a:List Int) (b:AL)
def Z6E:zI->Tr U (UC⊕zI)
 | .b0 a b=>.bind 24 (kT a) (fun(c:DL)=>.chk (kI (5:Int) a) (.bind 25 (a[(Int.toNat 5)]?) (fun(d:Int)=>AA (⟨({ b with BI:=c,DF:=(IntKind.wrap .u16 (d)) }:AL)⟩:UC))))
def yU (a:List Int) (b:AL):Option UC:=AV Z6E (.b0 a b)
def Z5S:Shape:=⟨[PQ 0,OV 254],[VA 156 15]⟩
def ZgT:Shape:=⟨[],[VA 156 15]⟩
noncomputable def Zjm:HMod U:=⟨[KP,[.s 25 1]],[.var k0],Z5S,ZgT,false,1362,fun(y:UC)=>((),((y.q0,()),())),fun x=>yU x.1.2.1.1 x.2.1.1,okS rfl⟩
def ZiW:zI->Ac U
 | .b0 a b=>Ff f294 Z5S (((),((a,()),())),((b,()),()))
theorem ZiS:Dy Tryz.prog B0 294 Zjm:=okR (mc Z6d Ag) Ah AN [] [.var k0] 1 ZiW func294 (fun p=>by cases p<;>kernel_rfl) (by kernel_rfl) fun x=>by kernel_rfl
inductive zD where
 | b0 (a:List Int) (b:AL)
def ZjY:zD->Tr U (UE⊕zD)
 | .b0 a b=>.chk (kI (0:Int) a) (.bind 25 (a[(Int.toNat 0)]?) (fun(c:Int)=>.chk (kI (1:Int) a) (.bind 25 (a[(Int.toNat 1)]?) (fun(d:Int)=>AA (⟨({ b with Map:=c,DF:=(IntKind.wrap .u16 (d)) }:AL)⟩:UE)))))
def zL (a:List Int) (b:AL):Option UE:=AV ZjY (.b0 a b)
def Z5P:Shape:=⟨[PQ 0,OV 254],[VA 156 15]⟩
def ZgM:Shape:=⟨[],[VA 156 15]⟩
noncomputable def ZjL:HMod U:=⟨[KP,[.s 25 1]],[.var k0],Z5P,ZgM,false,1363,fun(y:UE)=>((),((y.q0,()),())),fun x=>zL x.1.2.1.1 x.2.1.1,okS rfl⟩
def Zij:zD->Ac U
 | .b0 a b=>Ff f298 Z5P (((),((a,()),())),((b,()),()))
theorem Zj9:Dy Tryz.prog B0 298 ZjL:=okR Ag Ah AN [] [.var k0] 1 Zij func298 (fun p=>by cases p<;>kernel_rfl) (by kernel_rfl) fun x=>by kernel_rfl
inductive zW where
 | b0 (a:List Int) (b:AL)
def Z6z:zW->Tr U (UB⊕zW)
 | .b0 a b=>.bind 24 (kT a) (fun(c:DL)=>AA (⟨({ b with BI:=c }:AL)⟩:UB))
def zJ (a:List Int) (b:AL):Option UB:=AV Z6z (.b0 a b)
def Z5F:Shape:=⟨[PQ 0,OV 254],[VA 156 15]⟩
def ZgF:Shape:=⟨[],[VA 156 15]⟩
noncomputable def Zjv:HMod U:=⟨[KP,[.s 25 1]],[.var k0],Z5F,ZgF,false,1364,fun(y:UB)=>((),((y.q0,()),())),fun x=>zJ x.1.2.1.1 x.2.1.1,okS rfl⟩
def Zi6:zW->Ac U
 | .b0 a b=>Ff f301 Z5F (((),((a,()),())),((b,()),()))
theorem Zi9:Dy Tryz.prog B0 301 Zjv:=okR (mc Z6d Ag) Ah AN [] [.var k0] 1 Zi6 func301 (fun p=>by cases p<;>kernel_rfl) (by kernel_rfl) fun x=>by kernel_rfl
inductive xN where
 | b0 (a:List Int) (b:AL)
def Zj8:xN->Tr U (Tu⊕xN)
 | .b0 a b=>.chk (kI (0:Int) a) (.bind 25 (a[(Int.toNat 0)]?) (fun(c:Int)=>AA (⟨({ b with Bd:=(AP (c)) }:AL)⟩:Tu)))
def xW (a:List Int) (b:AL):Option Tu:=AV Zj8 (.b0 a b)
def Z5A:Shape:=⟨[PQ 0,OV 254],[VA 156 15]⟩
def Zgs:Shape:=⟨[],[VA 156 15]⟩
noncomputable def ZiI:HMod U:=⟨[KP,[.s 25 1]],[.var k0],Z5A,Zgs,false,1365,fun(y:Tu)=>((),((y.q0,()),())),fun x=>xW x.1.2.1.1 x.2.1.1,okS rfl⟩
def ZgX:xN->Ac U
 | .b0 a b=>Ff f304 Z5A (((),((a,()),())),((b,()),()))
theorem Zhv:Dy Tryz.prog B0 304 ZiI:=okR Ag Ah AN [] [.var k0] 1 ZgX func304 (fun p=>by cases p<;>kernel_rfl) (by kernel_rfl) fun x=>by kernel_rfl
inductive yP where
 | b0 (a:List Int) (b:AL)
def Zjb:yP->Tr U (Tt⊕yP)
 | .b0 a b=>.chk (kI (0:Int) a) (.bind 25 (a[(Int.toNat 0)]?) (fun(c:Int)=>.chk (kI (1:Int) a) (.bind 25 (a[(Int.toNat 1)]?) (fun(d:Int)=>AA (⟨({ b with Bq:=c,Mark:=d }:AL)⟩:Tt)))))
def yF (a:List Int) (b:AL):Option Tt:=AV Zjb (.b0 a b)
def Z5o:Shape:=⟨[PQ 0,OV 254],[VA 156 15]⟩
def Zgy:Shape:=⟨[],[VA 156 15]⟩
noncomputable def Zja:HMod U:=⟨[KP,[.s 25 1]],[.var k0],Z5o,Zgy,false,1366,fun(y:Tt)=>((),((y.q0,()),())),fun x=>yF x.1.2.1.1 x.2.1.1,okS rfl⟩
def Zhw:yP->Ac U
 | .b0 a b=>Ff f308 Z5o (((),((a,()),())),((b,()),()))
theorem ZgZ:Dy Tryz.prog B0 308 Zja:=okR Ag Ah AN [] [.var k0] 1 Zhw func308 (fun p=>by cases p<;>kernel_rfl) (by kernel_rfl) fun x=>by kernel_rfl
inductive yN where
 | b0 (a:List Int) (b:AL)
def ZhX:yN->Tr U (Tq⊕yN)
 | .b0 a b=>.chk (kI (0:Int) a) (.bind 25 (a[(Int.toNat 0)]?) (fun(c:Int)=>AA (⟨({ b with Bq:=c }:AL)⟩:Tq)))
def yC (a:List Int) (b:AL):Option Tq:=AV ZhX (.b0 a b)
def Z5p:Shape:=⟨[PQ 0,OV 254],[VA 156 15]⟩
def ZgC:Shape:=⟨[],[VA 156 15]⟩
noncomputable def Zid:HMod U:=⟨[KP,[.s 25 1]],[.var k0],Z5p,ZgC,false,1367,fun(y:Tq)=>((),((y.q0,()),())),fun x=>yC x.1.2.1.1 x.2.1.1,okS rfl⟩
def Zhy:yN->Ac U
 | .b0 a b=>Ff f311 Z5p (((),((a,()),())),((b,()),()))
theorem Zh7:Dy Tryz.prog B0 311 Zid:=okR Ag Ah AN [] [.var k0] 1 Zhy func311 (fun p=>by cases p<;>kernel_rfl) (by kernel_rfl) fun x=>by kernel_rfl
inductive xI where
 | b0 (a:List Int) (b:AL)
def Zie:xI->Tr U (UA⊕xI)
 | .b0 a b=>.chk (kI (0:Int) a) (.bind 25 (a[(Int.toNat 0)]?) (fun(c:Int)=>AA (⟨({ b with DT:=(AP (c)) }:AL)⟩:UA)))
def wZ (a:List Int) (b:AL):Option UA:=AV Zie (.b0 a b)
def Z5k:Shape:=⟨[PQ 0,OV 254],[VA 156 15]⟩
def Zgr:Shape:=⟨[],[VA 156 15]⟩
noncomputable def Zjc:HMod U:=⟨[KP,[.s 25 1]],[.var k0],Z5k,Zgr,false,1368,fun(y:UA)=>((),((y.q0,()),())),fun x=>wZ x.1.2.1.1 x.2.1.1,okS rfl⟩
def ZhB:xI->Ac U
 | .b0 a b=>Ff f313 Z5k (((),((a,()),())),((b,()),()))
theorem ZhF:Dy Tryz.prog B0 313 Zjc:=okR Ag Ah AN [] [.var k0] 1 ZhB func313 (fun p=>by cases p<;>kernel_rfl) (by kernel_rfl) fun x=>by kernel_rfl
inductive xZ where
 | b0 (a:List Int) (b:AL)
def Zj6:xZ->Tr U (Tz⊕xZ)
 | .b0 a b=>.chk (kI (0:Int) a) (.bind 25 (a[(Int.toNat 0)]?) (fun(c:Int)=>AA (⟨({ b with Version:=(AP (c)) }:AL)⟩:Tz)))
def yI (a:List Int) (b:AL):Option Tz:=AV Zj6 (.b0 a b)
def Z5w:Shape:=⟨[PQ 0,OV 254],[VA 156 15]⟩
def Zgv:Shape:=⟨[],[VA 156 15]⟩
noncomputable def Zj0:HMod U:=⟨[KP,[.s 25 1]],[.var k0],Z5w,Zgv,false,1369,fun(y:Tz)=>((),((y.q0,()),())),fun x=>yI x.1.2.1.1 x.2.1.1,okS rfl⟩
def ZhI:xZ->Ac U
 | .b0 a b=>Ff f316 Z5w (((),((a,()),())),((b,()),()))
theorem ZhJ:Dy Tryz.prog B0 316 Zj0:=okR Ag Ah AN [] [.var k0] 1 ZhI func316 (fun p=>by cases p<;>kernel_rfl) (by kernel_rfl) fun x=>by kernel_rfl
inductive xB where
 | b0 (a:List Int) (b:AL)
def Zir:xB->Tr U (Tn⊕xB)
 | .b0 a b=>.chk (kI (0:Int) a) (.bind 25 (a[(Int.toNat 0)]?) (fun(c:Int)=>.chk (kI (1:Int) a) (.bind 25 (a[(Int.toNat 1)]?) (fun(d:Int)=>AA (⟨({ b with Bd:=(AP (c)),DT:=(AP (d)) }:AL)⟩:Tn)))))
def yG (a:List Int) (b:AL):Option Tn:=AV Zir (.b0 a b)
def Z5m:Shape:=⟨[PQ 0,OV 254],[VA 156 15]⟩
def ZgD:Shape:=⟨[],[VA 156 15]⟩
noncomputable def Zif:HMod U:=⟨[KP,[.s 25 1]],[.var k0],Z5m,ZgD,false,1370,fun(y:Tn)=>((),((y.q0,()),())),fun x=>yG x.1.2.1.1 x.2.1.1,okS rfl⟩
def Zhf:xB->Ac U
 | .b0 a b=>Ff f319 Z5m (((),((a,()),())),((b,()),()))
theorem Zhp:Dy Tryz.prog B0 319 Zif:=okR Ag Ah AN [] [.var k0] 1 Zhf func319 (fun p=>by cases p<;>kernel_rfl) (by kernel_rfl) fun x=>by kernel_rfl
inductive zK where
 | b0 (a:List Int) (b:AL)
def Zjk:zK->Tr U (Ou⊕zK)
 | .b0 b a=>AA (⟨a⟩:Ou)
def UF (a:List Int) (b:AL):Option Ou:=AV Zjk (.b0 a b)
def Z5J:Shape:=⟨[PQ 0,OV 254],[VA 156 15]⟩
def ZgP:Shape:=⟨[],[VA 156 15]⟩
noncomputable def Zjs:HMod U:=⟨[KP,[.s 25 1]],[.var k0],Z5J,ZgP,false,1359,fun(y:Ou)=>((),((y.q0,()),())),fun x=>UF x.1.2.1.1 x.2.1.1,okS rfl⟩
def ZiJ:zK->Ac U
 | .b0 a b=>Ff f349 Z5J (((),((a,()),())),((b,()),()))
theorem ZiV:Dy Tryz.prog B0 349 Zjs:=okR Ag Ah AN [] [.var k0] 1 ZiJ func349 (fun p=>by cases p<;>kernel_rfl) (by kernel_rfl) fun x=>by kernel_rfl
inductive wS where
 | b0 (a:List Int) (b:AL)
def ZgJ:wS->Tr U (RX⊕wS)
 | .b0 a b=>.chk (kI (0:Int) a) (.bind 25 (a[(Int.toNat 0)]?) (fun(c:Int)=>AA (⟨({ b with CW:=c }:AL)⟩:RX)))
def jL (a:List Int) (b:AL):Option RX:=AV ZgJ (.b0 a b)
def Z5b:Shape:=⟨[PQ 0,OV 254],[VA 156 15]⟩
def Zgi:Shape:=⟨[],[VA 156 15]⟩
noncomputable def ZgK:HMod U:=⟨[KP,[.s 25 1]],[.var k0],Z5b,Zgi,false,1360,fun(y:RX)=>((),((y.q0,()),())),fun x=>jL x.1.2.1.1 x.2.1.1,okS rfl⟩
def Zgq:wS->Ac U
 | .b0 a b=>Ff f351 Z5b (((),((a,()),())),((b,()),()))
theorem Zgx:Dy Tryz.prog B0 351 ZgK:=okR Ag Ah AN [] [.var k0] 1 Zgq func351 (fun p=>by cases p<;>kernel_rfl) (by kernel_rfl) fun x=>by kernel_rfl
inductive xC where
 | b0 (a:List Int) (b:AL)
def Zih:xC->Tr U (RY⊕xC)
 | .b0 a b=>.chk (kI (0:Int) a) (.bind 25 (a[(Int.toNat 0)]?) (fun(c:Int)=>AA (⟨({ b with Length:=(AP (c)) }:AL)⟩:RY)))
def jZ (a:List Int) (b:AL):Option RY:=AV Zih (.b0 a b)
def Z5x:Shape:=⟨[PQ 0,OV 254],[VA 156 15]⟩
def Zgw:Shape:=⟨[],[VA 156 15]⟩
noncomputable def ZhZ:HMod U:=⟨[KP,[.s 25 1]],[.var k0],Z5x,Zgw,false,1361,fun(y:RY)=>((),((y.q0,()),())),fun x=>jZ x.1.2.1.1 x.2.1.1,okS rfl⟩
def ZhG:xC->Ac U
 | .b0 a b=>Ff f353 Z5x (((),((a,()),())),((b,()),()))
theorem Zh4:Dy Tryz.prog B0 353 ZhZ:=okR Ag Ah AN [] [.var k0] 1 ZhG func353 (fun p=>by cases p<;>kernel_rfl) (by kernel_rfl) fun x=>by kernel_rfl
end
noncomputable section
inductive Zz where
 | b0 (a:AL)
def KA:Zz->Tr U (Int⊕Zz)
 | .b0 a=>let M:=AA (1:Int);let L:=AA (12:Int);let K:=(⟨a.Kind,BR,0,0,0,0,0,0,0,0,0⟩:AL);.bind 249 (Gz) (fun(J:Unit)=>.br (a.Kind==5) (.br (!true) L (.bind 254 (Np a) (fun(E:List Int)=>.bind 1359 (UF E K) (fun(y3:Ou)=>.br (!(Gn y3.q0 a)) M (.bind 45 (Nq a) (fun(F:Int)=>AA F)))))) (.br (a.Kind==6) (.br (!true) L (.bind 254 (Np a) (fun(G:List Int)=>.bind 1359 (UF G K) (fun(y6:Ou)=>.br (!(Gn y6.q0 a)) M (.bind 45 (Nq a) (fun(H:Int)=>AA H)))))) (.br (a.Kind==18) (.br (!true) L (.bind 254 (Np a) (fun(I:List Int)=>.bind 1359 (UF I K) (fun(y9:Ou)=>.br (!(Gn y9.q0 a)) M (.bind 45 (Nq a) (fun(b:Int)=>AA b)))))) (.br (a.Kind==19) (.br (!true) L (.bind 254 (Np a) (fun(c:List Int)=>.bind 1359 (UF c K) (fun(N:Ou)=>.br (!(Gn N.q0 a)) M (.bind 45 (Nq a) (fun(d:Int)=>AA d)))))) (.br (a.Kind==8) (.br (!true) L (.bind 254 (Tj a) (fun(e:List Int)=>.bind 1360 (jL e K) (fun(O:RX)=>.br (!(Gn O.q0 a)) M (.bind 45 (Nq a) (fun(f:Int)=>AA f)))))) (.br (a.Kind==9) (.br (!true) L (.bind 254 (Tj a) (fun(g:List Int)=>.bind 1360 (jL g K) (fun(Q:RX)=>.br (!(Gn Q.q0 a)) M (.bind 45 (Nq a) (fun(h:Int)=>AA h)))))) (.br (a.Kind==20) (.br (!true) L (.bind 254 (Tv a) (fun(i:List Int)=>.bind 1361 (jZ i K) (fun(S:RY)=>.br (!(Gn S.q0 a)) M (.bind 45 (kF a) (fun(j:Int)=>AA j)))))) (.br (a.Kind==21) (.br (!true) L (.bind 254 (Tv a) (fun(k:List Int)=>.bind 1361 (jZ k K) (fun(Y:RY)=>.br (!(Gn Y.q0 a)) M (.bind 45 (kF a) (fun(l:Int)=>AA l)))))) (.br (a.Kind==0) (.br (!true) L (.bind 254 (kR a) (fun(m:List Int)=>.bind 1362 (yU m K) (fun(y27:UC)=>.br (!(Gn y27.q0 a)) M (.bind 45 (yT a) (fun(n:Int)=>AA n)))))) (.br (a.Kind==1) (.br (!true) L (.bind 254 (kU a) (fun(o:List Int)=>.bind 1363 (zL o K) (fun(y30:UE)=>.br (!(Gn y30.q0 a)) M (.bind 45 (zG a) (fun(p:Int)=>AA p)))))) (.br (a.Kind==15) (.br (!true) L (.bind 254 (kV a) (fun(q:List Int)=>.bind 1364 (zJ q K) (fun(y33:UB)=>.br (!(Gn y33.q0 a)) M (.bind 45 (zM a) (fun(r:Int)=>AA r)))))) (.br (a.Kind==2) (.br (!true) L (.bind 254 (kD a) (fun(s:List Int)=>.bind 1365 (xW s K) (fun(y36:Tu)=>.br (!(Gn y36.q0 a)) M (.bind 45 (yB a) (fun(t:Int)=>AA t)))))) (.br (a.Kind==3) (.br (!true) L (.bind 254 (kC a) (fun(u:List Int)=>.bind 1366 (yF u K) (fun(y39:Tt)=>.br (!(Gn y39.q0 a)) M (.bind 45 (Nq a) (fun(v:Int)=>AA v)))))) (.br (a.Kind==4) (.br (!true) L (.bind 254 (jV a) (fun(w:List Int)=>.bind 1367 (yC w K) (fun(y42:Tq)=>.br (!(Gn y42.q0 a)) M (.bind 45 (Nq a) (fun(y:Int)=>AA y)))))) (.br (a.Kind==7) (.br (!true) L (.bind 254 (jW a) (fun(z:List Int)=>.bind 1368 (wZ z K) (fun(y45:UA)=>.br (!(Gn y45.q0 a)) M (.bind 45 (xG a) (fun(x:Int)=>AA x)))))) (.br (a.Kind==12) (.br (!true) L (.bind 254 (jY a) (fun(A:List Int)=>.bind 1369 (yI A K) (fun(y48:Tz)=>.br (!(Gn y48.q0 a)) M (.bind 45 (xH a) (fun(B:Int)=>AA B)))))) (.br (a.Kind==13) (.br (!true) L (.bind 254 (kM a) (fun(C:List Int)=>.bind 1370 (yG C K) (fun(y51:Tn)=>.br (!(Gn y51.q0 a)) M (.bind 45 (xQ a) (fun(D:Int)=>AA D)))))) (.br (!false) L (.fail)))))))))))))))))))
def Zv (a:AL):Option Int:=AV KA (.b0 a)
def Zkz:Zz->Ac U
 | .b0 a=>Ai f228 [156] (a,())
theorem Zkt:AA1 228 [156] 45 (fun x=>Zv x.1) rfl:=Aj (mc Z6K (mc Z6i (mc ZiB (mc Z69 (mc ZhU (mc Z68 (mc ZiY (mc Z5D (mc Zhn (mc Z5B (mc ZlA (mc Z5H (mc Z5Y (mc Zhj (mc Z5O (mc Zht (mc Z5L (mc Zhh (mc Z6h (mc Z5j (mc Z5X (mc ZgW Ag)))))))))))))))))))))) (hc [] ZiS (hc [] Zj9 (hc [] Zi9 (hc [] Zhv (hc [] ZgZ (hc [] Zh7 (hc [] ZhF (hc [] ZhJ (hc [] Zhp (hc [] ZiV (hc [] Zgx (hc [] Zh4 Ah)))))))))))) AN Zkz func228 (fun p=>by cases p<;>kernel_rfl) (by kernel_rfl) fun _=>rfl
inductive Ze where
 | b0 (a:AL)
 | b1 (a:List Cc) (b:List Int) (c d:Int) (e:IX)
def GZ:Ze->Tr U (((List Int)×Int)⊕Ze)
 | .b0 a=>let z:=([]:List Int);let y:=(⟨([8]:List Int)⟩:IX);let w:=(⟨z⟩:IX);let v:=(⟨([1]:List Int)⟩:IX);let u:=[(⟨1,(IntKind.wrap .u64 (a.Kind))⟩:Cc)];.bind 45 (Zv a) (fun(l:Int)=>.br (l != 0) (.chk true (AA (z,l))) (.bind 249 (Gz) (fun(t:Unit)=>.br (a.Kind==5) (.bind 254 (Np a) (fun(m:List Int)=>.chk true (AO (.b1 u m (↑m.length:Int) (0:Int) w)))) (.br (a.Kind==6) (.bind 254 (Np a) (fun(n:List Int)=>.chk true (AO (.b1 u n (↑n.length:Int) (0:Int) w)))) (.br (a.Kind==18) (.bind 254 (Np a) (fun(o:List Int)=>.chk true (AO (.b1 u o (↑o.length:Int) (0:Int) w)))) (.br (a.Kind==19) (.bind 254 (Np a) (fun(p:List Int)=>.chk true (AO (.b1 u p (↑p.length:Int) (0:Int) w)))) (.br (a.Kind==8) (.bind 254 (Tj a) (fun(q:List Int)=>.chk true (AO (.b1 u q (↑q.length:Int) (0:Int) y)))) (.br (a.Kind==9) (.bind 254 (Tj a) (fun(r:List Int)=>.chk true (AO (.b1 u r (↑r.length:Int) (0:Int) y)))) (.br (a.Kind==20) (.bind 254 (Tv a) (fun(s:List Int)=>.chk true (AO (.b1 u s (↑s.length:Int) (0:Int) v)))) (.br (a.Kind==21) (.bind 254 (Tv a) (fun(b:List Int)=>.chk true (AO (.b1 u b (↑b.length:Int) (0:Int) v)))) (.br (a.Kind==0) (.bind 254 (kR a) (fun(c:List Int)=>.chk true (AO (.b1 u c (↑c.length:Int) (0:Int) (⟨([1,2,2,2,2,2]:List Int)⟩:IX))))) (.br (a.Kind==1) (.bind 254 (kU a) (fun(d:List Int)=>.chk true (AO (.b1 u d (↑d.length:Int) (0:Int) (⟨([5,2]:List Int)⟩:IX))))) (.br (a.Kind==15) (.bind 254 (kV a) (fun(e:List Int)=>.chk true (AO (.b1 u e (↑e.length:Int) (0:Int) (⟨([1,2,2,2,2]:List Int)⟩:IX))))) (.br (a.Kind==2) (.bind 254 (kD a) (fun(f:List Int)=>.chk true (AO (.b1 u f (↑f.length:Int) (0:Int) v)))) (.br (a.Kind==3) (.bind 254 (kC a) (fun(g:List Int)=>.chk true (AO (.b1 u g (↑g.length:Int) (0:Int) (⟨([8,8]:List Int)⟩:IX))))) (.br (a.Kind==4) (.bind 254 (jV a) (fun(h:List Int)=>.chk true (AO (.b1 u h (↑h.length:Int) (0:Int) y)))) (.br (a.Kind==7) (.bind 254 (jW a) (fun(i:List Int)=>.chk true (AO (.b1 u i (↑i.length:Int) (0:Int) v)))) (.br (a.Kind==12) (.bind 254 (jY a) (fun(j:List Int)=>.chk true (AO (.b1 u j (↑j.length:Int) (0:Int) v)))) (.br (a.Kind==13) (.bind 254 (kM a) (fun(k:List Int)=>.chk true (AO (.b1 u k (↑k.length:Int) (0:Int) (⟨([1,1]:List Int)⟩:IX))))) (.fail))))))))))))))))))))
 | .b1 a c e b d=>let j:=Int.toNat b;.br (decide (b<e)) (.chk (kI b c) (.bind 25 (c[j]?) (fun(f:Int)=>.chk (kI b d.Z3F) (.bind 3 (d.Z3F[j]?) (fun(g:Int)=>let i:=a++[(⟨g,f⟩:Cc)];.chk true (kl a (.chk (kA (a.length+1) 16) (kl i (AO (.b1 i c e (AP (b+1)) d)))))))))) (kl a (.bind 120 (QS a) (fun(h:(List Int)×Int)=>AA (h.1,h.2))))
def Gf (a:AL):Option ((List Int)×Int):=AV GZ (.b0 a)
def Z6f:Lay:=⟨[5,6,26,27,28],[KP,[.own 252 2],[.s 25 1],KP,KP],[.var [.s 3 1,.drop,.drop,.drop],.row true],⟨[PQ 0,.one (.own 252 1),OV 254,OV 3,OV 3],[.var 248 4 (.agg [VC 226 1,.und,.und,.und]),.row 252 true]⟩⟩
def Zkw:Nat->Option Lay
 | 7=>some Z6f
 | _=>none
def Zjx:Ze->Ac U
 | .b0 a=>Ai f151 [156] (a,())
 | .b1 a b c d e=>AA3 f151 [1,1,1,1,0,1,0,0,0] Z6f (b,c,d,e.Z3F,a,())
theorem Zjd:AA1 151 [156] 120 (fun x=>Gf x.1) rfl:=Aj (mc Zkt (mc Z6K (mc Z0b (mc Z6i (mc Z69 (mc Z68 (mc Z5D (mc Z5B (mc Z5H (mc Z5Y (mc Z5O (mc Z5L (mc Z6h (mc Z5j (mc Z5X Ag))))))))))))))) Ah Zkw Zjx func151 (fun p=>by cases p<;>kernel_rfl) (by kernel_rfl) fun _=>rfl
inductive Z16 where
 | b0 (a:BQ) (b:Aw)
 | b1 (a:BQ) (b:Aw) (c:BQ)
def Y0:Z16->Tr U ((BQ×Int)⊕Z16)
 | .b0 b a=>.bind 1355 (qK b) (fun(q:SE)=>let e:=kl q.q0.BA (AA (q.q0,1));.bind 4 (QM a) (fun(c:Bool)=>.br c e (.br (decide ((↑a.Payload.length:Int)>251)) e (.bind 45 (UK (⟨0,0,0,a⟩:BD)) (fun(d:Int)=>.br (d != 0) e (kl q.q0.BA (AO (.b1 q.q0 a Jj))))))))
 | .b1 a c d=>kl a.BA (.br (decide ((↑a.BA.length:Int)>=64)) (kl a.BA (AA (a,8))) (.bind 68 (Yg c) (fun(b:Aw)=>let e:=a.BA++[b];.chk true (kl a.BA (.chk (kA (a.BA.length+1) 32) (kl e (AA (({ a with BA:=e }:BQ),(0:Int)))))))))
def Z0N (a:BQ) (b:Aw):Option (BQ×Int):=AV Y0 (.b0 a b)
def Z8w:Lay:=⟨[2,3,4],[KP,KP,KP],[.var k8,.var [.keep,.s 5 1],.var k6,.row true],⟨[PQ 0,PQ 1,PQ 2],[.var 33 7 (WJ 3),VA 68 2,VA 33 7,.row 68 true]⟩⟩
def Zsx:Nat->Option Lay
 | 4=>some Z8w
 | _=>none
def Zpx:Z16->Ac U
 | .b0 a b=>Ai f152 [33,68] (a,b,())
 | .b1 a b c=>Ad f152 [1,1,1,0,0] Z8w (((),((),((),()))),((TU a),((b,()),((c,()),(a.BA,())))))
theorem Zqh:AA1 152 [33,68] 189 (fun x=>Z0N x.1 x.2.1) rfl:=Aj (mc Z8 (mc Z0D (mc Zd Ag))) (hc [] Zca Ah) Zsx Zpx func152 (fun p=>by cases p<;>kernel_rfl) (by kernel_rfl) fun _=>rfl
inductive Zj where
 | b0 (a:FO)
 | b1 (a b:List AL) (c d:Int) (e:FO) (f:List Aw)
 | b2 (a b:List AL) (c d:Int) (e:FO) (f:AL) (g:List Aw)
 | b3 (a b:List AL) (c d:Int) (e:FO) (f:AL) (g:List Aw)
 | b4 (a b:List AL) (c d:Int) (e:FO) (f:List Aw)
def LC:Zj->Tr U (UH⊕Zj)
 | .b0 a=>kl a.Link.BC (kl a.Link.Az.BA (.chk (true&&(kL a.Link.BC&&(kL a.Link.Am.BJ&&(kL a.Link.Am.CO&&(kL a.Link.DI&&(kL a.Link.BC&&(kL a.Dt&&(kL a.Link.Az.BA&&(kL a.Link.Am.BJ&&kL a.Link.Am.CO))))))))) (AO (.b1 ([]:List AL) a.Link.BC (↑a.Link.BC.length:Int) (0:Int) a a.Link.Az.BA))))
 | .b1 c b f e a d=>let l:=kL a.Dt&&(kL d&&(kL a.Link.Am.BJ&&kL a.Link.Am.CO));let k:=(⟨({ a.Link with BC:=b }:A8),a.Dt⟩:FO);let j:=kL c&&(kL b&&(kL a.Link.Am.BJ&&(kL a.Link.Am.CO&&(kL a.Link.DI&&(kL b&&l)))));.br (decide (e<f)) (kl b (.chk (kI e b) (kl b (.bind 156 (b[(Int.toNat e)]?) (fun(g:AL)=>let n:=Tr.chk j (AO (Zj.b3 c b f e k g d));let m:=Tr.chk j (AO (Zj.b2 c b f e k g d));.br (decide ((↑a.Link.Az.BA.length:Int)>=64)) m (kl a.Link.Am.BJ (kl a.Link.Am.CO (.bind 4 (zV a.Link.Am) (fun(h:Bool)=>.br h (.bind 4 (Z01 g.Kind) (fun(i:Bool)=>.br (!i) m n)) n))))))))) (.chk (kL a.Link.Am.BJ&&(kL a.Link.Am.CO&&(kL a.Link.DI&&(kL c&&l)))) (AA (⟨(⟨({ a.Link with BC:=c }:A8),a.Dt⟩:FO),d,b⟩:UH)))
 | .b2 b c f g a d e=>.chk true (kl b (.chk (kA (b.length+1) 120) (.chk (kL (b++[d])&&(kL c&&(kL a.Link.Am.BJ&&(kL a.Link.Am.CO&&(kL a.Link.DI&&(kL c&&(kL a.Dt&&(kL e&&(kL a.Link.Am.BJ&&kL a.Link.Am.CO))))))))) (AO (.b4 (b++[d]) c f g (⟨({ a.Link with BC:=c }:A8),a.Dt⟩:FO) e)))))
 | .b3 c b e f a h d=>let j:=kL c&&(kL b&&(kL a.Link.Am.BJ&&(kL a.Link.Am.CO&&(kL a.Link.DI&&(kL b&&(kL a.Dt&&(kL d&&(kL a.Link.Am.BJ&&kL a.Link.Am.CO))))))));.bind 120 (Gf h) (fun(g:(List Int)×Int)=>.br (g.2 != 0) (.chk j (AO (.b4 c b e f (⟨({ a.Link with BC:=b }:A8),a.Dt⟩:FO) d))) (.bind 189 (Z0N a.Link.Az (⟨3,g.1⟩:Aw)) (fun(i:BQ×Int)=>.chk j (AO (.b4 c b e f (⟨({ a.Link with Az:=i.1,BC:=b }:A8),a.Dt⟩:FO) d)))))
 | .b4 c b e f a d=>.chk (kL c&&(kL b&&(kL a.Link.Am.BJ&&(kL a.Link.Am.CO&&(kL a.Link.DI&&(kL b&&(kL a.Dt&&(kL d&&(kL a.Link.Am.BJ&&kL a.Link.Am.CO))))))))) (AO (.b1 c b e (AP (f+1)) (⟨({ a.Link with BC:=b }:A8),a.Dt⟩:FO) d))
def Zb (a:FO):Option UH:=AV LC (.b0 a)
def Z62:Shape:=⟨[PQ 0],[.var 118 67 (ag3 1),.row 68 true,.row 156 true,.row 138 true,.row 99 true,.row 156 true,.row 148 true]⟩
def Zh5:Shape:=⟨[],[.var 118 67 (.agg [VC 3 1,.v 28 11 true,VC 3 1,VC 30 1,VC 3 1,VC 3 1,VC 3 1,VC 3 1,VC 3 1,VC 4 1,VC 4 1,VC 4 1,VC 4 1,VC 4 1,.v 33 7 true,.v 35 3 true,VC 3 1,VC 3 1,VC 3 1,.own 156 2,VC 3 1,VC 3 1,.own 138 3,VC 4 1,VC 25 1,VC 25 1,VC 4 1,VC 4 1,VC 3 1,VC 3 1,VC 3 1,VC 25 1,VC 25 1,VC 25 1,VC 3 1,VC 3 1,.v 41 7 true,VC 29 1,.own 99 4,.own 156 7,VC 3 1,VC 25 1,.own 148 6]),.row 68 false,.row 156 false,.row 138 false,.row 99 true,.row 156 true,.row 148 true,.row 156 true]⟩
noncomputable def ZkO:HMod U:=⟨[KP],[.var k14,.row true,.row true,.row true,.row true,.row true,.row true],Z62,Zh5,false,1354,fun(y:UH)=>((),((WN y.q0),(y.q1,(y.q0.Link.Am.BJ,(y.q0.Link.Am.CO,(y.q0.Link.DI,(y.q2,(y.q0.Dt,(y.q0.Link.BC,()))))))))),fun x=>Zb (match x with|⟨_,⟨v0,v2,v4,v6,v8,q,A,C,D,F,G,I,J,M,N,O,Q,S,Y,v25,v26,v27,v28,v29,v30,v31,v32,v33,v34,v35,v36,v37,v38,v39,v40,v41,v42,v43,v44,v45,v46,v47,v48,_⟩,v1,v3,v5,v7,v9,z,_⟩=>(⟨(⟨v0,v2,v4,v6,v8,q,A,C,D,F,G,I,J,M,(⟨N,O,v1,Q,S,Y,v25⟩:BQ),v26,(⟨v27,v28,v29,v3,v30,v31,v5,v32,v33,v34,v35,v36,v37,v38,v39,v40,v41,v42,v43,v44⟩:Aa),v45,v46,v7,v9,v47,v48⟩:A8),z⟩:FO)),okS rfl⟩
def kE:Lay:=⟨[0,2,11,12,13],[KP,[.own 156 15],[.own 156 15],KP,KP],[.var k10,.row false,.row false,.row false,.row true,.row true,.row true,.row true],⟨[PQ 0,.one (.own 156 7),.one (.own 156 5),OV 3,OV 3],[.var 118 67 (ag2 2),.row 68 false,.row 156 false,.row 138 false,.row 99 true,.row 156 true,.row 148 true,.row 156 true]⟩⟩
def kG:Lay:=⟨[0,2,4,11,12,13],[KP,[.own 156 15],KP,[.own 156 15],KP,KP],[.var k10,.row false,.row false,.row false,.row true,.row true,.row true,.row true,.var k0],⟨[PQ 0,.one (.own 156 7),PQ 8,.one (.own 156 5),OV 3,OV 3],[.var 118 67 (ag2 2),.row 68 false,.row 156 false,.row 138 false,.row 99 true,.row 156 true,.row 148 true,.row 156 true,VA 156 15]⟩⟩
def Zks:Nat->Option Lay
 | 2=>some kE
 | 5=>some kG
 | 6=>some kG
 | 9=>some kE
 | _=>none
def Zk4:Zj->Ac U
 | .b0 a=>Ff f64 Z62 (((),()),((a.Link.Bz,(a.Link.Bl,(a.Link.Clock,(a.Link.Event,(a.Link.Last,(a.Link.IL,(a.Link.Size,(a.Link.Sync,(a.Link.J6,(a.Link.JH,(a.Link.Jd,(a.Link.Good,(a.Link.Fz,(a.Link.More,(a.Link.Az.SN,(a.Link.Az.Dp,(a.Link.Az.Open,(a.Link.Az.Empty,(a.Link.Az.Fz,(a.Link.Az.Taken,(a.Link.Hg,(a.Link.Am.Bz,(a.Link.Am.Own,(a.Link.Am.Since,(a.Link.Am.Other,(a.Link.Am.JC,(a.Link.Am.Told,(a.Link.Am.CW,(a.Link.Am.MI,(a.Link.Am.Hm,(a.Link.Am.JV,(a.Link.Am.Version,(a.Link.Am.Length,(a.Link.Am.Limit,(a.Link.Am.Bq,(a.Link.Am.Jc,(a.Link.Am.Mark,(a.Link.Am.EJ,(a.Link.Am.GR,(a.Link.DY,(a.Link.Key,(a.Link.Bd,(a.Link.Ic,()))))))))))))))))))))))))))))))))))))))))))),(a.Link.Az.BA,(a.Link.Am.BJ,(a.Link.Am.CO,(a.Link.DI,(a.Link.BC,(a.Dt,()))))))))
 | .b1 b c d e a f=>Ad f64 [1,0,1,0,0,0] kE (((),((),((),((d,()),((e,()),()))))),((WN a),(f,(a.Link.Am.BJ,(a.Link.Am.CO,(a.Link.DI,(c,(a.Dt,(b,())))))))))
 | .b2 b c d e a f g=>Ad f64 [1,0,1,0,0,1,1,0,0,1,0,1,0,0] kG (((),((),((),((),((d,()),((e,()),())))))),((WN a),(g,(a.Link.Am.BJ,(a.Link.Am.CO,(a.Link.DI,(c,(a.Dt,(b,((f,()),()))))))))))
 | .b3 b c d e a f g=>Ad f64 [1,0,1,0,0,1,1,0,0,1,1,0] kG (((),((),((),((),((d,()),((e,()),())))))),((WN a),(g,(a.Link.Am.BJ,(a.Link.Am.CO,(a.Link.DI,(c,(a.Dt,(b,((f,()),()))))))))))
 | .b4 b c d e a f=>Ad f64 [1,0,1,0,0,1,1,1] kE (((),((),((),((d,()),((e,()),()))))),((WN a),(f,(a.Link.Am.BJ,(a.Link.Am.CO,(a.Link.DI,(c,(a.Dt,(b,())))))))))
theorem ZjW:Dy Tryz.prog B0 64 ZkO:=okR (mc Zil (mc Zms (mc Zjd (mc Zqh Ag)))) Ah Zks [] [.var k10,.row false,.row false,.row false,.row true,.row true,.row true,.row true] 7 Zk4 func64 (fun p=>by cases p<;>kernel_rfl) (by kernel_rfl) fun x=>by kernel_rfl
inductive Z0Z where
 | b0 (a:A8)
 | b1 (a:A8) (b:FO) (c:BD)
def YT:Z0Z->Tr U ((A8×(List Int))⊕Z0Z)
 | .b0 c=>.bind 1353 (Z1q c) (fun(q:U5)=>.bind 4 (xM (ZtB q.q0)) (fun(d:Bool)=>.br (!d) (kl q.q0.Link.Az.BA (kl q.q0.Link.Am.BJ (kl q.q0.Link.Am.CO (kl q.q0.Link.DI (kl q.q0.Link.BC (.chk true (AA (q.q0.Link,([]:List Int))))))))) (.chk (kL q.q0.Link.Az.BA&&(kL q.q0.Link.Am.BJ&&(kL q.q0.Link.Am.CO&&(kL q.q0.Link.DI&&(kL q.q0.Link.BC&&kL q.q0.Dt))))) (.bind 1354 (Zb q.q0) (fun(z:UH)=>let e:=kL z.q0.Link.Am.BJ&&(kL z.q0.Link.Am.CO&&(kL z.q0.Link.DI&&(kL z.q0.Link.BC&&(kL z.q0.Dt&&(kL z.q0.Link.Am.BJ&&kL z.q0.Link.Am.CO)))));.bind 75 (SA z.q0.Link.Az) (fun(a:BQ×BD)=>let f:=(⟨({ z.q0.Link with More:=(a.2.MD==1),Az:=a.1 }:A8),z.q0.Dt⟩:FO);let g:=Tr.chk e (AO (Z0Z.b1 Dk f a.2));.br z.q0.Link.DY.Gm (.bind 71 (lM z.q0.Link.DY a.2) (fun(b:BD×Int)=>.br (b.2==0) (.chk e (AO (.b1 Dk f b.1))) g)) g))))))
 | .b1 g a b=>.bind 120 (lC b) (fun(c:(List Int)×Int)=>kl a.Link.Am.BJ (kl a.Link.Am.CO (kl a.Link.DI (kl a.Link.BC (.bind 3 (Nr a.Link) (fun(d:Int)=>.bind 62 (Xh a.Link.Bl.FQ c.1) (fun(e:List Int)=>.bind 62 (lS d e) (fun(f:List Int)=>kl a.Link.Am.BJ (kl a.Link.Am.CO (kl a.Link.DI (kl a.Link.BC (AA (a.Link,f)))))))))))))
def nO (a:A8):Option (A8×(List Int)):=AV YT (.b0 a)
def Z8G:Lay:=⟨[2,4,5],[KP,KP,KP],[.var k2,.var k10,.var k4,.row false,.row false,.row true,.row true,.row true],⟨[PQ 0,PQ 1,PQ 2],[VA 44 66,.var 118 67 (ag2 3),VA 70 5,.row 156 false,.row 138 false,.row 99 true,.row 156 true,.row 148 true]⟩⟩
def Ztd:Nat->Option Lay
 | 12=>some Z8G
 | _=>none
def Zpw:Z0Z->Ac U
 | .b0 a=>Ai f22 [44] (a,())
 | .b1 b a c=>Ad f22 [1,1,1,1,1,1,1,1,0] Z8G (((),((),((),()))),((b,()),((WN a),((c,()),(a.Link.Am.BJ,(a.Link.Am.CO,(a.Link.DI,(a.Link.BC,(a.Dt,())))))))))
theorem Zpg:AA1 22 [44] 63 (fun x=>nO x.1) rfl:=Aj (mc Z78 (mc Zae (mc Zhq (mc ZkY (mc Zjq (mc Z70 (mc Z8g Ag))))))) (hc [] ZpG (hc [] ZjW Ah)) Ztd Zpw func22 (fun p=>by cases p<;>kernel_rfl) (by kernel_rfl) fun _=>rfl
inductive y8 where
 | b0 (a:List Aw)
 | b1 (a b:List Aw) (c:Int)
def kQ:y8->Tr U ((List Aw)⊕y8)
 | .b0 a=>.chk true (AO (.b1 a ([]:List Aw) (0:Int)))
 | .b1 a b c=>let h:=a[(Int.toNat c)]?;.br (decide (c<(↑a.length:Int))) (.chk (kI c a) (.bind 68 h (fun(e:Aw)=>.chk (kI c a) (.bind 68 h (fun(d:Aw)=>let f:=([]:List Int)++d.Payload;let g:=b++[(⟨e.Ba,f⟩:Aw)];.chk true (.chk (kA (0+d.Payload.length) 1) (kl f (.chk true (kl b (.chk (kA (b.length+1) 32) (kl g (AO (.b1 a g (AP (c+1))))))))))))))) (kl b (AA b))
def yZ (a:List Aw):Option (List Aw):=AV kQ (.b0 a)
def Z5N:Lay:=⟨[0,3,4],[[.s 68 2],[.own 68 2],KP],[.row true],⟨[OV 31,.one (.own 68 0),OV 3],[.row 68 true]⟩⟩
def ZjI:Nat->Option Lay
 | 3=>some Z5N
 | _=>none
def Zii:y8->Ac U
 | .b0 a=>Ai f69 [31] (a,())
 | .b1 a b c=>AA3 f69 [1,1,0,1,0,0,0,0] Z5N (a,c,b,())
theorem Zj5:AA1 69 [31] 31 (fun x=>yZ x.1) rfl:=Aj Ag Ah ZjI Zii func69 (fun p=>by cases p<;>kernel_rfl) (by kernel_rfl) fun _=>rfl
inductive aV where
 | b0 (a:A8)
def Z1Y:aV->Tr U (A8⊕aV)
 | .b0 a=>let e:=([]:List BV)++a.DI;let d:=([]:List BP)++a.Am.CO;let c:=([]:List AL);let f:=c++a.Am.BJ;.bind 31 (yZ a.Az.BA) (fun(b:List Aw)=>.chk true (.chk (kA (0+a.Am.BJ.length) 120) (.chk true (.chk (kA (0+a.Am.CO.length) 64) (.chk true (.chk (kA (0+a.DI.length) 16) (.chk true (.chk (kA (0+a.BC.length) 120) (kl f (kl d (kl e (kl (c++a.BC) (AA ({ a with Az:=({ a.Az with BA:=b }:BQ),Am:=({ a.Am with BJ:=f,CO:=d }:Aa),DI:=e,BC:=(c++a.BC) }:A8))))))))))))))
def pR (a:A8):Option A8:=AV Z1Y (.b0 a)
def Zrm:aV->Ac U
 | .b0 a=>Ai f23 [44] (a,())
theorem Zsi:AA1 23 [44] 44 (fun x=>pR x.1) rfl:=Aj (mc Zj5 Ag) Ah AN Zrm func23 (fun p=>by cases p<;>kernel_rfl) (by kernel_rfl) fun _=>rfl
end
noncomputable section
inductive wV where
 | b0 (a b:List Int)
 | b1 (a b:List Int) (c d:Int)
def WW:wV->Tr U (Bool⊕wV)
 | .b0 a b=>let c:=(↑a.length:Int);.br (c != (↑b.length:Int)) (AA false) (AO (.b1 a b c (0:Int)))
 | .b1 b c d a=>let g:=Int.toNat a;.br (decide (a<d)) (.chk (kI a b) (.bind 5 (b[g]?) (fun(e:Int)=>.chk (kI a c) (.bind 5 (c[g]?) (fun(f:Int)=>.br (e != f) (AA false) (AO (.b1 b c d (AP (a+1))))))))) (AA true)
def wX (a b:List Int):Option Bool:=AV WW (.b0 a b)
def Z5i:Lay:=⟨[0,1,12,13],[[.s 5 1],[.s 5 1],KP,KP],[],⟨[OV 62,OV 62,OV 3,OV 3],[]⟩⟩
def ZhL:Nat->Option Lay
 | 4=>some Z5i
 | _=>none
def ZgI:wV->Ac U
 | .b0 a b=>Ai f174 [62,62] (a,b,())
 | .b1 a b c d=>AA3 f174 [1,1,0,1,0,0,0] Z5i (a,b,c,d,())
theorem ZgN:AA1 174 [62,62] 4 (fun x=>wX x.1 x.2.1) rfl:=Aj Ag Ah ZhL ZgI func174 (fun p=>by cases p<;>kernel_rfl) (by kernel_rfl) fun _=>rfl
inductive Z1p where
 | b0 (a:Int) (b:List Int)
def Z9R:Z1p->Tr U (((List Int)×Int)⊕Z1p)
 | .b0 b a=>let i:=([]:List Int);let h:=(↑a.length:Int);let e:=AP (h - 3);let g:=(a.drop 0).take ((Int.toNat e) - 0);let f:=(decide (0<=e/\e<=h));.br (decide (e<0)) (.chk true (AA (i,(3:Int)))) (.chk f (.bind 62 (Xh b g) (fun(c:List Int)=>.bind 4 (wX c a) (fun(d:Bool)=>.br (!d) (.chk true (AA (i,(10:Int)))) (.chk f (.bind 1344 (NF g) (fun(q:QG)=>kl q.q0 (AA (q.q0,0)))))))))
def Z1j (a:Int) (b:List Int):Option ((List Int)×Int):=AV Z9R (.b0 a b)
def ZoH:Z1p->Ac U
 | .b0 a b=>Ai f76 [22,62] (a,b,())
theorem ZoM:AA1 76 [22,62] 120 (fun x=>Z1j x.1 x.2.1) rfl:=Aj (mc Z8g (mc ZgN Ag)) (hc [] jP Ah) AN ZoH func76 (fun p=>by cases p<;>kernel_rfl) (by kernel_rfl) fun _=>rfl
inductive xY where
 | b0 (a b:Int)
def Z63:xY->Tr U (Int⊕xY)
 | .b0 a b=>.chk (decide (0<=a)) (AA (AP ((bits .and .u8 (Int.fdiv b (2 ^ (min (Int.toNat a) (IntKind.bits .u8)))) (1:Int)))))
def We (a b:Int):Option Int:=AV Z63 (.b0 a b)
def ZhE:xY->Ac U
 | .b0 a b=>Ai f175 [3,338] (a,b,())
theorem Zh9:AA1 175 [3,338] 3 (fun x=>We x.1 x.2.1) rfl:=Aj Ag Ah AN ZhE func175 (fun p=>by cases p<;>kernel_rfl) (by kernel_rfl) fun _=>rfl
inductive Z4 where
 | b0 (a:List Int)
 | b1 (a:BD)
 | b2 (a:List Int) (b c:Int) (d:BD) (e:Int)
def kZ:Z4->Tr U ((BD×Int)⊕Z4)
 | .b0 a=>.br (decide ((↑a.length:Int)<2)) (AA (E5,3)) (.chk (kI (0:Int) a) (.bind 5 (a[(Int.toNat 0)]?) (fun(b:Int)=>let d:=(AP ((bits .and .u8 b (3:Int))));.chk (kI (1:Int) a) (.bind 5 (a[(Int.toNat 1)]?) (fun(c:Int)=>let e:=AO (Z4.b2 a (AP (c)) d E5 b);.br ((Int.fdiv b (2 ^ (5:Nat))) != 0) (AA (E5,2)) (.br (d==0) (AA (E5,12)) (.br ((AP (c))==0) (.br (d != 1) (AO (.b1 E5)) e) e)))))))
 | .b1 a=>AA (E5,1)
 | .b2 a c d i b=>let k:=Int.toNat 2;let j:=(↑a.length:Int);let l:=AP (j - 2);.br (decide (l<c)) (AA (E5,3)) (.br (decide (l>c)) (AA (E5,2)) (.bind 3 (We (3:Int) b) (fun(e:Int)=>.bind 3 (We (2:Int) b) (fun(f:Int)=>.bind 3 (We (4:Int) b) (fun(g:Int)=>.chk (decide (0<=(2:Int)/\(2:Int)<=j)) (.chk true (.bind 62 (Rj ([((a.drop k).take (a.length - k))])) (fun(h:List Int)=>AA ((⟨e,f,g,(⟨d,h⟩:Aw)⟩:BD),(0:Int))))))))))
def Z7 (a:List Int):Option (BD×Int):=AV kZ (.b0 a)
def Z6e:Lay:=⟨[2],[KP],[.var k4],⟨[PQ 0],[VA 70 5]⟩⟩
def Z6b:Lay:=⟨[0,2,4,5,6],[[.s 5 1],KP,KP,KP,KP],[.var k4,.var KP],⟨[OV 62,PQ 0,PQ 1,OV 3,OV 3],[VA 70 5,.var 5 1 (OV 5)]⟩⟩
def Zky:Nat->Option Lay
 | 10=>some Z6e
 | 11=>some Z6b
 | _=>none
def ZjZ:Z4->Ac U
 | .b0 a=>Ai f77 [62] (a,())
 | .b1 a=>AA3 f77 [1,1,1,1,0,0,1,1,1,1,1,0,0] Z6e (a,())
 | .b2 a b c d e=>AA3 f77 [1,1,1,1,0,0,1,1,1,1,1,1,0] Z6b (a,b,c,d,e,())
theorem Zk8:AA1 77 [62] 71 (fun x=>Z7 x.1) rfl:=Aj (mc XM (mc Zh9 Ag)) Ah Zky ZjZ func77 (fun p=>by cases p<;>kernel_rfl) (by kernel_rfl) fun _=>rfl
inductive Z05 where
 | b0 (a:A8) (b:List Int)
def Z8m:Z05->Tr U ((BD×Int)⊕Z05)
 | .b0 b d=>.bind 3 (Nr b) (fun(e:Int)=>.bind 62 (lS e d) (fun(f:List Int)=>.bind 120 (Z1j b.Bl.FQ f) (fun(a:(List Int)×Int)=>.br (a.2 != 0) (AA (E5,a.2)) (.bind 71 (Z7 a.1) (fun(c:BD×Int)=>AA (c.1,c.2))))))
def UR (a:A8) (b:List Int):Option (BD×Int):=AV Z8m (.b0 a b)
def ZlN:Z05->Ac U
 | .b0 a b=>Ai f25 [44,62] (a,b,())
theorem ZlS:AA1 25 [44,62] 71 (fun x=>UR x.1 x.2.1) rfl:=Aj (mc Z78 (mc Z70 (mc ZoM (mc Zk8 Ag)))) Ah AN ZlN func25 (fun p=>by cases p<;>kernel_rfl) (by kernel_rfl) fun _=>rfl
inductive WT where
 | b0 (a:Iy)
 | b1 (a b:A8) (c:BD)
def jQ:WT->Tr U (Bool⊕WT)
 | .b0 g=>let l:=AA false;.bind 4 (Z8s) (fun(h:Bool)=>.br (!h) l (.bind 60 (zY g) (fun(a:A8×Int×Bool)=>.br (!a.2.2) (AA true) (.bind 44 (pR a.1) (fun(i:A8)=>.bind 63 (nO i) (fun(b:A8×(List Int))=>.bind 44 (pR b.1) (fun(j:A8)=>.bind 63 (nO j) (fun(f:A8×(List Int))=>.br (a.1.Bd != 0) (.br ((↑b.2.length:Int)==0) (.br ((↑f.2.length:Int)==0) (.bind 4 (Z29 a.1 b.1) (fun(k:Bool)=>AA k)) l) l) (.bind 71 (UR a.1 b.2) (fun(c:BD×Int)=>.bind 71 (UR b.1 f.2) (fun(d:BD×Int)=>.br (c.2 != 0) l (.br (d.2 != 0) l (.br (c.1.SN != d.1.SN) l (.bind 4 (UG c.1.Ak d.1.Ak) (fun(e:Bool)=>.br (!e) l (AO (.b1 a.1 b.1 c.1)))))))))))))))))
 | .b1 d b a=>.bind 4 (QM a.Ak) (fun(e:Bool)=>.br (!(e==b.Az.Empty)) (AA false) (.bind 75 (SA b.Az) (fun(c:BQ×BD)=>.br (c.2.SN==a.SN) (.br d.DY.Gm (AA true) (.bind 4 (UG c.2.Ak a.Ak) (fun(f:Bool)=>AA f))) (AA false))))
def Z5R (a:Iy):Option Bool:=AV jQ (.b0 a)
def WX:Af U:=⟨[59],4,fun x=>Z5R x.1,by decide⟩
def Z5g:Lay:=⟨[3,6,10],[KP,KP,KP],[.var k2,.var k2,.var k4],⟨[PQ 0,PQ 1,PQ 2],[VA 44 66,VA 44 66,VA 70 5]⟩⟩
def Zha:Nat->Option Lay
 | 14=>some Z5g
 | _=>none
def ZgS:WT->Ac U
 | .b0 a=>Ai f5 [59] (a,())
 | .b1 a b c=>AA3 f5 [1,1,1,1,1,1,1,1,1,1,0,0] Z5g (a,b,c,())
theorem ZgR:AA0 5 WX:=Aj (mc Zra (mc ZlQ (mc ZjE (mc Zpg (mc Zsi (mc ZlS (mc Z6D (mc Z8 (mc Zae Ag))))))))) Ah Zha ZgS func5 (fun p=>by cases p<;>kernel_rfl) (by kernel_rfl) fun _=>rfl
end
end Go.Proofs.YtjodhcdmhobmoaaGreatDoor
