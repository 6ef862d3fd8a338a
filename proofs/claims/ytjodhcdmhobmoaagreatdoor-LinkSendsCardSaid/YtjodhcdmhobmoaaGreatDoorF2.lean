/- A part of it. -/
import Derived.Test.YtjodhcdmhobmoaaGreatDoorF1
set_option linter.unusedVariables false
set_option linter.unusedSimpArgs false
namespace Go.Proofs.YtjodhcdmhobmoaaGreatDoor
open Go Go.Proofs.YtjodhcdmhobmoaaGreatDoor.Le
set_option maxRecDepth 100000
noncomputable section
inductive Yf where
 | b0 (a0 a1 a2:Int)
def ZaZ:Yf->Tr U (Bool⊕Yf)
 | .b0 a0 a1 a2=>.br (decide (a0>=0)) ( .bind 4 (QI a0) (fun(x1:Bool)=>.br (!x1) ( AA (decide ((AP (a2 - a1))>40000000))) ( AA false))) ( AA false)
def oZ (a0 a1 a2:Int):Option Bool:=AV ZaZ (.b0 a0 a1 a2)
def ZsV:Yf->Ac U
 | .b0 a0 a1 a2=>Ai Tryz.f191 [3,3,3] (a0,a1,a2,())
theorem Zsc:AA1 191 [3,3,3] 4 (fun x=>oZ x.1 x.2.1 x.2.2.1) rfl:=Aj (mc UF Ag) Ah AN ZsV Tryz.func191 (fun p=>by cases p<;>kernel_rfl) (by kernel_rfl) fun _=>rfl
inductive XK where
 | b0 (a0:Aa) (a1:Int)
def Z8s:XK->Tr U (Bool⊕XK)
 | .b0 a0 a1=>.bind 4 (oZ a0.Own a0.Since a1) (fun(x1:Bool)=>.br x1 ( AA true) ( .bind 4 (oZ a0.Other a0.Ir a1) (fun(x2:Bool)=>AA x2)))
def Z02 (a0:Aa) (a1:Int):Option Bool:=AV Z8s (.b0 a0 a1)
def ZlS:XK->Ac U
 | .b0 a0 a1=>Ai Tryz.f98 [39,3] (a0,a1,())
theorem ZlH:AA1 98 [39,3] 4 (fun x=>Z02 x.1 x.2.1) rfl:=Aj (mc Zsc Ag) Ah AN ZlS Tryz.func98 (fun p=>by cases p<;>kernel_rfl) (by kernel_rfl) fun _=>rfl
inductive XI where
 | b0 (a0:DL)
def Z8m:XI->Tr U (Int⊕XI)
 | .b0 a0=>.bind 3 (UB a0.EO (10:Int) (3200:Int)) (fun(x1:Int)=>AA (AP (x1*10000)))
def ZV (a0:DL):Option Int:=AV Z8m (.b0 a0)
def ZlK:XI->Ac U
 | .b0 a0=>Ai Tryz.f99 [24] (a0,())
theorem Zlk:AA1 99 [24] 3 (fun x=>ZV x.1) rfl:=Aj (mc kX Ag) Ah AN ZlK Tryz.func99 (fun p=>by cases p<;>kernel_rfl) (by kernel_rfl) fun _=>rfl
inductive bY where
 | b0 (a0:A8) (a1:Int)
def ZcR:bY->Tr U ((A8×(List Am))⊕bY)
 | .b0 a0 a1=>.chk (([(⟨4,a0.Event,(⟨0,[]⟩:Aw),Me,(IntKind.wrap .u64 (a1)),BP⟩:Am)]).length==1) ( AA (({ a0 with Bc:=a1 }:A8),[(⟨4,a0.Event,(⟨0,[]⟩:Aw),Me,(IntKind.wrap .u64 (a1)),BP⟩:Am)]))
def qE (a0:A8) (a1:Int):Option (A8×(List Am)):=AV ZcR (.b0 a0 a1)
def Zwd:bY->Ac U
 | .b0 a0 a1=>Ai Tryz.f100 [44,3] (a0,a1,())
theorem Zb9:AA1 100 [44,3] 78 (fun x=>qE x.1 x.2.1) rfl:=Aj Ag Ah AN Zwd Tryz.func100 (fun p=>by cases p<;>kernel_rfl) (by kernel_rfl) fun _=>rfl
inductive YU where
 | b0 (a0:A8) (a1:Int)
 | b1 (a0:Int) (a1:Bool) (a2 a3:A8)
 | b2 (a0:Int) (a1:Bool) (a2 a3:A8)
 | b3 (a0 a1 a2:Int) (a3 a4:A8)
 | b4 (a0 a1:Int) (a2 a3:A8)
 | b5 (a0:Int) (a1:List Am) (a2:List BN) (a3:Int) (a4 a5:A8) (a6:Aa)
 | b6 (a0:List Am) (a1:Int) (a2 a3:A8)
 | b7 (a0:List Am) (a1 a2:A8)
 | b8 (a0:Int) (a1:List Am) (a2:Int) (a3 a4:A8)
 | b9 (a0:List Am) (a1 a2:A8)
def Z9M:YU->Tr U ((A8×(List Am))⊕YU)
 | .b0 a0 a1=>.br (a0.Bc != 0) ( .chk (([]:List Am).length==0) ( AA (a0,([]:List Am)))) ( .br (a0.Bl==1) ( .br (!a0.J6) ( .bind 4 (UN a0) (fun(x1:Bool)=>AO (.b1 a1 x1 a0 Dp))) ( AO (.b1 a1 false a0 Dp))) ( AO (.b1 a1 false a0 Dp)))
 | .b1 a0 a1 a2 a3=>.br a1 ( .bind 129 (Z2b a2.GM) (fun(x1:Dc×Int)=>AO (.b2 a0 a1 ({ a2 with GM:=x1.1 }:A8) a3))) ( .br (a2.Bl==1) ( .bind 35 (Z0I a2.GM a2.Fp) (fun(x2:Dc)=>AO (.b2 a0 a1 ({ a2 with GM:=x2 }:A8) a3))) ( AO (.b2 a0 a1 a2 a3)))
 | .b2 a0 a1 a2 a3=>.bind 104 (Yz a2.Ce a2.Event a2.Last) (fun(x1:Int×Int)=>.br (!a2.Good) ( .br (!a1) ( AO (.b3 a0 x1.1 x1.2 a2 a3)) ( AO (.b4 a0 x1.2 a2 a3))) ( AO (.b4 a0 x1.2 a2 a3)))
 | .b3 a0 a1 a2 a3 a4=>.bind 42 (Xa a3.DJ a1 false) (fun(x1:List BR)=>AO (.b4 a0 a2 ({ a3 with DJ:=x1 }:A8) a4))
 | .b4 a0 a1 a2 a3=>.bind 135 (Z2R a2.Ak (IntKind.wrap .u16 (a2.Event+1))) (fun(x1:Aa×(List BN))=>.chk (([]:List Am).length==0) ( AO (.b5 a0 ([]:List Am) x1.2 (0:Int) ({ a2 with Event:=(IntKind.wrap .u16 (a2.Event+1)),Last:=a1,Ed:=(AP (a2.Ed+(AP ((1250:Int)*a2.Ce.BH.Df)))),J6:=false,Good:=false,Fp:=false,More:=false,Ak:=x1.1 }:A8) a3 x1.1)))
 | .b5 a0 a1 a2 a3 a4 a5 a6=>.br (decide (a3<(↑a2.length:Int))) ( .chk (decide (0<=a3/\a3<(↑a2.length:Int))) ( .bind 138 (a2[(Int.toNat a3)]?) (fun(x1:BN)=>.bind 44 (Z1v a4 x1) (fun(x2:A8)=>.chk (decide (0<=a3/\a3<(↑a2.length:Int))) ( .bind 138 (a2[(Int.toNat a3)]?) (fun(x3:BN)=>.chk (([(⟨2,x2.Event,(⟨0,[]⟩:Aw),x3,0,BP⟩:Am)]).length==1) ( .chk (kL a1) ( .chk (kA (a1.length+([(⟨2,x2.Event,(⟨0,[]⟩:Aw),x3,0,BP⟩:Am)]).length) 160) ( .chk (kL (a1++[(⟨2,x2.Event,(⟨0,[]⟩:Aw),x3,0,BP⟩:Am)])) ( AO (.b5 a0 (a1++[(⟨2,x2.Event,(⟨0,[]⟩:Aw),x3,0,BP⟩:Am)]) a2 (AP (a3+1)) x2 a5 a6))))))))))) ( .bind 30 (nO a4) (fun(x4:Int)=>.bind 140 (Z1y a4.Ak x4 a0) (fun(x5:Aa×(List AL))=>.chk (([]:List AL).length==0) ( .chk (kA (0+a4.BA.length) 120) ( .chk (kL (([]:List AL)++a4.BA)) ( .chk (kA ((([]:List AL)++a4.BA).length+x5.2.length) 120) ( .br (x5.1.GR != 0) ( .chk (kL a1&&(((([]:List AL)++a4.BA)++x5.2).length==((([]:List AL)++a4.BA)++x5.2).length)) ( AO (.b6 a1 x5.1.GR ({ a4 with Ak:=x5.1,BA:=((([]:List AL)++a4.BA)++x5.2) }:A8) a5))) ( .bind 4 (Z02 x5.1 a0) (fun(x6:Bool)=>.br x6 ( .chk (kL a1&&(((([]:List AL)++a4.BA)++x5.2).length==((([]:List AL)++a4.BA)++x5.2).length)) ( AO (.b6 a1 (34:Int) ({ a4 with Ak:=x5.1,BA:=((([]:List AL)++a4.BA)++x5.2) }:A8) a5))) ( .br a4.Hw ( .bind 3 (ZV a4.Ce.BH) (fun(x7:Int)=>.br (decide ((AP (a0 - a4.JR))>x7)) ( .chk (kL a1&&(((([]:List AL)++a4.BA)++x5.2).length==((([]:List AL)++a4.BA)++x5.2).length)) ( AO (.b7 a1 ({ a4 with Ak:=x5.1,BA:=((([]:List AL)++a4.BA)++x5.2) }:A8) a5))) ( .chk (kL a1&&(((([]:List AL)++a4.BA)++x5.2).length==((([]:List AL)++a4.BA)++x5.2).length)) ( AO (.b8 a0 a1 (0:Int) ({ a4 with Ak:=x5.1,BA:=((([]:List AL)++a4.BA)++x5.2) }:A8) a5))))) ( .chk (kL a1&&(((([]:List AL)++a4.BA)++x5.2).length==((([]:List AL)++a4.BA)++x5.2).length)) ( AO (.b8 a0 a1 (0:Int) ({ a4 with Ak:=x5.1,BA:=((([]:List AL)++a4.BA)++x5.2) }:A8) a5)))))))))))))
 | .b6 a0 a1 a2 a3=>.br (a1 != 0) ( .chk (kL a2.BA) ( .bind 78 (qE a2 a1) (fun(x1:A8×(List Am))=>.chk (kL a0) ( .chk (kA (a0.length+x1.2.length) 160) ( .chk (kL (a0++x1.2)) ( AA (x1.1,(a0++x1.2)))))))) ( .chk (kL a2.BA) ( .chk (kL a0) ( AA (a2,a0))))
 | .b7 a0 a1 a2=>.chk (kL a0&&kL a1.BA) ( AO (.b6 a0 (8:Int) a1 a2))
 | .b8 a0 a1 a2 a3 a4=>.br (!a3.Hw) ( .br (decide ((AP (a0 - a3.JR))>(AP ((7500:Int)*a3.Ce.BH.Df)))) ( .chk (kL a1&&kL a3.BA) ( AO (.b9 a1 a3 a4))) ( .chk (kL a1&&kL a3.BA) ( AO (.b6 a1 a2 a3 a4)))) ( .chk (kL a1&&kL a3.BA) ( AO (.b6 a1 a2 a3 a4)))
 | .b9 a0 a1 a2=>.chk (kL a0&&kL a1.BA) ( AO (.b6 a0 (62:Int) a1 a2))
def nK (a0:A8) (a1:Int):Option (A8×(List Am)):=AV Z9M (.b0 a0 a1)
def lM:Lay:=⟨[1,2,4,6],[KP,KP,KP,KP],[.var k2,.var k2],⟨[OV 3,PQ 0,PQ 1,OV 4],[VA 44 66,VA 44 66]⟩⟩
def Z8F:Lay:=⟨[1,2,4,9,10],[KP,KP,KP,KP,KP],[.var k2,.var k2],⟨[OV 3,PQ 0,PQ 1,OV 3,OV 3],[VA 44 66,VA 44 66]⟩⟩
def Z7V:Lay:=⟨[1,2,4,10],[KP,KP,KP,KP],[.var k2,.var k2],⟨[OV 3,PQ 0,PQ 1,OV 3],[VA 44 66,VA 44 66]⟩⟩
def Z7L:Lay:=⟨[1,2,4,11,12,13,14],[KP,KP,KP,[.own 148 18],KP,[.s 138 8],KP],[.var k2,.var k2,.row true,.var k1],⟨[OV 3,PQ 0,PQ 1,.one (.own 148 2),PQ 3,OV 37,OV 3],[VA 44 66,VA 44 66,.row 148 true,VA 39 20]⟩⟩
def Z8g:Lay:=⟨[2,4,11,16],[KP,KP,[.own 148 18],KP],[.var k9,.var k2,.row true,.row true],⟨[PQ 0,PQ 1,.one (.own 148 2),OV 3],[.var 44 66 (iO 3),VA 44 66,.row 148 true,.row 156 true]⟩⟩
def lJ:Lay:=⟨[2,4,11],[KP,KP,[.own 148 18]],[.var k9,.var k2,.row true,.row true],⟨[PQ 0,PQ 1,.one (.own 148 2)],[.var 44 66 (iO 3),VA 44 66,.row 148 true,.row 156 true]⟩⟩
def Z8v:Lay:=⟨[1,2,4,11,16],[KP,KP,KP,[.own 148 18],KP],[.var k9,.var k2,.row true,.row true],⟨[OV 3,PQ 0,PQ 1,.one (.own 148 2),OV 3],[.var 44 66 (iO 3),VA 44 66,.row 148 true,.row 156 true]⟩⟩
def ZtQ:Nat->Option Lay
 | 4=>some lM
 | 9=>some lM
 | 11=>some Z8F
 | 12=>some Z7V
 | 20=>some Z7L
 | 36=>some Z8g
 | 33=>some lJ
 | 34=>some Z8v
 | 35=>some lJ
 | _=>none
def Zqq:YU->Ac U
 | .b0 a0 a1=>Ai Tryz.f30 [44,3] (a0,a1,())
 | .b1 a0 a1 a2 a3=>AA3 Tryz.f30 [1,1,1,0,0] lM (a0,a1,a2,a3,())
 | .b2 a0 a1 a2 a3=>AA3 Tryz.f30 [1,1,1,1,0] lM (a0,a1,a2,a3,())
 | .b3 a0 a1 a2 a3 a4=>AA3 Tryz.f30 [1,1,1,1,1,0,1,0] Z8F (a0,a1,a2,a3,a4,())
 | .b4 a0 a1 a2 a3=>AA3 Tryz.f30 [1,1,1,1,1,1,0] Z7V (a0,a1,a2,a3,())
 | .b5 a0 a1 a2 a3 a4 a5 a6=>AA3 Tryz.f30 [1,1,1,1,1,1,1,1,1,1,1,1,1,0,1,0,0,0,0] Z7L (a0,a2,a3,a4,a5,a1,a6,())
 | .b6 a0 a1 a2 a3=>Ae Tryz.f30 [1,1,1,1,1,1,1,1,1,1,1,1,1,1,1,1,1,1,1,0,0] Z8g (((),((),((),((a1,()),())))),((Vm a2),((a3,()),(a0,(a2.BA,())))))
 | .b7 a0 a1 a2=>Ae Tryz.f30 [1,1,1,1,1,1,1,1,1,1,1,1,1,1,1,1,1,1,0,0,1,1,1,1,1,0] lJ (((),((),((),()))),((Vm a1),((a2,()),(a0,(a1.BA,())))))
 | .b8 a0 a1 a2 a3 a4=>Ae Tryz.f30 [1,1,1,1,1,1,1,1,1,1,1,1,1,1,1,1,1,1,0,0,1,1,1,1,1,1,0] Z8v (((a0,()),((),((),((),((a2,()),()))))),((Vm a3),((a4,()),(a1,(a3.BA,())))))
 | .b9 a0 a1 a2=>Ae Tryz.f30 [1,1,1,1,1,1,1,1,1,1,1,1,1,1,1,1,1,1,0,0,1,1,1,1,1,1,1,0] lJ (((),((),((),()))),((Vm a1),((a2,()),(a0,(a1.BA,())))))
theorem Zpq:AA1 30 [44,3] 78 (fun x=>nK x.1 x.2.1) rfl:=Aj (mc Z0k (mc Z9N (mc Zsk (mc ZmO (mc Z8a (mc Zxk (mc ZpC (mc Zqi (mc Z9k (mc ZlH (mc Zlk (mc Zb9 Ag)))))))))))) Ah ZtQ Zqq Tryz.func30 (fun p=>by cases p<;>kernel_rfl) (by kernel_rfl) fun _=>rfl
inductive Yn where
 | b0 (a0:A8) (a1:Aw)
 | b1 (a0:A8) (a1:Aw) (a2:A8)
def Zc0:Yn->Tr U ((A8×Int)⊕Yn)
 | .b0 a0 a1=>.br (a1.Bq != 2) ( .br (a1.Bq != 1) ( AA (a0,1)) ( AO (.b1 a0 a1 Dp))) ( AO (.b1 a0 a1 Dp))
 | .b1 a0 a1 a2=>.bind 45 (Nk (⟨0,0,0,a1⟩:BM)) (fun(x1:Int)=>.br (x1 != 0) ( AA (a0,x1)) ( .br (decide ((↑a1.Payload.length:Int)>a0.Ak.Length)) ( AA (a0,4)) ( .bind 4 (Y7 a0.Ak) (fun(x2:Bool)=>.br x2 ( AA (a0,20)) ( .bind 189 (Y0 a0.BB a1) (fun(x3:BU×Int)=>.br (x3.2 != 0) ( AA (a0,x3.2)) ( AA (({ a0 with BB:=x3.1 }:A8),(0:Int)))))))))
def Z1B (a0:A8) (a1:Aw):Option (A8×Int):=AV Zc0 (.b0 a0 a1)
def Z9j:Lay:=⟨[2,3,4],[KP,KP,KP],[.var k2,.var [.keep,.s 5 1],.var k2],⟨[PQ 0,PQ 1,PQ 2],[VA 44 66,VA 68 2,VA 44 66]⟩⟩
def Zx0:Nat->Option Lay
 | 3=>some Z9j
 | _=>none
def Zs4:Yn->Ac U
 | .b0 a0 a1=>Ai Tryz.f102 [44,68] (a0,a1,())
 | .b1 a0 a1 a2=>AA3 Tryz.f102 [1,1,0] Z9j (a0,a1,a2,())
theorem ZsD:AA1 102 [44,68] 46 (fun x=>Z1B x.1 x.2.1) rfl:=Aj (mc Z94 (mc Z8W (mc UH Ag))) Ah Zx0 Zs4 Tryz.func102 (fun p=>by cases p<;>kernel_rfl) (by kernel_rfl) fun _=>rfl
inductive Wl where
 | b0 (a0:Int)
 | b1 (a0:Int)
 | b2 (a0:Int)
 | b3 (a0:Int)
 | b4 (a0:Int)
def Z6S:Wl->Tr U (Int⊕Wl)
 | .b0 a0=>.br (a0==0) ( .br (a0==0) ( AA a0) ( AO (.b1 a0))) ( .br (a0==1) ( .br (a0==1) ( AA a0) ( AO (.b1 a0))) ( .br (a0==2) ( .br (a0==2) ( AA a0) ( AO (.b1 a0))) ( .br (a0==12) ( .br (a0==12) ( AA a0) ( AO (.b1 a0))) ( .br (a0==15) ( AA a0) ( AO (.b1 a0))))))
 | .b1 a0=>.br (a0==8) ( .br (a0==8) ( AA (8:Int)) ( AO (.b2 a0))) ( .br (a0==9) ( AA (8:Int)) ( AO (.b2 a0)))
 | .b2 a0=>.br (a0==3) ( .br (a0==3) ( AA (3:Int)) ( AO (.b3 a0))) ( .br (a0==4) ( .br (a0==4) ( AA (3:Int)) ( AO (.b3 a0))) ( .br (a0==5) ( .br (a0==5) ( AA (3:Int)) ( AO (.b3 a0))) ( .br (a0==6) ( AA (3:Int)) ( AO (.b3 a0)))))
 | .b3 a0=>.br (a0==18) ( .br (a0==18) ( AA (18:Int)) ( AO (.b4 a0))) ( .br (a0==19) ( AA (18:Int)) ( AO (.b4 a0)))
 | .b4 a0=>.br (a0==20) ( .br (a0==20) ( AA (20:Int)) ( AA (-1:Int))) ( .br (a0==21) ( AA (20:Int)) ( AA (-1:Int)))
def Zn (a0:Int):Option Int:=AV Z6S (.b0 a0)
def Px:Lay:=⟨[3],[KP],[],⟨[OV 3],[]⟩⟩
def Zkq:Nat->Option Lay
 | 8=>some Px
 | 11=>some Px
 | 16=>some Px
 | 19=>some Px
 | _=>none
def Zkk:Wl->Ac U
 | .b0 a0=>Ai Tryz.f341 [3] (a0,())
 | .b1 a0=>AA3 Tryz.f341 [1,0,1,0,1,1,0,0] Px (a0,())
 | .b2 a0=>AA3 Tryz.f341 [1,0,1,0,1,1,1,1,0,0] Px (a0,())
 | .b3 a0=>AA3 Tryz.f341 [1,0,1,0,1,1,1,1,1,1,0,0] Px (a0,())
 | .b4 a0=>AA3 Tryz.f341 [1,0,1,0,1,1,1,1,1,1,1,1,0,0] Px (a0,())
theorem ZjZ:AA1 341 [3] 3 (fun x=>Zn x.1) rfl:=Aj Ag Ah Zkq Zkk Tryz.func341 (fun p=>by cases p<;>kernel_rfl) (by kernel_rfl) fun _=>rfl
inductive W9 where
 | b0 (a0:Int)
def Z71:W9->Tr U (Bool⊕W9)
 | .b0 a0=>.bind 262 (EN a0) (fun(x1:Be)=>.br x1.Hl ( .bind 3 (Zn a0) (fun(x2:Int)=>AA (x2==a0))) ( AA false))
def Zl (a0:Int):Option Bool:=AV Z71 (.b0 a0)
def ZjV:W9->Ac U
 | .b0 a0=>Ai Tryz.f268 [3] (a0,())
theorem Zk9:AA1 268 [3] 4 (fun x=>Zl x.1) rfl:=Aj (mc QD (mc ZjZ Ag)) Ah AN ZjV Tryz.func268 (fun p=>by cases p<;>kernel_rfl) (by kernel_rfl) fun _=>rfl
inductive Xg where
 | b0 (a0:Aa) (a1:AL)
 | b1 (a0 a1:AL)
def Z9y:Xg->Tr U (AL⊕Xg)
 | .b0 a0 a1=>.br (a1.Kind==8) ( AA ({ a1 with CQ:=a0.CQ }:AL)) ( .br (a1.Kind==12) ( AA ({ a1 with Version:=11 }:AL)) ( .br (a1.Kind==0) ( .br (a1.Kind==0) ( AO (.b1 a1 GZ)) ( AA a1)) ( .br (a1.Kind==1) ( AO (.b1 a1 GZ)) ( AA a1))))
 | .b1 a0 a1=>AA ({ a0 with DD:=0 }:AL)
def Z0K (a0:Aa) (a1:AL):Option AL:=AV Z9y (.b0 a0 a1)
def Z79:Lay:=⟨[3,4],[KP,KP],[.var k0,.var k0],⟨[PQ 0,PQ 1],[VA 156 15,VA 156 15]⟩⟩
def Zo5:Nat->Option Lay
 | 8=>some Z79
 | _=>none
def Znk:Xg->Ac U
 | .b0 a0 a1=>Ai Tryz.f269 [39,156] (a0,a1,())
 | .b1 a0 a1=>AA3 Tryz.f269 [1,0,1,0,1,1,1,1,1,0] Z79 (a0,a1,())
theorem Znv:AA1 269 [39,156] 156 (fun x=>Z0K x.1 x.2.1) rfl:=Aj Ag Ah Zo5 Znk Tryz.func269 (fun p=>by cases p<;>kernel_rfl) (by kernel_rfl) fun _=>rfl
inductive YQ where
 | b0 (a0:Aa) (a1:Int)
 | b1 (a0 a1:Int) (a2:Aa)
def Zau:YQ->Tr U (Bool⊕YQ)
 | .b0 a0 a1=>AO (.b1 a1 (0:Int) a0)
 | .b1 a0 a1 a2=>.br (decide (a1<(↑a2.BI.length:Int))) ( .chk (decide (0<=a1/\a1<(↑a2.BI.length:Int))) ( .bind 156 (a2.BI[(Int.toNat a1)]?) (fun(x1:AL)=>.br (x1.Kind==a0) ( AA true) ( AO (.b1 a0 (AP (a1+1)) a2))))) ( AA false)
def Z18 (a0:Aa) (a1:Int):Option Bool:=AV Zau (.b0 a0 a1)
def Z8u:Lay:=⟨[1,2,5],[KP,KP,KP],[.var k1],⟨[OV 3,PQ 0,OV 3],[VA 39 20]⟩⟩
def ZqP:Nat->Option Lay
 | 2=>some Z8u
 | _=>none
def Zo1:YQ->Ac U
 | .b0 a0 a1=>Ai Tryz.f342 [39,3] (a0,a1,())
 | .b1 a0 a1 a2=>AA3 Tryz.f342 [1,0,1,0,0,0,0] Z8u (a0,a1,a2,())
theorem ZpW:AA1 342 [39,3] 4 (fun x=>Z18 x.1 x.2.1) rfl:=Aj Ag Ah ZqP Zo1 Tryz.func342 (fun p=>by cases p<;>kernel_rfl) (by kernel_rfl) fun _=>rfl
inductive XL where
 | b0 (a0:Aa) (a1:Int)
 | b1 (a0:Int) (a1:Aa)
 | b2 (a0:Int) (a1:Aa)
def Z8M:XL->Tr U (Bool⊕XL)
 | .b0 a0 a1=>.br (a0.GR != 0) ( AA false) ( .br (a0.Own==2) ( AA false) ( AO (.b1 a1 a0)))
 | .b1 a0 a1=>.bind 4 (QI a0) (fun(x1:Bool)=>.br x1 ( .br (a1.Bl != 0) ( AA false) ( .br (a0==15) ( .br (a1.Bl != 1) ( AA false) ( AO (.b2 a0 a1))) ( AO (.b2 a0 a1)))) ( .br (a0==3) ( .br (a1.Bl != 0) ( AA false) ( .br (a0==15) ( .br (a1.Bl != 1) ( AA false) ( AO (.b2 a0 a1))) ( AO (.b2 a0 a1)))) ( .br (a0==15) ( .br (a1.Bl != 1) ( AA false) ( AO (.b2 a0 a1))) ( AO (.b2 a0 a1)))))
 | .b2 a0 a1=>.br (a0 != 3) ( AA true) ( .br (a1.EI==0) ( .bind 4 (Z18 a1 (3:Int)) (fun(x1:Bool)=>AA (!x1))) ( AA false))
def Z0f (a0:Aa) (a1:Int):Option Bool:=AV Z8M (.b0 a0 a1)
def kJ:Lay:=⟨[1,2],[KP,KP],[.var k1],⟨[OV 3,PQ 0],[VA 39 20]⟩⟩
def Znn:Nat->Option Lay
 | 3=>some kJ
 | 5=>some kJ
 | _=>none
def Zmb:XL->Ac U
 | .b0 a0 a1=>Ai Tryz.f270 [39,3] (a0,a1,())
 | .b1 a0 a1=>AA3 Tryz.f270 [1,1,0,0] kJ (a0,a1,())
 | .b2 a0 a1=>AA3 Tryz.f270 [1,1,1,0] kJ (a0,a1,())
theorem Zls:AA1 270 [39,3] 4 (fun x=>Z0f x.1 x.2.1) rfl:=Aj (mc UF (mc ZpW Ag)) Ah Znn Zmb Tryz.func270 (fun p=>by cases p<;>kernel_rfl) (by kernel_rfl) fun _=>rfl
inductive Y9 where
 | b0 (a0:Aa) (a1:AL) (a2 a3:Int)
 | b1 (a0 a1:Aa)
 | b2 (a0 a1:Int) (a2:Aa) (a3:AL) (a4:Aa)
 | b3 (a0 a1:Int) (a2:Aa) (a3:AL) (a4:Aa)
 | b4 (a0:Aa) (a1:AL) (a2:Aa)
def Z9J:Y9->Tr U ((Aa×(List AL)×Int)⊕Y9)
 | .b0 a0 a1 a2 a3=>.bind 4 (Zl a1.Kind) (fun(x1:Bool)=>.br (!x1) ( .chk (([]:List AL).length==0) ( AA (a0,([]:List AL),(12:Int)))) ( .bind 156 (Z0K a0 a1) (fun(x2:AL)=>.bind 45 (Og x2) (fun(x3:Int)=>.br (x3 != 0) ( .chk (([]:List AL).length==0) ( AA (a0,([]:List AL),x3))) ( .bind 4 (Z0f a0 x2.Kind) (fun(x4:Bool)=>.br (!x4) ( .chk (([]:List AL).length==0) ( AA (a0,([]:List AL),(9:Int)))) ( .br (x2.Kind==12) ( .br a0.JK ( AO (.b1 a0 ES)) ( AO (.b2 a2 a3 a0 x2 ES))) ( AO (.b2 a2 a3 a0 x2 ES)))))))))
 | .b1 a0 a1=>.chk (([]:List AL).length==0) ( AA (a0,([]:List AL),(0:Int)))
 | .b2 a0 a1 a2 a3 a4=>.br (a3.Kind==2) ( AO (.b3 a0 a1 ({ a2 with BI:=([]:List AL) }:Aa) a3 a4)) ( .br (decide (a2.Own>=0)) ( AO (.b4 a2 a3 a4)) ( .br (decide ((↑a2.BI.length:Int)>0)) ( AO (.b4 a2 a3 a4)) ( .bind 4 (qB a2 a3) (fun(x1:Bool)=>.br (!x1) ( AO (.b4 a2 a3 a4)) ( AO (.b3 a0 a1 a2 a3 a4))))))
 | .b3 a0 a1 a2 a3 a4=>.bind 216 (nH a2 a3 a0 a1) (fun(x1:Aa×AL)=>.chk (([x1.2]).length==1) ( AA (x1.1,[x1.2],(0:Int))))
 | .b4 a0 a1 a2=>.br (decide ((↑a0.BI.length:Int)>=8)) ( .chk (([]:List AL).length==0) ( AA (a0,([]:List AL),(8:Int)))) ( .chk (([]:List AL).length==0) ( .chk (kA (0+a0.BI.length) 120) ( .chk (([a1]).length==1) ( .chk (kL (([]:List AL)++a0.BI)) ( .chk (kA ((([]:List AL)++a0.BI).length+([a1]).length) 120) ( .chk (kL ((([]:List AL)++a0.BI)++[a1])) ( .chk (([]:List AL).length==0) ( AA (({ a0 with BI:=((([]:List AL)++a0.BI)++[a1]) }:Aa),([]:List AL),(0:Int))))))))))
def Z1g (a0:Aa) (a1:AL) (a2 a3:Int):Option (Aa×(List AL)×Int):=AV Z9J (.b0 a0 a1 a2 a3)
def Z80:Lay:=⟨[4,8],[KP,KP],[.var k1,.var k1],⟨[PQ 0,PQ 1],[VA 39 20,VA 39 20]⟩⟩
def lU:Lay:=⟨[2,3,4,5,8],[KP,KP,KP,KP,KP],[.var k1,.var k0,.var k1],⟨[OV 30,OV 3,PQ 0,PQ 1,PQ 2],[VA 39 20,VA 156 15,VA 39 20]⟩⟩
def Z8j:Lay:=⟨[4,5,8],[KP,KP,KP],[.var k1,.var k0,.var k1],⟨[PQ 0,PQ 1,PQ 2],[VA 39 20,VA 156 15,VA 39 20]⟩⟩
def ZrN:Nat->Option Lay
 | 10=>some Z80
 | 11=>some lU
 | 18=>some lU
 | 14=>some Z8j
 | _=>none
def Zqw:Y9->Ac U
 | .b0 a0 a1 a2 a3=>Ai Tryz.f198 [39,156,30,3] (a0,a1,a2,a3,())
 | .b1 a0 a1=>AA3 Tryz.f198 [1,1,1,1,1,0,1,0,0] Z80 (a0,a1,())
 | .b2 a0 a1 a2 a3 a4=>AA3 Tryz.f198 [1,1,1,1,1,1,0,0] lU (a0,a1,a2,a3,a4,())
 | .b3 a0 a1 a2 a3 a4=>AA3 Tryz.f198 [1,1,1,1,1,1,1,0] lU (a0,a1,a2,a3,a4,())
 | .b4 a0 a1 a2=>AA3 Tryz.f198 [1,1,1,1,1,1,0,1,1,1,0,0,0] Z8j (a0,a1,a2,())
theorem ZpS:AA1 198 [39,156,30,3] 222 (fun x=>Z1g x.1 x.2.1 x.2.2.1 x.2.2.2.1) rfl:=Aj (mc Zbh (mc Z96 (mc Z0p (mc Zk9 (mc Znv (mc Zls Ag)))))) Ah ZrN Zqw Tryz.func198 (fun p=>by cases p<;>kernel_rfl) (by kernel_rfl) fun _=>rfl
inductive YG where
 | b0 (a0:A8) (a1:AL) (a2:Int)
def Z9R:YG->Tr U ((A8×Int)⊕YG)
 | .b0 a0 a1 a2=>.bind 30 (nO a0) (fun(x1:Int)=>.bind 222 (Z1g a0.Ak a1 x1 a2) (fun(x2:Aa×(List AL)×Int)=>.br (x2.2.2 != 0) ( AA (a0,x2.2.2)) ( .chk (([]:List AL).length==0) ( .chk (kA (0+a0.BA.length) 120) ( .chk (kL (([]:List AL)++a0.BA)) ( .chk (kA ((([]:List AL)++a0.BA).length+x2.2.1.length) 120) ( .chk (kL ((([]:List AL)++a0.BA)++x2.2.1)) ( AA (({ a0 with Ak:=x2.1,BA:=((([]:List AL)++a0.BA)++x2.2.1) }:A8),(0:Int))))))))))
def LU (a0:A8) (a1:AL) (a2:Int):Option (A8×Int):=AV Z9R (.b0 a0 a1 a2)
def Zp7:YG->Ac U
 | .b0 a0 a1 a2=>Ai Tryz.f103 [44,156,3] (a0,a1,a2,())
theorem Zo8:AA1 103 [44,156,3] 46 (fun x=>LU x.1 x.2.1 x.2.2.1) rfl:=Aj (mc Z9k (mc ZpS Ag)) Ah AN Zp7 Tryz.func103 (fun p=>by cases p<;>kernel_rfl) (by kernel_rfl) fun _=>rfl
inductive X7 where
 | b0 (a0:Int)
def Z9x:X7->Tr U (Int⊕X7)
 | .b0 a0=>.br (decide (a0>2147483647)) ( AA (2147483647:Int)) ( AA (AP (a0)))
def lY (a0:Int):Option Int:=AV Z9x (.b0 a0)
def Zn3:X7->Ac U
 | .b0 a0=>Ai Tryz.f104 [25] (a0,())
theorem ZmA:AA1 104 [25] 3 (fun x=>lY x.1) rfl:=Aj Ag Ah AN Zn3 Tryz.func104 (fun p=>by cases p<;>kernel_rfl) (by kernel_rfl) fun _=>rfl
inductive aY where
 | b0 (a0:AL)
def Zd4:aY->Tr U ((List AL)⊕aY)
 | .b0 a0=>.chk (([a0]).length==1) ( AA ([a0]))
def NG (a0:AL):Option (List AL):=AV Zd4 (.b0 a0)
def ZuB:aY->Ac U
 | .b0 a0=>Ai Tryz.f271 [156] (a0,())
theorem U6:AA1 271 [156] 36 (fun x=>NG x.1) rfl:=Aj Ag Ah AN ZuB Tryz.func271 (fun p=>by cases p<;>kernel_rfl) (by kernel_rfl) fun _=>rfl
inductive XW where
 | b0 (a0:Aa) (a1:Bool) (a2:Int)
 | b1 (a0:Bool) (a1:Int) (a2 a3:Aa)
def Z9B:XW->Tr U ((Aa×(List AL))⊕XW)
 | .b0 a0 a1 a2=>.br (a0.Bl != 1) ( .chk (([]:List AL).length==0) ( AA (a0,([]:List AL)))) ( .br (a0.GR != 0) ( .chk (([]:List AL).length==0) ( AA (a0,([]:List AL)))) ( .br (a0.EI != 1) ( .chk (([]:List AL).length==0) ( AA (a0,([]:List AL)))) ( AO (.b1 a1 a2 a0 ES))))
 | .b1 a0 a1 a2 a3=>.br (!a0) ( .bind 36 (NG (⟨13,BP,0,0,6,3,0,0,0,0,0⟩:AL)) (fun(x1:List AL)=>AA (({ a2 with Other:=-1,EI:=0 }:Aa),x1))) ( .chk (([(⟨4,BP,0,0,0,0,a1,0,0,0,0⟩:AL),(⟨5,BP,0,0,0,0,0,0,0,0,0⟩:AL)]).length==2) ( AA (({ a2 with Bo:=a1,EI:=3 }:Aa),[(⟨4,BP,0,0,0,0,a1,0,0,0,0⟩:AL),(⟨5,BP,0,0,0,0,0,0,0,0,0⟩:AL)])))
def Z0J (a0:Aa) (a1:Bool) (a2:Int):Option (Aa×(List AL)):=AV Z9B (.b0 a0 a1 a2)
def Z7t:Lay:=⟨[1,2,3,6],[KP,KP,KP,KP],[.var k1,.var k1],⟨[OV 4,OV 25,PQ 0,PQ 1],[VA 39 20,VA 39 20]⟩⟩
def ZqG:Nat->Option Lay
 | 3=>some Z7t
 | _=>none
def ZnB:XW->Ac U
 | .b0 a0 a1 a2=>Ai Tryz.f199 [39,4,25] (a0,a1,a2,())
 | .b1 a0 a1 a2 a3=>AA3 Tryz.f199 [1,1,0,0] Z7t (a0,a1,a2,a3,())
theorem Zmx:AA1 199 [39,4,25] 140 (fun x=>Z0J x.1 x.2.1 x.2.2.1) rfl:=Aj (mc U6 Ag) Ah ZqG ZnB Tryz.func199 (fun p=>by cases p<;>kernel_rfl) (by kernel_rfl) fun _=>rfl
inductive Yk where
 | b0 (a0:C9) (a1 a2:Bool)
def ZaW:Yk->Tr U (C9⊕Yk)
 | .b0 a0 a1 a2=>AA ({ a0 with Jp:=a1,NV:=a2 }:C9)
def aP (a0:C9) (a1 a2:Bool):Option C9:=AV ZaW (.b0 a0 a1 a2)
def Ztv:Yk->Ac U
 | .b0 a0 a1 a2=>Ai Tryz.f200 [41,4,4] (a0,a1,a2,())
theorem Z13:AA1 200 [41,4,4] 41 (fun x=>aP x.1 x.2.1 x.2.2.1) rfl:=Aj Ag Ah AN Ztv Tryz.func200 (fun p=>by cases p<;>kernel_rfl) (by kernel_rfl) fun _=>rfl
inductive XQ where
 | b0 (a0:Int) (a1:ByteArray) (a2:List Int)
 | b1 (a0:Int) (a1 a2:List Int) (a3:Int)
def Z9A:XQ->Tr U (Int⊕XQ)
 | .b0 a0 a1 a2=>.chk (uK U 5 a1) ( .chk (([(0:Int)]).length==1) ( .chk (kL (Ny U 5 a1)) ( .chk (kA ((Ny U 5 a1).length+([(0:Int)]).length) 1) ( .chk (kL ((Ny U 5 a1)++[(0:Int)])) ( AO (.b1 a0 a2 ((Ny U 5 a1)++[(0:Int)]) (0:Int)))))))
 | .b1 a0 a1 a2 a3=>.br (decide (a3<(↑a1.length:Int))) ( .chk (decide (0<=a3/\a3<(↑a1.length:Int))) ( .bind 25 (a1[(Int.toNat a3)]?) (fun(x1:Int)=>.bind 1351 (Lh (8:Int) x1) (fun(y2:KN)=>.chk (kL y2.q0) ( .chk (kL a2) ( .chk (kA (a2.length+y2.q0.length) 1) ( .chk (kL (a2++y2.q0)) ( AO (.b1 a0 a1 (a2++y2.q0) (AP (a3+1))))))))))) ( .chk (kL a2) ( .bind 25 (bH a0 a2) (fun(x3:Int)=>AA x3)))
def Z0z (a0:Int) (a1:ByteArray) (a2:List Int):Option Int:=AV Z9A (.b0 a0 a1 a2)
def Z7r:Lay:=⟨[0,2,7,8],[KP,[.s 25 1],[.own 5 1],KP],[.row true],⟨[OV 29,OV 254,.one (.own 5 0),OV 3],[.row 5 true]⟩⟩
def Zpj:Nat->Option Lay
 | 3=>some Z7r
 | _=>none
def Znt:XQ->Ac U
 | .b0 a0 a1 a2=>Ai Tryz.f272 [29,9,254] (a0,a1,a2,())
 | .b1 a0 a1 a2 a3=>AA3 Tryz.f272 [1,1,0,1,0,0,0,0] Z7r (a0,a1,a3,a2,())
theorem ZmN:AA1 272 [29,9,254] 29 (fun x=>Z0z x.1 x.2.1 x.2.2.1) rfl:=Aj (mc Zc5 Ag) (hc [] o6 Ah) Zpj Znt Tryz.func272 (fun p=>by cases p<;>kernel_rfl) (by kernel_rfl) fun _=>rfl
inductive bW where
 | b0 (a0 a1 a2 a3:Int)
def Zd0:bW->Tr U (C9⊕bW)
 | .b0 a0 a1 a2 a3=>.chk (([a2,a3]).length==2) ( .bind 29 (Z0z a1 (⟨#[115,101,115,115,105,111,110]⟩:ByteArray) ([a2,a3])) (fun(x1:Int)=>.br (a0==1) ( AA (⟨1,x1,(bits .xor .u64 a2 a3),false,false,0,0⟩:C9)) ( AA (⟨0,x1,(bits .xor .u64 a2 a3),false,false,0,0⟩:C9))))
def pY (a0 a1 a2 a3:Int):Option C9:=AV Zd0 (.b0 a0 a1 a2 a3)
def Zua:bW->Ac U
 | .b0 a0 a1 a2 a3=>Ai Tryz.f201 [3,29,25,25] (a0,a1,a2,a3,())
theorem Zbq:AA1 201 [3,29,25,25] 41 (fun x=>pY x.1 x.2.1 x.2.2.1 x.2.2.2.1) rfl:=Aj (mc ZmN Ag) Ah AN Zua Tryz.func201 (fun p=>by cases p<;>kernel_rfl) (by kernel_rfl) fun _=>rfl
inductive cZ where
 | b0 (a0:A8) (a1:Int)
 | b1 (a0:Int) (a1 a2:A8)
def Zcy:cZ->Tr U ((A8×Int)⊕cZ)
 | .b0 a0 a1=>.br (a0.Bl != 1) ( AA (a0,9)) ( .br (a0.Ak.EI != 1) ( AA (a0,9)) ( AO (.b1 a1 a0 Dp)))
 | .b1 a0 a1 a2=>.bind 140 (Z0J a1.Ak (a0 != 0) a1.I4) (fun(x1:Aa×(List AL))=>.chk (([]:List AL).length==0) ( .chk (kA (0+a1.BA.length) 120) ( .chk (kL (([]:List AL)++a1.BA)) ( .chk (kA ((([]:List AL)++a1.BA).length+x1.2.length) 120) ( .br (a0 != 0) ( .bind 41 (pY a1.Bl a0 x1.1.JW x1.1.Bo) (fun(x2:C9)=>.bind 41 (aP x2 false true) (fun(x3:C9)=>.chk (kL ((([]:List AL)++a1.BA)++x1.2)) ( AA (({ a1 with Ak:=x1.1,ED:=x3,Key:=a0,BA:=((([]:List AL)++a1.BA)++x1.2) }:A8),(0:Int)))))) ( .chk (kL ((([]:List AL)++a1.BA)++x1.2)) ( AA (({ a1 with Ak:=x1.1,BA:=((([]:List AL)++a1.BA)++x1.2) }:A8),(0:Int)))))))))
def Z2s (a0:A8) (a1:Int):Option (A8×Int):=AV Zcy (.b0 a0 a1)
def Z9H:Lay:=⟨[1,2,4],[KP,KP,KP],[.var k2,.var k2],⟨[OV 29,PQ 0,PQ 1],[VA 44 66,VA 44 66]⟩⟩
def Zyr:Nat->Option Lay
 | 3=>some Z9H
 | _=>none
def Zub:cZ->Ac U
 | .b0 a0 a1=>Ai Tryz.f105 [44,29] (a0,a1,())
 | .b1 a0 a1 a2=>AA3 Tryz.f105 [1,1,0] Z9H (a0,a1,a2,())
theorem ZwO:AA1 105 [44,29] 46 (fun x=>Z2s x.1 x.2.1) rfl:=Aj (mc Zmx (mc Z13 (mc Zbq Ag))) Ah Zyr Zub Tryz.func105 (fun p=>by cases p<;>kernel_rfl) (by kernel_rfl) fun _=>rfl
end
noncomputable section
inductive YZ where
 | b0 (a0:Int)
def Zaq:YZ->Tr U (Int⊕YZ)
 | .b0 a0=>AA (if (if (65536:Int)<a0 then (65536:Int) else a0)>0 then (if (65536:Int)<a0 then (65536:Int) else a0) else (0:Int))
def QM (a0:Int):Option Int:=AV Zaq (.b0 a0)
def ZoB:YZ->Ac U
 | .b0 a0=>Ai Tryz.f205 [3] (a0,())
theorem Z0i:AA1 205 [3] 3 (fun x=>QM x.1) rfl:=Aj Ag Ah AN ZoB Tryz.func205 (fun p=>by cases p<;>kernel_rfl) (by kernel_rfl) fun _=>rfl
inductive Yg where
 | b0 (a0:BR)
def Zbm:Yg->Tr U (Int⊕Yg)
 | .b0 a0=>.bind 3 (QM a0.Good) (fun(x1:Int)=>.bind 3 (QM a0.N8) (fun(x2:Int)=>.br ((AP (x1+x2))==0) ( AA (0:Int)) ( .chk ((AP (x1+x2)) != 0) ( AA (AP (Int.tdiv (AP (x2*1000)) (AP (x1+x2))))))))
def aJ (a0:BR):Option Int:=AV Zbm (.b0 a0)
def Zrf:Yg->Ac U
 | .b0 a0=>Ai Tryz.f275 [99] (a0,())
theorem Z9V:AA1 275 [99] 3 (fun x=>aJ x.1) rfl:=Aj (mc Z0i Ag) Ah AN Zrf Tryz.func275 (fun p=>by cases p<;>kernel_rfl) (by kernel_rfl) fun _=>rfl
inductive dF where
 | b0 (a0:BR)
def ZcW:dF->Tr U (Bool⊕dF)
 | .b0 a0=>.bind 3 (QM a0.Good) (fun(x1:Int)=>.bind 3 (QM a0.N8) (fun(x2:Int)=>.br (decide ((AP (x1+x2))>=8)) ( .bind 3 (aJ a0) (fun(x3:Int)=>AA (decide (x3>=250)))) ( AA false)))
def Z2O (a0:BR):Option Bool:=AV ZcW (.b0 a0)
def Zwj:dF->Ac U
 | .b0 a0=>Ai Tryz.f273 [99] (a0,())
theorem Zuv:AA1 273 [99] 4 (fun x=>Z2O x.1) rfl:=Aj (mc Z0i (mc Z9V Ag)) Ah AN Zwj Tryz.func273 (fun p=>by cases p<;>kernel_rfl) (by kernel_rfl) fun _=>rfl
inductive dU where
 | b0 (a0:List BR) (a1:Int)
 | b1 (a0:BR)
 | b2 (a0:List BR) (a1:Int) (a2:BR)
def Zdo:dU->Tr U (BR⊕dU)
 | .b0 a0 a1=>.br (decide (a1<0)) ( AO (.b1 (⟨0,0⟩:BR))) ( .br (decide (a1>=(↑a0.length:Int))) ( AO (.b1 (⟨0,0⟩:BR))) ( AO (.b2 a0 a1 (⟨0,0⟩:BR))))
 | .b1 a0=>AA (⟨0,0⟩:BR)
 | .b2 a0 a1 a2=>.chk (decide (0<=a1/\a1<(↑a0.length:Int))) ( .bind 99 (a0[(Int.toNat a1)]?) (fun(x1:BR)=>AA x1))
def eH (a0:List BR) (a1:Int):Option BR:=AV Zdo (.b0 a0 a1)
def ZbM:Lay:=⟨[4],[KP],[.var [.keep,.keep]],⟨[PQ 0],[VA 99 2]⟩⟩
def Zbe:Lay:=⟨[0,1,4],[[.s 99 2],KP,KP],[.var [.keep,.keep]],⟨[OV 42,OV 3,PQ 0],[VA 99 2]⟩⟩
def ZBr:Nat->Option Lay
 | 2=>some ZbM
 | 3=>some Zbe
 | _=>none
def ZyL:dU->Ac U
 | .b0 a0 a1=>Ai Tryz.f274 [42,3] (a0,a1,())
 | .b1 a0=>AA3 Tryz.f274 [1,0,1,0,0] ZbM (a0,())
 | .b2 a0 a1 a2=>AA3 Tryz.f274 [1,1,0] Zbe (a0,a1,a2,())
theorem ZxF:AA1 274 [42,3] 99 (fun x=>eH x.1 x.2.1) rfl:=Aj Ag Ah ZBr ZyL Tryz.func274 (fun p=>by cases p<;>kernel_rfl) (by kernel_rfl) fun _=>rfl
inductive Y5 where
 | b0 (a0:List BR) (a1:List Int)
 | b1 (a0:List BR) (a1:List Int) (a2 a3:Int)
 | b2 (a0:List BR) (a1:List Int) (a2 a3:Int)
 | b3 (a0:List BR) (a1:List Int) (a2:Int)
def Za8:Y5->Tr U (Int⊕Y5)
 | .b0 a0 a1=>AO (.b1 a0 a1 (-1:Int) (0:Int))
 | .b1 a0 a1 a2 a3=>.br (decide (a3<(↑a1.length:Int))) ( .chk (decide (0<=a3/\a3<(↑a1.length:Int))) ( .bind 3 (a1[(Int.toNat a3)]?) (fun(x1:Int)=>.bind 99 (eH a0 x1) (fun(x2:BR)=>.bind 4 (Z2O x2) (fun(x3:Bool)=>.br (!x3) ( AO (.b2 a0 a1 a2 a3)) ( .br (decide (a2<0)) ( AO (.b3 a0 a1 a3)) ( .chk (decide (0<=a3/\a3<(↑a1.length:Int))) ( .bind 3 (a1[(Int.toNat a3)]?) (fun(x4:Int)=>.bind 99 (eH a0 x4) (fun(x5:BR)=>.bind 3 (aJ x5) (fun(x6:Int)=>.chk (decide (0<=a2/\a2<(↑a1.length:Int))) ( .bind 3 (a1[(Int.toNat a2)]?) (fun(x7:Int)=>.bind 99 (eH a0 x7) (fun(x8:BR)=>.bind 3 (aJ x8) (fun(x9:Int)=>.br (decide (x6>x9)) ( AO (.b3 a0 a1 a3)) ( AO (.b2 a0 a1 a2 a3))))))))))))))))) ( AA a2)
 | .b2 a0 a1 a2 a3=>AO (.b1 a0 a1 a2 (AP (a3+1)))
 | .b3 a0 a1 a2=>AO (.b2 a0 a1 a2 a2)
def Z1n (a0:List BR) (a1:List Int):Option Int:=AV Za8 (.b0 a0 a1)
def lD:Lay:=⟨[0,1,5,6],[[.s 99 2],[.s 3 1],KP,KP],[],⟨[OV 42,OV 226,OV 3,OV 3],[]⟩⟩
def Z7X:Lay:=⟨[0,1,6],[[.s 99 2],[.s 3 1],KP],[],⟨[OV 42,OV 226,OV 3],[]⟩⟩
def ZsH:Nat->Option Lay
 | 3=>some lD
 | 4=>some lD
 | 7=>some Z7X
 | _=>none
def Zqt:Y5->Ac U
 | .b0 a0 a1=>Ai Tryz.f203 [42,226] (a0,a1,())
 | .b1 a0 a1 a2 a3=>AA3 Tryz.f203 [1,1,0,1,0,0,0,0] lD (a0,a1,a2,a3,())
 | .b2 a0 a1 a2 a3=>AA3 Tryz.f203 [1,1,0,1,0,0,1,1] lD (a0,a1,a2,a3,())
 | .b3 a0 a1 a2=>AA3 Tryz.f203 [1,1,0,1,0,0,1,0,0,1,1,0] Z7X (a0,a1,a2,())
theorem Zp6:AA1 203 [42,226] 3 (fun x=>Z1n x.1 x.2.1) rfl:=Aj (mc Zuv (mc ZxF (mc Z9V Ag))) Ah ZsH Zqt Tryz.func203 (fun p=>by cases p<;>kernel_rfl) (by kernel_rfl) fun _=>rfl
inductive dW where
 | b0 (a0:List Int)
 | b1 (a0:List Int) (a1 a2:Int)
def Zdu:dW->Tr U (Int⊕dW)
 | .b0 a0=>AO (.b1 a0 (0:Int) (0:Int))
 | .b1 a0 a1 a2=>.br (decide (a2<(↑a0.length:Int))) ( .chk (decide (0<=a2/\a2<(↑a0.length:Int))) ( .bind 3 (a0[(Int.toNat a2)]?) (fun(x1:Int)=>.bind 25 (RS x1) (fun(x2:Int)=>AO (.b1 a0 (IntKind.wrap .u64 (a1+x2)) (AP (a2+1))))))) ( AA a1)
def Z35 (a0:List Int):Option Int:=AV Zdu (.b0 a0)
def Zbn:Lay:=⟨[0,3,4],[[.s 3 1],KP,KP],[],⟨[OV 226,OV 25,OV 3],[]⟩⟩
def ZAZ:Nat->Option Lay
 | 3=>some Zbn
 | _=>none
def ZzX:dW->Ac U
 | .b0 a0=>Ai Tryz.f204 [226] (a0,())
 | .b1 a0 a1 a2=>AA3 Tryz.f204 [1,1,0,1,0,0,0,0] Zbn (a0,a1,a2,())
theorem ZxP:AA1 204 [226] 26 (fun x=>Z35 x.1) rfl:=Aj (mc Z0E Ag) Ah ZAZ ZzX Tryz.func204 (fun p=>by cases p<;>kernel_rfl) (by kernel_rfl) fun _=>rfl
inductive XD where
 | b0 (a0:List BR) (a1 a2:Int)
 | b1 (a0:List BR) (a1:Int) (a2:List Int)
 | b2 (a0:List Int)
def Z8J:XD->Tr U (Int⊕XD)
 | .b0 a0 a1 a2=>.bind 226 (U4 a1) (fun(x1:List Int)=>AO (.b1 a0 (if (if (37:Int)<a2 then (37:Int) else a2)>2 then (if (37:Int)<a2 then (37:Int) else a2) else (2:Int)) x1))
 | .b1 a0 a1 a2=>.br (decide ((↑a2.length:Int)>a1)) ( .bind 3 (Z1n a0 a2) (fun(x1:Int)=>.br (decide (x1<0)) ( AO (.b2 a2)) ( .chk (decide (0<=x1/\x1<=(↑a2.length:Int))) ( .chk (([]:List Int).length==0) ( .chk (kA (0+((a2.drop 0).take ((Int.toNat x1) - 0)).length) 8) ( .chk (decide (0<=(AP (x1+1))/\(AP (x1+1))<=(↑a2.length:Int))) ( .chk (kL (([]:List Int)++((a2.drop 0).take ((Int.toNat x1) - 0)))) ( .chk (kA ((([]:List Int)++((a2.drop 0).take ((Int.toNat x1) - 0))).length+((a2.drop (Int.toNat (AP (x1+1)))).take (a2.length - (Int.toNat (AP (x1+1))))).length) 8) ( .chk (kL ((([]:List Int)++((a2.drop 0).take ((Int.toNat x1) - 0)))++((a2.drop (Int.toNat (AP (x1+1)))).take (a2.length - (Int.toNat (AP (x1+1))))))) ( AO (.b1 a0 a1 ((([]:List Int)++((a2.drop 0).take ((Int.toNat x1) - 0)))++((a2.drop (Int.toNat (AP (x1+1)))).take (a2.length - (Int.toNat (AP (x1+1))))))))))))))))) ( AO (.b2 a2))
 | .b2 a0=>.bind 26 (Z35 a0) (fun(x1:Int)=>AA x1)
def Z06 (a0:List BR) (a1 a2:Int):Option Int:=AV Z8J (.b0 a0 a1 a2)
def Z70:Lay:=⟨[0,2,7],[[.s 99 2],KP,[.s 3 1]],[],⟨[OV 42,OV 3,OV 226],[]⟩⟩
def Z76:Lay:=⟨[7],[[.s 3 1]],[],⟨[OV 226],[]⟩⟩
def ZnK:Nat->Option Lay
 | 3=>some Z70
 | 7=>some Z76
 | _=>none
def ZlZ:XD->Ac U
 | .b0 a0 a1 a2=>Ai Tryz.f106 [42,26,3] (a0,a1,a2,())
 | .b1 a0 a1 a2=>AA3 Tryz.f106 [1,1,1,0,0,0,0,0] Z70 (a0,a1,a2,())
 | .b2 a0=>AA3 Tryz.f106 [1,1,1,1,0] Z76 (a0,())
theorem Zlh:AA1 106 [42,26,3] 26 (fun x=>Z06 x.1 x.2.1 x.2.2.1) rfl:=Aj (mc Z0O (mc Zp6 (mc ZxP Ag))) Ah ZnK ZlZ Tryz.func106 (fun p=>by cases p<;>kernel_rfl) (by kernel_rfl) fun _=>rfl
inductive Xy where
 | b0 (a0:List BR)
 | b1 (a0 a1:List BR) (a2:Int)
def Zal:Xy->Tr U ((List BR)⊕Xy)
 | .b0 a0=>.chk (([]:List BR).length==0) ( AO (.b1 a0 ([]:List BR) (0:Int)))
 | .b1 a0 a1 a2=>.br (decide (a2<(↑a0.length:Int))) ( .chk (decide (0<=a2/\a2<(↑a0.length:Int))) ( .bind 99 (a0[(Int.toNat a2)]?) (fun(x1:BR)=>.bind 3 (QM x1.Good) (fun(x2:Int)=>.chk (decide (0<=a2/\a2<(↑a0.length:Int))) ( .bind 99 (a0[(Int.toNat a2)]?) (fun(x3:BR)=>.bind 3 (QM x3.N8) (fun(x4:Int)=>.chk (([(⟨(AP (Int.tdiv x2 2)),(AP (Int.tdiv x4 2))⟩:BR)]).length==1) ( .chk (kL a1) ( .chk (kA (a1.length+([(⟨(AP (Int.tdiv x2 2)),(AP (Int.tdiv x4 2))⟩:BR)]).length) 16) ( .chk (kL (a1++[(⟨(AP (Int.tdiv x2 2)),(AP (Int.tdiv x4 2))⟩:BR)])) ( AO (.b1 a0 (a1++[(⟨(AP (Int.tdiv x2 2)),(AP (Int.tdiv x4 2))⟩:BR)]) (AP (a2+1)))))))))))))) ( .chk (kL a1) ( AA a1))
def Z0S (a0:List BR):Option (List BR):=AV Zal (.b0 a0)
def Z7K:Lay:=⟨[0,3,4],[[.s 99 2],[.own 99 2],KP],[.row true],⟨[OV 42,.one (.own 99 0),OV 3],[.row 99 true]⟩⟩
def ZrE:Nat->Option Lay
 | 3=>some Z7K
 | _=>none
def Zqp:Xy->Ac U
 | .b0 a0=>Ai Tryz.f107 [42] (a0,())
 | .b1 a0 a1 a2=>AA3 Tryz.f107 [1,1,0,1,0,0,0,0] Z7K (a0,a2,a1,())
theorem Zog:AA1 107 [42] 42 (fun x=>Z0S x.1) rfl:=Aj (mc Z0i Ag) Ah ZrE Zqp Tryz.func107 (fun p=>by cases p<;>kernel_rfl) (by kernel_rfl) fun _=>rfl
inductive dR where
 | b0 (a0:A8) (a1:Gh) (a2:Int)
 | b1 (a0:Int) (a1 a2:A8)
 | b2 (a0:Int) (a1 a2:A8)
def Zdt:dR->Tr U ((A8×Int)⊕dR)
 | .b0 a0 a1 a2=>.br (a0.Bc != 0) ( AA (a0,9)) ( .br (a1.Kind==1) ( .bind 46 (Z1B a0 a1.BG) (fun(x1:A8×Int)=>AA (x1.1,x1.2))) ( .br (a1.Kind==2) ( .bind 46 (LU a0 (⟨0,a1.BH,0,0,0,0,0,0,0,0,0⟩:AL) a2) (fun(x2:A8×Int)=>AA (x2.1,x2.2))) ( .br (a1.Kind==3) ( .bind 46 (LU a0 (⟨1,BP,a1.Map,0,0,0,0,0,0,0,0⟩:AL) a2) (fun(x3:A8×Int)=>AA (x3.1,x3.2))) ( .br (a1.Kind==4) ( .bind 3 (lY a1.Number) (fun(x4:Int)=>.bind 46 (LU a0 (⟨2,BP,0,0,x4,0,0,0,0,0,0⟩:AL) a2) (fun(x5:A8×Int)=>AA (x5.1,x5.2)))) ( .br (a1.Kind==6) ( .bind 46 (LU a0 (⟨8,BP,0,0,0,0,0,0,63,0,0⟩:AL) a2) (fun(x6:A8×Int)=>AA (x6.1,x6.2))) ( .br (a1.Kind==7) ( .bind 46 (LU a0 (⟨12,BP,0,0,0,0,0,0,0,11,0⟩:AL) a2) (fun(x7:A8×Int)=>AA (x7.1,x7.2))) ( .br (a1.Kind==8) ( .bind 46 (LU a0 (⟨18,BP,0,0,0,0,0,0,0,0,0⟩:AL) a2) (fun(x8:A8×Int)=>AA (x8.1,x8.2))) ( .br (a1.Kind==9) ( .bind 3 (lY a1.Number) (fun(x9:Int)=>.bind 46 (LU a0 (⟨20,BP,0,0,0,0,0,0,0,0,x9⟩:AL) a2) (fun(x10:A8×Int)=>AA (x10.1,x10.2)))) ( .br (a1.Kind==12) ( .bind 46 (LU a0 (⟨15,a1.BH,0,0,0,0,0,0,0,0,0⟩:AL) a2) (fun(x11:A8×Int)=>AA (x11.1,x11.2))) ( .br (a1.Kind==5) ( .br (a1.Key==0) ( AA (a0,17)) ( .bind 46 (LU a0 (⟨3,BP,0,0,0,0,a0.I4,a1.Number,0,0,0⟩:AL) a2) (fun(x12:A8×Int)=>.br (x12.2==0) ( AO (.b1 x12.2 Dp ({ x12.1 with Key:=a1.Key }:A8))) ( AO (.b1 x12.2 Dp x12.1))))) ( .br (a1.Kind==10) ( .bind 46 (Z2s a0 a1.Key) (fun(x13:A8×Int)=>AA (x13.1,x13.2))) ( .br (a1.Kind==13) ( .br (a0.Bl != 0) ( AA (a0,9)) ( .bind 26 (Z06 a0.DJ a0.Ce.Map (2:Int)) (fun(x14:Int)=>.br (x14==a0.Ce.Map) ( AA (a0,0)) ( .bind 46 (LU a0 (⟨1,BP,x14,0,0,0,0,0,0,0,0⟩:AL) a2) (fun(x15:A8×Int)=>.br (x15.2==0) ( .bind 42 (Z0S a0.DJ) (fun(x16:List BR)=>AO (.b2 x15.2 Dp ({ x15.1 with DJ:=x16 }:A8)))) ( AO (.b2 x15.2 Dp x15.1))))))) ( AA (a0,12))))))))))))))
 | .b1 a0 a1 a2=>AA (a2,a0)
 | .b2 a0 a1 a2=>AA (a2,a0)
def eG (a0:A8) (a1:Gh) (a2:Int):Option (A8×Int):=AV Zdt (.b0 a0 a1 a2)
def Zc4:Lay:=⟨[6,8,9],[KP,KP,KP],[.var k2,.var k2],⟨[PQ 0,PQ 1,OV 45],[VA 44 66,VA 44 66]⟩⟩
def Zb5:Lay:=⟨[6,11,12],[KP,KP,KP],[.var k2,.var k2],⟨[PQ 0,PQ 1,OV 45],[VA 44 66,VA 44 66]⟩⟩
def ZAu:Nat->Option Lay
 | 28=>some Zc4
 | 40=>some Zb5
 | _=>none
def Zzg:dR->Ac U
 | .b0 a0 a1 a2=>Ai Tryz.f33 [44,83,3] (a0,a1,a2,())
 | .b1 a0 a1 a2=>AA3 Tryz.f33 [1,1,0,1,0,1,1,1,1,1,1,1,1,1,1,1,1,1,1,1,1,1,1,1,0,1,1,1,0] Zc4 (a0,a1,a2,())
 | .b2 a0 a1 a2=>AA3 Tryz.f33 [1,1,0,1,0,1,1,1,1,1,1,1,1,1,1,1,1,1,1,1,1,1,1,1,1,1,1,1,0,1,1,1,1,1,0] Zb5 (a0,a1,a2,())
theorem ZzT:AA1 33 [44,83,3] 46 (fun x=>eG x.1 x.2.1 x.2.2.1) rfl:=Aj (mc ZsD (mc Zo8 (mc ZmA (mc ZwO (mc Zlh (mc Zog Ag)))))) Ah ZAu Zzg Tryz.func33 (fun p=>by cases p<;>kernel_rfl) (by kernel_rfl) fun _=>rfl
inductive YB where
 | b0 (a0:Int) (a1:List Int)
def ZaK:YB->Tr U (((List Int)×Int)⊕YB)
 | .b0 a0 a1=>.br (decide ((AP ((↑a1.length:Int) - 3))<0)) ( .chk (([]:List Int).length==0) ( AA (([]:List Int),(3:Int)))) ( .chk (decide (0<=(AP ((↑a1.length:Int) - 3))/\(AP ((↑a1.length:Int) - 3))<=(↑a1.length:Int))) ( .chk (Jd U 5 ((a1.drop (Int.toNat (AP ((↑a1.length:Int) - 3)))).take (a1.length - (Int.toNat (AP ((↑a1.length:Int) - 3)))))) ( .chk (decide (0<=(AP ((↑a1.length:Int) - 3))/\(AP ((↑a1.length:Int) - 3))<=(↑a1.length:Int))) ( .bind 22 (dC a0 ((a1.drop 0).take ((Int.toNat (AP ((↑a1.length:Int) - 3))) - 0))) (fun(x1:Int)=>.bind 62 (aK x1) (fun(x2:List Int)=>.chk (Jd U 5 x2) ( .br (!((strOf U 5 ((a1.drop (Int.toNat (AP ((↑a1.length:Int) - 3)))).take (a1.length - (Int.toNat (AP ((↑a1.length:Int) - 3)))))).toList==(strOf U 5 x2).toList)) ( .chk (([]:List Int).length==0) ( AA (([]:List Int),(10:Int)))) ( .chk (decide (0<=(AP ((↑a1.length:Int) - 3))/\(AP ((↑a1.length:Int) - 3))<=(↑a1.length:Int))) ( .chk (([]:List Int).length==0) ( .chk (kA (0+((a1.drop 0).take ((Int.toNat (AP ((↑a1.length:Int) - 3))) - 0)).length) 1) ( .chk (kL (([]:List Int)++((a1.drop 0).take ((Int.toNat (AP ((↑a1.length:Int) - 3))) - 0)))) ( AA ((([]:List Int)++((a1.drop 0).take ((Int.toNat (AP ((↑a1.length:Int) - 3))) - 0))),(0:Int))))))))))))))
def Z0Z (a0:Int) (a1:List Int):Option ((List Int)×Int):=AV ZaK (.b0 a0 a1)
def Zpl:YB->Ac U
 | .b0 a0 a1=>Ai Tryz.f114 [22,62] (a0,a1,())
theorem ZoC:AA1 114 [22,62] 120 (fun x=>Z0Z x.1 x.2.1) rfl:=Aj (mc Za1 (mc Zb8 Ag)) Ah AN Zpl Tryz.func114 (fun p=>by cases p<;>kernel_rfl) (by kernel_rfl) fun _=>rfl
inductive Xd where
 | b0 (a0:List Int)
 | b1 (a0:BM)
 | b2 (a0:List Int) (a1 a2 a3:Int) (a4:BM)
def Z8X:Xd->Tr U ((BM×Int)⊕Xd)
 | .b0 a0=>.br (decide ((↑a0.length:Int)<2)) ( AA (F8,3)) ( .chk (decide (0<=(0:Int)/\(0:Int)<(↑a0.length:Int))) ( .bind 5 (a0[(Int.toNat 0)]?) (fun(x1:Int)=>.chk (decide (0<=(1:Int)/\(1:Int)<(↑a0.length:Int))) ( .bind 5 (a0[(Int.toNat 1)]?) (fun(x2:Int)=>.br (decide ((AP (x1))>=32)) ( AA (F8,2)) ( .br ((Int.tmod (AP (x1)) 4)==0) ( AA (F8,12)) ( .br ((AP (x2))==0) ( .br ((Int.tmod (AP (x1)) 4) != 1) ( AO (.b1 F8)) ( AO (.b2 a0 (AP (x1)) (AP (x2)) (Int.tmod (AP (x1)) 4) F8))) ( AO (.b2 a0 (AP (x1)) (AP (x2)) (Int.tmod (AP (x1)) 4) F8)))))))))
 | .b1 a0=>AA (F8,1)
 | .b2 a0 a1 a2 a3 a4=>.br (decide ((AP ((↑a0.length:Int) - 2))<a2)) ( AA (F8,3)) ( .br (decide ((AP ((↑a0.length:Int) - 2))>a2)) ( AA (F8,2)) ( .chk (decide (0<=(2:Int)/\(2:Int)<=(↑a0.length:Int))) ( .chk (([]:List Int).length==0) ( .chk (kA (0+((a0.drop (Int.toNat 2)).take (a0.length - (Int.toNat 2))).length) 1) ( .chk (kL (([]:List Int)++((a0.drop (Int.toNat 2)).take (a0.length - (Int.toNat 2))))) ( AA ((⟨(Int.tmod (AP (Int.tdiv a1 8)) (2:Int)),(Int.tmod (AP (Int.tdiv a1 4)) (2:Int)),(Int.tmod (AP (Int.tdiv a1 16)) (2:Int)),(⟨a3,(([]:List Int)++((a0.drop (Int.toNat 2)).take (a0.length - (Int.toNat 2))))⟩:Aw)⟩:BM),(0:Int))))))))
def Z0o (a0:List Int):Option (BM×Int):=AV Z8X (.b0 a0)
def Z7j:Lay:=⟨[2],[KP],[.var k4],⟨[PQ 0],[VA 70 5]⟩⟩
def Z7l:Lay:=⟨[0,2,4,5,6],[[.s 5 1],KP,KP,KP,KP],[.var k4],⟨[OV 62,PQ 0,OV 3,OV 3,OV 3],[VA 70 5]⟩⟩
def Zq6:Nat->Option Lay
 | 10=>some Z7j
 | 11=>some Z7l
 | _=>none
def Znl:Xd->Ac U
 | .b0 a0=>Ai Tryz.f115 [62] (a0,())
 | .b1 a0=>AA3 Tryz.f115 [1,1,1,1,1,1,0,1,0,0] Z7j (a0,())
 | .b2 a0 a1 a2 a3 a4=>AA3 Tryz.f115 [1,1,1,1,1,1,1,0,0] Z7l (a0,a1,a2,a3,a4,())
theorem Zn6:AA1 115 [62] 71 (fun x=>Z0o x.1) rfl:=Aj Ag Ah Zq6 Znl Tryz.func115 (fun p=>by cases p<;>kernel_rfl) (by kernel_rfl) fun _=>rfl
inductive Yt where
 | b0 (a0 a1:List Int)
def ZbY:Yt->Tr U (Bool⊕Yt)
 | .b0 a0 a1=>.chk (Jd U 5 a0) ( .chk (Jd U 5 a1) ( AA ((strOf U 5 a0).toList==(strOf U 5 a1).toList)))
def Z1Q (a0 a1:List Int):Option Bool:=AV ZbY (.b0 a0 a1)
def ZtC:Yt->Ac U
 | .b0 a0 a1=>Ai Tryz.f278 [62,62] (a0,a1,())
theorem Ztl:AA1 278 [62,62] 4 (fun x=>Z1Q x.1 x.2.1) rfl:=Aj Ag Ah AN ZtC Tryz.func278 (fun p=>by cases p<;>kernel_rfl) (by kernel_rfl) fun _=>rfl
inductive Yw where
 | b0 (a0 a1:Int) (a2 a3:List Int)
def Zb3:Yw->Tr U (((List Int)×Int)⊕Yw)
 | .b0 a0 a1 a2 a3=>.br (decide ((AP ((↑a3.length:Int) - 4))<0)) ( .chk (([]:List Int).length==0) ( AA (([]:List Int),(3:Int)))) ( .chk (decide (0<=(AP ((↑a3.length:Int) - 4))/\(AP ((↑a3.length:Int) - 4))<=(↑a3.length:Int))) ( .bind 62 (bZ a0 a1 a2 ((a3.drop 0).take ((Int.toNat (AP ((↑a3.length:Int) - 4))) - 0))) (fun(x1:List Int)=>.chk (decide (0<=(AP ((↑a3.length:Int) - 4))/\(AP ((↑a3.length:Int) - 4))<=(↑a3.length:Int))) ( .bind 4 (Z1Q x1 ((a3.drop (Int.toNat (AP ((↑a3.length:Int) - 4)))).take (a3.length - (Int.toNat (AP ((↑a3.length:Int) - 4)))))) (fun(x2:Bool)=>.br (!x2) ( .chk (([]:List Int).length==0) ( AA (([]:List Int),(15:Int)))) ( .bind 62 (XU a0 a1 (AP ((↑a3.length:Int) - 4))) (fun(x3:List Int)=>.bind 1350 (bU ((a3.drop 0).take ((Int.toNat (AP ((↑a3.length:Int) - 4))) - 0)) x3) (fun(y4:Om)=>.chk (kL y4.q0) ( AA (y4.q0,0))))))))))
def Z21 (a0 a1:Int) (a2 a3:List Int):Option ((List Int)×Int):=AV Zb3 (.b0 a0 a1 a2 a3)
def Ztu:Yw->Ac U
 | .b0 a0 a1 a2 a3=>Ai Tryz.f211 [29,25,62,62] (a0,a1,a2,a3,())
theorem ZrA:AA1 211 [29,25,62,62] 120 (fun x=>Z21 x.1 x.2.1 x.2.2.1 x.2.2.2.1) rfl:=Aj (mc Z8x (mc Zb4 (mc Ztl Ag))) (hc [] Zb2 Ah) AN Ztu Tryz.func211 (fun p=>by cases p<;>kernel_rfl) (by kernel_rfl) fun _=>rfl
inductive YX where
 | b0 (a0:Int)
def Zae:YX->Tr U (Int⊕YX)
 | .b0 a0=>.br (a0==1) ( AA (0:Int)) ( AA (1:Int))
def Z1a (a0:Int):Option Int:=AV Zae (.b0 a0)
def Zoj:YX->Ac U
 | .b0 a0=>Ai Tryz.f212 [3] (a0,())
theorem Zqh:AA1 212 [3] 3 (fun x=>Z1a x.1) rfl:=Aj Ag Ah AN Zoj Tryz.func212 (fun p=>by cases p<;>kernel_rfl) (by kernel_rfl) fun _=>rfl
inductive aH where
 | b0 (a0:C9) (a1:BM)
 | b1 (a0:C9) (a1 a2:BM)
def Zbg:aH->Tr U ((BM×Int)⊕aH)
 | .b0 a0 a1=>.bind 45 (Nk a1) (fun(x1:Int)=>.br (x1 != 0) ( AA (F8,x1)) ( .br (!a0.NV) ( AA (a1,0)) ( .bind 4 (RQ a1.BG) (fun(x2:Bool)=>.br x2 ( AA (a1,0)) ( AO (.b1 a0 a1 F8))))))
 | .b1 a0 a1 a2=>.br (decide ((↑a1.BG.Payload.length:Int)<5)) ( AA (F8,3)) ( .bind 3 (Z1a a0.Bl) (fun(x1:Int)=>.bind 25 (YP a0 x1 a0.Rx) (fun(x2:Int)=>.chk (([(IntKind.wrap .u8 (a1.BG.Bq))]).length==1) ( .bind 120 (Z21 a0.Key x2 ([(IntKind.wrap .u8 (a1.BG.Bq))]) a1.BG.Payload) (fun(x3:(List Int)×Int)=>.br (x3.2 != 0) ( AA (F8,x3.2)) ( .bind 70 (aI a1 x3.1) (fun(x4:BM)=>AA (x4,0))))))))
def Z1A (a0:C9) (a1:BM):Option (BM×Int):=AV Zbg (.b0 a0 a1)
def Z8T:Lay:=⟨[2,3,4],[KP,KP,KP],[.var k7,.var k4,.var k4],⟨[PQ 0,PQ 1,PQ 2],[VA 41 7,VA 70 5,VA 70 5]⟩⟩
def ZwJ:Nat->Option Lay
 | 6=>some Z8T
 | _=>none
def Zrn:aH->Ac U
 | .b0 a0 a1=>Ai Tryz.f117 [41,70] (a0,a1,())
 | .b1 a0 a1 a2=>AA3 Tryz.f117 [1,1,1,0,0] Z8T (a0,a1,a2,())
theorem ZtV:AA1 117 [41,70] 71 (fun x=>Z1A x.1 x.2.1) rfl:=Aj (mc mG (mc UH (mc Z9P (mc Z9u (mc ZrA (mc Zqh Ag)))))) Ah ZwJ Zrn Tryz.func117 (fun p=>by cases p<;>kernel_rfl) (by kernel_rfl) fun _=>rfl
inductive Yx where
 | b0 (a0:BU) (a1:BM)
 | b1 (a0:BU) (a1:BM) (a2:BU) (a3:Aw)
 | b2 (a0:Bool) (a1:BU) (a2:BM) (a3:BU) (a4:Aw)
 | b3 (a0:Bool) (a1:BU) (a2:BM) (a3:BU) (a4:Aw)
 | b4 (a0:Bool) (a1:BU) (a2:BM) (a3:BU) (a4:Aw)
 | b5 (a0:Bool) (a1 a2:BU) (a3:Aw)
def ZbB:Yx->Tr U ((BU×Aw×Bool×Bool)⊕Yx)
 | .b0 a0 a1=>.bind 45 (Nk a1) (fun(x1:Int)=>.br (x1 != 0) ( AA (a0,(⟨0,[]⟩:Aw),false,false)) ( .br a0.Open ( .br (a1.EF != a0.SN) ( AO (.b1 a0 a1 Jc (⟨0,([]:List Int)⟩:Aw))) ( AO (.b2 false a0 a1 Jc (⟨0,([]:List Int)⟩:Aw)))) ( AO (.b2 false a0 a1 Jc (⟨0,([]:List Int)⟩:Aw)))))
 | .b1 a0 a1 a2 a3=>.br (!a0.Empty) ( .br (decide ((↑a0.Az.length:Int)>0)) ( AO (.b3 true ({ a0 with SN:=(AP ((1:Int) - a0.SN)) }:BU) a1 a2 a3)) ( AO (.b4 true ({ a0 with SN:=(AP ((1:Int) - a0.SN)) }:BU) a1 a2 a3))) ( AO (.b4 true ({ a0 with SN:=(AP ((1:Int) - a0.SN)) }:BU) a1 a2 a3))
 | .b2 a0 a1 a2 a3 a4=>.br (a2.SN==a1.EF) ( .bind 4 (XA a2.BG) (fun(x1:Bool)=>.br (!x1) ( AA (({ a1 with EF:=(AP ((1:Int) - a1.EF)),Taken:=(AP (a1.Taken+1)) }:BU),a2.BG,true,a0)) ( AO (.b5 a0 ({ a1 with EF:=(AP ((1:Int) - a1.EF)) }:BU) a3 a4)))) ( AO (.b5 a0 a1 a3 a4))
 | .b3 a0 a1 a2 a3 a4=>.chk (decide (0<=(1:Int)/\(1:Int)<=(↑a1.Az.length:Int))) ( .chk (([]:List Aw).length==0) ( .chk (kA (0+((a1.Az.drop (Int.toNat 1)).take (a1.Az.length - (Int.toNat 1))).length) 32) ( .chk (kL (([]:List Aw)++((a1.Az.drop (Int.toNat 1)).take (a1.Az.length - (Int.toNat 1))))) ( AO (.b4 a0 ({ a1 with Az:=(([]:List Aw)++((a1.Az.drop (Int.toNat 1)).take (a1.Az.length - (Int.toNat 1)))),Fp:=(AP (a1.Fp+1)) }:BU) a2 a3 a4)))))
 | .b4 a0 a1 a2 a3 a4=>AO (.b2 a0 ({ a1 with Open:=false,Empty:=false }:BU) a2 a3 a4)
 | .b5 a0 a1 a2 a3=>AA (a1,(⟨0,[]⟩:Aw),false,a0)
def Z2g (a0:BU) (a1:BM):Option (BU×Aw×Bool×Bool):=AV ZbB (.b0 a0 a1)
def Z9d:Lay:=⟨[2,3,4,5],[KP,KP,KP,KP],[.var k6,.var k4,.var k6,.var [.keep,.s 5 1]],⟨[PQ 0,PQ 1,PQ 2,PQ 3],[VA 33 7,VA 70 5,VA 33 7,VA 68 2]⟩⟩
def UD:Lay:=⟨[2,3,4,5,7],[KP,KP,KP,KP,KP],[.var k6,.var k4,.var k6,.var [.keep,.s 5 1]],⟨[PQ 0,PQ 1,PQ 2,PQ 3,OV 4],[VA 33 7,VA 70 5,VA 33 7,VA 68 2]⟩⟩
def Z98:Lay:=⟨[2,4,5,7],[KP,KP,KP,KP],[.var k6,.var k6,.var [.keep,.s 5 1]],⟨[PQ 0,PQ 1,PQ 2,OV 4],[VA 33 7,VA 33 7,VA 68 2]⟩⟩
def ZvV:Nat->Option Lay
 | 4=>some Z9d
 | 10=>some UD
 | 7=>some UD
 | 9=>some UD
 | 15=>some Z98
 | _=>none
def Zse:Yx->Ac U
 | .b0 a0 a1=>Ai Tryz.f118 [33,70] (a0,a1,())
 | .b1 a0 a1 a2 a3=>AA3 Tryz.f118 [1,1,0,1,0,0] Z9d (a0,a1,a2,a3,())
 | .b2 a0 a1 a2 a3 a4=>AA3 Tryz.f118 [1,1,1,0,0] UD (a0,a1,a2,a3,a4,())
 | .b3 a0 a1 a2 a3 a4=>AA3 Tryz.f118 [1,1,0,1,0,1,1,0,1,0,0] UD (a0,a1,a2,a3,a4,())
 | .b4 a0 a1 a2 a3 a4=>AA3 Tryz.f118 [1,1,0,1,0,1,1,1] UD (a0,a1,a2,a3,a4,())
 | .b5 a0 a1 a2 a3=>AA3 Tryz.f118 [1,1,1,1,0] Z98 (a0,a1,a2,a3,())
theorem Zsl:AA1 118 [33,70] 163 (fun x=>Z2g x.1 x.2.1) rfl:=Aj (mc UH (mc Z77 Ag)) Ah ZvV Zse Tryz.func118 (fun p=>by cases p<;>kernel_rfl) (by kernel_rfl) fun _=>rfl
inductive aG where
 | b0 (a0:C9) (a1 a2:Bool)
 | b1 (a0:Bool) (a1 a2:C9)
 | b2 (a0:Bool) (a1 a2:C9)
 | b3 (a0 a1:C9)
def ZaX:aG->Tr U (C9⊕aG)
 | .b0 a0 a1 a2=>.br a1 ( .br a0.Jp ( AO (.b1 a2 a0 RJ)) ( AO (.b2 a2 a0 RJ))) ( AO (.b2 a2 a0 RJ))
 | .b1 a0 a1 a2=>AO (.b2 a0 ({ a1 with Tx:=(IntKind.wrap .u64 (a1.Tx+1)) }:C9) a2)
 | .b2 a0 a1 a2=>.br a0 ( .br a1.NV ( AO (.b3 a1 a2)) ( AA a1)) ( AA a1)
 | .b3 a0 a1=>AA ({ a0 with Rx:=(IntKind.wrap .u64 (a0.Rx+1)) }:C9)
def oP (a0:C9) (a1 a2:Bool):Option C9:=AV ZaX (.b0 a0 a1 a2)
def mV:Lay:=⟨[2,3,6],[KP,KP,KP],[.var k7,.var k7],⟨[OV 4,PQ 0,PQ 1],[VA 41 7,VA 41 7]⟩⟩
def Z8Y:Lay:=⟨[3,6],[KP,KP],[.var k7,.var k7],⟨[PQ 0,PQ 1],[VA 41 7,VA 41 7]⟩⟩
def ZwC:Nat->Option Lay
 | 2=>some mV
 | 3=>some mV
 | 4=>some Z8Y
 | _=>none
def Zte:aG->Ac U
 | .b0 a0 a1 a2=>Ai Tryz.f120 [41,4,4] (a0,a1,a2,())
 | .b1 a0 a1 a2=>AA3 Tryz.f120 [1,0,1,0] mV (a0,a1,a2,())
 | .b2 a0 a1 a2=>AA3 Tryz.f120 [1,1,0,0] mV (a0,a1,a2,())
 | .b3 a0 a1=>AA3 Tryz.f120 [1,1,0,1,0] Z8Y (a0,a1,())
theorem Zaf:AA1 120 [41,4,4] 41 (fun x=>oP x.1 x.2.1 x.2.2.1) rfl:=Aj Ag Ah ZwC Zte Tryz.func120 (fun p=>by cases p<;>kernel_rfl) (by kernel_rfl) fun _=>rfl
inductive aB where
 | b0 (a0:Int)
 | b1 (a0:Int) (a1:Be)
 | b2 (a0:Int) (a1:Be)
 | b3 (a0:Int) (a1:Be)
 | b4 (a0:Int) (a1:Be)
 | b5 (a0:Int) (a1:Be)
 | b6 (a0:Int) (a1:Be)
 | b7 (a0:Int) (a1:Be)
 | b8 (a0:Int) (a1:Be)
def pJ:aB->Tr U (Int⊕aB)
 | .b0 a0=>.bind 262 (EN a0) (fun(x1:Be)=>.br x1.BH ( AO (.b1 (10:Int) x1)) ( AO (.b1 (1:Int) x1)))
 | .b1 a0 a1=>.br a1.Map ( AO (.b2 (AP (a0+5)) a1)) ( AO (.b2 a0 a1))
 | .b2 a0 a1=>.br a1.DD ( AO (.b3 (AP (a0+2)) a1)) ( AO (.b3 a0 a1))
 | .b3 a0 a1=>.br a1.Bc ( AO (.b4 a0 a1)) ( .br a1.Version ( AO (.b4 a0 a1)) ( .br a1.Length ( AO (.b4 a0 a1)) ( AO (.b5 a0 a1))))
 | .b4 a0 a1=>AO (.b5 (AP (a0+1)) a1)
 | .b5 a0 a1=>.br a1.DI ( AO (.b6 (AP (a0+1)) a1)) ( AO (.b6 a0 a1))
 | .b6 a0 a1=>.br a1.Bo ( AO (.b7 a0 a1)) ( .br a1.CQ ( AO (.b7 a0 a1)) ( AO (.b8 a0 a1)))
 | .b7 a0 a1=>AO (.b8 (AP (a0+8)) a1)
 | .b8 a0 a1=>.br a1.Mark ( AA (AP (a0+8))) ( AA a0)
def oL (a0:Int):Option Int:=AV pJ (.b0 a0)
def Ip:Lay:=⟨[3,4],[KP,KP],[.var k3],⟨[PQ 0,OV 3],[VA 262 11]⟩⟩
def Zv7:Nat->Option Lay
 | 5=>some Ip
 | 7=>some Ip
 | 9=>some Ip
 | 10=>some Ip
 | 11=>some Ip
 | 13=>some Ip
 | 14=>some Ip
 | 15=>some Ip
 | _=>none
def ZrU:aB->Ac U
 | .b0 a0=>Ai Tryz.f279 [3] (a0,())
 | .b1 a0 a1=>AA3 Tryz.f279 [1,1,1,1,0,0] Ip (a0,a1,())
 | .b2 a0 a1=>AA3 Tryz.f279 [1,1,1,1,1,0,0] Ip (a0,a1,())
 | .b3 a0 a1=>AA3 Tryz.f279 [1,1,1,1,1,1,0,0] Ip (a0,a1,())
 | .b4 a0 a1=>AA3 Tryz.f279 [1,1,1,1,1,1,0,1,0] Ip (a0,a1,())
 | .b5 a0 a1=>AA3 Tryz.f279 [1,1,1,1,1,1,1,0,0] Ip (a0,a1,())
 | .b6 a0 a1=>AA3 Tryz.f279 [1,1,1,1,1,1,1,1,0,0] Ip (a0,a1,())
 | .b7 a0 a1=>AA3 Tryz.f279 [1,1,1,1,1,1,1,1,0,1,0] Ip (a0,a1,())
 | .b8 a0 a1=>AA3 Tryz.f279 [1,1,1,1,1,1,1,1,1,0,0] Ip (a0,a1,())
theorem Zrk:AA1 279 [3] 3 (fun x=>oL x.1) rfl:=Aj (mc QD Ag) Ah Zv7 ZrU Tryz.func279 (fun p=>by cases p<;>kernel_rfl) (by kernel_rfl) fun _=>rfl
end
noncomputable section
inductive bD where
 | b0 (a0:List Int) (a1 a2:Int)
 | b1 (a0:List Int) (a1 a2 a3:Int)
def ZcK:bD->Tr U (Int⊕bD)
 | .b0 a0 a1 a2=>AO (.b1 a0 a1 (0:Int) (AP (a2 - 1)))
 | .b1 a0 a1 a2 a3=>.br (decide (a3>=0)) ( .chk (decide (0<=(AP (a1+a3))/\(AP (a1+a3))<(↑a0.length:Int))) ( .bind 5 (a0[(Int.toNat (AP (a1+a3)))]?) (fun(x1:Int)=>AO (.b1 a0 a1 (IntKind.wrap .u64 ((IntKind.wrap .u64 (a2*256))+(IntKind.wrap .u64 (x1)))) (AP (a3 - 1)))))) ( AA a2)
def Lj (a0:List Int) (a1 a2:Int):Option Int:=AV ZcK (.b0 a0 a1 a2)
def Zan:Lay:=⟨[0,1,7,8],[[.s 5 1],KP,KP,KP],[],⟨[OV 62,OV 3,OV 25,OV 3],[]⟩⟩
def ZzB:Nat->Option Lay
 | 3=>some Zan
 | _=>none
def ZuH:bD->Ac U
 | .b0 a0 a1 a2=>Ai Tryz.f345 [62,3,3] (a0,a1,a2,())
 | .b1 a0 a1 a2 a3=>AA3 Tryz.f345 [1,1,0,1,0,0,0,0] Zan (a0,a1,a2,a3,())
theorem Zc2:AA1 345 [62,3,3] 25 (fun x=>Lj x.1 x.2.1 x.2.2.1) rfl:=Aj Ag Ah ZzB ZuH Tryz.func345 (fun p=>by cases p<;>kernel_rfl) (by kernel_rfl) fun _=>rfl
inductive WW where
 | b0 (a0:List Int) (a1:Int)
def Z6F:WW->Tr U (DL⊕WW)
 | .b0 a0 a1=>.bind 25 (Lj a0 a1 (1:Int)) (fun(x1:Int)=>.bind 25 (Lj a0 (AP (a1+1)) (2:Int)) (fun(x2:Int)=>.bind 25 (Lj a0 (AP (a1+3)) (2:Int)) (fun(x3:Int)=>.bind 25 (Lj a0 (AP (a1+5)) (2:Int)) (fun(x4:Int)=>.bind 25 (Lj a0 (AP (a1+7)) (2:Int)) (fun(x5:Int)=>AA (⟨(AP (x1)),(AP (x2)),(AP (x3)),(AP (x4)),(AP (x5))⟩:DL))))))
def Z5 (a0:List Int) (a1:Int):Option DL:=AV Z6F (.b0 a0 a1)
def Zj0:WW->Ac U
 | .b0 a0 a1=>Ai Tryz.f344 [62,3] (a0,a1,())
theorem ZiX:AA1 344 [62,3] 24 (fun x=>Z5 x.1 x.2.1) rfl:=Aj (mc Zc2 Ag) Ah AN Zj0 Tryz.func344 (fun p=>by cases p<;>kernel_rfl) (by kernel_rfl) fun _=>rfl
inductive Xx where
 | b0 (a0:AL) (a1:List Int)
 | b1 (a0:List Int) (a1:Int) (a2 a3:AL) (a4:Be)
 | b2 (a0:List Int) (a1:Int) (a2 a3:AL) (a4:Be)
 | b3 (a0:List Int) (a1:Int) (a2 a3:AL) (a4:Be)
 | b4 (a0:List Int) (a1:Int) (a2 a3:AL) (a4:Be)
 | b5 (a0:List Int) (a1:Int) (a2 a3:AL) (a4:Be)
 | b6 (a0:List Int) (a1:Int) (a2 a3:AL) (a4:Be)
 | b7 (a0:List Int) (a1:Int) (a2 a3:AL) (a4:Be)
 | b8 (a0:List Int) (a1:Int) (a2 a3:AL) (a4:Be)
 | b9 (a0:List Int) (a1:Int) (a2 a3:AL) (a4:Be)
def mY:Xx->Tr U (AL⊕Xx)
 | .b0 a0 a1=>.bind 262 (EN a0.Kind) (fun(x1:Be)=>.br x1.BH ( .bind 24 (Z5 a1 (1:Int)) (fun(x2:DL)=>AO (.b1 a1 (10:Int) ({ a0 with BH:=x2 }:AL) GZ x1))) ( AO (.b1 a1 (1:Int) a0 GZ x1)))
 | .b1 a0 a1 a2 a3 a4=>.br a4.Map ( .bind 25 (Lj a0 a1 (5:Int)) (fun(x1:Int)=>AO (.b2 a0 (AP (a1+5)) ({ a2 with Map:=x1 }:AL) a3 a4))) ( AO (.b2 a0 a1 a2 a3 a4))
 | .b2 a0 a1 a2 a3 a4=>.br a4.DD ( .bind 25 (Lj a0 a1 (2:Int)) (fun(x1:Int)=>AO (.b3 a0 a1 ({ a2 with DD:=(IntKind.wrap .u16 (x1)) }:AL) a3 a4))) ( AO (.b3 a0 a1 a2 a3 a4))
 | .b3 a0 a1 a2 a3 a4=>.br a4.Bc ( .chk (decide (0<=a1/\a1<(↑a0.length:Int))) ( .bind 5 (a0[(Int.toNat a1)]?) (fun(x1:Int)=>AO (.b4 a0 (AP (a1+1)) ({ a2 with Bc:=(AP (x1)) }:AL) a3 a4)))) ( AO (.b4 a0 a1 a2 a3 a4))
 | .b4 a0 a1 a2 a3 a4=>.br a4.DI ( .chk (decide (0<=a1/\a1<(↑a0.length:Int))) ( .bind 5 (a0[(Int.toNat a1)]?) (fun(x1:Int)=>AO (.b5 a0 a1 ({ a2 with DI:=(AP (x1)) }:AL) a3 a4)))) ( AO (.b5 a0 a1 a2 a3 a4))
 | .b5 a0 a1 a2 a3 a4=>.br a4.Bo ( .bind 25 (Lj a0 a1 (8:Int)) (fun(x1:Int)=>AO (.b6 a0 (AP (a1+8)) ({ a2 with Bo:=x1 }:AL) a3 a4))) ( AO (.b6 a0 a1 a2 a3 a4))
 | .b6 a0 a1 a2 a3 a4=>.br a4.Mark ( .bind 25 (Lj a0 a1 (8:Int)) (fun(x1:Int)=>AO (.b7 a0 a1 ({ a2 with Mark:=x1 }:AL) a3 a4))) ( AO (.b7 a0 a1 a2 a3 a4))
 | .b7 a0 a1 a2 a3 a4=>.br a4.CQ ( .bind 25 (Lj a0 a1 (8:Int)) (fun(x1:Int)=>AO (.b8 a0 a1 ({ a2 with CQ:=x1 }:AL) a3 a4))) ( AO (.b8 a0 a1 a2 a3 a4))
 | .b8 a0 a1 a2 a3 a4=>.br a4.Version ( .chk (decide (0<=a1/\a1<(↑a0.length:Int))) ( .bind 5 (a0[(Int.toNat a1)]?) (fun(x1:Int)=>AO (.b9 a0 a1 ({ a2 with Version:=(AP (x1)) }:AL) a3 a4)))) ( AO (.b9 a0 a1 a2 a3 a4))
 | .b9 a0 a1 a2 a3 a4=>.br a4.Length ( .chk (decide (0<=a1/\a1<(↑a0.length:Int))) ( .bind 5 (a0[(Int.toNat a1)]?) (fun(x1:Int)=>AA ({ a2 with Length:=(AP (x1)) }:AL)))) ( AA a2)
def Z1w (a0:AL) (a1:List Int):Option AL:=AV mY (.b0 a0 a1)
def IL:Lay:=⟨[1,2,4,5,6],[[.s 5 1],KP,KP,KP,KP],[.var k0,.var k0,.var k3],⟨[OV 62,PQ 0,PQ 1,PQ 2,OV 3],[VA 156 15,VA 156 15,VA 262 11]⟩⟩
def ZqN:Nat->Option Lay
 | 6=>some IL
 | 9=>some IL
 | 11=>some IL
 | 14=>some IL
 | 16=>some IL
 | 19=>some IL
 | 21=>some IL
 | 23=>some IL
 | 25=>some IL
 | _=>none
def Zqo:Xx->Ac U
 | .b0 a0 a1=>Ai Tryz.f280 [156,62] (a0,a1,())
 | .b1 a0 a1 a2 a3 a4=>AA3 Tryz.f280 [1,1,1,1,0,0] IL (a0,a1,a2,a3,a4,())
 | .b2 a0 a1 a2 a3 a4=>AA3 Tryz.f280 [1,1,1,1,1,0,0] IL (a0,a1,a2,a3,a4,())
 | .b3 a0 a1 a2 a3 a4=>AA3 Tryz.f280 [1,1,1,1,1,1,0,0] IL (a0,a1,a2,a3,a4,())
 | .b4 a0 a1 a2 a3 a4=>AA3 Tryz.f280 [1,1,1,1,1,1,1,0,0] IL (a0,a1,a2,a3,a4,())
 | .b5 a0 a1 a2 a3 a4=>AA3 Tryz.f280 [1,1,1,1,1,1,1,1,0,0] IL (a0,a1,a2,a3,a4,())
 | .b6 a0 a1 a2 a3 a4=>AA3 Tryz.f280 [1,1,1,1,1,1,1,1,1,0,0] IL (a0,a1,a2,a3,a4,())
 | .b7 a0 a1 a2 a3 a4=>AA3 Tryz.f280 [1,1,1,1,1,1,1,1,1,1,0,0] IL (a0,a1,a2,a3,a4,())
 | .b8 a0 a1 a2 a3 a4=>AA3 Tryz.f280 [1,1,1,1,1,1,1,1,1,1,1,0,0] IL (a0,a1,a2,a3,a4,())
 | .b9 a0 a1 a2 a3 a4=>AA3 Tryz.f280 [1,1,1,1,1,1,1,1,1,1,1,1,0,0] IL (a0,a1,a2,a3,a4,())
theorem Zp4:AA1 280 [156,62] 156 (fun x=>Z1w x.1 x.2.1) rfl:=Aj (mc QD (mc ZiX (mc Zc2 Ag))) Ah ZqN Zqo Tryz.func280 (fun p=>by cases p<;>kernel_rfl) (by kernel_rfl) fun _=>rfl
inductive Xe where
 | b0 (a0:List Int)
def Z9z:Xe->Tr U ((AL×Int)⊕Xe)
 | .b0 a0=>.br ((↑a0.length:Int)==0) ( AA (GZ,3)) ( .chk (decide (0<=(0:Int)/\(0:Int)<(↑a0.length:Int))) ( .bind 5 (a0[(Int.toNat 0)]?) (fun(x1:Int)=>.bind 262 (EN (AP (x1))) (fun(x2:Be)=>.br (!x2.Hl) ( AA (GZ,12)) ( .bind 3 (oL (AP (x1))) (fun(x3:Int)=>.br (decide ((↑a0.length:Int)<x3)) ( AA (GZ,3)) ( .bind 3 (oL (AP (x1))) (fun(x4:Int)=>.br (decide ((↑a0.length:Int)>x4)) ( AA (GZ,2)) ( .bind 156 (Z1w (⟨(AP (x1)),BP,0,0,0,0,0,0,0,0,0⟩:AL) a0) (fun(x5:AL)=>.bind 45 (Og x5) (fun(x6:Int)=>.br (x6 != 0) ( AA (GZ,x6)) ( AA (x5,0)))))))))))))
def l9 (a0:List Int):Option (AL×Int):=AV Z9z (.b0 a0)
def Zn4:Xe->Ac U
 | .b0 a0=>Ai Tryz.f214 [62] (a0,())
theorem Z8K:AA1 214 [62] 231 (fun x=>l9 x.1) rfl:=Aj (mc Z0p (mc QD (mc Zrk (mc Zp4 Ag)))) Ah AN Zn4 Tryz.func214 (fun p=>by cases p<;>kernel_rfl) (by kernel_rfl) fun _=>rfl
inductive Yq where
 | b0 (a0:Aa) (a1:AL)
 | b1 (a0:Aa) (a1:AL) (a2:Aa)
 | b2 (a0:Aa) (a1:AL) (a2:Aa)
 | b3 (a0 a1:Aa)
def ZbE:Yq->Tr U ((Aa×(List Am))⊕Yq)
 | .b0 a0 a1=>.br (a0.GR==0) ( .br (a0.Own==2) ( .br (a1.Kind==2) ( AO (.b1 a0 a1 ES)) ( AO (.b2 a0 a1 ES))) ( AO (.b2 a0 a1 ES))) ( AO (.b2 a0 a1 ES))
 | .b1 a0 a1 a2=>AO (.b2 ({ a0 with GR:=22 }:Aa) a1 a2)
 | .b2 a0 a1 a2=>.bind 4 (QI a1.Kind) (fun(x1:Bool)=>.br x1 ( .br (a0.Own==a1.Kind) ( AO (.b3 a0 a2)) ( .chk (([]:List Am).length==0) ( AA (a0,([]:List Am))))) ( .chk (([]:List Am).length==0) ( AA (a0,([]:List Am)))))
 | .b3 a0 a1=>.chk (([]:List Am).length==0) ( AA (({ a0 with Told:=true }:Aa),([]:List Am)))
def Z1O (a0:Aa) (a1:AL):Option (Aa×(List Am)):=AV ZbE (.b0 a0 a1)
def lZ:Lay:=⟨[2,3,4],[KP,KP,KP],[.var k1,.var k0,.var k1],⟨[PQ 0,PQ 1,PQ 2],[VA 39 20,VA 156 15,VA 39 20]⟩⟩
def Z9n:Lay:=⟨[2,4],[KP,KP],[.var k1,.var k1],⟨[PQ 0,PQ 1],[VA 39 20,VA 39 20]⟩⟩
def Zw2:Nat->Option Lay
 | 2=>some lZ
 | 3=>some lZ
 | 4=>some Z9n
 | _=>none
def Zss:Yq->Ac U
 | .b0 a0 a1=>Ai Tryz.f215 [39,156] (a0,a1,())
 | .b1 a0 a1 a2=>AA3 Tryz.f215 [1,0,1,0] lZ (a0,a1,a2,())
 | .b2 a0 a1 a2=>AA3 Tryz.f215 [1,1,0,0] lZ (a0,a1,a2,())
 | .b3 a0 a1=>AA3 Tryz.f215 [1,1,0,1,0] Z9n (a0,a1,())
theorem ZsR:AA1 215 [39,156] 233 (fun x=>Z1O x.1 x.2.1) rfl:=Aj (mc UF Ag) Ah Zw2 Zss Tryz.func215 (fun p=>by cases p<;>kernel_rfl) (by kernel_rfl) fun _=>rfl
inductive YE where
 | b0 (a0:List Am) (a1:Int)
 | b1 (a0:List Am) (a1:Int) (a2:List Am) (a3:Int)
def ZaC:YE->Tr U ((List Am)⊕YE)
 | .b0 a0 a1=>.chk (([]:List Am).length==0) ( AO (.b1 a0 a1 ([]:List Am) (0:Int)))
 | .b1 a0 a1 a2 a3=>.br (decide (a3<(↑a0.length:Int))) ( .chk (decide (0<=a3/\a3<(↑a0.length:Int))) ( .bind 148 (a0[(Int.toNat a3)]?) (fun(x1:Am)=>.chk (([({ x1 with Event:=a1 }:Am)]).length==1) ( .chk (kL a2) ( .chk (kA (a2.length+([({ x1 with Event:=a1 }:Am)]).length) 160) ( .chk (kL (a2++[({ x1 with Event:=a1 }:Am)])) ( AO (.b1 a0 a1 (a2++[({ x1 with Event:=a1 }:Am)]) (AP (a3+1)))))))))) ( .chk (kL a2) ( AA a2))
def oD (a0:List Am) (a1:Int):Option (List Am):=AV ZaC (.b0 a0 a1)
def Z8E:Lay:=⟨[0,1,5,6],[[.s 148 18],KP,[.own 148 18],KP],[.row true],⟨[OV 77,OV 30,.one (.own 148 0),OV 3],[.row 148 true]⟩⟩
def ZtT:Nat->Option Lay
 | 3=>some Z8E
 | _=>none
def ZoM:YE->Ac U
 | .b0 a0 a1=>Ai Tryz.f216 [77,30] (a0,a1,())
 | .b1 a0 a1 a2 a3=>AA3 Tryz.f216 [1,1,0,1,0,0,0,0] Z8E (a0,a1,a3,a2,())
theorem Z9f:AA1 216 [77,30] 77 (fun x=>oD x.1 x.2.1) rfl:=Aj Ag Ah ZtT ZoM Tryz.func216 (fun p=>by cases p<;>kernel_rfl) (by kernel_rfl) fun _=>rfl
inductive YF where
 | b0 (a0:A8) (a1:Aw)
 | b1 (a0:A8) (a1:Aw) (a2:A8)
 | b2 (a0:List Am) (a1 a2:A8)
def Za4:YF->Tr U ((A8×(List Am))⊕YF)
 | .b0 a0 a1=>.bind 4 (RQ a1) (fun(x1:Bool)=>.br x1 ( .chk (([]:List Am).length==0) ( AA (a0,([]:List Am)))) ( .br a0.ED.Jp ( .bind 41 (oP a0.ED true false) (fun(x2:C9)=>AO (.b1 ({ a0 with ED:=x2 }:A8) a1 Dp))) ( AO (.b1 a0 a1 Dp))))
 | .b1 a0 a1 a2=>.br (a1.Bq != 3) ( .chk (([]:List Am).length==0) ( AA (a0,([]:List Am)))) ( .bind 231 (l9 a1.Payload) (fun(x1:AL×Int)=>.bind 233 (Z1O a0.Ak x1.1) (fun(x2:Aa×(List Am))=>.br (x1.1.Kind==5) ( .bind 41 (aP a0.ED true a0.ED.NV) (fun(x3:C9)=>AO (.b2 x2.2 ({ a0 with Ak:=x2.1,ED:=x3 }:A8) a2))) ( AO (.b2 x2.2 ({ a0 with Ak:=x2.1 }:A8) a2)))))
 | .b2 a0 a1 a2=>.bind 77 (oD a0 a1.Event) (fun(x1:List Am)=>AA (a1,x1))
def Z0M (a0:A8) (a1:Aw):Option (A8×(List Am)):=AV Za4 (.b0 a0 a1)
def Z8p:Lay:=⟨[2,3,4],[KP,KP,KP],[.var k2,.var [.keep,.s 5 1],.var k2],⟨[PQ 0,PQ 1,PQ 2],[VA 44 66,VA 68 2,VA 44 66]⟩⟩
def Z8B:Lay:=⟨[2,4,9],[KP,KP,[.s 148 18]],[.var k2,.var k2],⟨[PQ 0,PQ 1,OV 77],[VA 44 66,VA 44 66]⟩⟩
def ZqZ:Nat->Option Lay
 | 5=>some Z8p
 | 12=>some Z8B
 | _=>none
def Zof:YF->Ac U
 | .b0 a0 a1=>Ai Tryz.f119 [44,68] (a0,a1,())
 | .b1 a0 a1 a2=>AA3 Tryz.f119 [1,1,1,0,0] Z8p (a0,a1,a2,())
 | .b2 a0 a1 a2=>AA3 Tryz.f119 [1,1,1,1,1,1,1,1,0] Z8B (a0,a1,a2,())
theorem Zob:AA1 119 [44,68] 78 (fun x=>Z0M x.1 x.2.1) rfl:=Aj (mc mG (mc Zaf (mc Z13 (mc Z8K (mc ZsR (mc Z9f Ag)))))) Ah ZqZ Zof Tryz.func119 (fun p=>by cases p<;>kernel_rfl) (by kernel_rfl) fun _=>rfl
inductive WE where
 | b0 (a0:Aa) (a1:AL) (a2 a3:Int)
 | b1 (a0 a1:Aa)
def Z65:WE->Tr U (Aa⊕WE)
 | .b0 a0 a1 a2 a3=>.br (a0.Bl != 1) ( AA a0) ( .bind 138 (mM a1) (fun(x1:BN)=>.bind 269 (pW a0.Bz a2 x1) (fun(x2:(List BN)×Int)=>.br (x2.2==18) ( AA ({ a0 with GR:=40 }:Aa)) ( .br (x2.2 != 0) ( AA ({ a0 with GR:=42 }:Aa)) ( .br (a1.Kind==0) ( .br (a0.Own==15) ( AO (.b1 ({ a0 with Other:=a1.Kind,Ir:=a3,Bz:=x2.1 }:Aa) ES)) ( AA ({ a0 with Other:=a1.Kind,Ir:=a3,Bz:=x2.1 }:Aa))) ( AA ({ a0 with Other:=a1.Kind,Ir:=a3,Bz:=x2.1 }:Aa)))))))
 | .b1 a0 a1=>AA ({ a0 with Own:=-1 }:Aa)
def yF (a0:Aa) (a1:AL) (a2 a3:Int):Option Aa:=AV Z65 (.b0 a0 a1 a2 a3)
def Z5g:Lay:=⟨[4,8],[KP,KP],[.var k1,.var k1],⟨[PQ 0,PQ 1],[VA 39 20,VA 39 20]⟩⟩
def Ziu:Nat->Option Lay
 | 14=>some Z5g
 | _=>none
def Zh8:WE->Ac U
 | .b0 a0 a1 a2 a3=>Ai Tryz.f281 [39,156,30,3] (a0,a1,a2,a3,())
 | .b1 a0 a1=>AA3 Tryz.f281 [1,1,1,1,1,1,1,1,0,1,0] Z5g (a0,a1,())
theorem Zhb:AA1 281 [39,156,30,3] 39 (fun x=>yF x.1 x.2.1 x.2.2.1 x.2.2.2.1) rfl:=Aj (mc Zb7 (mc Z8N Ag)) Ah Ziu Zh8 Tryz.func281 (fun p=>by cases p<;>kernel_rfl) (by kernel_rfl) fun _=>rfl
inductive Yc where
 | b0 (a0 a1:Int)
def Zc1:Yc->Tr U ((List Am)⊕Yc)
 | .b0 a0 a1=>.chk (([(⟨a0,0,(⟨0,[]⟩:Aw),Me,a1,BP⟩:Am)]).length==1) ( AA ([(⟨a0,0,(⟨0,[]⟩:Aw),Me,a1,BP⟩:Am)]))
def LX (a0 a1:Int):Option (List Am):=AV Zc1 (.b0 a0 a1)
def ZsI:Yc->Ac U
 | .b0 a0 a1=>Ai Tryz.f346 [3,25] (a0,a1,())
theorem nM:AA1 346 [3,25] 77 (fun x=>LX x.1 x.2.1) rfl:=Aj Ag Ah AN ZsI Tryz.func346 (fun p=>by cases p<;>kernel_rfl) (by kernel_rfl) fun _=>rfl
inductive WR where
 | b0 (a0:Aa) (a1:AL) (a2:Int)
 | b1 (a0:Int) (a1:Aa) (a2:AL) (a3:Aa)
 | b2 (a0:Bool) (a1:Aa) (a2:AL) (a3:Aa)
 | b3 (a0:Aa) (a1:AL) (a2:Aa)
 | b4 (a0:Bool) (a1:Aa) (a2:AL) (a3:Aa)
 | b5 (a0 a1:Aa)
 | b6 (a0 a1:Aa)
 | b7 (a0:Bool) (a1:Aa) (a2:AL) (a3:Aa)
 | b8 (a0:Bool) (a1 a2:Aa)
def Z6r:WR->Tr U ((Aa×(List AL)×(List Am))⊕WR)
 | .b0 a0 a1 a2=>.br (a1.Kind==3) ( .br (!(a0.Bl==0)) ( .br (a0.EI==0) ( AO (.b1 a2 a0 a1 ES)) ( AO (.b2 (a0.Bl==0) a0 a1 ES))) ( AO (.b2 (a0.Bl==0) a0 a1 ES))) ( AO (.b2 (a0.Bl==0) a0 a1 ES))
 | .b1 a0 a1 a2 a3=>.bind 77 (LX (8:Int) a2.Mark) (fun(x1:List Am)=>.chk (([]:List AL).length==0) ( AA (({ a1 with Other:=3,Ir:=a0,JW:=a2.Bo,Mark:=a2.Mark,EI:=1 }:Aa),([]:List AL),x1)))
 | .b2 a0 a1 a2 a3=>.br (a2.Kind==4) ( .br a0 ( .br (a1.EI==1) ( AO (.b3 a1 a2 a3)) ( AO (.b4 a0 a1 a2 a3))) ( AO (.b4 a0 a1 a2 a3))) ( AO (.b4 a0 a1 a2 a3))
 | .b3 a0 a1 a2=>AO (.b5 ({ a0 with JW:=a1.Bo,EI:=2 }:Aa) a2)
 | .b4 a0 a1 a2 a3=>.br (a2.Kind==5) ( .br a0 ( .br (a1.EI==2) ( AO (.b6 a1 a3)) ( AO (.b7 a0 a1 a2 a3))) ( AO (.b7 a0 a1 a2 a3))) ( AO (.b7 a0 a1 a2 a3))
 | .b5 a0 a1=>.chk (([]:List AL).length==0) ( .chk (([]:List Am).length==0) ( AA (a0,([]:List AL),([]:List Am))))
 | .b6 a0 a1=>.bind 36 (NG (⟨6,BP,0,0,0,0,0,0,0,0,0⟩:AL)) (fun(x1:List AL)=>.chk (([]:List Am).length==0) ( AA (({ a0 with EI:=3 }:Aa),x1,([]:List Am))))
 | .b7 a0 a1 a2 a3=>.br (a2.Kind==6) ( .br (a1.EI==3) ( AO (.b8 a0 a1 a3)) ( AO (.b5 a1 a3))) ( AO (.b5 a1 a3))
 | .b8 a0 a1 a2=>.br a0 ( .bind 77 (LX (3:Int) (0:Int)) (fun(x1:List Am)=>.chk (([]:List AL).length==0) ( AA (({ a1 with Own:=-1,EI:=4 }:Aa),([]:List AL),x1)))) ( .bind 36 (NG (⟨6,BP,0,0,0,0,0,0,0,0,0⟩:AL)) (fun(x2:List AL)=>.bind 77 (LX (3:Int) (0:Int)) (fun(x3:List Am)=>AA (({ a1 with Other:=-1,EI:=4 }:Aa),x2,x3))))
def yP (a0:Aa) (a1:AL) (a2:Int):Option (Aa×(List AL)×(List Am)):=AV Z6r (.b0 a0 a1 a2)
def Z5L:Lay:=⟨[2,3,4,6],[KP,KP,KP,KP],[.var k1,.var k0,.var k1],⟨[OV 3,PQ 0,PQ 1,PQ 2],[VA 39 20,VA 156 15,VA 39 20]⟩⟩
def TN:Lay:=⟨[3,4,6,9],[KP,KP,KP,KP],[.var k1,.var k0,.var k1],⟨[PQ 0,PQ 1,PQ 2,OV 4],[VA 39 20,VA 156 15,VA 39 20]⟩⟩
def Z5w:Lay:=⟨[3,4,6],[KP,KP,KP],[.var k1,.var k0,.var k1],⟨[PQ 0,PQ 1,PQ 2],[VA 39 20,VA 156 15,VA 39 20]⟩⟩
def jB:Lay:=⟨[3,6],[KP,KP],[.var k1,.var k1],⟨[PQ 0,PQ 1],[VA 39 20,VA 39 20]⟩⟩
def Z5y:Lay:=⟨[3,6,9],[KP,KP,KP],[.var k1,.var k1],⟨[PQ 0,PQ 1,OV 4],[VA 39 20,VA 39 20]⟩⟩
def Zj5:Nat->Option Lay
 | 3=>some Z5L
 | 9=>some TN
 | 10=>some Z5w
 | 12=>some TN
 | 22=>some jB
 | 13=>some jB
 | 15=>some TN
 | 16=>some Z5y
 | _=>none
def ZhQ:WR->Ac U
 | .b0 a0 a1 a2=>Ai Tryz.f282 [39,156,3] (a0,a1,a2,())
 | .b1 a0 a1 a2 a3=>AA3 Tryz.f282 [1,1,0,0,1,0,0] Z5L (a0,a1,a2,a3,())
 | .b2 a0 a1 a2 a3=>AA3 Tryz.f282 [1,1,0,0,1,1,0] TN (a0,a1,a2,a3,())
 | .b3 a0 a1 a2=>AA3 Tryz.f282 [1,1,0,0,1,1,1,0,0] Z5w (a0,a1,a2,())
 | .b4 a0 a1 a2 a3=>AA3 Tryz.f282 [1,1,0,0,1,1,1,1,0] TN (a0,a1,a2,a3,())
 | .b5 a0 a1=>AA3 Tryz.f282 [1,1,1,0] jB (a0,a1,())
 | .b6 a0 a1=>AA3 Tryz.f282 [1,1,0,0,1,1,1,1,1,0,0] jB (a0,a1,())
 | .b7 a0 a1 a2 a3=>AA3 Tryz.f282 [1,1,0,0,1,1,1,1,1,1,0] TN (a0,a1,a2,a3,())
 | .b8 a0 a1 a2=>AA3 Tryz.f282 [1,1,0,0,1,1,1,1,1,1,1,0,0] Z5y (a0,a1,a2,())
theorem Ziz:AA1 282 [39,156,3] 237 (fun x=>yP x.1 x.2.1 x.2.2.1) rfl:=Aj (mc U6 (mc nM Ag)) Ah Zj5 ZhQ Tryz.func282 (fun p=>by cases p<;>kernel_rfl) (by kernel_rfl) fun _=>rfl
inductive WC where
 | b0 (a0:Aa) (a1:AL)
 | b1 (a0 a1:Aa)
 | b2 (a0:Aa) (a1:AL) (a2:Aa)
 | b3 (a0:Aa) (a1:AL) (a2:Aa)
def Z61:WC->Tr U ((Aa×(List AL)×(List Am))⊕WC)
 | .b0 a0 a1=>.br (a0.Own != a1.DI) ( AO (.b1 a0 ES)) ( .bind 4 (QI a0.Own) (fun(x1:Bool)=>.br x1 ( AO (.b1 a0 ES)) ( .br (a0.Own==2) ( AO (.b1 a0 ES)) ( AO (.b2 a0 a1 ES)))))
 | .b1 a0 a1=>.chk (([]:List AL).length==0) ( .chk (([]:List Am).length==0) ( AA (a0,([]:List AL),([]:List Am))))
 | .b2 a0 a1 a2=>.br (a0.Own==3) ( AO (.b3 ({ a0 with EI:=0 }:Aa) a1 a2)) ( AO (.b3 a0 a1 a2))
 | .b3 a0 a1 a2=>.bind 77 (LX (9:Int) (IntKind.wrap .u64 (a1.DI))) (fun(x1:List Am)=>.chk (([]:List AL).length==0) ( AA (({ a0 with Own:=-1 }:Aa),([]:List AL),x1)))
def xC (a0:Aa) (a1:AL):Option (Aa×(List AL)×(List Am)):=AV Z61 (.b0 a0 a1)
def Z5u:Lay:=⟨[2,4],[KP,KP],[.var k1,.var k1],⟨[PQ 0,PQ 1],[VA 39 20,VA 39 20]⟩⟩
def iZ:Lay:=⟨[2,3,4],[KP,KP,KP],[.var k1,.var k0,.var k1],⟨[PQ 0,PQ 1,PQ 2],[VA 39 20,VA 156 15,VA 39 20]⟩⟩
def ZhN:Nat->Option Lay
 | 2=>some Z5u
 | 3=>some iZ
 | 5=>some iZ
 | _=>none
def Zgt:WC->Ac U
 | .b0 a0 a1=>Ai Tryz.f283 [39,156] (a0,a1,())
 | .b1 a0 a1=>AA3 Tryz.f283 [1,0,1,0,0] Z5u (a0,a1,())
 | .b2 a0 a1 a2=>AA3 Tryz.f283 [1,1,0,0] iZ (a0,a1,a2,())
 | .b3 a0 a1 a2=>AA3 Tryz.f283 [1,1,1,0] iZ (a0,a1,a2,())
theorem ZgH:AA1 283 [39,156] 237 (fun x=>xC x.1 x.2.1) rfl:=Aj (mc UF (mc nM Ag)) Ah ZhN Zgt Tryz.func283 (fun p=>by cases p<;>kernel_rfl) (by kernel_rfl) fun _=>rfl
inductive WH where
 | b0 (a0:Aa) (a1:AL) (a2:Int)
def Z5V:WH->Tr U ((Aa×(List AL)×(List Am))⊕WH)
 | .b0 a0 a1 a2=>.br (a0.Bl != 0) ( .chk (([]:List AL).length==0) ( .chk (([]:List Am).length==0) ( AA (a0,([]:List AL),([]:List Am))))) ( .bind 4 (QI a0.Own) (fun(x1:Bool)=>.br x1 ( .bind 36 (NG (⟨13,BP,0,0,42,15,0,0,0,0,0⟩:AL)) (fun(x2:List AL)=>.chk (([]:List Am).length==0) ( AA (a0,x2,([]:List Am))))) ( .chk (([]:List AL).length==0) ( .chk (([(⟨12,0,(⟨0,[]⟩:Aw),Me,0,a1.BH⟩:Am)]).length==1) ( AA (({ a0 with Other:=15,Ir:=a2 }:Aa),([]:List AL),[(⟨12,0,(⟨0,[]⟩:Aw),Me,0,a1.BH⟩:Am)]))))))
def wZ (a0:Aa) (a1:AL) (a2:Int):Option (Aa×(List AL)×(List Am)):=AV Z5V (.b0 a0 a1 a2)
def ZgL:WH->Ac U
 | .b0 a0 a1 a2=>Ai Tryz.f284 [39,156,3] (a0,a1,a2,())
theorem Zgv:AA1 284 [39,156,3] 237 (fun x=>wZ x.1 x.2.1 x.2.2.1) rfl:=Aj (mc UF (mc U6 Ag)) Ah AN ZgL Tryz.func284 (fun p=>by cases p<;>kernel_rfl) (by kernel_rfl) fun _=>rfl
inductive WG where
 | b0 (a0:Aa) (a1:AL)
 | b1 (a0 a1:Aa)
 | b2 (a0:Aa) (a1:AL) (a2:Aa)
def Z5X:WG->Tr U ((Aa×(List AL)×(List Am))⊕WG)
 | .b0 a0 a1=>.br (a1.Kind==21) ( .br (a0.Own != 20) ( AO (.b1 a0 ES)) ( AO (.b2 a0 a1 ES))) ( AO (.b2 a0 a1 ES))
 | .b1 a0 a1=>.chk (([]:List AL).length==0) ( .chk (([]:List Am).length==0) ( AA (a0,([]:List AL),([]:List Am))))
 | .b2 a0 a1 a2=>.br (a1.Kind==21) ( .bind 77 (LX (11:Int) (IntKind.wrap .u64 ((if a0.Limit<a1.Length then a0.Limit else a1.Length)))) (fun(x1:List Am)=>.chk (([]:List AL).length==0) ( AA (({ a0 with Own:=-1,Length:=(if a0.Limit<a1.Length then a0.Limit else a1.Length) }:Aa),([]:List AL),x1)))) ( .bind 36 (NG (⟨21,BP,0,0,0,0,0,0,0,0,a0.Limit⟩:AL)) (fun(x2:List AL)=>.bind 77 (LX (11:Int) (IntKind.wrap .u64 ((if a0.Limit<a1.Length then a0.Limit else a1.Length)))) (fun(x3:List Am)=>AA (({ a0 with Length:=(if a0.Limit<a1.Length then a0.Limit else a1.Length) }:Aa),x2,x3))))
def yE (a0:Aa) (a1:AL):Option (Aa×(List AL)×(List Am)):=AV Z5X (.b0 a0 a1)
def Z5t:Lay:=⟨[2,4],[KP,KP],[.var k1,.var k1],⟨[PQ 0,PQ 1],[VA 39 20,VA 39 20]⟩⟩
def Z5j:Lay:=⟨[2,3,4],[KP,KP,KP],[.var k1,.var k0,.var k1],⟨[PQ 0,PQ 1,PQ 2],[VA 39 20,VA 156 15,VA 39 20]⟩⟩
def Zie:Nat->Option Lay
 | 2=>some Z5t
 | 3=>some Z5j
 | _=>none
def Zgx:WG->Ac U
 | .b0 a0 a1=>Ai Tryz.f285 [39,156] (a0,a1,())
 | .b1 a0 a1=>AA3 Tryz.f285 [1,0,1,0,0] Z5t (a0,a1,())
 | .b2 a0 a1 a2=>AA3 Tryz.f285 [1,1,0] Z5j (a0,a1,a2,())
theorem ZgU:AA1 285 [39,156] 237 (fun x=>yE x.1 x.2.1) rfl:=Aj (mc U6 (mc nM Ag)) Ah Zie Zgx Tryz.func285 (fun p=>by cases p<;>kernel_rfl) (by kernel_rfl) fun _=>rfl
inductive WY where
 | b0 (a0:Aa) (a1:AL)
 | b1 (a0:Aa) (a1:AL) (a2:Aa)
 | b2 (a0:Aa) (a1:AL) (a2:Aa)
 | b3 (a0 a1:Aa)
 | b4 (a0 a1:Aa)
def Z6J:WY->Tr U ((Aa×(List AL)×(List Am))⊕WY)
 | .b0 a0 a1=>.br (a1.Kind==8) ( .bind 36 (NG (⟨9,BP,0,0,0,0,0,0,a0.CQ,0,0⟩:AL)) (fun(x1:List AL)=>.bind 77 (LX (5:Int) (bits .and .u64 a0.CQ a1.CQ)) (fun(x2:List Am)=>AA (({ a0 with MB:=(bits .and .u64 a0.CQ a1.CQ),Hl:=true }:Aa),x1,x2)))) ( .br (a1.Kind==9) ( .br (a0.Own==8) ( AO (.b1 a0 a1 ES)) ( AO (.b2 a0 a1 ES))) ( AO (.b2 a0 a1 ES)))
 | .b1 a0 a1 a2=>.bind 77 (LX (5:Int) (bits .and .u64 a0.CQ a1.CQ)) (fun(x1:List Am)=>.chk (([]:List AL).length==0) ( AA (({ a0 with Own:=-1,MB:=(bits .and .u64 a0.CQ a1.CQ),Hl:=true }:Aa),([]:List AL),x1)))
 | .b2 a0 a1 a2=>.br (a1.Kind==12) ( .bind 77 (LX (6:Int) (IntKind.wrap .u64 (a1.Version))) (fun(x1:List Am)=>.br (a0.Own==12) ( .chk (([]:List AL).length==0) ( AA (({ a0 with Own:=-1,Version:=a1.Version }:Aa),([]:List AL),x1))) ( .br a0.JK ( .chk (([]:List AL).length==0) ( AA (({ a0 with Version:=a1.Version }:Aa),([]:List AL),x1))) ( .bind 36 (NG (⟨12,BP,0,0,0,0,0,0,0,11,0⟩:AL)) (fun(x2:List AL)=>AA (({ a0 with JK:=true,Version:=a1.Version }:Aa),x2,x1)))))) ( .br (a1.Kind==18) ( .bind 36 (NG (⟨19,BP,0,0,0,0,0,0,0,0,0⟩:AL)) (fun(x3:List AL)=>.chk (([]:List Am).length==0) ( AA (a0,x3,([]:List Am))))) ( .br (a1.Kind==19) ( .br (a0.Own==18) ( AO (.b3 a0 a2)) ( AO (.b4 a0 a2))) ( AO (.b4 a0 a2))))
 | .b3 a0 a1=>.bind 77 (LX (7:Int) (0:Int)) (fun(x1:List Am)=>.chk (([]:List AL).length==0) ( AA (({ a0 with Own:=-1 }:Aa),([]:List AL),x1)))
 | .b4 a0 a1=>.chk (([]:List AL).length==0) ( .chk (([]:List Am).length==0) ( AA (a0,([]:List AL),([]:List Am))))
def Z9 (a0:Aa) (a1:AL):Option (Aa×(List AL)×(List Am)):=AV Z6J (.b0 a0 a1)
def jF:Lay:=⟨[2,3,4],[KP,KP,KP],[.var k1,.var k0,.var k1],⟨[PQ 0,PQ 1,PQ 2],[VA 39 20,VA 156 15,VA 39 20]⟩⟩
def jT:Lay:=⟨[2,4],[KP,KP],[.var k1,.var k1],⟨[PQ 0,PQ 1],[VA 39 20,VA 39 20]⟩⟩
def ZjW:Nat->Option Lay
 | 6=>some jF
 | 10=>some jF
 | 23=>some jT
 | 25=>some jT
 | _=>none
def Zjr:WY->Ac U
 | .b0 a0 a1=>Ai Tryz.f286 [39,156] (a0,a1,())
 | .b1 a0 a1 a2=>AA3 Tryz.f286 [1,0,0,1,1,1,0,0] jF (a0,a1,a2,())
 | .b2 a0 a1 a2=>AA3 Tryz.f286 [1,0,0,1,1,1,1,0] jF (a0,a1,a2,())
 | .b3 a0 a1=>AA3 Tryz.f286 [1,0,0,1,1,1,1,1,1,1,1,1,0,0] jT (a0,a1,())
 | .b4 a0 a1=>AA3 Tryz.f286 [1,1,0] jT (a0,a1,())
theorem Zj3:AA1 286 [39,156] 237 (fun x=>Z9 x.1 x.2.1) rfl:=Aj (mc U6 (mc nM Ag)) Ah ZjW Zjr Tryz.func286 (fun p=>by cases p<;>kernel_rfl) (by kernel_rfl) fun _=>rfl
inductive XY where
 | b0 (a0:Aa) (a1:AL) (a2 a3:Int)
 | b1 (a0 a1:Int) (a2:Aa) (a3:AL) (a4:Aa)
 | b2 (a0 a1:Int) (a2:Aa) (a3:AL) (a4:Aa)
 | b3 (a0 a1:Aa)
 | b4 (a0:Int) (a1:Aa) (a2:AL) (a3:Aa)
 | b5 (a0 a1:Int) (a2:Aa) (a3:AL) (a4:Aa)
 | b6 (a0:Aa) (a1:AL) (a2:Aa)
 | b7 (a0 a1:Int) (a2:Aa) (a3:AL) (a4:Aa)
 | b8 (a0:Aa) (a1:AL) (a2:Aa)
 | b9 (a0:Aa) (a1:AL) (a2:Aa)
def Z9m:XY->Tr U ((Aa×(List AL)×(List Am))⊕XY)
 | .b0 a0 a1 a2 a3=>.br (a0.GR != 0) ( .chk (([]:List AL).length==0) ( .chk (([]:List Am).length==0) ( AA (a0,([]:List AL),([]:List Am))))) ( .bind 262 (EN a1.Kind) (fun(x1:Be)=>.br (!x1.Hl) ( .bind 36 (NG (⟨7,BP,0,0,0,(if (255:Int)<(if (0:Int)>a1.Kind then (0:Int) else a1.Kind) then (255:Int) else (if (0:Int)>a1.Kind then (0:Int) else a1.Kind)),0,0,0,0,0⟩:AL)) (fun(x2:List AL)=>.chk (([]:List Am).length==0) ( AA (a0,x2,([]:List Am))))) ( .br (a1.Kind==0) ( .br (a1.Kind==0) ( AO (.b1 a2 a3 a0 a1 ES)) ( AO (.b2 a3 a1.Kind a0 a1 ES))) ( .br (a1.Kind==1) ( AO (.b1 a2 a3 a0 a1 ES)) ( AO (.b2 a3 a1.Kind a0 a1 ES))))))
 | .b1 a0 a1 a2 a3 a4=>.bind 39 (yF a2 a3 a0 a1) (fun(x1:Aa)=>.chk (([]:List AL).length==0) ( .chk (([]:List Am).length==0) ( AA (x1,([]:List AL),([]:List Am)))))
 | .b2 a0 a1 a2 a3 a4=>.br (a1==2) ( .br (a3.Bc==0) ( AO (.b3 ({ a2 with GR:=19 }:Aa) a4)) ( AO (.b3 ({ a2 with GR:=a3.Bc }:Aa) a4))) ( .br (a1==3) ( .br (a1==3) ( AO (.b4 a0 a2 a3 a4)) ( AO (.b5 a0 a1 a2 a3 a4))) ( .br (a1==4) ( .br (a1==4) ( AO (.b4 a0 a2 a3 a4)) ( AO (.b5 a0 a1 a2 a3 a4))) ( .br (a1==5) ( .br (a1==5) ( AO (.b4 a0 a2 a3 a4)) ( AO (.b5 a0 a1 a2 a3 a4))) ( .br (a1==6) ( AO (.b4 a0 a2 a3 a4)) ( AO (.b5 a0 a1 a2 a3 a4))))))
 | .b3 a0 a1=>.chk (([]:List AL).length==0) ( .chk (([]:List Am).length==0) ( AA (a0,([]:List AL),([]:List Am))))
 | .b4 a0 a1 a2 a3=>.bind 237 (yP a1 a2 a0) (fun(x1:Aa×(List AL)×(List Am))=>AA (x1.1,x1.2.1,x1.2.2))
 | .b5 a0 a1 a2 a3 a4=>.br (a1==7) ( .br (a1==7) ( AO (.b6 a2 a3 a4)) ( AO (.b7 a0 a1 a2 a3 a4))) ( .br (a1==13) ( AO (.b6 a2 a3 a4)) ( AO (.b7 a0 a1 a2 a3 a4)))
 | .b6 a0 a1 a2=>.bind 237 (xC a0 a1) (fun(x1:Aa×(List AL)×(List Am))=>AA (x1.1,x1.2.1,x1.2.2))
 | .b7 a0 a1 a2 a3 a4=>.br (a1==15) ( .bind 237 (wZ a2 a3 a0) (fun(x1:Aa×(List AL)×(List Am))=>AA (x1.1,x1.2.1,x1.2.2))) ( .br (a1==20) ( .br (a1==20) ( AO (.b8 a2 a3 a4)) ( AO (.b9 a2 a3 a4))) ( .br (a1==21) ( AO (.b8 a2 a3 a4)) ( AO (.b9 a2 a3 a4))))
 | .b8 a0 a1 a2=>.bind 237 (yE a0 a1) (fun(x1:Aa×(List AL)×(List Am))=>AA (x1.1,x1.2.1,x1.2.2))
 | .b9 a0 a1 a2=>.bind 237 (Z9 a0 a1) (fun(x1:Aa×(List AL)×(List Am))=>AA (x1.1,x1.2.1,x1.2.2))
def Z0t (a0:Aa) (a1:AL) (a2 a3:Int):Option (Aa×(List AL)×(List Am)):=AV Z9m (.b0 a0 a1 a2 a3)
def Z78:Lay:=⟨[2,3,4,5,8],[KP,KP,KP,KP,KP],[.var k1,.var k0,.var k1],⟨[OV 30,OV 3,PQ 0,PQ 1,PQ 2],[VA 39 20,VA 156 15,VA 39 20]⟩⟩
def Tn:Lay:=⟨[3,4,5,8,28],[KP,KP,KP,KP,KP],[.var k1,.var k0,.var k1],⟨[OV 3,PQ 0,PQ 1,PQ 2,OV 3],[VA 39 20,VA 156 15,VA 39 20]⟩⟩
def Z7c:Lay:=⟨[4,8],[KP,KP],[.var k1,.var k1],⟨[PQ 0,PQ 1],[VA 39 20,VA 39 20]⟩⟩
def Z7u:Lay:=⟨[3,4,5,8],[KP,KP,KP,KP],[.var k1,.var k0,.var k1],⟨[OV 3,PQ 0,PQ 1,PQ 2],[VA 39 20,VA 156 15,VA 39 20]⟩⟩
def Tu:Lay:=⟨[4,5,8],[KP,KP,KP],[.var k1,.var k0,.var k1],⟨[PQ 0,PQ 1,PQ 2],[VA 39 20,VA 156 15,VA 39 20]⟩⟩
def ZpJ:Nat->Option Lay
 | 8=>some Z78
 | 9=>some Tn
 | 13=>some Z7c
 | 18=>some Z7u
 | 19=>some Tn
 | 21=>some Tu
 | 22=>some Tn
 | 26=>some Tu
 | 27=>some Tu
 | _=>none
def ZnF:XY->Ac U
 | .b0 a0 a1 a2 a3=>Ai Tryz.f217 [39,156,30,3] (a0,a1,a2,a3,())
 | .b1 a0 a1 a2 a3 a4=>AA3 Tryz.f217 [1,1,1,0,1,0,1,0,0] Z78 (a0,a1,a2,a3,a4,())
 | .b2 a0 a1 a2 a3 a4=>AA3 Tryz.f217 [1,1,1,0,1,0,1,1,0] Tn (a0,a1,a2,a3,a4,())
 | .b3 a0 a1=>AA3 Tryz.f217 [1,1,1,0,1,0,1,1,1,0,1,1,0] Z7c (a0,a1,())
 | .b4 a0 a1 a2 a3=>AA3 Tryz.f217 [1,1,1,0,1,0,1,1,1,1,1,0,0] Z7u (a0,a1,a2,a3,())
 | .b5 a0 a1 a2 a3 a4=>AA3 Tryz.f217 [1,1,1,0,1,0,1,1,1,1,1,1,0,0] Tn (a0,a1,a2,a3,a4,())
 | .b6 a0 a1 a2=>AA3 Tryz.f217 [1,1,1,0,1,0,1,1,1,1,1,1,1,0,0] Tu (a0,a1,a2,())
 | .b7 a0 a1 a2 a3 a4=>AA3 Tryz.f217 [1,1,1,0,1,0,1,1,1,1,1,1,1,1,0] Tn (a0,a1,a2,a3,a4,())
 | .b8 a0 a1 a2=>AA3 Tryz.f217 [1,1,1,0,1,0,1,1,1,1,1,1,1,1,1,1,1,0,0] Tu (a0,a1,a2,())
 | .b9 a0 a1 a2=>AA3 Tryz.f217 [1,1,1,1,0] Tu (a0,a1,a2,())
theorem Zno:AA1 217 [39,156,30,3] 237 (fun x=>Z0t x.1 x.2.1 x.2.2.1 x.2.2.2.1) rfl:=Aj (mc QD (mc U6 (mc Zhb (mc Ziz (mc ZgH (mc Zgv (mc ZgU (mc Zj3 Ag)))))))) Ah ZpJ ZnF Tryz.func217 (fun p=>by cases p<;>kernel_rfl) (by kernel_rfl) fun _=>rfl
end
noncomputable section
inductive XE where
 | b0 (a0:A8) (a1:List Int) (a2:Int)
 | b1 (a0:List Am) (a1 a2:A8) (a3:Aa)
 | b2 (a0:List Am) (a1 a2:A8)
def Z8n:XE->Tr U ((A8×(List Am))⊕XE)
 | .b0 a0 a1 a2=>.bind 231 (l9 a1) (fun(x1:AL×Int)=>.br (x1.2==12) ( .chk (([]:List AL).length==0) ( .chk (kA (0+a0.BA.length) 120) ( .chk (decide (0<=(0:Int)/\(0:Int)<(↑a1.length:Int))) ( .bind 5 (a1[(Int.toNat 0)]?) (fun(x2:Int)=>.chk (([(⟨7,BP,0,0,0,(AP (x2)),0,0,0,0,0⟩:AL)]).length==1) ( .chk (kL (([]:List AL)++a0.BA)) ( .chk (kA ((([]:List AL)++a0.BA).length+([(⟨7,BP,0,0,0,(AP (x2)),0,0,0,0,0⟩:AL)]).length) 120) ( .chk (kL ((([]:List AL)++a0.BA)++[(⟨7,BP,0,0,0,(AP (x2)),0,0,0,0,0⟩:AL)])) ( .chk (([]:List Am).length==0) ( AA (({ a0 with BA:=((([]:List AL)++a0.BA)++[(⟨7,BP,0,0,0,(AP (x2)),0,0,0,0,0⟩:AL)]) }:A8),([]:List Am)))))))))))) ( .br (x1.2 != 0) ( .chk (([]:List Am).length==0) ( AA (a0,([]:List Am)))) ( .bind 237 (Z0t a0.Ak x1.1 a0.Event a2) (fun(x3:Aa×(List AL)×(List Am))=>.chk (([]:List AL).length==0) ( .chk (kA (0+a0.BA.length) 120) ( .chk (kL (([]:List AL)++a0.BA)) ( .chk (kA ((([]:List AL)++a0.BA).length+x3.2.1.length) 120) ( .br (a0.Bl==0) ( .br (x1.1.Kind==5) ( .br (x3.1.EI==3) ( .chk (kL ((([]:List AL)++a0.BA)++x3.2.1)) ( AO (.b1 x3.2.2 ({ a0 with Ak:=x3.1,BA:=((([]:List AL)++a0.BA)++x3.2.1) }:A8) Dp x3.1))) ( .chk (kL ((([]:List AL)++a0.BA)++x3.2.1)) ( AO (.b2 x3.2.2 ({ a0 with Ak:=x3.1,BA:=((([]:List AL)++a0.BA)++x3.2.1) }:A8) Dp)))) ( .chk (kL ((([]:List AL)++a0.BA)++x3.2.1)) ( AO (.b2 x3.2.2 ({ a0 with Ak:=x3.1,BA:=((([]:List AL)++a0.BA)++x3.2.1) }:A8) Dp)))) ( .chk (kL ((([]:List AL)++a0.BA)++x3.2.1)) ( AO (.b2 x3.2.2 ({ a0 with Ak:=x3.1,BA:=((([]:List AL)++a0.BA)++x3.2.1) }:A8) Dp)))))))))))
 | .b1 a0 a1 a2 a3=>.bind 41 (pY a1.Bl a1.Key a3.Bo a3.JW) (fun(x1:C9)=>.bind 41 (aP x1 true true) (fun(x2:C9)=>.chk (kL a1.BA) ( AO (.b2 a0 ({ a1 with ED:=x2 }:A8) a2))))
 | .b2 a0 a1 a2=>.bind 77 (oD a0 a1.Event) (fun(x1:List Am)=>.chk (kL a1.BA) ( AA (a1,x1)))
def Z0b (a0:A8) (a1:List Int) (a2:Int):Option (A8×(List Am)):=AV Z8n (.b0 a0 a1 a2)
def Z73:Lay:=⟨[3,6,10,12],[KP,KP,KP,[.s 148 18]],[.var k9,.var k2,.var k1,.row true],⟨[PQ 0,PQ 1,PQ 2,OV 77],[.var 44 66 (iO 3),VA 44 66,VA 39 20,.row 156 true]⟩⟩
def Z6Z:Lay:=⟨[3,6,12],[KP,KP,[.s 148 18]],[.var k9,.var k2,.row true],⟨[PQ 0,PQ 1,OV 77],[.var 44 66 (iO 2),VA 44 66,.row 156 true]⟩⟩
def ZmR:Nat->Option Lay
 | 11=>some Z73
 | 12=>some Z6Z
 | _=>none
def Zmj:XE->Ac U
 | .b0 a0 a1 a2=>Ai Tryz.f121 [44,62,3] (a0,a1,a2,())
 | .b1 a0 a1 a2 a3=>Ae Tryz.f121 [1,1,1,1,1,1,1,0,1,0] Z73 (((),((),((),((a0,()),())))),((Vm a1),((a2,()),((a3,()),(a1.BA,())))))
 | .b2 a0 a1 a2=>Ae Tryz.f121 [1,1,1,1,1,1,1,1,0] Z6Z (((),((),((a0,()),()))),((Vm a1),((a2,()),(a1.BA,()))))
theorem ZlN:AA1 121 [44,62,3] 78 (fun x=>Z0b x.1 x.2.1 x.2.2.1) rfl:=Aj (mc Z13 (mc Zbq (mc Z8K (mc Z9f (mc Zno Ag))))) Ah ZmR Zmj Tryz.func121 (fun p=>by cases p<;>kernel_rfl) (by kernel_rfl) fun _=>rfl
inductive XF where
 | b0 (a0:A8) (a1:List Int) (a2:Bool) (a3:Int)
 | b1 (a0:List Int) (a1:Int) (a2 a3:A8)
 | b2 (a0:List Int) (a1:Int) (a2 a3:A8)
 | b3 (a0:Int) (a1:Bool) (a2 a3:A8) (a4:BM)
 | b4 (a0:Int) (a1:Bool) (a2 a3:A8) (a4:BM)
 | b5 (a0:Int) (a1:Bool) (a2 a3:A8) (a4:BM) (a5:Aw)
 | b6 (a0:Int) (a1:Bool) (a2 a3:A8) (a4:BM) (a5:Aw)
 | b7 (a0:Int) (a1:Bool) (a2 a3:A8) (a4:BM) (a5:Aw)
 | b8 (a0:Int) (a1:Bool) (a2 a3:A8) (a4:BM) (a5:Aw)
 | b9 (a0:Int) (a1 a2:Bool) (a3:List Am) (a4 a5:A8) (a6:BM) (a7:Aw)
 | b10 (a0:Int) (a1:List Am) (a2 a3:A8) (a4:BM) (a5:Aw)
 | b11 (a0:List Am) (a1 a2:A8) (a3:BM)
def Z84:XF->Tr U ((A8×(List Am)×Bool)⊕XF)
 | .b0 a0 a1 a2 a3=>.br (a0.Bc != 0) ( .chk (([]:List Am).length==0) ( AA (a0,([]:List Am),false))) ( .br a2 ( .br (a0.Bl==1) ( AO (.b1 a1 a3 ({ a0 with J6:=true }:A8) Dp)) ( AO (.b2 a1 a3 ({ a0 with J6:=true }:A8) Dp))) ( AO (.b2 a1 a3 ({ a0 with J6:=true }:A8) Dp)))
 | .b1 a0 a1 a2 a3=>AO (.b2 a0 a1 ({ a2 with Ed:=a1,Size:=0,Sync:=a1 }:A8) a3)
 | .b2 a0 a1 a2 a3=>.bind 3 (UA a2) (fun(x1:Int)=>.bind 1348 (YD x1 a0) (fun(y2:QH)=>.chk (kL y2.q0) ( .bind 120 (Z0Z a2.Ce.NT y2.q0) (fun(x3:(List Int)×Int)=>.br (x3.2 != 0) ( .bind 42 (Xa a2.DJ x1 false) (fun(x4:List BR)=>.chk (([]:List Am).length==0) ( AA (({ a2 with DJ:=x4 }:A8),([]:List Am),false)))) ( .bind 71 (Z0o x3.1) (fun(x5:BM×Int)=>.br (x5.2 != 0) ( .chk (([]:List Am).length==0) ( AA (a2,([]:List Am),false))) ( .bind 42 (Xa a2.DJ x1 true) (fun(x6:List BR)=>.br (x5.1.SN==a2.BB.EF) ( .bind 4 (RQ x5.1.BG) (fun(x7:Bool)=>.br (!x7) ( AO (.b3 a1 a2.ED.NV ({ a2 with JR:=a1,Hw:=true,Good:=true,DJ:=x6 }:A8) a3 x5.1)) ( AO (.b3 a1 false ({ a2 with JR:=a1,Hw:=true,Good:=true,DJ:=x6 }:A8) a3 x5.1)))) ( AO (.b3 a1 false ({ a2 with JR:=a1,Hw:=true,Good:=true,DJ:=x6 }:A8) a3 x5.1))))))))))
 | .b3 a0 a1 a2 a3 a4=>.br a1 ( .bind 71 (Z1A a2.ED a4) (fun(x1:BM×Int)=>.br (x1.2 != 0) ( .bind 78 (qE a2 (61:Int)) (fun(x2:A8×(List Am))=>AA (x2.1,x2.2,false))) ( AO (.b4 a0 a1 a2 a3 x1.1)))) ( AO (.b4 a0 a1 a2 a3 a4))
 | .b4 a0 a1 a2 a3 a4=>.br a2.BB.Open ( .br (!a2.BB.Empty) ( AO (.b5 a0 a1 a2 a3 a4 (⟨0,([]:List Int)⟩:Aw))) ( AO (.b6 a0 a1 a2 a3 a4 (⟨0,([]:List Int)⟩:Aw)))) ( AO (.b6 a0 a1 a2 a3 a4 (⟨0,([]:List Int)⟩:Aw)))
 | .b5 a0 a1 a2 a3 a4 a5=>.chk (decide (0<=(0:Int)/\(0:Int)<(↑a2.BB.Az.length:Int))) ( .bind 68 (a2.BB.Az[(Int.toNat 0)]?) (fun(x1:Aw)=>AO (.b6 a0 a1 a2 a3 a4 x1)))
 | .b6 a0 a1 a2 a3 a4 a5=>.br a2.BB.Open ( .br a2.BB.Empty ( AO (.b7 a0 a1 a2 a3 a4 a5)) ( AO (.b8 a0 a1 a2 a3 a4 a5))) ( AO (.b8 a0 a1 a2 a3 a4 a5))
 | .b7 a0 a1 a2 a3 a4 a5=>AO (.b8 a0 a1 a2 a3 a4 (⟨1,([]:List Int)⟩:Aw))
 | .b8 a0 a1 a2 a3 a4 a5=>.bind 163 (Z2g a2.BB a4) (fun(x1:BU×Aw×Bool×Bool)=>.br x1.2.2.2 ( .bind 78 (Z0M ({ a2 with Fp:=true,BB:=x1.1 }:A8) a5) (fun(x2:A8×(List Am))=>.chk (([]:List Am).length==0) ( .chk (kA (0+x2.2.length) 160) ( .chk (kL (([]:List Am)++x2.2)) ( AO (.b9 a0 a1 x1.2.2.1 (([]:List Am)++x2.2) x2.1 a3 a4 x1.2.1)))))) ( .chk (([]:List Am).length==0) ( AO (.b9 a0 a1 x1.2.2.1 ([]:List Am) ({ a2 with BB:=x1.1 }:A8) a3 a4 x1.2.1))))
 | .b9 a0 a1 a2 a3 a4 a5 a6 a7=>.br a2 ( .br a1 ( .bind 41 (oP a4.ED false true) (fun(x1:C9)=>.chk (kL a3) ( AO (.b10 a0 a3 ({ a4 with ED:=x1 }:A8) a5 a6 a7)))) ( .chk (kL a3) ( AO (.b10 a0 a3 a4 a5 a6 a7)))) ( .chk (kL a3) ( AO (.b11 a3 a4 a5 a6)))
 | .b10 a0 a1 a2 a3 a4 a5=>.br (a5.Bq==3) ( .bind 78 (Z0b a2 a5.Payload a0) (fun(x1:A8×(List Am))=>.chk (kL a1) ( .chk (kA (a1.length+x1.2.length) 160) ( .chk (kL (a1++x1.2)) ( AO (.b11 (a1++x1.2) x1.1 a3 a4)))))) ( .chk (([]:List Int).length==0) ( .chk (kA (0+a5.Payload.length) 1) ( .chk (kL (([]:List Int)++a5.Payload)) ( .chk (([(⟨1,a2.Event,(⟨a5.Bq,(([]:List Int)++a5.Payload)⟩:Aw),Me,0,BP⟩:Am)]).length==1) ( .chk (kL a1) ( .chk (kA (a1.length+([(⟨1,a2.Event,(⟨a5.Bq,(([]:List Int)++a5.Payload)⟩:Aw),Me,0,BP⟩:Am)]).length) 160) ( .chk (kL (a1++[(⟨1,a2.Event,(⟨a5.Bq,(([]:List Int)++a5.Payload)⟩:Aw),Me,0,BP⟩:Am)])) ( AO (.b11 (a1++[(⟨1,a2.Event,(⟨a5.Bq,(([]:List Int)++a5.Payload)⟩:Aw),Me,0,BP⟩:Am)]) a2 a3 a4)))))))))
 | .b11 a0 a1 a2 a3=>.br (a3.MD==1) ( .chk (kL a0) ( AA (a1,a0,true))) ( .chk (kL a0) ( AA (a1,a0,a1.More)))
def lH (a0:A8) (a1:List Int) (a2:Bool) (a3:Int):Option (A8×(List Am)×Bool):=AV Z84 (.b0 a0 a1 a2 a3)
def kM:Lay:=⟨[1,3,4,8],[[.s 5 1],KP,KP,KP],[.var k2,.var k2],⟨[OV 62,OV 3,PQ 0,PQ 1],[VA 44 66,VA 44 66]⟩⟩
def kP:Lay:=⟨[3,4,8,14,15],[KP,KP,KP,KP,KP],[.var k2,.var k2,.var k4],⟨[OV 3,PQ 0,PQ 1,PQ 2,OV 4],[VA 44 66,VA 44 66,VA 70 5]⟩⟩
def Pz:Lay:=⟨[3,4,8,14,15,20],[KP,KP,KP,KP,KP,KP],[.var k2,.var k2,.var k4,.var [.keep,.s 5 1]],⟨[OV 3,PQ 0,PQ 1,PQ 2,OV 4,PQ 3],[VA 44 66,VA 44 66,VA 70 5,VA 68 2]⟩⟩
def Z74:Lay:=⟨[3,4,8,14,15,22,23,25],[KP,KP,KP,KP,KP,KP,KP,[.own 148 18]],[.var k2,.var k2,.var k4,.var [.keep,.s 5 1],.row true],⟨[OV 3,PQ 0,PQ 1,PQ 2,OV 4,PQ 3,OV 4,.one (.own 148 4)],[VA 44 66,VA 44 66,VA 70 5,VA 68 2,.row 148 true]⟩⟩
def Z6I:Lay:=⟨[3,4,8,14,22,25],[KP,KP,KP,KP,KP,[.own 148 18]],[.var k2,.var k2,.var k4,.var [.keep,.s 5 1],.row true],⟨[OV 3,PQ 0,PQ 1,PQ 2,PQ 3,.one (.own 148 4)],[VA 44 66,VA 44 66,VA 70 5,VA 68 2,.row 148 true]⟩⟩
def Z6z:Lay:=⟨[4,8,14,25],[KP,KP,KP,[.own 148 18]],[.var k2,.var k2,.var k4,.row true],⟨[PQ 0,PQ 1,PQ 2,.one (.own 148 3)],[VA 44 66,VA 44 66,VA 70 5,.row 148 true]⟩⟩
def ZmE:Nat->Option Lay
 | 5=>some kM
 | 6=>some kM
 | 17=>some kP
 | 23=>some kP
 | 25=>some Pz
 | 26=>some Pz
 | 27=>some Pz
 | 28=>some Pz
 | 36=>some Z74
 | 39=>some Z6I
 | 44=>some Z6z
 | _=>none
def Zlx:XF->Ac U
 | .b0 a0 a1 a2 a3=>Ai Tryz.f35 [44,62,4,3] (a0,a1,a2,a3,())
 | .b1 a0 a1 a2 a3=>AA3 Tryz.f35 [1,1,1,0,1,0] kM (a0,a1,a2,a3,())
 | .b2 a0 a1 a2 a3=>AA3 Tryz.f35 [1,1,1,1,0] kM (a0,a1,a2,a3,())
 | .b3 a0 a1 a2 a3 a4=>AA3 Tryz.f35 [1,1,1,1,1,1,1,1,1,1,1,1,0,0] kP (a0,a1,a2,a3,a4,())
 | .b4 a0 a1 a2 a3 a4=>AA3 Tryz.f35 [1,1,1,1,1,1,1,1,1,1,1,1,1,0] kP (a0,a1,a2,a3,a4,())
 | .b5 a0 a1 a2 a3 a4 a5=>AA3 Tryz.f35 [1,1,1,1,1,1,1,1,1,1,1,1,1,1,0,1,0] Pz (a0,a1,a2,a3,a4,a5,())
 | .b6 a0 a1 a2 a3 a4 a5=>AA3 Tryz.f35 [1,1,1,1,1,1,1,1,1,1,1,1,1,1,1,0,0] Pz (a0,a1,a2,a3,a4,a5,())
 | .b7 a0 a1 a2 a3 a4 a5=>AA3 Tryz.f35 [1,1,1,1,1,1,1,1,1,1,1,1,1,1,1,0,1,0] Pz (a0,a1,a2,a3,a4,a5,())
 | .b8 a0 a1 a2 a3 a4 a5=>AA3 Tryz.f35 [1,1,1,1,1,1,1,1,1,1,1,1,1,1,1,1,0] Pz (a0,a1,a2,a3,a4,a5,())
 | .b9 a0 a1 a2 a3 a4 a5 a6 a7=>AA3 Tryz.f35 [1,1,1,1,1,1,1,1,1,1,1,1,1,1,1,1,1,1,1,1,0,0] Z74 (a0,a1,a2,a4,a5,a6,a7,a3,())
 | .b10 a0 a1 a2 a3 a4 a5=>AA3 Tryz.f35 [1,1,1,1,1,1,1,1,1,1,1,1,1,1,1,1,1,1,1,1,0,1,0,1,0] Z6I (a0,a2,a3,a4,a5,a1,())
 | .b11 a0 a1 a2 a3=>AA3 Tryz.f35 [1,1,1,1,1,1,1,1,1,1,1,1,1,1,1,1,1,1,1,1,1,0] Z6z (a1,a2,a3,a0,())
theorem ZlA:AA1 35 [44,62,4,3] 86 (fun x=>lH x.1 x.2.1 x.2.2.1 x.2.2.2.1) rfl:=Aj (mc ZB (mc Z8a (mc Zb9 (mc ZoC (mc Zn6 (mc mG (mc ZtV (mc Zsl (mc Zob (mc Zaf (mc ZlN Ag))))))))))) (hc [] Z9v Ah) ZmE Zlx Tryz.func35 (fun p=>by cases p<;>kernel_rfl) (by kernel_rfl) fun _=>rfl
inductive Vy where
 | b0 (a0:Eg) (a1:CS) (a2:Int) (a3:Bool) (a4:Int)
 | b1 (a0:Int) (a1:Bool) (a2 a3:Int) (a4:Eg) (a5 a6:CS)
 | b2 (a0:Int) (a1:Bool) (a2 a3:Int) (a4:Eg) (a5 a6:CS)
 | b3 (a0:Int) (a1:Bool) (a2:Int) (a3:Eg) (a4 a5:CS)
 | b4 (a0:Int) (a1:Bool) (a2 a3:Int) (a4:Eg) (a5 a6:CS)
 | b5 (a0:Int) (a1:Bool) (a2 a3:Int) (a4:Eg) (a5 a6:CS) (a7:Gh)
 | b6 (a0:Int) (a1:Bool) (a2 a3:Int) (a4:Bool) (a5:Int) (a6:Eg) (a7 a8:CS)
 | b7 (a0:Int) (a1 a2:CS)
 | b8 (a0:Int) (a1:Bool) (a2 a3:Int) (a4:Bool) (a5:Int) (a6:Eg) (a7 a8:CS)
 | b9 (a0:Int) (a1:Bool) (a2:Int) (a3 a4:CS)
 | b10 (a0:Int) (a1:Bool) (a2 a3:Int) (a4:Bool) (a5 a6:Int) (a7:List Int) (a8:Eg) (a9 a10:CS)
 | b11 (a0:Int) (a1 a2:CS)
 | b12 (a0:Int) (a1 a2:CS)
 | b13 (a0:Int) (a1:Bool) (a2 a3:Int) (a4:Bool) (a5 a6:Int) (a7:List Am) (a8:Bool) (a9:Int) (a10:Eg) (a11 a12:CS)
 | b14 (a0 a1:Int) (a2 a3:CS)
 | b15 (a0:Int) (a1:Bool) (a2 a3:Int) (a4:Bool) (a5 a6:Int) (a7:List Am) (a8:Bool) (a9:Int) (a10:Eg) (a11 a12:CS)
 | b16 (a0:Int) (a1:Bool) (a2 a3:Int) (a4:Bool) (a5 a6:Int) (a7:List Am) (a8:Bool) (a9:Int) (a10:Eg) (a11 a12:CS)
 | b17 (a0:Int) (a1:Bool) (a2 a3:Int) (a4:Bool) (a5:Int) (a6:Eg) (a7 a8:CS)
def Z64:Vy->Tr U ((CS×Int)⊕Vy)
 | .b0 a0 a1 a2 a3 a4=>AO (.b1 a2 a3 a4 (0:Int) a0 a1 (⟨Dp,Dp⟩:CS))
 | .b1 a0 a1 a2 a3 a4 a5 a6=>.br (decide (a3<(↑a4.Qw.length:Int))) ( .br (decide (a3<8)) ( AO (.b2 a0 a1 a2 a3 a4 a5 a6)) ( AO (.b3 a0 a1 a2 a4 a5 a6))) ( AO (.b3 a0 a1 a2 a4 a5 a6))
 | .b2 a0 a1 a2 a3 a4 a5 a6=>.chk (decide (0<=a3/\a3<(↑a4.Qw.length:Int))) ( .bind 83 (a4.Qw[(Int.toNat a3)]?) (fun(x1:Gh)=>.br (x1.Side != 0) ( .br (x1.Side != 1) ( AO (.b4 a0 a1 a2 a3 a4 a5 a6)) ( .br (decide ((↑x1.BG.Payload.length:Int)>300)) ( AO (.b4 a0 a1 a2 a3 a4 a5 a6)) ( AO (.b5 a0 a1 a2 a3 a4 a5 a6 x1)))) ( .br (decide ((↑x1.BG.Payload.length:Int)>300)) ( AO (.b4 a0 a1 a2 a3 a4 a5 a6)) ( AO (.b5 a0 a1 a2 a3 a4 a5 a6 x1)))))
 | .b3 a0 a1 a2 a3 a4 a5=>.bind 4 (UN a4.x1) (fun(x1:Bool)=>AO (.b6 a0 a1 a2 (if (if (6:Int)<a3.V6 then (6:Int) else a3.V6)>1 then (if (6:Int)<a3.V6 then (6:Int) else a3.V6) else (1:Int)) x1 (0:Int) a3 a4 a5))
 | .b4 a0 a1 a2 a3 a4 a5 a6=>AO (.b1 a0 a1 a2 (AP (a3+1)) a4 a5 a6)
 | .b5 a0 a1 a2 a3 a4 a5 a6 a7=>.br (a7.Side==0) ( .bind 46 (eG a5.x0 a7 a0) (fun(x2:A8×Int)=>.br (a7.Side==0) ( AO (.b4 a0 a1 a2 a3 a4 (⟨x2.1,a5.x1⟩:CS) a6)) ( .br (a7.Side==1) ( AO (.b4 a0 a1 a2 a3 a4 (⟨a5.x0,x2.1⟩:CS) a6)) ( .fail)))) ( .br (a7.Side==1) ( .bind 46 (eG a5.x1 a7 a0) (fun(x1:A8×Int)=>.br (a7.Side==0) ( AO (.b4 a0 a1 a2 a3 a4 (⟨x1.1,a5.x1⟩:CS) a6)) ( .br (a7.Side==1) ( AO (.b4 a0 a1 a2 a3 a4 (⟨a5.x0,x1.1⟩:CS) a6)) ( .fail)))) ( .fail))
 | .b6 a0 a1 a2 a3 a4 a5 a6 a7 a8=>.br (decide (a5<a3)) ( .br a1 ( .br (decide (a2>=0)) ( .br (decide (a5>=a2)) ( AO (.b7 a0 a7 a8)) ( AO (.b8 a0 a1 a2 a3 a4 a5 a6 a7 a8))) ( AO (.b8 a0 a1 a2 a3 a4 a5 a6 a7 a8))) ( AO (.b8 a0 a1 a2 a3 a4 a5 a6 a7 a8))) ( AO (.b9 a0 a1 a2 a7 a8))
 | .b7 a0 a1 a2=>AA (a1,a0)
 | .b8 a0 a1 a2 a3 a4 a5 a6 a7 a8=>.br ((Int.tmod a5 2)==0) ( .bind 63 (UZ a7.x0) (fun(x2:A8×(List Int))=>.br ((Int.tmod a5 2)==0) ( .br ((↑x2.2.length:Int)==0) ( AO (.b9 a0 a1 a2 (⟨x2.1,a7.x1⟩:CS) a8)) ( .chk (decide (0<=(IntKind.wrap .u64 (a5)))) ( .br ((bits .and .i64 (Int.fdiv a6.Vg (2 ^ (min (Int.toNat (IntKind.wrap .u64 (a5))) (IntKind.bits .i64)))) (1:Int))==1) ( AO (.b9 a0 a1 a2 (⟨x2.1,a7.x1⟩:CS) a8)) ( .br a4 ( AO (.b9 a0 a1 a2 (⟨x2.1,a7.x1⟩:CS) a8)) ( AO (.b10 a0 a1 a2 a3 a4 a5 (AP ((1:Int) - (Int.tmod a5 2))) x2.2 a6 (⟨x2.1,a7.x1⟩:CS) a8)))))) ( .br ((Int.tmod a5 2)==1) ( .br ((↑x2.2.length:Int)==0) ( AO (.b9 a0 a1 a2 (⟨a7.x0,x2.1⟩:CS) a8)) ( .chk (decide (0<=(IntKind.wrap .u64 (a5)))) ( .br ((bits .and .i64 (Int.fdiv a6.Vg (2 ^ (min (Int.toNat (IntKind.wrap .u64 (a5))) (IntKind.bits .i64)))) (1:Int))==1) ( AO (.b9 a0 a1 a2 (⟨a7.x0,x2.1⟩:CS) a8)) ( .br a4 ( AO (.b9 a0 a1 a2 (⟨a7.x0,x2.1⟩:CS) a8)) ( AO (.b10 a0 a1 a2 a3 a4 a5 (AP ((1:Int) - (Int.tmod a5 2))) x2.2 a6 (⟨a7.x0,x2.1⟩:CS) a8)))))) ( .fail)))) ( .br ((Int.tmod a5 2)==1) ( .bind 63 (UZ a7.x1) (fun(x1:A8×(List Int))=>.br ((Int.tmod a5 2)==0) ( .br ((↑x1.2.length:Int)==0) ( AO (.b9 a0 a1 a2 (⟨x1.1,a7.x1⟩:CS) a8)) ( .chk (decide (0<=(IntKind.wrap .u64 (a5)))) ( .br ((bits .and .i64 (Int.fdiv a6.Vg (2 ^ (min (Int.toNat (IntKind.wrap .u64 (a5))) (IntKind.bits .i64)))) (1:Int))==1) ( AO (.b9 a0 a1 a2 (⟨x1.1,a7.x1⟩:CS) a8)) ( .br a4 ( AO (.b9 a0 a1 a2 (⟨x1.1,a7.x1⟩:CS) a8)) ( AO (.b10 a0 a1 a2 a3 a4 a5 (AP ((1:Int) - (Int.tmod a5 2))) x1.2 a6 (⟨x1.1,a7.x1⟩:CS) a8)))))) ( .br ((Int.tmod a5 2)==1) ( .br ((↑x1.2.length:Int)==0) ( AO (.b9 a0 a1 a2 (⟨a7.x0,x1.1⟩:CS) a8)) ( .chk (decide (0<=(IntKind.wrap .u64 (a5)))) ( .br ((bits .and .i64 (Int.fdiv a6.Vg (2 ^ (min (Int.toNat (IntKind.wrap .u64 (a5))) (IntKind.bits .i64)))) (1:Int))==1) ( AO (.b9 a0 a1 a2 (⟨a7.x0,x1.1⟩:CS) a8)) ( .br a4 ( AO (.b9 a0 a1 a2 (⟨a7.x0,x1.1⟩:CS) a8)) ( AO (.b10 a0 a1 a2 a3 a4 a5 (AP ((1:Int) - (Int.tmod a5 2))) x1.2 a6 (⟨a7.x0,x1.1⟩:CS) a8)))))) ( .fail)))) ( .fail))
 | .b9 a0 a1 a2 a3 a4=>.br a1 ( .br (decide (a2>=0)) ( AO (.b11 a0 a3 a4)) ( AO (.b12 a0 a3 a4))) ( AO (.b12 a0 a3 a4))
 | .b10 a0 a1 a2 a3 a4 a5 a6 a7 a8 a9 a10=>.br (a6==0) ( .bind 86 (lH a9.x0 a7 (a5==0) a0) (fun(x2:A8×(List Am)×Bool)=>.br (a6==0) ( AO (.b13 a0 a1 a2 a3 a4 a5 a6 x2.2.1 x2.2.2 (0:Int) a8 (⟨x2.1,a9.x1⟩:CS) a10)) ( .br (a6==1) ( AO (.b13 a0 a1 a2 a3 a4 a5 a6 x2.2.1 x2.2.2 (0:Int) a8 (⟨a9.x0,x2.1⟩:CS) a10)) ( .fail)))) ( .br (a6==1) ( .bind 86 (lH a9.x1 a7 (a5==0) a0) (fun(x1:A8×(List Am)×Bool)=>.br (a6==0) ( AO (.b13 a0 a1 a2 a3 a4 a5 a6 x1.2.1 x1.2.2 (0:Int) a8 (⟨x1.1,a9.x1⟩:CS) a10)) ( .br (a6==1) ( AO (.b13 a0 a1 a2 a3 a4 a5 a6 x1.2.1 x1.2.2 (0:Int) a8 (⟨a9.x0,x1.1⟩:CS) a10)) ( .fail)))) ( .fail))
 | .b11 a0 a1 a2=>AA (a1,a0)
 | .b12 a0 a1 a2=>AO (.b14 a0 (0:Int) a1 a2)
 | .b13 a0 a1 a2 a3 a4 a5 a6 a7 a8 a9 a10 a11 a12=>.br (decide (a9<(↑a7.length:Int))) ( .chk (decide (0<=a9/\a9<(↑a7.length:Int))) ( .bind 148 (a7[(Int.toNat a9)]?) (fun(x1:Am)=>.br (x1.Kind==8) ( .br (a6==1) ( AO (.b15 a0 a1 a2 a3 a4 a5 a6 a7 a8 a9 a10 a11 a12)) ( AO (.b16 a0 a1 a2 a3 a4 a5 a6 a7 a8 a9 a10 a11 a12))) ( AO (.b16 a0 a1 a2 a3 a4 a5 a6 a7 a8 a9 a10 a11 a12))))) ( .br (decide (a5>0)) ( .br (!a8) ( AO (.b9 (AP (a0+500)) a1 a2 a11 a12)) ( .br (a5==0) ( .br (!a11.x1.Good) ( AO (.b9 (AP (a0+500)) a1 a2 a11 a12)) ( AO (.b17 (AP (a0+500)) a1 a2 a3 a4 a5 a10 a11 a12))) ( AO (.b17 (AP (a0+500)) a1 a2 a3 a4 a5 a10 a11 a12)))) ( .br (a5==0) ( .br (!a11.x1.Good) ( AO (.b9 (AP (a0+500)) a1 a2 a11 a12)) ( AO (.b17 (AP (a0+500)) a1 a2 a3 a4 a5 a10 a11 a12))) ( AO (.b17 (AP (a0+500)) a1 a2 a3 a4 a5 a10 a11 a12))))
 | .b14 a0 a1 a2 a3=>.br (decide (a1<2)) ( .br (a1==0) ( .bind 78 (nK a2.x0 a0) (fun(x2:A8×(List Am))=>.br (a1==0) ( AO (.b14 a0 (AP (a1+1)) (⟨x2.1,a2.x1⟩:CS) a3)) ( .br (a1==1) ( AO (.b14 a0 (AP (a1+1)) (⟨a2.x0,x2.1⟩:CS) a3)) ( .fail)))) ( .br (a1==1) ( .bind 78 (nK a2.x1 a0) (fun(x1:A8×(List Am))=>.br (a1==0) ( AO (.b14 a0 (AP (a1+1)) (⟨x1.1,a2.x1⟩:CS) a3)) ( .br (a1==1) ( AO (.b14 a0 (AP (a1+1)) (⟨a2.x0,x1.1⟩:CS) a3)) ( .fail)))) ( .fail))) ( AA (a2,a0))
 | .b15 a0 a1 a2 a3 a4 a5 a6 a7 a8 a9 a10 a11 a12=>.bind 46 (eG a11.x1 (⟨0,10,(⟨0,[]⟩:Aw),BP,0,0,a11.x1.Key⟩:Gh) a0) (fun(x1:A8×Int)=>AO (.b16 a0 a1 a2 a3 a4 a5 a6 a7 a8 a9 a10 (⟨a11.x0,x1.1⟩:CS) a12))
 | .b16 a0 a1 a2 a3 a4 a5 a6 a7 a8 a9 a10 a11 a12=>AO (.b13 a0 a1 a2 a3 a4 a5 a6 a7 a8 (AP (a9+1)) a10 a11 a12)
 | .b17 a0 a1 a2 a3 a4 a5 a6 a7 a8=>AO (.b6 a0 a1 a2 a3 a4 (AP (a5+1)) a6 a7 a8)
def xR (a0:Eg) (a1:CS) (a2:Int) (a3:Bool) (a4:Int):Option (CS×Int):=AV Z64 (.b0 a0 a1 a2 a3 a4)
def TJ:Lay:=⟨[2,3,4,5,6,10,12],[KP,KP,KP,KP,KP,KP,KP],[.var [.s 83 12,.keep,.keep],.var k5,.var k5],⟨[OV 3,OV 4,OV 3,PQ 0,PQ 1,PQ 2,OV 3],[VA 113 3,VA 109 132,VA 109 132]⟩⟩
def Z5o:Lay:=⟨[2,3,4,5,6,10],[KP,KP,KP,KP,KP,KP],[.var [.s 83 12,.keep,.keep],.var k5,.var k5],⟨[OV 3,OV 4,OV 3,PQ 0,PQ 1,PQ 2],[VA 113 3,VA 109 132,VA 109 132]⟩⟩
def Z5h:Lay:=⟨[2,3,4,5,6,10,12,13],[KP,KP,KP,KP,KP,KP,KP,KP],[.var [.s 83 12,.keep,.keep],.var k5,.var k5,.var [.keep,.keep,.keep,.s 5 1,.keep,.keep,.keep,.keep,.keep,.keep,.keep,.keep]],⟨[OV 3,OV 4,OV 3,PQ 0,PQ 1,PQ 2,OV 3,PQ 3],[VA 113 3,VA 109 132,VA 109 132,VA 83 12]⟩⟩
def TM:Lay:=⟨[2,3,4,5,6,10,16,17,18],[KP,KP,KP,KP,KP,KP,KP,KP,KP],[.var [.s 83 12,.keep,.keep],.var k5,.var k5],⟨[OV 3,OV 4,OV 3,PQ 0,PQ 1,PQ 2,OV 3,OV 4,OV 3],[VA 113 3,VA 109 132,VA 109 132]⟩⟩
def TK:Lay:=⟨[2,6,10],[KP,KP,KP],[.var k5,.var k5],⟨[OV 3,PQ 0,PQ 1],[VA 109 132,VA 109 132]⟩⟩
def Z5i:Lay:=⟨[2,3,4,6,10],[KP,KP,KP,KP,KP],[.var k5,.var k5],⟨[OV 3,OV 4,OV 3,PQ 0,PQ 1],[VA 109 132,VA 109 132]⟩⟩
def Z5c:Lay:=⟨[2,3,4,5,6,10,16,17,18,20,22],[KP,KP,KP,KP,KP,KP,KP,KP,KP,KP,[.s 5 1]],[.var [.s 83 12,.keep,.keep],.var k5,.var k5],⟨[OV 3,OV 4,OV 3,PQ 0,PQ 1,PQ 2,OV 3,OV 4,OV 3,OV 3,OV 62],[VA 113 3,VA 109 132,VA 109 132]⟩⟩
def TG:Lay:=⟨[2,3,4,5,6,10,16,17,18,20,24,25,26],[KP,KP,KP,KP,KP,KP,KP,KP,KP,KP,[.s 148 18],KP,KP],[.var [.s 83 12,.keep,.keep],.var k5,.var k5],⟨[OV 3,OV 4,OV 3,PQ 0,PQ 1,PQ 2,OV 3,OV 4,OV 3,OV 3,OV 77,OV 4,OV 3],[VA 113 3,VA 109 132,VA 109 132]⟩⟩
def Z5a:Lay:=⟨[2,6,10,29],[KP,KP,KP,KP],[.var k5,.var k5],⟨[OV 3,PQ 0,PQ 1,OV 3],[VA 109 132,VA 109 132]⟩⟩
def ZhE:Nat->Option Lay
 | 2=>some TJ
 | 4=>some TJ
 | 8=>some Z5o
 | 3=>some TJ
 | 6=>some Z5h
 | 11=>some TM
 | 14=>some TK
 | 15=>some TM
 | 29=>some Z5i
 | 19=>some Z5c
 | 30=>some TK
 | 31=>some TK
 | 22=>some TG
 | 32=>some Z5a
 | 25=>some TG
 | 23=>some TG
 | 12=>some TM
 | _=>none
def ZgZ:Vy->Ac U
 | .b0 a0 a1 a2 a3 a4=>Ai Tryz.f61 [113,109,3,4,3] (a0,a1,a2,a3,a4,())
 | .b1 a0 a1 a2 a3 a4 a5 a6=>AA3 Tryz.f61 [1,0,1,0,0,0,0] TJ (a0,a1,a2,a3,a4,a5,a6,())
 | .b2 a0 a1 a2 a3 a4 a5 a6=>AA3 Tryz.f61 [1,0,1,0,0,1,0,0,0] TJ (a0,a1,a2,a3,a4,a5,a6,())
 | .b3 a0 a1 a2 a3 a4 a5=>AA3 Tryz.f61 [1,1,0] Z5o (a0,a1,a2,a3,a4,a5,())
 | .b4 a0 a1 a2 a3 a4 a5 a6=>AA3 Tryz.f61 [1,0,1,0,0,1,1] TJ (a0,a1,a2,a3,a4,a5,a6,())
 | .b5 a0 a1 a2 a3 a4 a5 a6 a7=>AA3 Tryz.f61 [1,0,1,0,0,1,0,0,1,1,0] Z5h (a0,a1,a2,a3,a4,a5,a6,a7,())
 | .b6 a0 a1 a2 a3 a4 a5 a6 a7 a8=>AA3 Tryz.f61 [1,1,1,1,0,1,0,0,0,0] TM (a0,a1,a2,a3,a4,a5,a6,a7,a8,())
 | .b7 a0 a1 a2=>AA3 Tryz.f61 [1,1,1,1,0,1,0,0,1,0,0,0,1,0,0] TK (a0,a1,a2,())
 | .b8 a0 a1 a2 a3 a4 a5 a6 a7 a8=>AA3 Tryz.f61 [1,1,1,1,0,1,0,0,1,0,0,1,0] TM (a0,a1,a2,a3,a4,a5,a6,a7,a8,())
 | .b9 a0 a1 a2 a3 a4=>AA3 Tryz.f61 [1,1,1,1,1,0,0] Z5i (a0,a1,a2,a3,a4,())
 | .b10 a0 a1 a2 a3 a4 a5 a6 a7 a8 a9 a10=>AA3 Tryz.f61 [1,1,1,1,0,1,0,0,1,0,0,1,1,1,1,1,0] Z5c (a0,a1,a2,a3,a4,a5,a6,a7,a8,a9,a10,())
 | .b11 a0 a1 a2=>AA3 Tryz.f61 [1,1,1,1,1,0,1,0,0] TK (a0,a1,a2,())
 | .b12 a0 a1 a2=>AA3 Tryz.f61 [1,1,1,1,1,1,0,0] TK (a0,a1,a2,())
 | .b13 a0 a1 a2 a3 a4 a5 a6 a7 a8 a9 a10 a11 a12=>AA3 Tryz.f61 [1,1,1,1,0,1,0,0,1,0,0,1,1,1,1,1,1,1,0,1,0,0,0,0] TG (a0,a1,a2,a3,a4,a5,a6,a7,a8,a9,a10,a11,a12,())
 | .b14 a0 a1 a2 a3=>AA3 Tryz.f61 [1,1,1,1,1,1,0,1,0,0,0,0] Z5a (a0,a1,a2,a3,())
 | .b15 a0 a1 a2 a3 a4 a5 a6 a7 a8 a9 a10 a11 a12=>AA3 Tryz.f61 [1,1,1,1,0,1,0,0,1,0,0,1,1,1,1,1,1,1,0,1,0,0,1,0,0,1,0,0] TG (a0,a1,a2,a3,a4,a5,a6,a7,a8,a9,a10,a11,a12,())
 | .b16 a0 a1 a2 a3 a4 a5 a6 a7 a8 a9 a10 a11 a12=>AA3 Tryz.f61 [1,1,1,1,0,1,0,0,1,0,0,1,1,1,1,1,1,1,0,1,0,0,1,1] TG (a0,a1,a2,a3,a4,a5,a6,a7,a8,a9,a10,a11,a12,())
 | .b17 a0 a1 a2 a3 a4 a5 a6 a7 a8=>AA3 Tryz.f61 [1,1,1,1,0,1,0,0,1,1] TM (a0,a1,a2,a3,a4,a5,a6,a7,a8,())
theorem ZgC:AA1 61 [113,109,3,4,3] 110 (fun x=>xR x.1 x.2.1 x.2.2.1 x.2.2.2.1 x.2.2.2.2.1) rfl:=Aj (mc Z0k (mc ZaO (mc Zpq (mc ZzT (mc ZlA Ag))))) Ah ZhE ZgZ Tryz.func61 (fun p=>by cases p<;>kernel_rfl) (by kernel_rfl) fun _=>rfl
inductive WZ where
 | b0 (a0:Il)
 | b1 (a0:A8)
 | b2 (a0:Il) (a1:A8)
 | b3 (a0:Int) (a1:Il) (a2:A8) (a3:CS)
 | b4 (a0 a1:Int) (a2:Il) (a3:A8) (a4:CS)
def Z6K:WZ->Tr U ((A8×Int×Bool)⊕WZ)
 | .b0 a0=>.br (decide ((↑a0.Events.length:Int)>60)) ( AO (.b1 Dp)) ( .br (a0.Bl != 0) ( .br (a0.Bl != 1) ( AO (.b1 Dp)) ( AO (.b2 a0 Dp))) ( AO (.b2 a0 Dp)))
 | .b1 a0=>AA (Dp,0,false)
 | .b2 a0 a1=>AO (.b3 (0:Int) a0 a1 (⟨Dp,Dp⟩:CS))
 | .b3 a0 a1 a2 a3=>.br (decide (a0<2)) ( .br (a0==0) ( .bind 46 (qH a0 a1.Ce (0:Int) a1.Keys.x0 (IntKind.wrap .u64 (a1.I4+(IntKind.wrap .u64 (a0)))) (0:Int)) (fun(x2:A8×Int)=>.br (x2.2 != 0) ( AA (Dp,0,false)) ( .br (a0==0) ( AO (.b3 (AP (a0+1)) a1 a2 (⟨x2.1,a3.x1⟩:CS))) ( .br (a0==1) ( AO (.b3 (AP (a0+1)) a1 a2 (⟨a3.x0,x2.1⟩:CS))) ( .fail))))) ( .br (a0==1) ( .bind 46 (qH a0 a1.Ce (0:Int) a1.Keys.x1 (IntKind.wrap .u64 (a1.I4+(IntKind.wrap .u64 (a0)))) (0:Int)) (fun(x1:A8×Int)=>.br (x1.2 != 0) ( AA (Dp,0,false)) ( .br (a0==0) ( AO (.b3 (AP (a0+1)) a1 a2 (⟨x1.1,a3.x1⟩:CS))) ( .br (a0==1) ( AO (.b3 (AP (a0+1)) a1 a2 (⟨a3.x0,x1.1⟩:CS))) ( .fail))))) ( .fail))) ( AO (.b4 (0:Int) (0:Int) a1 a2 a3))
 | .b4 a0 a1 a2 a3 a4=>.br (decide (a1<(↑a2.Events.length:Int))) ( .chk (decide (0<=a1/\a1<(↑a2.Events.length:Int))) ( .bind 113 (a2.Events[(Int.toNat a1)]?) (fun(x1:Eg)=>.bind 110 (xR x1 a4 (if a4.x0.Ed>a0 then a4.x0.Ed else a0) (a1==(AP ((↑a2.Events.length:Int) - 1))) a2.BG) (fun(x2:CS×Int)=>AO (.b4 x2.2 (AP (a1+1)) a2 a3 (⟨x2.1.x0,x2.1.x1⟩:CS)))))) ( .br (a2.Bl==0) ( AA (a4.x0,a0,true)) ( .br (a2.Bl==1) ( AA (a4.x1,a0,true)) ( .fail)))
def Zb (a0:Il):Option (A8×Int×Bool):=AV Z6K (.b0 a0)
def Z60:Lay:=⟨[2],[KP],[.var k2],⟨[PQ 0],[VA 44 66]⟩⟩
def Z6c:Lay:=⟨[1,2],[KP,KP],[.var k11,.var k2],⟨[PQ 0,PQ 1],[VA 59 17,VA 44 66]⟩⟩
def Z68:Lay:=⟨[1,2,5,6],[KP,KP,KP,KP],[.var k11,.var k2,.var k5],⟨[PQ 0,PQ 1,PQ 2,OV 3],[VA 59 17,VA 44 66,VA 109 132]⟩⟩
def Z5S:Lay:=⟨[1,2,5,9,10],[KP,KP,KP,KP,KP],[.var k11,.var k2,.var k5],⟨[PQ 0,PQ 1,PQ 2,OV 3,OV 3],[VA 59 17,VA 44 66,VA 109 132]⟩⟩
def Zk4:Nat->Option Lay
 | 2=>some Z60
 | 3=>some Z6c
 | 5=>some Z68
 | 13=>some Z5S
 | _=>none
def ZiN:WZ->Ac U
 | .b0 a0=>Ai Tryz.f21 [59] (a0,())
 | .b1 a0=>AA3 Tryz.f21 [1,0,1,0,0] Z60 (a0,())
 | .b2 a0 a1=>AA3 Tryz.f21 [1,1,0] Z6c (a0,a1,())
 | .b3 a0 a1 a2 a3=>AA3 Tryz.f21 [1,1,1,0,1,0,0,0,0] Z68 (a0,a1,a2,a3,())
 | .b4 a0 a1 a2 a3 a4=>AA3 Tryz.f21 [1,1,1,1,1,0,1,0,0,0,0] Z5S (a0,a1,a2,a3,a4,())
theorem Zju:AA1 21 [59] 60 (fun x=>Zb x.1) rfl:=Aj (mc Zxc (mc ZgC Ag)) Ah Zk4 ZiN Tryz.func21 (fun p=>by cases p<;>kernel_rfl) (by kernel_rfl) fun _=>rfl
end
noncomputable section
inductive Z0T where
 | b0 (a0:Aw)
def Z9X:Z0T->Tr U (Aw⊕Z0T)
 | .b0 a0=>.bind 1344 (N9 a0.Payload) (fun(y1:RD)=>.chk (kL y1.q0) ( AA (⟨a0.Bq,y1.q0⟩:Aw)))
def YC (a0:Aw):Option Aw:=AV Z9X (.b0 a0)
def ZpD:Z0T->Ac U
 | .b0 a0=>Ai Tryz.f79 [68] (a0,())
theorem Z0v:AA1 79 [68] 68 (fun x=>YC x.1) rfl:=Aj Ag (hc [] wK Ah) AN ZpD Tryz.func79 (fun p=>by cases p<;>kernel_rfl) (by kernel_rfl) fun _=>rfl
inductive Z2G where
 | b0 (a0:BU)
 | b1 (a0 a1:List Aw) (a2 a3:Int) (a4 a5:BU)
def bG:Z2G->Tr U (Rh⊕Z2G)
 | .b0 a0=>.chk (decide (0<=(0:Int)/\(0:Int)<=(↑a0.Az.length:Int)/\Int.toNat (↑a0.Az.length:Int)*32<=lim/\(↑a0.Az.length:Int)<=(↑maxLen:Int))) ( .chk (((List.replicate (Int.toNat 0) ((⟨0,[]⟩:Aw):Aw)).length==(List.replicate (Int.toNat 0) ((⟨0,[]⟩:Aw):Aw)).length)&&(([]:List Aw).length==0)) ( AO (.b1 (List.replicate (Int.toNat 0) ((⟨0,[]⟩:Aw):Aw)) a0.Az (↑a0.Az.length:Int) (0:Int) a0 Jc)))
 | .b1 a0 a1 a2 a3 a4 a5=>.br (decide (a3<a2)) ( .chk (decide (0<=a3/\a3<(↑a1.length:Int))) ( .bind 68 (a1[(Int.toNat a3)]?) (fun(x1:Aw)=>.bind 68 (YC x1) (fun(x2:Aw)=>.chk (([x2]).length==1) ( .chk (kL a0) ( .chk (kA (a0.length+([x2]).length) 32) ( .chk (kL (a0++[x2])&&kL a5.Az) ( AO (.b1 (a0++[x2]) a1 a2 (AP (a3+1)) a4 a5))))))))) ( .chk (kL a0) ( AA (⟨({ a4 with Az:=a0 }:BU)⟩:Rh)))
def qJ (a0:BU):Option Rh:=AV bG (.b0 a0)
def Z9K:Shape:=⟨[.agg [.v 33 7 true]],[]⟩
def Zq8:Shape:=⟨[(Vl 0)],[.row 68 true]⟩
noncomputable def ZxS:HMod U:=⟨[k6],[],Z9K,Zq8,true,1355,fun(y:Rh)=>(((TC y.q0),()),(y.q0.Az,())),fun x=>qJ x.1.1.1,okS rfl⟩
def Zao:Lay:=⟨[1,2,3,11,12,13],[KP,KP,[.own 68 2],[.s 68 2],KP,KP],[.var k6,.var k8,.row true,.row true],⟨[PQ 0,PQ 1,.one (.own 68 2),OV 31,OV 3,OV 3],[VA 33 7,.var 33 7 (Vl 3),.row 68 true,.row 68 true]⟩⟩
def Zzl:Nat->Option Lay
 | 3=>some Zao
 | _=>none
def Zul:Z2G->Ac U
 | .b0 a0=>Fe Tryz.f78 Z9K (((a0,()),()),())
 | .b1 a0 a1 a2 a3 a4 a5=>Ae Tryz.f78 [1,1,0,1,0,0,0] Zao (((),((),((),((a1,()),((a2,()),((a3,()),())))))),((a4,()),((TC a5),(a0,(a5.Az,())))))
theorem ZbO:Dv Tryz.prog B0 78 ZxS:=okR (mc Z0v Ag) Ah Zzl [k8] [.row true] 0 Zul Tryz.func78 (fun p=>by cases p<;>kernel_rfl) (by kernel_rfl) fun x=>by kernel_rfl
inductive Z1M where
 | b0 (a0:BU)
 | b1 (a0 a1:BU) (a2:BM)
 | b2 (a0:Int) (a1 a2:BU) (a3 a4:BM)
 | b3 (a0:Int) (a1 a2:BU) (a3 a4:BM)
 | b4 (a0 a1:BU) (a2 a3:BM)
def Nq:Z1M->Tr U ((BU×BM)⊕Z1M)
 | .b0 a0=>.bind 1355 (qJ a0) (fun(y1:Rh)=>.br (!y1.q0.Open) ( .chk (kL y1.q0.Az) ( .chk (kL y1.q0.Az) ( AO (.b1 ({ y1.q0 with Open:=true,Empty:=((↑y1.q0.Az.length:Int)==0) }:BU) Jc F8)))) ( .chk (kL y1.q0.Az) ( AO (.b1 y1.q0 Jc F8))))
 | .b1 a0 a1 a2=>.chk (kL a0.Az) ( .br (!a0.Empty) ( .br (decide ((↑a0.Az.length:Int)>0)) ( .chk (kL a0.Az) ( AO (.b2 (↑a0.Az.length:Int) a0 a1 a2 (⟨a0.SN,a0.EF,0,(⟨1,([]:List Int)⟩:Aw)⟩:BM)))) ( .chk (kL a0.Az) ( AO (.b3 (↑a0.Az.length:Int) a0 a1 a2 (⟨a0.SN,a0.EF,0,(⟨1,([]:List Int)⟩:Aw)⟩:BM))))) ( .chk (kL a0.Az) ( AO (.b3 (↑a0.Az.length:Int) a0 a1 a2 (⟨a0.SN,a0.EF,0,(⟨1,([]:List Int)⟩:Aw)⟩:BM)))))
 | .b2 a0 a1 a2 a3 a4=>.chk (kL a1.Az) ( .chk (decide (0<=(0:Int)/\(0:Int)<(↑a1.Az.length:Int))) ( .chk (kL a1.Az) ( .bind 68 (a1.Az[(Int.toNat 0)]?) (fun(x1:Aw)=>.bind 68 (YC x1) (fun(x2:Aw)=>.chk (kL a1.Az) ( AO (.b3 (AP (a0 - 1)) a1 a2 a3 ({ a4 with BG:=x2 }:BM))))))))
 | .b3 a0 a1 a2 a3 a4=>.br (decide (a0>0)) ( .chk (kL a1.Az) ( AO (.b4 a1 a2 a3 ({ a4 with MD:=1 }:BM)))) ( .chk (kL a1.Az) ( AO (.b4 a1 a2 a3 a4)))
 | .b4 a0 a1 a2 a3=>.chk (kL a0.Az) ( AA (a0,a3))
def oK (a0:BU):Option (BU×BM):=AV Nq (.b0 a0)
def Z9a:Lay:=⟨[1,2,3],[KP,KP,KP],[.var k8,.var k6,.var k4,.row true],⟨[PQ 0,PQ 1,PQ 2],[.var 33 7 (Vl 3),VA 33 7,VA 70 5,.row 68 true]⟩⟩
def mP:Lay:=⟨[1,2,3,4,5],[KP,KP,KP,KP,KP],[.var k8,.var k6,.var k4,.var k4,.row true],⟨[PQ 0,PQ 1,PQ 2,PQ 3,OV 3],[.var 33 7 (Vl 4),VA 33 7,VA 70 5,VA 70 5,.row 68 true]⟩⟩
def Z9G:Lay:=⟨[1,2,3,4],[KP,KP,KP,KP],[.var k8,.var k6,.var k4,.var k4,.row true],⟨[PQ 0,PQ 1,PQ 2,PQ 3],[.var 33 7 (Vl 4),VA 33 7,VA 70 5,VA 70 5,.row 68 true]⟩⟩
def ZuY:Nat->Option Lay
 | 5=>some Z9a
 | 8=>some mP
 | 10=>some mP
 | 12=>some Z9G
 | _=>none
def Zsq:Z1M->Ac U
 | .b0 a0=>Ai Tryz.f28 [33] (a0,())
 | .b1 a0 a1 a2=>Ae Tryz.f28 [1,1,1,0] Z9a (((),((),((),()))),((TC a0),((a1,()),((a2,()),(a0.Az,())))))
 | .b2 a0 a1 a2 a3 a4=>Ae Tryz.f28 [1,1,1,1,1,0,1,0,0] mP (((),((),((),((),((a0,()),()))))),((TC a1),((a2,()),((a3,()),((a4,()),(a1.Az,()))))))
 | .b3 a0 a1 a2 a3 a4=>Ae Tryz.f28 [1,1,1,1,1,1,0,0] mP (((),((),((),((),((a0,()),()))))),((TC a1),((a2,()),((a3,()),((a4,()),(a1.Az,()))))))
 | .b4 a0 a1 a2 a3=>Ae Tryz.f28 [1,1,1,1,1,1,1,0] Z9G (((),((),((),((),())))),((TC a0),((a1,()),((a2,()),((a3,()),(a0.Az,()))))))
theorem ZtZ:AA1 28 [33] 75 (fun x=>oK x.1) rfl:=Aj (mc Z0v Ag) (hc [] ZbO Ah) ZuY Zsq Tryz.func28 (fun p=>by cases p<;>kernel_rfl) (by kernel_rfl) fun _=>rfl
inductive xA where
 | b0 (a0:QJ)
def ZhM:xA->Tr U (Bool⊕xA)
 | .b0 a0=>AA (a0.Link.Bc==0)
def yH (a0:QJ):Option Bool:=AV ZhM (.b0 a0)
def Zh0:xA->Ac U
 | .b0 a0=>Ai Tryz.f63 [115] (a0,())
theorem ZgN:AA1 63 [115] 4 (fun x=>yH x.1) rfl:=Aj Ag Ah AN Zh0 Tryz.func63 (fun p=>by cases p<;>kernel_rfl) (by kernel_rfl) fun _=>rfl
inductive Zy where
 | b0 (a0:Aw)
def Z6Y:Zy->Tr U (Bool⊕Zy)
 | .b0 a0=>.br (a0.Bq==1) ( AA ((↑a0.Payload.length:Int)==0)) ( AA false)
def Wh (a0:Aw):Option Bool:=AV Z6Y (.b0 a0)
def Zkh:Zy->Ac U
 | .b0 a0=>Ai Tryz.f27 [68] (a0,())
theorem Z6E:AA1 27 [68] 4 (fun x=>Wh x.1) rfl:=Aj Ag Ah AN Zkh Tryz.func27 (fun p=>by cases p<;>kernel_rfl) (by kernel_rfl) fun _=>rfl
inductive ZR where
 | b0 (a0:Int)
def Z8b:ZR->Tr U (Bool⊕ZR)
 | .b0 a0=>.br (a0==0) ( AA true) ( AA (a0==1))
def Wx (a0:Int):Option Bool:=AV Z8b (.b0 a0)
def Zlm:ZR->Ac U
 | .b0 a0=>Ai Tryz.f231 [3] (a0,())
theorem Zme:AA1 231 [3] 4 (fun x=>Wx x.1) rfl:=Aj Ag Ah AN Zlm Tryz.func231 (fun p=>by cases p<;>kernel_rfl) (by kernel_rfl) fun _=>rfl
inductive Zq where
 | b0 (a0:BM)
 | b1 (a0:Int) (a1:BM)
 | b2 (a0:Int) (a1:BM)
 | b3 (a0:Int)
def QA:Zq->Tr U (Int⊕Zq)
 | .b0 a0=>.bind 4 (Wx a0.SN) (fun(x1:Bool)=>.br (!x1) ( AA (5:Int)) ( .bind 4 (Wx a0.EF) (fun(x2:Bool)=>.br (!x2) ( AA (5:Int)) ( .bind 4 (Wx a0.MD) (fun(x3:Bool)=>.br (!x3) ( AA (5:Int)) ( AO (.b1 (↑a0.BG.Payload.length:Int) a0)))))))
 | .b1 a0 a1=>.br (decide (a1.BG.Bq<1)) ( AA (12:Int)) ( .br (decide (a1.BG.Bq>3)) ( AA (12:Int)) ( AO (.b2 a0 a1)))
 | .b2 a0 a1=>.br (a0==0) ( .br (a1.BG.Bq != 1) ( AA (1:Int)) ( AO (.b3 a0))) ( AO (.b3 a0))
 | .b3 a0=>.br (decide (a0>255)) ( AA (4:Int)) ( AA (0:Int))
def Tj (a0:BM):Option Int:=AV QA (.b0 a0)
def kD:Lay:=⟨[1,3],[KP,KP],[.var k4],⟨[PQ 0,OV 3],[VA 70 5]⟩⟩
def Z6l:Lay:=⟨[3],[KP],[],⟨[OV 3],[]⟩⟩
def ZkR:Nat->Option Lay
 | 4=>some kD
 | 6=>some kD
 | 8=>some Z6l
 | _=>none
def Zk6:Zq->Ac U
 | .b0 a0=>Ai Tryz.f153 [70] (a0,())
 | .b1 a0 a1=>AA3 Tryz.f153 [1,1,0,0,1,1,0] kD (a0,a1,())
 | .b2 a0 a1=>AA3 Tryz.f153 [1,1,0,0,1,1,1,1,0] kD (a0,a1,())
 | .b3 a0=>AA3 Tryz.f153 [1,1,0,0,1,1,1,1,1,1,0] Z6l (a0,())
theorem Z7:AA1 153 [70] 45 (fun x=>Tj x.1) rfl:=Aj (mc Zme Ag) Ah ZkR Zk6 Tryz.func153 (fun p=>by cases p<;>kernel_rfl) (by kernel_rfl) fun _=>rfl
inductive ZM where
 | b0 (a0:BM) (a1:List Int)
def ZlI:ZM->Tr U (BM⊕ZM)
 | .b0 a0 a1=>AA ({ a0 with BG:=(⟨a0.BG.Bq,a1⟩:Aw) }:BM)
def kZ (a0:BM) (a1:List Int):Option BM:=AV ZlI (.b0 a0 a1)
def ZkW:ZM->Ac U
 | .b0 a0 a1=>Ai Tryz.f154 [70,62] (a0,a1,())
theorem ZkD:AA1 154 [70,62] 70 (fun x=>kZ x.1 x.2.1) rfl:=Aj Ag Ah AN ZkW Tryz.func154 (fun p=>by cases p<;>kernel_rfl) (by kernel_rfl) fun _=>rfl
inductive ZO where
 | b0 (a0:List (List Int))
 | b1 (a0:List Int) (a1:List (List Int)) (a2 a3:Int)
def XB:ZO->Tr U ((List Int)⊕ZO)
 | .b0 a0=>.chk (([]:List Int).length==0) ( AO (.b1 ([]:List Int) a0 (↑a0.length:Int) (0:Int)))
 | .b1 a0 a1 a2 a3=>.br (decide (a3<a2)) ( .chk (decide (0<=a3/\a3<(↑a1.length:Int))) ( .bind 62 (a1[(Int.toNat a3)]?) (fun(x1:List Int)=>.chk (kL a0) ( .chk (kA (a0.length+x1.length) 1) ( .chk (kL (a0++x1)) ( AO (.b1 (a0++x1) a1 a2 (AP (a3+1))))))))) ( .chk (kL a0) ( AA a0))
def UC (a0:List (List Int)):Option (List Int):=AV XB (.b0 a0)
def Z6U:Lay:=⟨[3,6,7,8],[[.own 5 1],[.s 62 1],KP,KP],[.row true],⟨[.one (.own 5 0),OV 256,OV 3,OV 3],[.row 5 true]⟩⟩
def Zns:Nat->Option Lay
 | 3=>some Z6U
 | _=>none
def Zm9:ZO->Ac U
 | .b0 a0=>Ai Tryz.f155 [256] (a0,())
 | .b1 a0 a1 a2 a3=>AA3 Tryz.f155 [1,1,0,1,0,0,0] Z6U (a1,a2,a3,a0,())
theorem kW:AA1 155 [256] 62 (fun x=>UC x.1) rfl:=Aj Ag Ah Zns Zm9 Tryz.func155 (fun p=>by cases p<;>kernel_rfl) (by kernel_rfl) fun _=>rfl
inductive Zi where
 | b0 (a0:C9)
def Z75:Zi->Tr U ((Int×Int)⊕Zi)
 | .b0 a0=>.br (a0.Bl==1) ( AA ((1:Int),(0:Int))) ( AA ((0:Int),(1:Int)))
def Zm (a0:C9):Option (Int×Int):=AV Z75 (.b0 a0)
def ZjJ:Zi->Ac U
 | .b0 a0=>Ai Tryz.f156 [41] (a0,())
theorem Zkd:AA1 156 [41] 194 (fun x=>Zm x.1) rfl:=Aj Ag Ah AN ZjJ Tryz.func156 (fun p=>by cases p<;>kernel_rfl) (by kernel_rfl) fun _=>rfl
inductive Z0w where
 | b0 (a0 a1:List Int)
 | b1 (a0 a1 a2:List Int) (a3 a4:Int)
def Xf:Z0w->Tr U ((List Int)⊕Z0w)
 | .b0 a0 a1=>.chk (decide (0<=(if (↑a1.length:Int)<(↑a0.length:Int) then (↑a1.length:Int) else (↑a0.length:Int))/\(if (↑a1.length:Int)<(↑a0.length:Int) then (↑a1.length:Int) else (↑a0.length:Int))<=(if (↑a1.length:Int)<(↑a0.length:Int) then (↑a1.length:Int) else (↑a0.length:Int))/\Int.toNat (if (↑a1.length:Int)<(↑a0.length:Int) then (↑a1.length:Int) else (↑a0.length:Int))*1<=lim/\(if (↑a1.length:Int)<(↑a0.length:Int) then (↑a1.length:Int) else (↑a0.length:Int))<=(↑maxLen:Int))) ( .chk (kL (List.replicate (Int.toNat (if (↑a1.length:Int)<(↑a0.length:Int) then (↑a1.length:Int) else (↑a0.length:Int))) (0:Int))) ( .chk (kL (List.replicate (Int.toNat (if (↑a1.length:Int)<(↑a0.length:Int) then (↑a1.length:Int) else (↑a0.length:Int))) (0:Int))) ( AO (.b1 a0 a1 (List.replicate (Int.toNat (if (↑a1.length:Int)<(↑a0.length:Int) then (↑a1.length:Int) else (↑a0.length:Int))) (0:Int)) (↑((List.replicate (Int.toNat (if (↑a1.length:Int)<(↑a0.length:Int) then (↑a1.length:Int) else (↑a0.length:Int))) (0:Int)).length):Int) (0:Int)))))
 | .b1 a0 a1 a2 a3 a4=>.br (decide (a4<a3)) ( .chk (decide (0<=a4/\a4<(↑a0.length:Int))) ( .bind 5 (a0[(Int.toNat a4)]?) (fun(x1:Int)=>.chk (decide (0<=a4/\a4<(↑a1.length:Int))) ( .bind 5 (a1[(Int.toNat a4)]?) (fun(x2:Int)=>.chk (kL a2) ( .chk (decide (0<=a4/\a4<(↑a2.length:Int))) ( .chk (a2.length==a2.length&&decide (0<=(Int.toNat a4))) ( .bind 5 (a2[(Int.toNat a4)]?) (fun(x3:Int)=>.chk ((a2.set (Int.toNat a4) (bits .xor .u8 x1 x2)).length==a2.length) ( AO (.b1 a0 a1 (a2.set (Int.toNat a4) (bits .xor .u8 x1 x2)) a3 (AP (a4+1))))))))))))) ( .chk (kL a2) ( AA a2))
def Z0r (a0 a1:List Int):Option (List Int):=AV Xf (.b0 a0 a1)
def Z7n:Lay:=⟨[0,1,5,14,15],[[.s 5 1],[.s 5 1],[.own 5 1],KP,KP],[.row true],⟨[OV 62,OV 62,.one (.own 5 0),OV 3,OV 3],[.row 5 true]⟩⟩
def Zqd:Nat->Option Lay
 | 3=>some Z7n
 | _=>none
def Zmm:Z0w->Ac U
 | .b0 a0 a1=>Ai Tryz.f232 [62,62] (a0,a1,())
 | .b1 a0 a1 a2 a3 a4=>AA3 Tryz.f232 [1,1,0,1,0,0,0] Z7n (a0,a1,a3,a4,a2,())
theorem Znq:AA1 232 [62,62] 62 (fun x=>Z0r x.1 x.2.1) rfl:=Aj Ag Ah Zqd Zmm Tryz.func232 (fun p=>by cases p<;>kernel_rfl) (by kernel_rfl) fun _=>rfl
inductive Z0L where
 | b0 (a0 a1:Int)
def Z0B:Z0L->Tr U (Int⊕Z0L)
 | .b0 a0 a1=>.br (decide (a1<=0)) ( AA (0:Int)) ( .br (decide (a1>=64)) ( AA a0) ( .chk (decide (0<=a1)) ( AA (bits .and .u64 a0 (IntKind.wrap .u64 ((IntKind.wrap .u64 ((1:Int)*2 ^ (min (Int.toNat a1) (IntKind.bits .u64)))) - 1))))))
def QG (a0 a1:Int):Option Int:=AV Z0B (.b0 a0 a1)
def Z95:Af U:=⟨[25,3],25,fun x=>QG x.1 x.2.1,by decide⟩
def Z86:Z0L->Ac U
 | .b0 a0 a1=>Ai Tryz.f379 [25,3] (a0,a1,())
theorem Z81:AA0 379 Z95:=Aj Ag Ah AN Z86 Tryz.func379 (fun p=>by cases p<;>kernel_rfl) (by kernel_rfl) fun _=>rfl
inductive Z0a where
 | b0 (a0:Int)
def Z08:Z0a->Tr U (Io⊕Z0a)
 | .b0 a0=>.bind 25 (QG a0 (32:Int)) (fun(x1:Int)=>AA (⟨(IntKind.wrap .u32 ((Int.fdiv a0 (2 ^ (32:Nat))))),(IntKind.wrap .u32 (x1))⟩:Io))
def lT (a0:Int):Option Io:=AV Z08 (.b0 a0)
def Z7F:Af U:=⟨[25],312,fun x=>lT x.1,by decide⟩
def Z7a:Z0a->Ac U
 | .b0 a0=>Ai Tryz.f355 [25] (a0,())
theorem ZlQ:AA0 355 Z7F:=Aj (mc Z81 Ag) Ah AN Z7a Tryz.func355 (fun p=>by cases p<;>kernel_rfl) (by kernel_rfl) fun _=>rfl
inductive wE where
 | b0 (a0 a1:Int)
def Z55:wE->Tr U (Int⊕wE)
 | .b0 a0 a1=>.chk (decide (0<=(bits .and .u64 (IntKind.wrap .u64 (a1)) (63:Int)))) ( .chk (decide (0<=(IntKind.wrap .u64 ((64:Int) - (bits .and .u64 (IntKind.wrap .u64 (a1)) (63:Int)))))) ( AA (bits .or .u64 (IntKind.wrap .u64 (a0*2 ^ (min (Int.toNat (bits .and .u64 (IntKind.wrap .u64 (a1)) (63:Int))) (IntKind.bits .u64)))) (Int.fdiv a0 (2 ^ (min (Int.toNat (IntKind.wrap .u64 ((64:Int) - (bits .and .u64 (IntKind.wrap .u64 (a1)) (63:Int))))) (IntKind.bits .u64)))))))
def TF (a0 a1:Int):Option Int:=AV Z55 (.b0 a0 a1)
def Z53:Af U:=⟨[25,3],25,fun x=>TF x.1 x.2.1,by decide⟩
def Z50:wE->Ac U
 | .b0 a0 a1=>Ai Tryz.f380 [25,3] (a0,a1,())
theorem ZfM:AA0 380 Z53:=Aj Ag Ah AN Z50 Tryz.func380 (fun p=>by cases p<;>kernel_rfl) (by kernel_rfl) fun _=>rfl
inductive wF where
 | b0 (a0 a1:Int)
def Z52:wF->Tr U (Int⊕wF)
 | .b0 a0 a1=>.chk (decide (0<=(bits .and .u64 (IntKind.wrap .u64 (a1)) (31:Int)))) ( .chk (decide (0<=(IntKind.wrap .u64 ((32:Int) - (bits .and .u64 (IntKind.wrap .u64 (a1)) (31:Int)))))) ( AA (bits .or .u32 (IntKind.wrap .u32 (a0*2 ^ (min (Int.toNat (bits .and .u64 (IntKind.wrap .u64 (a1)) (31:Int))) (IntKind.bits .u32)))) (Int.fdiv a0 (2 ^ (min (Int.toNat (IntKind.wrap .u64 ((32:Int) - (bits .and .u64 (IntKind.wrap .u64 (a1)) (31:Int))))) (IntKind.bits .u32)))))))
def Po (a0 a1:Int):Option Int:=AV Z52 (.b0 a0 a1)
def Z54:Af U:=⟨[22,3],22,fun x=>Po x.1 x.2.1,by decide⟩
def Z4Y:wF->Ac U
 | .b0 a0 a1=>Ai Tryz.f381 [22,3] (a0,a1,())
theorem ZfN:AA0 381 Z54:=Aj Ag Ah AN Z4Y Tryz.func381 (fun p=>by cases p<;>kernel_rfl) (by kernel_rfl) fun _=>rfl
inductive Z0e where
 | b0 (a0 a1 a2:Int)
def ZU:Z0e->Tr U (Int⊕Z0e)
 | .b0 a0 a1 a2=>.bind 25 (TF a0 (Int.tmod (AP ((11:Int)*(Int.tmod a1 64))) (64:Int))) (fun(x1:Int)=>.bind 25 (QG x1 (32:Int)) (fun(x2:Int)=>.bind 22 (Po (IntKind.wrap .u32 (a2+(IntKind.wrap .u32 (x2)))) (7:Int)) (fun(x3:Int)=>.bind 22 (Po (IntKind.wrap .u32 (x2)) (16:Int)) (fun(x4:Int)=>AA (bits .xor .u32 (IntKind.wrap .u32 (x3*2654435761)) x4)))))
def XH (a0 a1 a2:Int):Option Int:=AV ZU (.b0 a0 a1 a2)
def Z7U:Af U:=⟨[29,3,22],22,fun x=>XH x.1 x.2.1 x.2.2.1,by decide⟩
def Z7A:Z0e->Ac U
 | .b0 a0 a1 a2=>Ai Tryz.f356 [29,3,22] (a0,a1,a2,())
theorem Zlc:AA0 356 Z7U:=Aj (mc Z81 (mc ZfM (mc ZfN Ag))) Ah AN Z7A Tryz.func356 (fun p=>by cases p<;>kernel_rfl) (by kernel_rfl) fun _=>rfl
inductive wO where
 | b0 (a0:Io)
def jC:wO->Tr U (Int⊕wO)
 | .b0 a0=>AA (bits .or .u64 (IntKind.wrap .u64 ((IntKind.wrap .u64 (a0.x0))*2 ^ (32:Nat))) (IntKind.wrap .u64 (a0.x1)))
def Vx (a0:Io):Option Int:=AV jC (.b0 a0)
def Z5K:Af U:=⟨[312],25,fun x=>Vx x.1,by decide⟩
def Z5n:wO->Ac U
 | .b0 a0=>Ai Tryz.f357 [312] (a0,())
theorem Zgl:AA0 357 Z5K:=Aj Ag Ah AN Z5n Tryz.func357 (fun p=>by cases p<;>kernel_rfl) (by kernel_rfl) fun _=>rfl
inductive Z1o where
 | b0 (a0 a1:Int)
 | b1 (a0 a1:Int) (a2:Io)
def IQ:Z1o->Tr U (Int⊕Z1o)
 | .b0 a0 a1=>.bind 312 (lT a1) (fun(x1:Io)=>AO (.b1 a0 (0:Int) x1))
 | .b1 a0 a1 a2=>.br (decide (a1<8)) ( .bind 22 (XH a0 a1 a2.x1) (fun(x1:Int)=>AO (.b1 a0 (AP (a1+1)) (⟨a2.x1,(bits .xor .u32 a2.x0 x1)⟩:Io)))) ( .bind 25 (Vx a2) (fun(x2:Int)=>AA x2))
def KD (a0 a1:Int):Option Int:=AV IQ (.b0 a0 a1)
def nD:Af U:=⟨[29,25],25,fun x=>KD x.1 x.2.1,by decide⟩
def Z7H:Lay:=⟨[0,5,9],[KP,KP,KP],[.var [.keep,.keep]],⟨[OV 29,PQ 0,OV 3],[VA 312 2]⟩⟩
def ZaI:Nat->Option Lay
 | 3=>some Z7H
 | _=>none
def Z92:Z1o->Ac U
 | .b0 a0 a1=>Ai Tryz.f322 [29,25] (a0,a1,())
 | .b1 a0 a1 a2=>AA3 Tryz.f322 [1,1,0,1,0,0,0] Z7H (a0,a1,a2,())
theorem ZoD:AA0 322 nD:=Aj (mc ZlQ (mc Zlc (mc Zgl Ag))) Ah ZaI Z92 Tryz.func322 (fun p=>by cases p<;>kernel_rfl) (by kernel_rfl) fun _=>rfl
inductive ZF where
 | b0 (a0:Int)
def Z7D:ZF->Tr U (Bool⊕ZF)
 | .b0 a0=>.br (decide (a0>=1)) ( AA (decide (a0<=8))) ( AA false)
def ZG (a0:Int):Option Bool:=AV Z7D (.b0 a0)
def ZkG:ZF->Ac U
 | .b0 a0=>Ai Tryz.f321 [3] (a0,())
theorem ZkK:AA1 321 [3] 4 (fun x=>ZG x.1) rfl:=Aj Ag Ah AN ZkG Tryz.func321 (fun p=>by cases p<;>kernel_rfl) (by kernel_rfl) fun _=>rfl
inductive Z0F where
 | b0 (a0:List Bd)
 | b1 (a0:List Int) (a1:List Bd) (a2 a3:Int)
 | b2 (a0:List Int) (a1:List Bd) (a2 a3:Int) (a4:Bd)
 | b3 (a0:List Int) (a1:List Bd) (a2 a3 a4 a5:Int) (a6:Bd)
def Kw:Z0F->Tr U (((List Int)×Int)⊕Z0F)
 | .b0 a0=>.chk (([]:List Int).length==0) ( AO (.b1 ([]:List Int) a0 (↑a0.length:Int) (0:Int)))
 | .b1 a0 a1 a2 a3=>.br (decide (a3<a2)) ( .chk (decide (0<=a3/\a3<(↑a1.length:Int))) ( .bind 252 (a1[(Int.toNat a3)]?) (fun(x1:Bd)=>.bind 4 (ZG x1.Size) (fun(x2:Bool)=>.br (!x2) ( .chk (([]:List Int).length==0) ( AA (([]:List Int),(5:Int)))) ( .br (decide (x1.Size<8)) ( .chk (decide (0<=(AP ((8:Int)*x1.Size)))) ( .br ((Int.fdiv x1.Value (2 ^ (min (Int.toNat (AP ((8:Int)*x1.Size))) (IntKind.bits .u64)))) != 0) ( .chk (([]:List Int).length==0) ( AA (([]:List Int),(5:Int)))) ( .chk (kL a0) ( AO (.b2 a0 a1 a2 a3 x1))))) ( .chk (kL a0) ( AO (.b2 a0 a1 a2 a3 x1)))))))) ( .chk (kL a0) ( AA (a0,0)))
 | .b2 a0 a1 a2 a3 a4=>.chk (kL a0) ( AO (.b3 a0 a1 a2 a3 a4.Size (0:Int) a4))
 | .b3 a0 a1 a2 a3 a4 a5 a6=>.br (decide (a5<a4)) ( .chk (decide (0<=(AP ((8:Int)*a5)))) ( .chk (([(IntKind.wrap .u8 ((Int.fdiv a6.Value (2 ^ (min (Int.toNat (AP ((8:Int)*a5))) (IntKind.bits .u64))))))]).length==1) ( .chk (kL a0) ( .chk (kA (a0.length+([(IntKind.wrap .u8 ((Int.fdiv a6.Value (2 ^ (min (Int.toNat (AP ((8:Int)*a5))) (IntKind.bits .u64))))))]).length) 1) ( .chk (kL (a0++[(IntKind.wrap .u8 ((Int.fdiv a6.Value (2 ^ (min (Int.toNat (AP ((8:Int)*a5))) (IntKind.bits .u64))))))])) ( AO (.b3 (a0++[(IntKind.wrap .u8 ((Int.fdiv a6.Value (2 ^ (min (Int.toNat (AP ((8:Int)*a5))) (IntKind.bits .u64))))))]) a1 a2 a3 a4 (AP (a5+1)) a6))))))) ( .chk (kL a0) ( AO (.b1 a0 a1 a2 (AP (a3+1)))))
def QF (a0:List Bd):Option ((List Int)×Int):=AV Kw (.b0 a0)
def Z7z:Lay:=⟨[4,8,9,10],[[.own 5 1],[.s 252 2],KP,KP],[.row true],⟨[.one (.own 5 0),OV 253,OV 3,OV 3],[.row 5 true]⟩⟩
def Z7g:Lay:=⟨[4,6,8,9,10],[[.own 5 1],KP,[.s 252 2],KP,KP],[.row true,.var [.keep,.keep]],⟨[.one (.own 5 0),PQ 1,OV 253,OV 3,OV 3],[.row 5 true,VA 252 2]⟩⟩
def Z7h:Lay:=⟨[4,6,8,9,10,33,34],[[.own 5 1],KP,[.s 252 2],KP,KP,KP,KP],[.row true,.var [.keep,.keep]],⟨[.one (.own 5 0),PQ 1,OV 253,OV 3,OV 3,OV 3,OV 3],[.row 5 true,VA 252 2]⟩⟩
def Zqv:Nat->Option Lay
 | 3=>some Z7z
 | 7=>some Z7g
 | 8=>some Z7h
 | _=>none
def ZmM:Z0F->Ac U
 | .b0 a0=>Ai Tryz.f230 [253] (a0,())
 | .b1 a0 a1 a2 a3=>AA3 Tryz.f230 [1,1,0,1,0,0,0] Z7z (a1,a2,a3,a0,())
 | .b2 a0 a1 a2 a3 a4=>AA3 Tryz.f230 [1,1,0,1,0,0,1,1,0,0,1,1,0] Z7g (a1,a2,a3,a0,a4,())
 | .b3 a0 a1 a2 a3 a4 a5 a6=>AA3 Tryz.f230 [1,1,0,1,0,0,1,1,0,0,1,1,1,0,0,0] Z7h (a1,a2,a3,a4,a5,a0,a6,())
theorem ZW:AA1 230 [253] 120 (fun x=>QF x.1) rfl:=Aj (mc ZkK Ag) Ah Zqv ZmM Tryz.func230 (fun p=>by cases p<;>kernel_rfl) (by kernel_rfl) fun _=>rfl
inductive Z1c where
 | b0 (a0:List Int)
 | b1 (a0:List Bd) (a1:List Int) (a2 a3:Int)
def YV:Z1c->Tr U ((List Int)⊕Z1c)
 | .b0 a0=>.chk (([]:List Bd).length==0) ( AO (.b1 ([]:List Bd) a0 (↑a0.length:Int) (0:Int)))
 | .b1 a0 a1 a2 a3=>.br (decide (a3<a2)) ( .chk (decide (0<=a3/\a3<(↑a1.length:Int))) ( .bind 25 (a1[(Int.toNat a3)]?) (fun(x1:Int)=>.chk (([(⟨8,x1⟩:Bd)]).length==1) ( .chk (kL a0) ( .chk (kA (a0.length+([(⟨8,x1⟩:Bd)]).length) 16) ( .chk (kL (a0++[(⟨8,x1⟩:Bd)])) ( AO (.b1 (a0++[(⟨8,x1⟩:Bd)]) a1 a2 (AP (a3+1)))))))))) ( .chk (kL a0) ( .bind 120 (QF a0) (fun(x2:(List Int)×Int)=>AA x2.1)))
def UO (a0:List Int):Option (List Int):=AV YV (.b0 a0)
def Z7P:Lay:=⟨[3,8,9,10],[[.own 252 2],[.s 25 1],KP,KP],[.row true],⟨[.one (.own 252 0),OV 254,OV 3,OV 3],[.row 252 true]⟩⟩
def ZrP:Nat->Option Lay
 | 3=>some Z7P
 | _=>none
def ZpO:Z1c->Ac U
 | .b0 a0=>Ai Tryz.f323 [254] (a0,())
 | .b1 a0 a1 a2 a3=>AA3 Tryz.f323 [1,1,0,1,0,0,0] Z7P (a1,a2,a3,a0,())
theorem Z9D:AA1 323 [254] 62 (fun x=>UO x.1) rfl:=Aj (mc ZW Ag) Ah ZrP ZpO Tryz.func323 (fun p=>by cases p<;>kernel_rfl) (by kernel_rfl) fun _=>rfl
inductive Z0D where
 | b0 (a0 a1 a2:Int)
 | b1 (a0 a1 a2:Int) (a3:List Int) (a4:Int)
def Xi:Z0D->Tr U ((List Int)⊕Z0D)
 | .b0 a0 a1 a2=>.bind 25 (KD a0 a1) (fun(x1:Int)=>.chk (decide (0<=(0:Int)/\(0:Int)<=(AP (a2+8))/\Int.toNat (AP (a2+8))*1<=lim/\(AP (a2+8))<=(↑maxLen:Int))) ( .chk (kL (List.replicate (Int.toNat 0) (0:Int))) ( AO (.b1 a0 a2 x1 (List.replicate (Int.toNat 0) (0:Int)) (0:Int)))))
 | .b1 a0 a1 a2 a3 a4=>.chk (kL a3) ( .br (decide ((↑a3.length:Int)<a1)) ( .bind 25 (KD a0 (IntKind.wrap .u64 (a2+a4))) (fun(x1:Int)=>.chk (([x1]).length==1) ( .bind 62 (UO ([x1])) (fun(x2:List Int)=>.chk (kL a3) ( .chk (kA (a3.length+x2.length) 1) ( .chk (kL (a3++x2)) ( AO (.b1 a0 a1 a2 (a3++x2) (IntKind.wrap .u64 (a4+1)))))))))) ( .chk (kL a3) ( .chk (decide (0<=a1/\a1<=(↑a3.length:Int))) ( .chk (decide (0<=a1/\a1<=(↑a3.length:Int))) ( .chk ((Int.toNat a1)==(Int.toNat a1)) ( .chk (kL a3) ( AA ((a3.drop 0).take ((Int.toNat a1) - 0)))))))))
def Z0m (a0 a1 a2:Int):Option (List Int):=AV Xi (.b0 a0 a1 a2)
def Z7w:Lay:=⟨[0,2,7,8,9],[KP,KP,KP,[.own 5 1],KP],[.row true],⟨[OV 29,OV 3,OV 25,.one (.own 5 0),OV 25],[.row 5 true]⟩⟩
def Zpm:Nat->Option Lay
 | 4=>some Z7w
 | _=>none
def ZmJ:Z0D->Ac U
 | .b0 a0 a1 a2=>Ai Tryz.f233 [29,25,3] (a0,a1,a2,())
 | .b1 a0 a1 a2 a3 a4=>AA3 Tryz.f233 [1,1,1,0,1,0,0,0,0] Z7w (a0,a1,a2,a4,a3,())
theorem Znj:AA1 233 [29,25,3] 62 (fun x=>Z0m x.1 x.2.1 x.2.2.1) rfl:=Aj (mc ZoD (mc Z9D Ag)) Ah Zpm ZmJ Tryz.func233 (fun p=>by cases p<;>kernel_rfl) (by kernel_rfl) fun _=>rfl
end
end Go.Proofs.YtjodhcdmhobmoaaGreatDoor
