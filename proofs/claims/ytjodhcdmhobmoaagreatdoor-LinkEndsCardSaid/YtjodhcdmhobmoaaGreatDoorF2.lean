/-
  A part of the proof.
-/
import Derived.Test.YtjodhcdmhobmoaaGreatDoorF1
set_option linter.unusedVariables false
set_option linter.unusedSimpArgs false
namespace Go.Proofs.YtjodhcdmhobmoaaGreatDoor
open Go Go.Proofs.YtjodhcdmhobmoaaGreatDoor.Le
set_option maxRecDepth 100000
inductive ZaP where
 | b0 (a0:Zo) (a1:Int)
noncomputable def Znm:ZaP->Tr U (Zo⊕ZaP)
 | .b0 a0 a1=>.bind 35 (Zg5 a1) (fun(x1:Zo)=>.leaf (.inl x1))
noncomputable def Zny (a0:Zo) (a1:Int):Option Zo:=Z05 Znm (.b0 a0 a1)
noncomputable def ZER:Mod U:=⟨[35,3],35,fun x=>Zny x.1 x.2.1,by decide⟩
noncomputable def ZDh:ZaP->Z08 U
 | .b0 a0 a1=>Z0f Tryz.f187 [35,3] (a0,a1,())
theorem Zyn:Z0e 187 Tryz.f187 (mc Zp3 msN) hsN AN 35 Znm ZDh
 | .b0 _ _=>by kernel_rfl
theorem ZBl:Z04 Tryz.prog B0 187 ZER:=okP Zyn (fun x=>.b0 x.1 x.2.1) (by kernel_rfl) Tryz.func187 (by kernel_rfl) (by kernel_rfl) (fun _=>rfl) (fun _=>rfl)
inductive Z6x where
 | b0 (a0:Z8) (a1:Z9)
 | b1 (a0:Z8) (a1:Z9) (a2:Z8)
noncomputable def ZeI:Z6x->Tr U (Z8⊕Z6x)
 | .b0 a0 a1=>.br (a1.Kind==(1:Int)) ( .leaf (.inl ({ a0 with ZX:=({ a0.ZX with Map:=a1.Map }:ZG) }:Z8))) ( .br (a0.Z1G==(1:Int)) ( .leaf (.inr (.b1 ({ a0 with ZX:=({ a0.ZX with ZI:=a1.ZI }:ZG),Z0P:=(w64 (a0.Z0P+(w64 ((1250:Int)*a1.ZI.Z1h)))),Size:=(w64 (a0.Size+(w64 ((1250:Int)*a1.ZI.Z3B)))) }:Z8) a1 (⟨(0:Int),Zm,(0:Int),(0:Int),(0:Int),(0:Int),(0:Int),(0:Int),(0:Int),false,false,false,false,false,(⟨(0:Int),(0:Int),([]:List Zb),false,false,(0:Int),(0:Int)⟩:Zr),Zq,(⟨(0:Int),(0:Int),(0:Int),([]:List Z4),(0:Int),(0:Int),([]:List Z9),false,(0:Int),(0:Int),false,false,(0:Int),(0:Int),(0:Int),(0:Int),(0:Int),(0:Int),(0:Int),(0:Int)⟩:Z7),Zt,(0:Int),([]:List Zg),([]:List Z4),(0:Int),(0:Int)⟩:Z8)))) ( .leaf (.inr (.b1 ({ a0 with ZX:=({ a0.ZX with ZI:=a1.ZI }:ZG),Z0P:=(w64 (a0.Z0P+(w64 ((1250:Int)*a1.ZI.Z1h)))) }:Z8) a1 (⟨(0:Int),Zm,(0:Int),(0:Int),(0:Int),(0:Int),(0:Int),(0:Int),(0:Int),false,false,false,false,false,(⟨(0:Int),(0:Int),([]:List Zb),false,false,(0:Int),(0:Int)⟩:Zr),Zq,(⟨(0:Int),(0:Int),(0:Int),([]:List Z4),(0:Int),(0:Int),([]:List Z9),false,(0:Int),(0:Int),false,false,(0:Int),(0:Int),(0:Int),(0:Int),(0:Int),(0:Int),(0:Int),(0:Int)⟩:Z7),Zt,(0:Int),([]:List Zg),([]:List Z4),(0:Int),(0:Int)⟩:Z8)))))
 | .b1 a0 a1 a2=>.bind 35 (Zny a0.Z0H a1.ZI.Z1o) (fun(x1:Zo)=>.leaf (.inl ({ a0 with Z0H:=x1 }:Z8)))
noncomputable def ZeK (a0:Z8) (a1:Z9):Option Z8:=Z05 ZeI (.b0 a0 a1)
noncomputable def ZxW:Mod U:=⟨[44,138],44,fun x=>ZeK x.1 x.2.1,by decide⟩
def Zfn:Lay:=⟨[2,3,4],[[.keep],[.keep],[.keep]],[.var k1,.var k11,.var k1],⟨[.one (.ptr 0),.one (.ptr 1),.one (.ptr 2)],[.var 44 66 (.agg [.v 44 66 true]),.var 138 8 (.agg [.v 138 8 true]),.var 44 66 (.agg [.v 44 66 true])]⟩⟩
def ZwY:Nat->Option Lay
 | 8=>some Zfn
 | _=>none
noncomputable def Zu8:Z6x->Z08 U
 | .b0 a0 a1=>Z0f Tryz.f95 [44,138] (a0,a1,())
 | .b1 a0 a1 a2=>spL Tryz.f95 [1,1,1,1,1,0] Zfn (((),((),((),()))),((a0,()),((a1,()),((a2,()),()))))
theorem Zsf:Z0e 95 Tryz.f95 (mc ZBl msN) hsN ZwY 44 ZeI Zu8
 | .b0 _ _=>by kernel_rfl
 | .b1 _ _ _=>by kernel_rfl
theorem Ztw:Z04 Tryz.prog B0 95 ZxW:=okP Zsf (fun x=>.b0 x.1 x.2.1) (by kernel_rfl) Tryz.func95 (by kernel_rfl) (by kernel_rfl) (fun _=>rfl) (fun _=>rfl)
inductive Z6r where
 | b0 (a0:Int)
noncomputable def Zeq:Z6r->Tr U (Bool⊕Z6r)
 | .b0 a0=>.br (a0==(0:Int)) ( .leaf (.inl true)) ( .leaf (.inl (a0==(1:Int))))
noncomputable def Z2A (a0:Int):Option Bool:=Z05 Zeq (.b0 a0)
noncomputable def ZyF:Mod U:=⟨[3],4,fun x=>Z2A x.1,by decide⟩
noncomputable def ZvM:Z6r->Z08 U
 | .b0 a0=>Z0f Tryz.f259 [3] (a0,())
theorem ZrU:Z0e 259 Tryz.f259 msN hsN AN 4 Zeq ZvM
 | .b0 _=>by kernel_rfl
theorem Z3b:Z04 Tryz.prog B0 259 ZyF:=okP ZrU (fun x=>.b0 x.1) (by kernel_rfl) Tryz.func259 (by kernel_rfl) (by kernel_rfl) (fun _=>rfl) (fun _=>rfl)
inductive Zb4 where
 | b0 (a0:Z7) (a1:Z4)
noncomputable def ZlB:Zb4->Tr U (Bool⊕Zb4)
 | .b0 a0 a1=>.bind 4 (Z2A a1.Kind) (fun(x1:Bool)=>.br (!x1) ( .leaf (.inl true)) ( .leaf (.inl ((↑a0.Zy.length:Int)==(0:Int)))))
noncomputable def Zgc (a0:Z7) (a1:Z4):Option Bool:=Z05 ZlB (.b0 a0 a1)
noncomputable def ZGr:Mod U:=⟨[39,156],4,fun x=>Zgc x.1 x.2.1,by decide⟩
noncomputable def ZCh:Zb4->Z08 U
 | .b0 a0 a1=>Z0f Tryz.f188 [39,156] (a0,a1,())
theorem Zyc:Z0e 188 Tryz.f188 (mc Z3b msN) hsN AN 4 ZlB ZCh
 | .b0 _ _=>by kernel_rfl
theorem Zph:Z04 Tryz.prog B0 188 ZGr:=okP Zyc (fun x=>.b0 x.1 x.2.1) (by kernel_rfl) Tryz.func188 (by kernel_rfl) (by kernel_rfl) (fun _=>rfl) (fun _=>rfl)
inductive Zb1 where
 | b0 (a0 a1:Int)
noncomputable def ZmL:Zb1->Tr U (Int⊕Zb1)
 | .b0 a0 a1=>.leaf (.inl (IntKind.wrap .u16 ((Int.tmod (w64 ((w64 ((w64 (a0))+(Int.tmod a1 (65536:Int))))+(65536:Int))) (65536:Int)))))
noncomputable def Zfi (a0 a1:Int):Option Int:=Z05 ZmL (.b0 a0 a1)
noncomputable def ZGn:Mod U:=⟨[30,3],30,fun x=>Zfi x.1 x.2.1,by decide⟩
noncomputable def ZD5:Zb1->Z08 U
 | .b0 a0 a1=>Z0f Tryz.f190 [30,3] (a0,a1,())
theorem ZxR:Z0e 190 Tryz.f190 msN hsN AN 30 ZmL ZD5
 | .b0 _ _=>by kernel_rfl
theorem Zpi:Z04 Tryz.prog B0 190 ZGn:=okP ZxR (fun x=>.b0 x.1 x.2.1) (by kernel_rfl) Tryz.func190 (by kernel_rfl) (by kernel_rfl) (fun _=>rfl) (fun _=>rfl)
inductive Z8G where
 | b0 (a0 a1:Int)
noncomputable def Zi8:Z8G->Tr U (Int⊕Z8G)
 | .b0 a0 a1=>.bind 30 (Zfi a0 (w64 ((6:Int)+(if (if (499:Int)<a1 then (499:Int) else a1)>(0:Int) then (if (499:Int)<a1 then (499:Int) else a1) else (0:Int))))) (fun(x1:Int)=>.leaf (.inl x1))
noncomputable def Zif (a0 a1:Int):Option Int:=Z05 Zi8 (.b0 a0 a1)
noncomputable def ZDT:Mod U:=⟨[30,3],30,fun x=>Zif x.1 x.2.1,by decide⟩
noncomputable def ZzI:Z8G->Z08 U
 | .b0 a0 a1=>Z0f Tryz.f260 [30,3] (a0,a1,())
theorem Ztm:Z0e 260 Tryz.f260 (mc Zpi msN) hsN AN 30 Zi8 ZzI
 | .b0 _ _=>by kernel_rfl
theorem ZxT:Z04 Tryz.prog B0 260 ZDT:=okP Ztm (fun x=>.b0 x.1 x.2.1) (by kernel_rfl) Tryz.func260 (by kernel_rfl) (by kernel_rfl) (fun _=>rfl) (fun _=>rfl)
inductive Z60 where
 | b0 (a0:Int) (a1:Z9)
 | b1 (a0:Int) (a1:Z9)
noncomputable def ZdW:Z60->Tr U (Int⊕Z60)
 | .b0 a0 a1=>.br (a1.Kind != (0:Int)) ( .br (a1.Kind != (1:Int)) ( .leaf (.inl (12:Int))) ( .leaf (.inr (.b1 a0 a1)))) ( .leaf (.inr (.b1 a0 a1)))
 | .b1 a0 a1=>.bind 4 (Z7n a0 a1.Z0u) (fun(x1:Bool)=>.br x1 ( .leaf (.inl (18:Int))) ( .leaf (.inl (0:Int))))
noncomputable def ZdD (a0:Int) (a1:Z9):Option Int:=Z05 ZdW (.b0 a0 a1)
noncomputable def ZxV:Mod U:=⟨[30,138],45,fun x=>ZdD x.1 x.2.1,by decide⟩
def ZfG:Lay:=⟨[0,3],[[.keep],[.keep]],[.var k11],⟨[.one (.v 30 1 false),.one (.ptr 0)],[.var 138 8 (.agg [.v 138 8 true])]⟩⟩
def ZwG:Nat->Option Lay
 | 3=>some ZfG
 | _=>none
noncomputable def ZtT:Z60->Z08 U
 | .b0 a0 a1=>Z0f Tryz.f334 [30,138] (a0,a1,())
 | .b1 a0 a1=>spL Tryz.f334 [1,1,0,0] ZfG (((a0,()),((),())),((a1,()),()))
theorem ZqZ:Z0e 334 Tryz.f334 (mc Zhu msN) hsN ZwG 45 ZdW ZtT
 | .b0 _ _=>by kernel_rfl
 | .b1 _ _=>by kernel_rfl
theorem Zwa:Z04 Tryz.prog B0 334 ZxV:=okP ZqZ (fun x=>.b0 x.1 x.2.1) (by kernel_rfl) Tryz.func334 (by kernel_rfl) (by kernel_rfl) (fun _=>rfl) (fun _=>rfl)
inductive Zb7 where
 | b0 (a0:List Z9) (a1:Int) (a2:Z9)
noncomputable def ZlE:Zb7->Tr U (((List Z9)×Int)⊕Zb7)
 | .b0 a0 a1 a2=>.chk (([]:List Z9).length==0) ( .chk (decide ((0+a0.length)*64<=lim)&&decide (0+a0.length<=maxLen)) ( .bind 45 (ZdD a1 a2) (fun(x1:Int)=>.br (x1 != (0:Int)) ( .chk ((([]:List Z9)++a0).length==(([]:List Z9)++a0).length) ( .leaf (.inl ((([]:List Z9)++a0),x1)))) ( .br (decide ((↑a0.length:Int)>(0:Int))) ( .chk ((([]:List Z9)++a0).length==(([]:List Z9)++a0).length) ( .leaf (.inl ((([]:List Z9)++a0),(20:Int))))) ( .chk (([a2]).length==1) ( .chk ((([]:List Z9)++a0).length==(([]:List Z9)++a0).length) ( .chk (decide (((([]:List Z9)++a0).length+([a2]).length)*64<=lim)&&decide ((([]:List Z9)++a0).length+([a2]).length<=maxLen)) ( .chk (((([]:List Z9)++a0)++[a2]).length==((([]:List Z9)++a0)++[a2]).length) ( .leaf (.inl (((([]:List Z9)++a0)++[a2]),(0:Int))))))))))))
noncomputable def Zgp (a0:List Z9) (a1:Int) (a2:Z9):Option ((List Z9)×Int):=Z05 ZlE (.b0 a0 a1 a2)
noncomputable def ZH5:Mod U:=⟨[37,30,138],269,fun x=>Zgp x.1 x.2.1 x.2.2.1,by decide⟩
noncomputable def ZCZ:Zb7->Z08 U
 | .b0 a0 a1 a2=>Z0f Tryz.f261 [37,30,138] (a0,a1,a2,())
theorem ZwF:Z0e 261 Tryz.f261 (mc Zwa msN) hsN AN 269 ZlE ZCZ
 | .b0 _ _ _=>by kernel_rfl
theorem ZpA:Z04 Tryz.prog B0 261 ZH5:=okP ZwF (fun x=>.b0 x.1 x.2.1 x.2.2.1) (by kernel_rfl) Tryz.func261 (by kernel_rfl) (by kernel_rfl) (fun _=>rfl) (fun _=>rfl)
inductive Z4z where
 | b0 (a0:Z4)
noncomputable def ZaI:Z4z->Tr U (Z9⊕Z4z)
 | .b0 a0=>.leaf (.inl (⟨a0.Kind,a0.Z0u,a0.ZI,a0.Map⟩:Z9))
noncomputable def Z7s (a0:Z4):Option Z9:=Z05 ZaI (.b0 a0)
noncomputable def Zt7:Mod U:=⟨[156],138,fun x=>Z7s x.1,by decide⟩
noncomputable def Zq3:Z4z->Z08 U
 | .b0 a0=>Z0f Tryz.f262 [156] (a0,())
theorem ZnJ:Z0e 262 Tryz.f262 msN hsN AN 138 ZaI Zq3
 | .b0 _=>by kernel_rfl
theorem Zgm:Z04 Tryz.prog B0 262 Zt7:=okP ZnJ (fun x=>.b0 x.1) (by kernel_rfl) Tryz.func262 (by kernel_rfl) (by kernel_rfl) (fun _=>rfl) (fun _=>rfl)
inductive Z6R where
 | b0 (a0:Z7) (a1:Z4) (a2 a3:Int)
 | b1 (a0:Int) (a1:Z7) (a2:Z4) (a3:Z7) (a4:Z4)
 | b2 (a0:Int) (a1:Z7) (a2:Z4) (a3:Z7) (a4:Z4)
 | b3 (a0:Z7) (a1:Z4) (a2:Z7) (a3:Z4)
 | b4 (a0:Z7) (a1:Z4) (a2:Z7) (a3:Z4)
 | b5 (a0:Z7) (a1:Z4) (a2:Z7) (a3:Z4)
noncomputable def Zej:Z6R->Tr U ((Z7×Z4)⊕Z6R)
 | .b0 a0 a1 a2 a3=>.br (a1.Kind==(0:Int)) ( .br (a1.Kind==(0:Int)) ( .leaf (.inr (.b1 a2 ({ a0 with Own:=a1.Kind,Since:=a3 }:Z7) a1 (⟨(0:Int),(0:Int),(0:Int),([]:List Z4),(0:Int),(0:Int),([]:List Z9),false,(0:Int),(0:Int),false,false,(0:Int),(0:Int),(0:Int),(0:Int),(0:Int),(0:Int),(0:Int),(0:Int)⟩:Z7) Z0b))) ( .leaf (.inr (.b2 a1.Kind ({ a0 with Own:=a1.Kind,Since:=a3 }:Z7) a1 (⟨(0:Int),(0:Int),(0:Int),([]:List Z4),(0:Int),(0:Int),([]:List Z9),false,(0:Int),(0:Int),false,false,(0:Int),(0:Int),(0:Int),(0:Int),(0:Int),(0:Int),(0:Int),(0:Int)⟩:Z7) Z0b)))) ( .br (a1.Kind==(1:Int)) ( .leaf (.inr (.b1 a2 ({ a0 with Own:=a1.Kind,Since:=a3 }:Z7) a1 (⟨(0:Int),(0:Int),(0:Int),([]:List Z4),(0:Int),(0:Int),([]:List Z9),false,(0:Int),(0:Int),false,false,(0:Int),(0:Int),(0:Int),(0:Int),(0:Int),(0:Int),(0:Int),(0:Int)⟩:Z7) Z0b))) ( .leaf (.inr (.b2 a1.Kind ({ a0 with Own:=a1.Kind,Since:=a3 }:Z7) a1 (⟨(0:Int),(0:Int),(0:Int),([]:List Z4),(0:Int),(0:Int),([]:List Z9),false,(0:Int),(0:Int),false,false,(0:Int),(0:Int),(0:Int),(0:Int),(0:Int),(0:Int),(0:Int),(0:Int)⟩:Z7) Z0b))))
 | .b1 a0 a1 a2 a3 a4=>.bind 30 (Zif a0 (0:Int)) (fun(x1:Int)=>.bind 138 (Z7s ({ a2 with Z0u:=x1 }:Z4)) (fun(x2:Z9)=>.bind 269 (Zgp a1.Zy a0 x2) (fun(x3:(List Z9)×Int)=>.br (x3.2==(0:Int)) ( .leaf (.inr (.b3 ({ a1 with Zy:=x3.1 }:Z7) ({ a2 with Z0u:=x1 }:Z4) a3 a4))) ( .leaf (.inr (.b3 a1 ({ a2 with Z0u:=x1 }:Z4) a3 a4))))))
 | .b2 a0 a1 a2 a3 a4=>.br (a0==(3:Int)) ( .leaf (.inr (.b4 ({ a1 with Z4h:=a2.Z4h,Mark:=a2.Mark,Z1W:=(1:Int) }:Z7) a2 a3 a4))) ( .br (a0==(12:Int)) ( .leaf (.inr (.b4 ({ a1 with Z0q:=true }:Z7) a2 a3 a4))) ( .br (a0==(20:Int)) ( .leaf (.inr (.b4 ({ a1 with Limit:=a2.Length }:Z7) a2 a3 a4))) ( .leaf (.inr (.b4 a1 a2 a3 a4)))))
 | .b3 a0 a1 a2 a3=>.br (a1.Kind==(0:Int)) ( .br (a0.Other==(15:Int)) ( .leaf (.inr (.b5 ({ a0 with Told:=false }:Z7) a1 a2 a3))) ( .leaf (.inr (.b4 ({ a0 with Told:=false }:Z7) a1 a2 a3)))) ( .leaf (.inr (.b4 ({ a0 with Told:=false }:Z7) a1 a2 a3)))
 | .b4 a0 a1 a2 a3=>.leaf (.inl (a0,a1))
 | .b5 a0 a1 a2 a3=>.leaf (.inr (.b4 ({ a0 with Other:=(-1:Int) }:Z7) a1 a2 a3))
noncomputable def Z8T (a0:Z7) (a1:Z4) (a2 a3:Int):Option (Z7×Z4):=Z05 Zej (.b0 a0 a1 a2 a3)
noncomputable def Zyp:Mod U:=⟨[39,156,30,3],216,fun x=>Z8T x.1 x.2.1 x.2.2.1 x.2.2.2.1,by decide⟩
def ZfC:Lay:=⟨[2,4,5,8,9],[[.keep],[.keep],[.keep],[.keep],[.keep]],[.var k0,.var k2,.var k0,.var k2],⟨[.one (.v 30 1 false),.one (.ptr 0),.one (.ptr 1),.one (.ptr 2),.one (.ptr 3)],[.var 39 20 (.agg [.v 39 20 true]),.var 156 15 (.agg [.v 156 15 true]),.var 39 20 (.agg [.v 39 20 true]),.var 156 15 (.agg [.v 156 15 true])]⟩⟩
def Zhf:Lay:=⟨[4,5,8,9,18],[[.keep],[.keep],[.keep],[.keep],[.keep]],[.var k0,.var k2,.var k0,.var k2],⟨[.one (.ptr 0),.one (.ptr 1),.one (.ptr 2),.one (.ptr 3),.one (.v 3 1 false)],[.var 39 20 (.agg [.v 39 20 true]),.var 156 15 (.agg [.v 156 15 true]),.var 39 20 (.agg [.v 39 20 true]),.var 156 15 (.agg [.v 156 15 true])]⟩⟩
def Zh3:Lay:=⟨[4,5,8,9],[[.keep],[.keep],[.keep],[.keep]],[.var k0,.var k2,.var k0,.var k2],⟨[.one (.ptr 0),.one (.ptr 1),.one (.ptr 2),.one (.ptr 3)],[.var 39 20 (.agg [.v 39 20 true]),.var 156 15 (.agg [.v 156 15 true]),.var 39 20 (.agg [.v 39 20 true]),.var 156 15 (.agg [.v 156 15 true])]⟩⟩
def ZfU:Lay:=⟨[4,5,8,9],[[.keep],[.keep],[.keep],[.keep]],[.var k0,.var k2,.var k0,.var k2],⟨[.one (.ptr 0),.one (.ptr 1),.one (.ptr 2),.one (.ptr 3)],[.var 39 20 (.agg [.v 39 20 true]),.var 156 15 (.agg [.v 156 15 true]),.var 39 20 (.agg [.v 39 20 true]),.var 156 15 (.agg [.v 156 15 true])]⟩⟩
def Zht:Lay:=⟨[4,5,8,9],[[.keep],[.keep],[.keep],[.keep]],[.var k0,.var k2,.var k0,.var k2],⟨[.one (.ptr 0),.one (.ptr 1),.one (.ptr 2),.one (.ptr 3)],[.var 39 20 (.agg [.v 39 20 true]),.var 156 15 (.agg [.v 156 15 true]),.var 39 20 (.agg [.v 39 20 true]),.var 156 15 (.agg [.v 156 15 true])]⟩⟩
def Zz5:Nat->Option Lay
 | 6=>some ZfC
 | 13=>some Zhf
 | 10=>some Zh3
 | 21=>some ZfU
 | 12=>some Zht
 | _=>none
noncomputable def Ztk:Z6R->Z08 U
 | .b0 a0 a1 a2 a3=>Z0f Tryz.f189 [39,156,30,3] (a0,a1,a2,a3,())
 | .b1 a0 a1 a2 a3 a4=>spL Tryz.f189 [1,1,1,0,1,0,1,0,0] ZfC (((a0,()),((),((),((),((),()))))),((a1,()),((a2,()),((a3,()),((a4,()),())))))
 | .b2 a0 a1 a2 a3 a4=>spL Tryz.f189 [1,1,1,0,1,0,1,1,0] Zhf (((),((),((),((),((a0,()),()))))),((a1,()),((a2,()),((a3,()),((a4,()),())))))
 | .b3 a0 a1 a2 a3=>spL Tryz.f189 [1,1,1,0,1,0,1,0,1,1,1,0] Zh3 (((),((),((),((),())))),((a0,()),((a1,()),((a2,()),((a3,()),())))))
 | .b4 a0 a1 a2 a3=>spL Tryz.f189 [1,1,1,1,0] ZfU (((),((),((),((),())))),((a0,()),((a1,()),((a2,()),((a3,()),())))))
 | .b5 a0 a1 a2 a3=>spL Tryz.f189 [1,1,1,0,1,0,1,0,1,1,1,1,1,0] Zht (((),((),((),((),())))),((a0,()),((a1,()),((a2,()),((a3,()),())))))
theorem ZrI:Z0e 189 Tryz.f189 (mc ZxT (mc ZpA (mc Zgm msN))) hsN Zz5 216 Zej Ztk
 | .b0 _ _ _ _=>by kernel_rfl
 | .b1 _ _ _ _ _=>by kernel_rfl
 | .b2 _ _ _ _ _=>by kernel_rfl
 | .b3 _ _ _ _=>by kernel_rfl
 | .b4 _ _ _ _=>by kernel_rfl
 | .b5 _ _ _ _=>by kernel_rfl
theorem Zjd:Z04 Tryz.prog B0 189 Zyp:=okP ZrI (fun x=>.b0 x.1 x.2.1 x.2.2.1 x.2.2.2.1) (by kernel_rfl) Tryz.func189 (by kernel_rfl) (by kernel_rfl) (fun _=>rfl) (fun _=>rfl)
inductive Z6w where
 | b0 (a0:Z7) (a1 a2:Int)
 | b1 (a0 a1:Int) (a2:List Z4) (a3 a4:Z7)
 | b2 (a0 a1:Int) (a2:List Z4) (a3 a4:Z7)
 | b3 (a0:List Z4) (a1 a2:Z7)
 | b4 (a0 a1:Int) (a2:List Z4) (a3 a4:Z7) (a5:Z4)
noncomputable def Zdz:Z6w->Tr U ((Z7×(List Z4))⊕Z6w)
 | .b0 a0 a1 a2=>.chk (([]:List Z4).length==0) ( .leaf (.inr (.b1 a1 a2 ([]:List Z4) a0 (⟨(0:Int),(0:Int),(0:Int),([]:List Z4),(0:Int),(0:Int),([]:List Z9),false,(0:Int),(0:Int),false,false,(0:Int),(0:Int),(0:Int),(0:Int),(0:Int),(0:Int),(0:Int),(0:Int)⟩:Z7))))
 | .b1 a0 a1 a2 a3 a4=>.br (a3.Z2R==(0:Int)) ( .br (decide (a3.Own<(0:Int))) ( .br (decide ((↑a3.Zl.length:Int)>(0:Int))) ( .chk (decide (0<=(0:Int)/\(0:Int)<(↑a3.Zl.length:Int))) ( .bind 156 (a3.Zl[(Int.toNat (0:Int))]?) (fun(x1:Z4)=>.bind 4 (Zgc a3 x1) (fun(x2:Bool)=>.br x2 ( .chk (a2.length==a2.length) ( .leaf (.inr (.b2 a0 a1 a2 a3 a4)))) ( .chk (a2.length==a2.length) ( .leaf (.inr (.b3 a2 a3 a4)))))))) ( .chk (a2.length==a2.length) ( .leaf (.inr (.b3 a2 a3 a4))))) ( .chk (a2.length==a2.length) ( .leaf (.inr (.b3 a2 a3 a4))))) ( .chk (a2.length==a2.length) ( .leaf (.inr (.b3 a2 a3 a4))))
 | .b2 a0 a1 a2 a3 a4=>.chk (decide (0<=(0:Int)/\(0:Int)<(↑a3.Zl.length:Int))) ( .bind 156 (a3.Zl[(Int.toNat (0:Int))]?) (fun(x1:Z4)=>.chk (decide (0<=(1:Int)/\(1:Int)<=(↑a3.Zl.length:Int))) ( .chk (([]:List Z4).length==0) ( .chk (decide ((0+((a3.Zl.drop (Int.toNat (1:Int))).take (a3.Zl.length - (Int.toNat (1:Int)))).length)*120<=lim)&&decide (0+((a3.Zl.drop (Int.toNat (1:Int))).take (a3.Zl.length - (Int.toNat (1:Int)))).length<=maxLen)) ( .br (x1.Kind==(12:Int)) ( .br a3.Z0q ( .chk ((([]:List Z4)++((a3.Zl.drop (Int.toNat (1:Int))).take (a3.Zl.length - (Int.toNat (1:Int))))).length==(([]:List Z4)++((a3.Zl.drop (Int.toNat (1:Int))).take (a3.Zl.length - (Int.toNat (1:Int))))).length) ( .chk (a2.length==a2.length) ( .leaf (.inr (.b1 a0 a1 a2 ({ a3 with Zl:=(([]:List Z4)++((a3.Zl.drop (Int.toNat (1:Int))).take (a3.Zl.length - (Int.toNat (1:Int))))) }:Z7) a4))))) ( .br (x1.Kind==(3:Int)) ( .br (a3.Z1W != (0:Int)) ( .chk ((([]:List Z4)++((a3.Zl.drop (Int.toNat (1:Int))).take (a3.Zl.length - (Int.toNat (1:Int))))).length==(([]:List Z4)++((a3.Zl.drop (Int.toNat (1:Int))).take (a3.Zl.length - (Int.toNat (1:Int))))).length) ( .chk (a2.length==a2.length) ( .leaf (.inr (.b1 a0 a1 a2 ({ a3 with Zl:=(([]:List Z4)++((a3.Zl.drop (Int.toNat (1:Int))).take (a3.Zl.length - (Int.toNat (1:Int))))) }:Z7) a4))))) ( .chk ((a2.length==a2.length)&&((([]:List Z4)++((a3.Zl.drop (Int.toNat (1:Int))).take (a3.Zl.length - (Int.toNat (1:Int))))).length==(([]:List Z4)++((a3.Zl.drop (Int.toNat (1:Int))).take (a3.Zl.length - (Int.toNat (1:Int))))).length)) ( .leaf (.inr (.b4 a0 a1 a2 ({ a3 with Zl:=(([]:List Z4)++((a3.Zl.drop (Int.toNat (1:Int))).take (a3.Zl.length - (Int.toNat (1:Int))))) }:Z7) a4 x1))))) ( .chk ((a2.length==a2.length)&&((([]:List Z4)++((a3.Zl.drop (Int.toNat (1:Int))).take (a3.Zl.length - (Int.toNat (1:Int))))).length==(([]:List Z4)++((a3.Zl.drop (Int.toNat (1:Int))).take (a3.Zl.length - (Int.toNat (1:Int))))).length)) ( .leaf (.inr (.b4 a0 a1 a2 ({ a3 with Zl:=(([]:List Z4)++((a3.Zl.drop (Int.toNat (1:Int))).take (a3.Zl.length - (Int.toNat (1:Int))))) }:Z7) a4 x1)))))) ( .br (x1.Kind==(3:Int)) ( .br (a3.Z1W != (0:Int)) ( .chk ((([]:List Z4)++((a3.Zl.drop (Int.toNat (1:Int))).take (a3.Zl.length - (Int.toNat (1:Int))))).length==(([]:List Z4)++((a3.Zl.drop (Int.toNat (1:Int))).take (a3.Zl.length - (Int.toNat (1:Int))))).length) ( .chk (a2.length==a2.length) ( .leaf (.inr (.b1 a0 a1 a2 ({ a3 with Zl:=(([]:List Z4)++((a3.Zl.drop (Int.toNat (1:Int))).take (a3.Zl.length - (Int.toNat (1:Int))))) }:Z7) a4))))) ( .chk ((a2.length==a2.length)&&((([]:List Z4)++((a3.Zl.drop (Int.toNat (1:Int))).take (a3.Zl.length - (Int.toNat (1:Int))))).length==(([]:List Z4)++((a3.Zl.drop (Int.toNat (1:Int))).take (a3.Zl.length - (Int.toNat (1:Int))))).length)) ( .leaf (.inr (.b4 a0 a1 a2 ({ a3 with Zl:=(([]:List Z4)++((a3.Zl.drop (Int.toNat (1:Int))).take (a3.Zl.length - (Int.toNat (1:Int))))) }:Z7) a4 x1))))) ( .chk ((a2.length==a2.length)&&((([]:List Z4)++((a3.Zl.drop (Int.toNat (1:Int))).take (a3.Zl.length - (Int.toNat (1:Int))))).length==(([]:List Z4)++((a3.Zl.drop (Int.toNat (1:Int))).take (a3.Zl.length - (Int.toNat (1:Int))))).length)) ( .leaf (.inr (.b4 a0 a1 a2 ({ a3 with Zl:=(([]:List Z4)++((a3.Zl.drop (Int.toNat (1:Int))).take (a3.Zl.length - (Int.toNat (1:Int))))) }:Z7) a4 x1))))))))))
 | .b3 a0 a1 a2=>.chk (a0.length==a0.length) ( .leaf (.inl (a1,a0)))
 | .b4 a0 a1 a2 a3 a4 a5=>.chk (a3.Zl.length==a3.Zl.length) ( .bind 216 (Z8T a3 a5 a0 a1) (fun(x1:Z7×Z4)=>.chk (([x1.2]).length==1) ( .chk (a2.length==a2.length) ( .chk (decide ((a2.length+([x1.2]).length)*120<=lim)&&decide (a2.length+([x1.2]).length<=maxLen)) ( .chk ((a2++[x1.2]).length==(a2++[x1.2]).length) ( .leaf (.inr (.b1 a0 a1 (a2++[x1.2]) x1.1 a4))))))))
noncomputable def Zev (a0:Z7) (a1 a2:Int):Option (Z7×(List Z4)):=Z05 Zdz (.b0 a0 a1 a2)
noncomputable def Zy5:Mod U:=⟨[39,30,3],140,fun x=>Zev x.1 x.2.1 x.2.2.1,by decide⟩
def Zg9:Lay:=⟨[1,2,3,6,8],[[.keep],[.keep],[.keep],[.keep],[.own 156 15]],[.var k0,.var k0,.row true],⟨[.one (.v 30 1 false),.one (.v 3 1 false),.one (.ptr 0),.one (.ptr 1),.one (.own 156 2)],[.var 39 20 (.agg [.v 39 20 true]),.var 39 20 (.agg [.v 39 20 true]),.row 156 true]⟩⟩
def ZfY:Lay:=⟨[1,2,3,6,8],[[.keep],[.keep],[.keep],[.keep],[.own 156 15]],[.var k0,.var k0,.row true],⟨[.one (.v 30 1 false),.one (.v 3 1 false),.one (.ptr 0),.one (.ptr 1),.one (.own 156 2)],[.var 39 20 (.agg [.v 39 20 true]),.var 39 20 (.agg [.v 39 20 true]),.row 156 true]⟩⟩
def Zg4:Lay:=⟨[3,6,8],[[.keep],[.keep],[.own 156 15]],[.var k0,.var k0,.row true],⟨[.one (.ptr 0),.one (.ptr 1),.one (.own 156 2)],[.var 39 20 (.agg [.v 39 20 true]),.var 39 20 (.agg [.v 39 20 true]),.row 156 true]⟩⟩
def ZfO:Lay:=⟨[1,2,3,6,8,9],[[.keep],[.keep],[.keep],[.keep],[.own 156 15],[.keep]],[.var [.keep,.keep,.keep,.own 156 15,.keep,.keep,.s 138 8,.keep,.keep,.keep,.keep,.keep,.keep,.keep,.keep,.keep,.keep,.keep,.keep,.keep],.var k0,.row true,.var k2,.row true],⟨[.one (.v 30 1 false),.one (.v 3 1 false),.one (.ptr 0),.one (.ptr 1),.one (.own 156 2),.one (.ptr 3)],[.var 39 20 (.agg [.v 3 1 false,.v 3 1 false,.v 3 1 false,.own 156 4,.v 3 1 false,.v 3 1 false,.v 37 1 false,.v 4 1 false,.v 25 1 false,.v 25 1 false,.v 4 1 false,.v 4 1 false,.v 3 1 false,.v 3 1 false,.v 3 1 false,.v 25 1 false,.v 25 1 false,.v 25 1 false,.v 3 1 false,.v 3 1 false]),.var 39 20 (.agg [.v 39 20 true]),.row 156 true,.var 156 15 (.agg [.v 156 15 true]),.row 156 true]⟩⟩
def Zzd:Nat->Option Lay
 | 2=>some Zg9
 | 3=>some ZfY
 | 8=>some Zg4
 | 6=>some ZfO
 | _=>none
noncomputable def Zui:Z6w->Z08 U
 | .b0 a0 a1 a2=>Z0f Tryz.f96 [39,30,3] (a0,a1,a2,())
 | .b1 a0 a1 a2 a3 a4=>spL Tryz.f96 [1,1,0,0,0,0,0] Zg9 (((a0,()),((a1,()),((),((),((),()))))),((a3,()),((a4,()),(a2,()))))
 | .b2 a0 a1 a2 a3 a4=>spL Tryz.f96 [1,1,0,0,0,1,0,0] ZfY (((a0,()),((a1,()),((),((),((),()))))),((a3,()),((a4,()),(a2,()))))
 | .b3 a0 a1 a2=>spL Tryz.f96 [1,1,1,0] Zg4 (((),((),((),()))),((a1,()),((a2,()),(a0,()))))
 | .b4 a0 a1 a2 a3 a4 a5=>spL Tryz.f96 [1,1,0,0,0,1,0,1,1,1,0] ZfO (((a0,()),((a1,()),((),((),((),((),())))))),((a3.Z1G,(a3.Own,(a3.Since,(a3.Other,(a3.Z0i,(a3.Zy,(a3.Told,(a3.ZQ,(a3.Z2Z,(a3.Z40,(a3.Z0q,(a3.Version,(a3.Length,(a3.Limit,(a3.Z4h,(a3.ZkQ,(a3.Mark,(a3.Z1W,(a3.Z2R,()))))))))))))))))))),((a4,()),(a2,((a5,()),(a3.Zl,()))))))
theorem Zq4:Z0e 96 Tryz.f96 (mc Zph (mc Zjd msN)) hsN Zzd 140 Zdz Zui
 | .b0 _ _ _=>by kernel_rfl
 | .b1 _ _ _ _ _=>by kernel_rfl
 | .b2 _ _ _ _ _=>by kernel_rfl
 | .b3 _ _ _=>by kernel_rfl
 | .b4 _ _ _ _ _ _=>by kernel_rfl
theorem ZuP:Z04 Tryz.prog B0 96 Zy5:=okP Zq4 (fun x=>.b0 x.1 x.2.1 x.2.2.1) (by kernel_rfl) Tryz.func96 (by kernel_rfl) (by kernel_rfl) (fun _=>rfl) (fun _=>rfl)
inductive Z63 where
 | b0 (a0:Z8)
noncomputable def Zes:Z63->Tr U (Int⊕Z63)
 | .b0 a0=>.bind 30 (Zfi a0.Event a0.ZX.ZI.Z1o) (fun(x1:Int)=>.leaf (.inl x1))
noncomputable def Z8V (a0:Z8):Option Int:=Z05 Zes (.b0 a0)
noncomputable def Zxz:Mod U:=⟨[44],30,fun x=>Z8V x.1,by decide⟩
noncomputable def ZtO:Z63->Z08 U
 | .b0 a0=>Z0f Tryz.f97 [44] (a0,())
theorem ZrV:Z0e 97 Tryz.f97 (mc Zpi msN) hsN AN 30 Zes ZtO
 | .b0 _=>by kernel_rfl
theorem ZjX:Z04 Tryz.prog B0 97 Zxz:=okP ZrV (fun x=>.b0 x.1) (by kernel_rfl) Tryz.func97 (by kernel_rfl) (by kernel_rfl) (fun _=>rfl) (fun _=>rfl)
inductive Z89 where
 | b0 (a0 a1 a2:Int)
noncomputable def Zhz:Z89->Tr U (Bool⊕Z89)
 | .b0 a0 a1 a2=>.br (decide (a0>=(0:Int))) ( .bind 4 (Z2A a0) (fun(x1:Bool)=>.br (!x1) ( .leaf (.inl (decide ((w64 (a2 - a1))>(40000000:Int))))) ( .leaf (.inl false)))) ( .leaf (.inl false))
noncomputable def ZbQ (a0 a1 a2:Int):Option Bool:=Z05 Zhz (.b0 a0 a1 a2)
noncomputable def ZCf:Mod U:=⟨[3,3,3],4,fun x=>ZbQ x.1 x.2.1 x.2.2.1,by decide⟩
noncomputable def ZxJ:Z89->Z08 U
 | .b0 a0 a1 a2=>Z0f Tryz.f191 [3,3,3] (a0,a1,a2,())
theorem ZvH:Z0e 191 Tryz.f191 (mc Z3b msN) hsN AN 4 Zhz ZxJ
 | .b0 _ _ _=>by kernel_rfl
theorem ZxH:Z04 Tryz.prog B0 191 ZCf:=okP ZvH (fun x=>.b0 x.1 x.2.1 x.2.2.1) (by kernel_rfl) Tryz.func191 (by kernel_rfl) (by kernel_rfl) (fun _=>rfl) (fun _=>rfl)
inductive Z3l where
 | b0 (a0:Z7) (a1:Int)
noncomputable def Z9h:Z3l->Tr U (Bool⊕Z3l)
 | .b0 a0 a1=>.bind 4 (ZbQ a0.Own a0.Since a1) (fun(x1:Bool)=>.br x1 ( .leaf (.inl true)) ( .bind 4 (ZbQ a0.Other a0.Z0i a1) (fun(x2:Bool)=>.leaf (.inl x2))))
noncomputable def Z8X (a0:Z7) (a1:Int):Option Bool:=Z05 Z9h (.b0 a0 a1)
noncomputable def Zrc:Mod U:=⟨[39,3],4,fun x=>Z8X x.1 x.2.1,by decide⟩
noncomputable def ZoM:Z3l->Z08 U
 | .b0 a0 a1=>Z0f Tryz.f98 [39,3] (a0,a1,())
theorem ZmM:Z0e 98 Tryz.f98 (mc ZxH msN) hsN AN 4 Z9h ZoM
 | .b0 _ _=>by kernel_rfl
theorem ZnE:Z04 Tryz.prog B0 98 Zrc:=okP ZmM (fun x=>.b0 x.1 x.2.1) (by kernel_rfl) Tryz.func98 (by kernel_rfl) (by kernel_rfl) (fun _=>rfl) (fun _=>rfl)
inductive Z3M where
 | b0 (a0:ZO)
noncomputable def Z9w:Z3M->Tr U (Int⊕Z3M)
 | .b0 a0=>.bind 3 (Z2E a0.Z4b (10:Int) (3200:Int)) (fun(x1:Int)=>.leaf (.inl (w64 (x1*(10000:Int)))))
noncomputable def Z9q (a0:ZO):Option Int:=Z05 Z9w (.b0 a0)
noncomputable def ZrY:Mod U:=⟨[24],3,fun x=>Z9q x.1,by decide⟩
noncomputable def ZnN:Z3M->Z08 U
 | .b0 a0=>Z0f Tryz.f99 [24] (a0,())
theorem Zlb:Z0e 99 Tryz.f99 (mc Z4l msN) hsN AN 3 Z9w ZnN
 | .b0 _=>by kernel_rfl
theorem ZnS:Z04 Tryz.prog B0 99 ZrY:=okP Zlb (fun x=>.b0 x.1) (by kernel_rfl) Tryz.func99 (by kernel_rfl) (by kernel_rfl) (fun _=>rfl) (fun _=>rfl)
inductive ZaU where
 | b0 (a0:Z8) (a1:Int)
noncomputable def Znz:ZaU->Tr U ((Z8×(List Z5))⊕ZaU)
 | .b0 a0 a1=>.chk (([(⟨(4:Int),a0.Event,(⟨(0:Int),[]⟩:Zb),Z0I,(IntKind.wrap .u64 (a1)),Zu⟩:Z5)]).length==1) ( .leaf (.inl (({ a0 with ZL:=a1 }:Z8),[(⟨(4:Int),a0.Event,(⟨(0:Int),[]⟩:Zb),Z0I,(IntKind.wrap .u64 (a1)),Zu⟩:Z5)])))
noncomputable def ZfE (a0:Z8) (a1:Int):Option (Z8×(List Z5)):=Z05 Znz (.b0 a0 a1)
noncomputable def ZGK:Mod U:=⟨[44,3],78,fun x=>ZfE x.1 x.2.1,by decide⟩
noncomputable def ZBI:ZaU->Z08 U
 | .b0 a0 a1=>Z0f Tryz.f100 [44,3] (a0,a1,())
theorem ZwQ:Z0e 100 Tryz.f100 msN hsN AN 78 Znz ZBI
 | .b0 _ _=>by kernel_rfl
theorem ZoX:Z04 Tryz.prog B0 100 ZGK:=okP ZwQ (fun x=>.b0 x.1 x.2.1) (by kernel_rfl) Tryz.func100 (by kernel_rfl) (by kernel_rfl) (fun _=>rfl) (fun _=>rfl)
inductive Z6D where
 | b0 (a0:Z8) (a1:Int)
 | b1 (a0:Int) (a1:Bool) (a2 a3:Z8)
 | b2 (a0:Int) (a1:Bool) (a2 a3:Z8)
 | b3 (a0 a1 a2:Int) (a3 a4:Z8)
 | b4 (a0 a1:Int) (a2 a3:Z8)
 | b5 (a0:Int) (a1:List Z5) (a2:List Z9) (a3:Int) (a4 a5:Z8) (a6:Z7)
 | b6 (a0:List Z5) (a1:Int) (a2 a3:Z8)
 | b7 (a0:List Z5) (a1 a2:Z8)
 | b8 (a0:Int) (a1:List Z5) (a2:Int) (a3 a4:Z8)
 | b9 (a0:List Z5) (a1 a2:Z8)
noncomputable def Zdr:Z6D->Tr U ((Z8×(List Z5))⊕Z6D)
 | .b0 a0 a1=>.br (a0.ZL != (0:Int)) ( .chk (([]:List Z5).length==0) ( .leaf (.inl (a0,([]:List Z5))))) ( .br (a0.Z1G==(1:Int)) ( .br (!a0.Got) ( .bind 4 (Z9r a0) (fun(x1:Bool)=>.leaf (.inr (.b1 a1 x1 a0 (⟨(0:Int),Zm,(0:Int),(0:Int),(0:Int),(0:Int),(0:Int),(0:Int),(0:Int),false,false,false,false,false,(⟨(0:Int),(0:Int),([]:List Zb),false,false,(0:Int),(0:Int)⟩:Zr),Zq,(⟨(0:Int),(0:Int),(0:Int),([]:List Z4),(0:Int),(0:Int),([]:List Z9),false,(0:Int),(0:Int),false,false,(0:Int),(0:Int),(0:Int),(0:Int),(0:Int),(0:Int),(0:Int),(0:Int)⟩:Z7),Zt,(0:Int),([]:List Zg),([]:List Z4),(0:Int),(0:Int)⟩:Z8))))) ( .leaf (.inr (.b1 a1 false a0 (⟨(0:Int),Zm,(0:Int),(0:Int),(0:Int),(0:Int),(0:Int),(0:Int),(0:Int),false,false,false,false,false,(⟨(0:Int),(0:Int),([]:List Zb),false,false,(0:Int),(0:Int)⟩:Zr),Zq,(⟨(0:Int),(0:Int),(0:Int),([]:List Z4),(0:Int),(0:Int),([]:List Z9),false,(0:Int),(0:Int),false,false,(0:Int),(0:Int),(0:Int),(0:Int),(0:Int),(0:Int),(0:Int),(0:Int)⟩:Z7),Zt,(0:Int),([]:List Zg),([]:List Z4),(0:Int),(0:Int)⟩:Z8))))) ( .leaf (.inr (.b1 a1 false a0 (⟨(0:Int),Zm,(0:Int),(0:Int),(0:Int),(0:Int),(0:Int),(0:Int),(0:Int),false,false,false,false,false,(⟨(0:Int),(0:Int),([]:List Zb),false,false,(0:Int),(0:Int)⟩:Zr),Zq,(⟨(0:Int),(0:Int),(0:Int),([]:List Z4),(0:Int),(0:Int),([]:List Z9),false,(0:Int),(0:Int),false,false,(0:Int),(0:Int),(0:Int),(0:Int),(0:Int),(0:Int),(0:Int),(0:Int)⟩:Z7),Zt,(0:Int),([]:List Zg),([]:List Z4),(0:Int),(0:Int)⟩:Z8)))))
 | .b1 a0 a1 a2 a3=>.br a1 ( .bind 129 (ZiT a2.Z0H) (fun(x1:Zo×Int)=>.leaf (.inr (.b2 a0 a1 ({ a2 with Z0H:=x1.1 }:Z8) a3)))) ( .br (a2.Z1G==(1:Int)) ( .bind 35 (Zaf a2.Z0H a2.Z0Z) (fun(x2:Zo)=>.leaf (.inr (.b2 a0 a1 ({ a2 with Z0H:=x2 }:Z8) a3)))) ( .leaf (.inr (.b2 a0 a1 a2 a3))))
 | .b2 a0 a1 a2 a3=>.bind 104 (ZbP a2.ZX a2.Event a2.Last) (fun(x1:Int×Int)=>.br (!a2.Good) ( .br (!a1) ( .leaf (.inr (.b3 a0 x1.1 x1.2 a2 a3))) ( .leaf (.inr (.b4 a0 x1.2 a2 a3)))) ( .leaf (.inr (.b4 a0 x1.2 a2 a3))))
 | .b3 a0 a1 a2 a3 a4=>.bind 42 (Z4B a3.Zx a1 false) (fun(x1:List Zg)=>.leaf (.inr (.b4 a0 a2 ({ a3 with Zx:=x1 }:Z8) a4)))
 | .b4 a0 a1 a2 a3=>.bind 135 (Znu a2.Zi (IntKind.wrap .u16 (a2.Event+(1:Int)))) (fun(x1:Z7×(List Z9))=>.chk (([]:List Z5).length==0) ( .leaf (.inr (.b5 a0 ([]:List Z5) x1.2 (0:Int) ({ a2 with Event:=(IntKind.wrap .u16 (a2.Event+(1:Int))),Last:=a1,Z0P:=(w64 (a2.Z0P+(w64 ((1250:Int)*a2.ZX.ZI.Z1z)))),Got:=false,Good:=false,Z0Z:=false,More:=false,Zi:=x1.1 }:Z8) a3 x1.1))))
 | .b5 a0 a1 a2 a3 a4 a5 a6=>.br (decide (a3<(↑a2.length:Int))) ( .chk (decide (0<=a3/\a3<(↑a2.length:Int))) ( .bind 138 (a2[(Int.toNat a3)]?) (fun(x1:Z9)=>.bind 44 (ZeK a4 x1) (fun(x2:Z8)=>.chk (decide (0<=a3/\a3<(↑a2.length:Int))) ( .bind 138 (a2[(Int.toNat a3)]?) (fun(x3:Z9)=>.chk (([(⟨(2:Int),x2.Event,(⟨(0:Int),[]⟩:Zb),x3,(0:Int),Zu⟩:Z5)]).length==1) ( .chk (a1.length==a1.length) ( .chk (decide ((a1.length+([(⟨(2:Int),x2.Event,(⟨(0:Int),[]⟩:Zb),x3,(0:Int),Zu⟩:Z5)]).length)*160<=lim)&&decide (a1.length+([(⟨(2:Int),x2.Event,(⟨(0:Int),[]⟩:Zb),x3,(0:Int),Zu⟩:Z5)]).length<=maxLen)) ( .chk ((a1++[(⟨(2:Int),x2.Event,(⟨(0:Int),[]⟩:Zb),x3,(0:Int),Zu⟩:Z5)]).length==(a1++[(⟨(2:Int),x2.Event,(⟨(0:Int),[]⟩:Zb),x3,(0:Int),Zu⟩:Z5)]).length) ( .leaf (.inr (.b5 a0 (a1++[(⟨(2:Int),x2.Event,(⟨(0:Int),[]⟩:Zb),x3,(0:Int),Zu⟩:Z5)]) a2 (w64 (a3+(1:Int))) x2 a5 a6)))))))))))) ( .bind 30 (Z8V a4) (fun(x4:Int)=>.bind 140 (Zev a4.Zi x4 a0) (fun(x5:Z7×(List Z4))=>.chk (([]:List Z4).length==0) ( .chk (decide ((0+a4.Zf.length)*120<=lim)&&decide (0+a4.Zf.length<=maxLen)) ( .chk ((([]:List Z4)++a4.Zf).length==(([]:List Z4)++a4.Zf).length) ( .chk (decide (((([]:List Z4)++a4.Zf).length+x5.2.length)*120<=lim)&&decide ((([]:List Z4)++a4.Zf).length+x5.2.length<=maxLen)) ( .br (x5.1.Z2R != (0:Int)) ( .chk ((a1.length==a1.length)&&(((([]:List Z4)++a4.Zf)++x5.2).length==((([]:List Z4)++a4.Zf)++x5.2).length)) ( .leaf (.inr (.b6 a1 x5.1.Z2R ({ a4 with Zi:=x5.1,Zf:=((([]:List Z4)++a4.Zf)++x5.2) }:Z8) a5)))) ( .bind 4 (Z8X x5.1 a0) (fun(x6:Bool)=>.br x6 ( .chk ((a1.length==a1.length)&&(((([]:List Z4)++a4.Zf)++x5.2).length==((([]:List Z4)++a4.Zf)++x5.2).length)) ( .leaf (.inr (.b6 a1 (34:Int) ({ a4 with Zi:=x5.1,Zf:=((([]:List Z4)++a4.Zf)++x5.2) }:Z8) a5)))) ( .br a4.Z2W ( .bind 3 (Z9q a4.ZX.ZI) (fun(x7:Int)=>.br (decide ((w64 (a0 - a4.Z3c))>x7)) ( .chk ((a1.length==a1.length)&&(((([]:List Z4)++a4.Zf)++x5.2).length==((([]:List Z4)++a4.Zf)++x5.2).length)) ( .leaf (.inr (.b7 a1 ({ a4 with Zi:=x5.1,Zf:=((([]:List Z4)++a4.Zf)++x5.2) }:Z8) a5)))) ( .chk ((a1.length==a1.length)&&(((([]:List Z4)++a4.Zf)++x5.2).length==((([]:List Z4)++a4.Zf)++x5.2).length)) ( .leaf (.inr (.b8 a0 a1 (0:Int) ({ a4 with Zi:=x5.1,Zf:=((([]:List Z4)++a4.Zf)++x5.2) }:Z8) a5)))))) ( .chk ((a1.length==a1.length)&&(((([]:List Z4)++a4.Zf)++x5.2).length==((([]:List Z4)++a4.Zf)++x5.2).length)) ( .leaf (.inr (.b8 a0 a1 (0:Int) ({ a4 with Zi:=x5.1,Zf:=((([]:List Z4)++a4.Zf)++x5.2) }:Z8) a5))))))))))))))
 | .b6 a0 a1 a2 a3=>.br (a1 != (0:Int)) ( .chk (a2.Zf.length==a2.Zf.length) ( .bind 78 (ZfE a2 a1) (fun(x1:Z8×(List Z5))=>.chk (a0.length==a0.length) ( .chk (decide ((a0.length+x1.2.length)*160<=lim)&&decide (a0.length+x1.2.length<=maxLen)) ( .chk ((a0++x1.2).length==(a0++x1.2).length) ( .leaf (.inl (x1.1,(a0++x1.2))))))))) ( .chk (a2.Zf.length==a2.Zf.length) ( .chk (a0.length==a0.length) ( .leaf (.inl (a2,a0)))))
 | .b7 a0 a1 a2=>.chk ((a0.length==a0.length)&&(a1.Zf.length==a1.Zf.length)) ( .leaf (.inr (.b6 a0 (8:Int) a1 a2)))
 | .b8 a0 a1 a2 a3 a4=>.br (!a3.Z2W) ( .br (decide ((w64 (a0 - a3.Z3c))>(w64 ((7500:Int)*a3.ZX.ZI.Z1z)))) ( .chk ((a1.length==a1.length)&&(a3.Zf.length==a3.Zf.length)) ( .leaf (.inr (.b9 a1 a3 a4)))) ( .chk ((a1.length==a1.length)&&(a3.Zf.length==a3.Zf.length)) ( .leaf (.inr (.b6 a1 a2 a3 a4))))) ( .chk ((a1.length==a1.length)&&(a3.Zf.length==a3.Zf.length)) ( .leaf (.inr (.b6 a1 a2 a3 a4))))
 | .b9 a0 a1 a2=>.chk ((a0.length==a0.length)&&(a1.Zf.length==a1.Zf.length)) ( .leaf (.inr (.b6 a0 (62:Int) a1 a2)))
noncomputable def Z8Z (a0:Z8) (a1:Int):Option (Z8×(List Z5)):=Z05 Zdr (.b0 a0 a1)
noncomputable def Zzk:Mod U:=⟨[44,3],78,fun x=>Z8Z x.1 x.2.1,by decide⟩
def ZfB:Lay:=⟨[1,2,4,6],[[.keep],[.keep],[.keep],[.keep]],[.var k1,.var k1],⟨[.one (.v 3 1 false),.one (.ptr 0),.one (.ptr 1),.one (.v 4 1 false)],[.var 44 66 (.agg [.v 44 66 true]),.var 44 66 (.agg [.v 44 66 true])]⟩⟩
def Zf3:Lay:=⟨[1,2,4,6],[[.keep],[.keep],[.keep],[.keep]],[.var k1,.var k1],⟨[.one (.v 3 1 false),.one (.ptr 0),.one (.ptr 1),.one (.v 4 1 false)],[.var 44 66 (.agg [.v 44 66 true]),.var 44 66 (.agg [.v 44 66 true])]⟩⟩
def Zfd:Lay:=⟨[1,2,4,9,10],[[.keep],[.keep],[.keep],[.keep],[.keep]],[.var k1,.var k1],⟨[.one (.v 3 1 false),.one (.ptr 0),.one (.ptr 1),.one (.v 3 1 false),.one (.v 3 1 false)],[.var 44 66 (.agg [.v 44 66 true]),.var 44 66 (.agg [.v 44 66 true])]⟩⟩
def Zfp:Lay:=⟨[1,2,4,10],[[.keep],[.keep],[.keep],[.keep]],[.var k1,.var k1],⟨[.one (.v 3 1 false),.one (.ptr 0),.one (.ptr 1),.one (.v 3 1 false)],[.var 44 66 (.agg [.v 44 66 true]),.var 44 66 (.agg [.v 44 66 true])]⟩⟩
def Zfq:Lay:=⟨[1,2,4,11,12,13,14],[[.keep],[.keep],[.keep],[.own 148 18],[.keep],[.s 138 8],[.keep]],[.var k1,.var k1,.row true,.var k0],⟨[.one (.v 3 1 false),.one (.ptr 0),.one (.ptr 1),.one (.own 148 2),.one (.ptr 3),.one (.v 37 1 false),.one (.v 3 1 false)],[.var 44 66 (.agg [.v 44 66 true]),.var 44 66 (.agg [.v 44 66 true]),.row 148 true,.var 39 20 (.agg [.v 39 20 true])]⟩⟩
def ZgS:Lay:=⟨[2,4,11,16],[[.keep],[.keep],[.own 148 18],[.keep]],[.var k9,.var k1,.row true,.row true],⟨[.one (.ptr 0),.one (.ptr 1),.one (.own 148 2),.one (.v 3 1 false)],[.var 44 66 (.agg [.v 3 1 false,.v 28 11 true,.v 3 1 false,.v 30 1 false,.v 3 1 false,.v 3 1 false,.v 3 1 false,.v 3 1 false,.v 3 1 false,.v 4 1 false,.v 4 1 false,.v 4 1 false,.v 4 1 false,.v 4 1 false,.v 33 7 true,.v 35 3 true,.v 39 20 true,.v 41 7 true,.v 29 1 false,.v 42 1 false,.own 156 3,.v 3 1 false,.v 25 1 false]),.var 44 66 (.agg [.v 44 66 true]),.row 148 true,.row 156 true]⟩⟩
def Zfr:Lay:=⟨[2,4,11],[[.keep],[.keep],[.own 148 18]],[.var k9,.var k1,.row true,.row true],⟨[.one (.ptr 0),.one (.ptr 1),.one (.own 148 2)],[.var 44 66 (.agg [.v 3 1 false,.v 28 11 true,.v 3 1 false,.v 30 1 false,.v 3 1 false,.v 3 1 false,.v 3 1 false,.v 3 1 false,.v 3 1 false,.v 4 1 false,.v 4 1 false,.v 4 1 false,.v 4 1 false,.v 4 1 false,.v 33 7 true,.v 35 3 true,.v 39 20 true,.v 41 7 true,.v 29 1 false,.v 42 1 false,.own 156 3,.v 3 1 false,.v 25 1 false]),.var 44 66 (.agg [.v 44 66 true]),.row 148 true,.row 156 true]⟩⟩
def Zgb:Lay:=⟨[1,2,4,11,16],[[.keep],[.keep],[.keep],[.own 148 18],[.keep]],[.var k9,.var k1,.row true,.row true],⟨[.one (.v 3 1 false),.one (.ptr 0),.one (.ptr 1),.one (.own 148 2),.one (.v 3 1 false)],[.var 44 66 (.agg [.v 3 1 false,.v 28 11 true,.v 3 1 false,.v 30 1 false,.v 3 1 false,.v 3 1 false,.v 3 1 false,.v 3 1 false,.v 3 1 false,.v 4 1 false,.v 4 1 false,.v 4 1 false,.v 4 1 false,.v 4 1 false,.v 33 7 true,.v 35 3 true,.v 39 20 true,.v 41 7 true,.v 29 1 false,.v 42 1 false,.own 156 3,.v 3 1 false,.v 25 1 false]),.var 44 66 (.agg [.v 44 66 true]),.row 148 true,.row 156 true]⟩⟩
def Zgo:Lay:=⟨[2,4,11],[[.keep],[.keep],[.own 148 18]],[.var k9,.var k1,.row true,.row true],⟨[.one (.ptr 0),.one (.ptr 1),.one (.own 148 2)],[.var 44 66 (.agg [.v 3 1 false,.v 28 11 true,.v 3 1 false,.v 30 1 false,.v 3 1 false,.v 3 1 false,.v 3 1 false,.v 3 1 false,.v 3 1 false,.v 4 1 false,.v 4 1 false,.v 4 1 false,.v 4 1 false,.v 4 1 false,.v 33 7 true,.v 35 3 true,.v 39 20 true,.v 41 7 true,.v 29 1 false,.v 42 1 false,.own 156 3,.v 3 1 false,.v 25 1 false]),.var 44 66 (.agg [.v 44 66 true]),.row 148 true,.row 156 true]⟩⟩
def ZwH:Nat->Option Lay
 | 4=>some ZfB
 | 9=>some Zf3
 | 11=>some Zfd
 | 12=>some Zfp
 | 20=>some Zfq
 | 36=>some ZgS
 | 33=>some Zfr
 | 34=>some Zgb
 | 35=>some Zgo
 | _=>none
noncomputable def Zw4:Z6D->Z08 U
 | .b0 a0 a1=>Z0f Tryz.f30 [44,3] (a0,a1,())
 | .b1 a0 a1 a2 a3=>spL Tryz.f30 [1,1,1,0,0] ZfB (((a0,()),((),((),((a1,()),())))),((a2,()),((a3,()),())))
 | .b2 a0 a1 a2 a3=>spL Tryz.f30 [1,1,1,1,0] Zf3 (((a0,()),((),((),((a1,()),())))),((a2,()),((a3,()),())))
 | .b3 a0 a1 a2 a3 a4=>spL Tryz.f30 [1,1,1,1,1,0,1,0] Zfd (((a0,()),((),((),((a1,()),((a2,()),()))))),((a3,()),((a4,()),())))
 | .b4 a0 a1 a2 a3=>spL Tryz.f30 [1,1,1,1,1,1,0] Zfp (((a0,()),((),((),((a1,()),())))),((a2,()),((a3,()),())))
 | .b5 a0 a1 a2 a3 a4 a5 a6=>spL Tryz.f30 [1,1,1,1,1,1,1,1,1,1,1,1,1,0,1,0,0,0,0] Zfq (((a0,()),((),((),((),((),((a2,()),((a3,()),()))))))),((a4,()),((a5,()),(a1,((a6,()),())))))
 | .b6 a0 a1 a2 a3=>spL Tryz.f30 [1,1,1,1,1,1,1,1,1,1,1,1,1,1,1,1,1,1,1,0,0] ZgS (((),((),((),((a1,()),())))),((a2.Z1G,(a2.ZX,(a2.Clock,(a2.Event,(a2.Last,(a2.Z0P,(a2.Size,(a2.Sync,(a2.Z3c,(a2.Z2W,(a2.Got,(a2.Good,(a2.Z0Z,(a2.More,(a2.Arq,(a2.Z0H,(a2.Zi,(a2.ZZ,(a2.Key,(a2.Zx,(a2.ZL,(a2.Zc9,())))))))))))))))))))))),((a3,()),(a0,(a2.Zf,())))))
 | .b7 a0 a1 a2=>spL Tryz.f30 [1,1,1,1,1,1,1,1,1,1,1,1,1,1,1,1,1,1,0,0,1,1,1,1,1,0] Zfr (((),((),((),()))),((a1.Z1G,(a1.ZX,(a1.Clock,(a1.Event,(a1.Last,(a1.Z0P,(a1.Size,(a1.Sync,(a1.Z3c,(a1.Z2W,(a1.Got,(a1.Good,(a1.Z0Z,(a1.More,(a1.Arq,(a1.Z0H,(a1.Zi,(a1.ZZ,(a1.Key,(a1.Zx,(a1.ZL,(a1.Zc9,())))))))))))))))))))))),((a2,()),(a0,(a1.Zf,())))))
 | .b8 a0 a1 a2 a3 a4=>spL Tryz.f30 [1,1,1,1,1,1,1,1,1,1,1,1,1,1,1,1,1,1,0,0,1,1,1,1,1,1,0] Zgb (((a0,()),((),((),((),((a2,()),()))))),((a3.Z1G,(a3.ZX,(a3.Clock,(a3.Event,(a3.Last,(a3.Z0P,(a3.Size,(a3.Sync,(a3.Z3c,(a3.Z2W,(a3.Got,(a3.Good,(a3.Z0Z,(a3.More,(a3.Arq,(a3.Z0H,(a3.Zi,(a3.ZZ,(a3.Key,(a3.Zx,(a3.ZL,(a3.Zc9,())))))))))))))))))))))),((a4,()),(a1,(a3.Zf,())))))
 | .b9 a0 a1 a2=>spL Tryz.f30 [1,1,1,1,1,1,1,1,1,1,1,1,1,1,1,1,1,1,0,0,1,1,1,1,1,1,1,0] Zgo (((),((),((),()))),((a1.Z1G,(a1.ZX,(a1.Clock,(a1.Event,(a1.Last,(a1.Z0P,(a1.Size,(a1.Sync,(a1.Z3c,(a1.Z2W,(a1.Got,(a1.Good,(a1.Z0Z,(a1.More,(a1.Arq,(a1.Z0H,(a1.Zi,(a1.ZZ,(a1.Key,(a1.Zx,(a1.ZL,(a1.Zc9,())))))))))))))))))))))),((a2,()),(a0,(a1.Zf,())))))
theorem ZrD:Z0e 30 Tryz.f30 (mc Zjl (mc Zl2 (mc Zyz (mc ZqD (mc ZgE (mc ZBj (mc Ztw (mc ZuP (mc ZjX (mc ZnE (mc ZnS (mc ZoX msN)))))))))))) hsN ZwH 78 Zdr Zw4
 | .b0 _ _=>by kernel_rfl
 | .b1 _ _ _ _=>by kernel_rfl
 | .b2 _ _ _ _=>by kernel_rfl
 | .b3 _ _ _ _ _=>by kernel_rfl
 | .b4 _ _ _ _=>by kernel_rfl
 | .b5 _ _ _ _ _ _ _=>by kernel_rfl
 | .b6 _ _ _ _=>by kernel_rfl
 | .b7 _ _ _=>by kernel_rfl
 | .b8 _ _ _ _ _=>by kernel_rfl
 | .b9 _ _ _=>by kernel_rfl
theorem Zv0:Z04 Tryz.prog B0 30 Zzk:=okP ZrD (fun x=>.b0 x.1 x.2.1) (by kernel_rfl) Tryz.func30 (by kernel_rfl) (by kernel_rfl) (fun _=>rfl) (fun _=>rfl)
end Go.Proofs.YtjodhcdmhobmoaaGreatDoor
namespace Go.Proofs.YtjodhcdmhobmoaaGreatDoor
open Go Go.Proofs.YtjodhcdmhobmoaaGreatDoor.Le
set_option maxRecDepth 100000
inductive Z8j where
 | b0 (a0:Z8) (a1:Zb)
 | b1 (a0:Z8) (a1:Zb) (a2:Z8)
noncomputable def ZiG:Z8j->Tr U ((Z8×Int)⊕Z8j)
 | .b0 a0 a1=>.br (a1.Z5c != (2:Int)) ( .br (a1.Z5c != (1:Int)) ( .leaf (.inl (a0,(1:Int)))) ( .leaf (.inr (.b1 a0 a1 (⟨(0:Int),Zm,(0:Int),(0:Int),(0:Int),(0:Int),(0:Int),(0:Int),(0:Int),false,false,false,false,false,(⟨(0:Int),(0:Int),([]:List Zb),false,false,(0:Int),(0:Int)⟩:Zr),Zq,(⟨(0:Int),(0:Int),(0:Int),([]:List Z4),(0:Int),(0:Int),([]:List Z9),false,(0:Int),(0:Int),false,false,(0:Int),(0:Int),(0:Int),(0:Int),(0:Int),(0:Int),(0:Int),(0:Int)⟩:Z7),Zt,(0:Int),([]:List Zg),([]:List Z4),(0:Int),(0:Int)⟩:Z8))))) ( .leaf (.inr (.b1 a0 a1 (⟨(0:Int),Zm,(0:Int),(0:Int),(0:Int),(0:Int),(0:Int),(0:Int),(0:Int),false,false,false,false,false,(⟨(0:Int),(0:Int),([]:List Zb),false,false,(0:Int),(0:Int)⟩:Zr),Zq,(⟨(0:Int),(0:Int),(0:Int),([]:List Z4),(0:Int),(0:Int),([]:List Z9),false,(0:Int),(0:Int),false,false,(0:Int),(0:Int),(0:Int),(0:Int),(0:Int),(0:Int),(0:Int),(0:Int)⟩:Z7),Zt,(0:Int),([]:List Zg),([]:List Z4),(0:Int),(0:Int)⟩:Z8))))
 | .b1 a0 a1 a2=>.bind 45 (Z2u (⟨(0:Int),(0:Int),(0:Int),a1⟩:Zk)) (fun(x1:Int)=>.br (x1 != (0:Int)) ( .leaf (.inl (a0,x1))) ( .br (decide ((↑a1.Payload.length:Int)>a0.Zi.Length)) ( .leaf (.inl (a0,(4:Int)))) ( .bind 4 (Z9j a0.Zi) (fun(x2:Bool)=>.br x2 ( .leaf (.inl (a0,(20:Int)))) ( .bind 189 (Z9o a0.Arq a1) (fun(x3:Zr×Int)=>.br (x3.2 != (0:Int)) ( .leaf (.inl (a0,x3.2))) ( .leaf (.inl (({ a0 with Arq:=x3.1 }:Z8),(0:Int))))))))))
noncomputable def ZhD (a0:Z8) (a1:Zb):Option (Z8×Int):=Z05 ZiG (.b0 a0 a1)
noncomputable def ZDE:Mod U:=⟨[44,68],46,fun x=>ZhD x.1 x.2.1,by decide⟩
def ZjJ:Lay:=⟨[2,3,4],[[.keep],[.keep],[.keep]],[.var k1,.var [.keep,.s 5 1],.var k1],⟨[.one (.ptr 0),.one (.ptr 1),.one (.ptr 2)],[.var 44 66 (.agg [.v 44 66 true]),.var 68 2 (.agg [.v 68 2 true]),.var 44 66 (.agg [.v 44 66 true])]⟩⟩
def ZDa:Nat->Option Lay
 | 3=>some ZjJ
 | _=>none
noncomputable def Zxe:Z8j->Z08 U
 | .b0 a0 a1=>Z0f Tryz.f102 [44,68] (a0,a1,())
 | .b1 a0 a1 a2=>spL Tryz.f102 [1,1,0] ZjJ (((),((),((),()))),((a0,()),((a1,()),((a2,()),()))))
theorem Ztz:Z0e 102 Tryz.f102 (mc Zj9 (mc ZjQ (mc Z38 msN))) hsN ZDa 46 ZiG Zxe
 | .b0 _ _=>by kernel_rfl
 | .b1 _ _ _=>by kernel_rfl
theorem ZxC:Z04 Tryz.prog B0 102 ZDE:=okP Ztz (fun x=>.b0 x.1 x.2.1) (by kernel_rfl) Tryz.func102 (by kernel_rfl) (by kernel_rfl) (fun _=>rfl) (fun _=>rfl)
inductive Z2t where
 | b0 (a0:Int)
 | b1 (a0:Int)
 | b2 (a0:Int)
 | b3 (a0:Int)
 | b4 (a0:Int)
noncomputable def Z74:Z2t->Tr U (Int⊕Z2t)
 | .b0 a0=>.br (a0==(0:Int)) ( .br (a0==(0:Int)) ( .leaf (.inl a0)) ( .leaf (.inr (.b1 a0)))) ( .br (a0==(1:Int)) ( .br (a0==(1:Int)) ( .leaf (.inl a0)) ( .leaf (.inr (.b1 a0)))) ( .br (a0==(2:Int)) ( .br (a0==(2:Int)) ( .leaf (.inl a0)) ( .leaf (.inr (.b1 a0)))) ( .br (a0==(12:Int)) ( .br (a0==(12:Int)) ( .leaf (.inl a0)) ( .leaf (.inr (.b1 a0)))) ( .br (a0==(15:Int)) ( .leaf (.inl a0)) ( .leaf (.inr (.b1 a0)))))))
 | .b1 a0=>.br (a0==(8:Int)) ( .br (a0==(8:Int)) ( .leaf (.inl (8:Int))) ( .leaf (.inr (.b2 a0)))) ( .br (a0==(9:Int)) ( .leaf (.inl (8:Int))) ( .leaf (.inr (.b2 a0))))
 | .b2 a0=>.br (a0==(3:Int)) ( .br (a0==(3:Int)) ( .leaf (.inl (3:Int))) ( .leaf (.inr (.b3 a0)))) ( .br (a0==(4:Int)) ( .br (a0==(4:Int)) ( .leaf (.inl (3:Int))) ( .leaf (.inr (.b3 a0)))) ( .br (a0==(5:Int)) ( .br (a0==(5:Int)) ( .leaf (.inl (3:Int))) ( .leaf (.inr (.b3 a0)))) ( .br (a0==(6:Int)) ( .leaf (.inl (3:Int))) ( .leaf (.inr (.b3 a0))))))
 | .b3 a0=>.br (a0==(18:Int)) ( .br (a0==(18:Int)) ( .leaf (.inl (18:Int))) ( .leaf (.inr (.b4 a0)))) ( .br (a0==(19:Int)) ( .leaf (.inl (18:Int))) ( .leaf (.inr (.b4 a0))))
 | .b4 a0=>.br (a0==(20:Int)) ( .br (a0==(20:Int)) ( .leaf (.inl (20:Int))) ( .leaf (.inl (-1:Int)))) ( .br (a0==(21:Int)) ( .leaf (.inl (20:Int))) ( .leaf (.inl (-1:Int))))
noncomputable def Z5W (a0:Int):Option Int:=Z05 Z74 (.b0 a0)
noncomputable def Zmh:Mod U:=⟨[3],3,fun x=>Z5W x.1,by decide⟩
def Z8K:Lay:=⟨[3],[[.keep]],[],⟨[.one (.v 3 1 false)],[]⟩⟩
def Z83:Lay:=⟨[3],[[.keep]],[],⟨[.one (.v 3 1 false)],[]⟩⟩
def Z88:Lay:=⟨[3],[[.keep]],[],⟨[.one (.v 3 1 false)],[]⟩⟩
def Z8n:Lay:=⟨[3],[[.keep]],[],⟨[.one (.v 3 1 false)],[]⟩⟩
def Zni:Nat->Option Lay
 | 8=>some Z8K
 | 11=>some Z83
 | 16=>some Z88
 | 19=>some Z8n
 | _=>none
noncomputable def Zk9:Z2t->Z08 U
 | .b0 a0=>Z0f Tryz.f341 [3] (a0,())
 | .b1 a0=>spL Tryz.f341 [1,0,1,0,1,1,0,0] Z8K (((a0,()),()),())
 | .b2 a0=>spL Tryz.f341 [1,0,1,0,1,1,1,1,0,0] Z83 (((a0,()),()),())
 | .b3 a0=>spL Tryz.f341 [1,0,1,0,1,1,1,1,1,1,0,0] Z88 (((a0,()),()),())
 | .b4 a0=>spL Tryz.f341 [1,0,1,0,1,1,1,1,1,1,1,1,0,0] Z8n (((a0,()),()),())
theorem Zj2:Z0e 341 Tryz.f341 msN hsN Zni 3 Z74 Zk9
 | .b0 _=>by kernel_rfl
 | .b1 _=>by kernel_rfl
 | .b2 _=>by kernel_rfl
 | .b3 _=>by kernel_rfl
 | .b4 _=>by kernel_rfl
theorem ZkE:Z04 Tryz.prog B0 341 Zmh:=okP Zj2 (fun x=>.b0 x.1) (by kernel_rfl) Tryz.func341 (by kernel_rfl) (by kernel_rfl) (fun _=>rfl) (fun _=>rfl)
inductive Z2v where
 | b0 (a0:Int)
noncomputable def Z6U:Z2v->Tr U (Bool⊕Z2v)
 | .b0 a0=>.bind 262 (Z06 a0) (fun(x1:Zd)=>.br x1.Z40 ( .bind 3 (Z5W a0) (fun(x2:Int)=>.leaf (.inl (x2==a0)))) ( .leaf (.inl false)))
noncomputable def Z6z (a0:Int):Option Bool:=Z05 Z6U (.b0 a0)
noncomputable def ZlZ:Mod U:=⟨[3],4,fun x=>Z6z x.1,by decide⟩
noncomputable def ZkA:Z2v->Z08 U
 | .b0 a0=>Z0f Tryz.f268 [3] (a0,())
theorem ZiK:Z0e 268 Tryz.f268 (mc Z1v (mc ZkE msN)) hsN AN 4 Z6U ZkA
 | .b0 _=>by kernel_rfl
theorem ZkF:Z04 Tryz.prog B0 268 ZlZ:=okP ZiK (fun x=>.b0 x.1) (by kernel_rfl) Tryz.func268 (by kernel_rfl) (by kernel_rfl) (fun _=>rfl) (fun _=>rfl)
inductive Z4u where
 | b0 (a0:Z7) (a1:Z4)
 | b1 (a0 a1:Z4)
noncomputable def Zbm:Z4u->Tr U (Z4⊕Z4u)
 | .b0 a0 a1=>.br (a1.Kind==(8:Int)) ( .leaf (.inl ({ a1 with ZQ:=a0.ZQ }:Z4))) ( .br (a1.Kind==(12:Int)) ( .leaf (.inl ({ a1 with Version:=(11:Int) }:Z4))) ( .br (a1.Kind==(0:Int)) ( .br (a1.Kind==(0:Int)) ( .leaf (.inr (.b1 a1 Z0b))) ( .leaf (.inl a1))) ( .br (a1.Kind==(1:Int)) ( .leaf (.inr (.b1 a1 Z0b))) ( .leaf (.inl a1)))))
 | .b1 a0 a1=>.leaf (.inl ({ a0 with Z0u:=(0:Int) }:Z4))
noncomputable def ZbH (a0:Z7) (a1:Z4):Option Z4:=Z05 Zbm (.b0 a0 a1)
noncomputable def Zw5:Mod U:=⟨[39,156],156,fun x=>ZbH x.1 x.2.1,by decide⟩
def ZcC:Lay:=⟨[3,4],[[.keep],[.keep]],[.var k2,.var k2],⟨[.one (.ptr 0),.one (.ptr 1)],[.var 156 15 (.agg [.v 156 15 true]),.var 156 15 (.agg [.v 156 15 true])]⟩⟩
def Zvl:Nat->Option Lay
 | 8=>some ZcC
 | _=>none
noncomputable def Zqg:Z4u->Z08 U
 | .b0 a0 a1=>Z0f Tryz.f269 [39,156] (a0,a1,())
 | .b1 a0 a1=>spL Tryz.f269 [1,0,1,0,1,1,1,1,1,0] ZcC (((),((),())),((a0,()),((a1,()),())))
theorem Zod:Z0e 269 Tryz.f269 msN hsN Zvl 156 Zbm Zqg
 | .b0 _ _=>by kernel_rfl
 | .b1 _ _=>by kernel_rfl
theorem ZqA:Z04 Tryz.prog B0 269 Zw5:=okP Zod (fun x=>.b0 x.1 x.2.1) (by kernel_rfl) Tryz.func269 (by kernel_rfl) (by kernel_rfl) (fun _=>rfl) (fun _=>rfl)
inductive Z6q where
 | b0 (a0:Z7) (a1:Int)
 | b1 (a0 a1:Int) (a2:Z7)
noncomputable def ZdK:Z6q->Tr U (Bool⊕Z6q)
 | .b0 a0 a1=>.leaf (.inr (.b1 a1 (0:Int) a0))
 | .b1 a0 a1 a2=>.br (decide (a1<(↑a2.Zl.length:Int))) ( .chk (decide (0<=a1/\a1<(↑a2.Zl.length:Int))) ( .bind 156 (a2.Zl[(Int.toNat a1)]?) (fun(x1:Z4)=>.br (x1.Kind==a0) ( .leaf (.inl true)) ( .leaf (.inr (.b1 a0 (w64 (a1+(1:Int))) a2)))))) ( .leaf (.inl false))
noncomputable def ZeB (a0:Z7) (a1:Int):Option Bool:=Z05 ZdK (.b0 a0 a1)
noncomputable def Zyq:Mod U:=⟨[39,3],4,fun x=>ZeB x.1 x.2.1,by decide⟩
def Zfy:Lay:=⟨[1,2,5],[[.keep],[.keep],[.keep]],[.var k0],⟨[.one (.v 3 1 false),.one (.ptr 0),.one (.v 3 1 false)],[.var 39 20 (.agg [.v 39 20 true])]⟩⟩
def ZwV:Nat->Option Lay
 | 2=>some Zfy
 | _=>none
noncomputable def ZuR:Z6q->Z08 U
 | .b0 a0 a1=>Z0f Tryz.f342 [39,3] (a0,a1,())
 | .b1 a0 a1 a2=>spL Tryz.f342 [1,0,1,0,0,0,0] Zfy (((a0,()),((),((a1,()),()))),((a2,()),()))
theorem ZqJ:Z0e 342 Tryz.f342 msN hsN ZwV 4 ZdK ZuR
 | .b0 _ _=>by kernel_rfl
 | .b1 _ _ _=>by kernel_rfl
theorem ZsE:Z04 Tryz.prog B0 342 Zyq:=okP ZqJ (fun x=>.b0 x.1 x.2.1) (by kernel_rfl) Tryz.func342 (by kernel_rfl) (by kernel_rfl) (fun _=>rfl) (fun _=>rfl)
inductive Z3D where
 | b0 (a0:Z7) (a1:Int)
 | b1 (a0:Int) (a1:Z7)
 | b2 (a0:Int) (a1:Z7)
noncomputable def Z9f:Z3D->Tr U (Bool⊕Z3D)
 | .b0 a0 a1=>.br (a0.Z2R != (0:Int)) ( .leaf (.inl false)) ( .br (a0.Own==(2:Int)) ( .leaf (.inl false)) ( .leaf (.inr (.b1 a1 a0))))
 | .b1 a0 a1=>.bind 4 (Z2A a0) (fun(x1:Bool)=>.br x1 ( .br (a1.Z1G != (0:Int)) ( .leaf (.inl false)) ( .br (a0==(15:Int)) ( .br (a1.Z1G != (1:Int)) ( .leaf (.inl false)) ( .leaf (.inr (.b2 a0 a1)))) ( .leaf (.inr (.b2 a0 a1))))) ( .br (a0==(3:Int)) ( .br (a1.Z1G != (0:Int)) ( .leaf (.inl false)) ( .br (a0==(15:Int)) ( .br (a1.Z1G != (1:Int)) ( .leaf (.inl false)) ( .leaf (.inr (.b2 a0 a1)))) ( .leaf (.inr (.b2 a0 a1))))) ( .br (a0==(15:Int)) ( .br (a1.Z1G != (1:Int)) ( .leaf (.inl false)) ( .leaf (.inr (.b2 a0 a1)))) ( .leaf (.inr (.b2 a0 a1))))))
 | .b2 a0 a1=>.br (a0 != (3:Int)) ( .leaf (.inl true)) ( .br (a1.Z1W==(0:Int)) ( .bind 4 (ZeB a1 (3:Int)) (fun(x1:Bool)=>.leaf (.inl (!x1)))) ( .leaf (.inl false)))
noncomputable def Z98 (a0:Z7) (a1:Int):Option Bool:=Z05 Z9f (.b0 a0 a1)
noncomputable def Zqv:Mod U:=⟨[39,3],4,fun x=>Z98 x.1 x.2.1,by decide⟩
def Zaq:Lay:=⟨[1,2],[[.keep],[.keep]],[.var k0],⟨[.one (.v 3 1 false),.one (.ptr 0)],[.var 39 20 (.agg [.v 39 20 true])]⟩⟩
def Zbo:Lay:=⟨[1,2],[[.keep],[.keep]],[.var k0],⟨[.one (.v 3 1 false),.one (.ptr 0)],[.var 39 20 (.agg [.v 39 20 true])]⟩⟩
def Zrh:Nat->Option Lay
 | 3=>some Zaq
 | 5=>some Zbo
 | _=>none
noncomputable def Zoj:Z3D->Z08 U
 | .b0 a0 a1=>Z0f Tryz.f270 [39,3] (a0,a1,())
 | .b1 a0 a1=>spL Tryz.f270 [1,1,0,0] Zaq (((a0,()),((),())),((a1,()),()))
 | .b2 a0 a1=>spL Tryz.f270 [1,1,1,0] Zbo (((a0,()),((),())),((a1,()),()))
theorem ZmY:Z0e 270 Tryz.f270 (mc Z3b (mc ZsE msN)) hsN Zrh 4 Z9f Zoj
 | .b0 _ _=>by kernel_rfl
 | .b1 _ _=>by kernel_rfl
 | .b2 _ _=>by kernel_rfl
theorem Zob:Z04 Tryz.prog B0 270 Zqv:=okP ZmY (fun x=>.b0 x.1 x.2.1) (by kernel_rfl) Tryz.func270 (by kernel_rfl) (by kernel_rfl) (fun _=>rfl) (fun _=>rfl)
inductive Z6V where
 | b0 (a0:Z7) (a1:Z4) (a2 a3:Int)
 | b1 (a0 a1:Z7)
 | b2 (a0 a1:Int) (a2:Z7) (a3:Z4) (a4:Z7)
 | b3 (a0 a1:Int) (a2:Z7) (a3:Z4) (a4:Z7)
 | b4 (a0:Z7) (a1:Z4) (a2:Z7)
noncomputable def Zer:Z6V->Tr U ((Z7×(List Z4)×Int)⊕Z6V)
 | .b0 a0 a1 a2 a3=>.bind 4 (Z6z a1.Kind) (fun(x1:Bool)=>.br (!x1) ( .chk (([]:List Z4).length==0) ( .leaf (.inl (a0,([]:List Z4),(12:Int))))) ( .bind 156 (ZbH a0 a1) (fun(x2:Z4)=>.bind 45 (Z65 x2) (fun(x3:Int)=>.br (x3 != (0:Int)) ( .chk (([]:List Z4).length==0) ( .leaf (.inl (a0,([]:List Z4),x3)))) ( .bind 4 (Z98 a0 x2.Kind) (fun(x4:Bool)=>.br (!x4) ( .chk (([]:List Z4).length==0) ( .leaf (.inl (a0,([]:List Z4),(9:Int))))) ( .br (x2.Kind==(12:Int)) ( .br a0.Z0q ( .leaf (.inr (.b1 a0 (⟨(0:Int),(0:Int),(0:Int),([]:List Z4),(0:Int),(0:Int),([]:List Z9),false,(0:Int),(0:Int),false,false,(0:Int),(0:Int),(0:Int),(0:Int),(0:Int),(0:Int),(0:Int),(0:Int)⟩:Z7)))) ( .leaf (.inr (.b2 a2 a3 a0 x2 (⟨(0:Int),(0:Int),(0:Int),([]:List Z4),(0:Int),(0:Int),([]:List Z9),false,(0:Int),(0:Int),false,false,(0:Int),(0:Int),(0:Int),(0:Int),(0:Int),(0:Int),(0:Int),(0:Int)⟩:Z7))))) ( .leaf (.inr (.b2 a2 a3 a0 x2 (⟨(0:Int),(0:Int),(0:Int),([]:List Z4),(0:Int),(0:Int),([]:List Z9),false,(0:Int),(0:Int),false,false,(0:Int),(0:Int),(0:Int),(0:Int),(0:Int),(0:Int),(0:Int),(0:Int)⟩:Z7)))))))))))
 | .b1 a0 a1=>.chk (([]:List Z4).length==0) ( .leaf (.inl (a0,([]:List Z4),(0:Int))))
 | .b2 a0 a1 a2 a3 a4=>.br (a3.Kind==(2:Int)) ( .leaf (.inr (.b3 a0 a1 ({ a2 with Zl:=([]:List Z4) }:Z7) a3 a4))) ( .br (decide (a2.Own>=(0:Int))) ( .leaf (.inr (.b4 a2 a3 a4))) ( .br (decide ((↑a2.Zl.length:Int)>(0:Int))) ( .leaf (.inr (.b4 a2 a3 a4))) ( .bind 4 (Zgc a2 a3) (fun(x1:Bool)=>.br (!x1) ( .leaf (.inr (.b4 a2 a3 a4))) ( .leaf (.inr (.b3 a0 a1 a2 a3 a4)))))))
 | .b3 a0 a1 a2 a3 a4=>.bind 216 (Z8T a2 a3 a0 a1) (fun(x1:Z7×Z4)=>.chk (([x1.2]).length==1) ( .leaf (.inl (x1.1,[x1.2],(0:Int)))))
 | .b4 a0 a1 a2=>.br (decide ((↑a0.Zl.length:Int)>=(8:Int))) ( .chk (([]:List Z4).length==0) ( .leaf (.inl (a0,([]:List Z4),(8:Int))))) ( .chk (([]:List Z4).length==0) ( .chk (decide ((0+a0.Zl.length)*120<=lim)&&decide (0+a0.Zl.length<=maxLen)) ( .chk (([a1]).length==1) ( .chk ((([]:List Z4)++a0.Zl).length==(([]:List Z4)++a0.Zl).length) ( .chk (decide (((([]:List Z4)++a0.Zl).length+([a1]).length)*120<=lim)&&decide ((([]:List Z4)++a0.Zl).length+([a1]).length<=maxLen)) ( .chk (((([]:List Z4)++a0.Zl)++[a1]).length==((([]:List Z4)++a0.Zl)++[a1]).length) ( .chk (([]:List Z4).length==0) ( .leaf (.inl (({ a0 with Zl:=((([]:List Z4)++a0.Zl)++[a1]) }:Z7),([]:List Z4),(0:Int)))))))))))
noncomputable def Zdj (a0:Z7) (a1:Z4) (a2 a3:Int):Option (Z7×(List Z4)×Int):=Z05 Zer (.b0 a0 a1 a2 a3)
noncomputable def ZzW:Mod U:=⟨[39,156,30,3],222,fun x=>Zdj x.1 x.2.1 x.2.2.1 x.2.2.2.1,by decide⟩
def Zha:Lay:=⟨[4,8],[[.keep],[.keep]],[.var k0,.var k0],⟨[.one (.ptr 0),.one (.ptr 1)],[.var 39 20 (.agg [.v 39 20 true]),.var 39 20 (.agg [.v 39 20 true])]⟩⟩
def Zhi:Lay:=⟨[2,3,4,5,8],[[.keep],[.keep],[.keep],[.keep],[.keep]],[.var k0,.var k2,.var k0],⟨[.one (.v 30 1 false),.one (.v 3 1 false),.one (.ptr 0),.one (.ptr 1),.one (.ptr 2)],[.var 39 20 (.agg [.v 39 20 true]),.var 156 15 (.agg [.v 156 15 true]),.var 39 20 (.agg [.v 39 20 true])]⟩⟩
def ZgI:Lay:=⟨[2,3,4,5,8],[[.keep],[.keep],[.keep],[.keep],[.keep]],[.var k0,.var k2,.var k0],⟨[.one (.v 30 1 false),.one (.v 3 1 false),.one (.ptr 0),.one (.ptr 1),.one (.ptr 2)],[.var 39 20 (.agg [.v 39 20 true]),.var 156 15 (.agg [.v 156 15 true]),.var 39 20 (.agg [.v 39 20 true])]⟩⟩
def Zhk:Lay:=⟨[4,5,8],[[.keep],[.keep],[.keep]],[.var k0,.var k2,.var k0],⟨[.one (.ptr 0),.one (.ptr 1),.one (.ptr 2)],[.var 39 20 (.agg [.v 39 20 true]),.var 156 15 (.agg [.v 156 15 true]),.var 39 20 (.agg [.v 39 20 true])]⟩⟩
def Zxp:Nat->Option Lay
 | 10=>some Zha
 | 11=>some Zhi
 | 18=>some ZgI
 | 14=>some Zhk
 | _=>none
noncomputable def ZsP:Z6V->Z08 U
 | .b0 a0 a1 a2 a3=>Z0f Tryz.f198 [39,156,30,3] (a0,a1,a2,a3,())
 | .b1 a0 a1=>spL Tryz.f198 [1,1,1,1,1,0,1,0,0] Zha (((),((),())),((a0,()),((a1,()),())))
 | .b2 a0 a1 a2 a3 a4=>spL Tryz.f198 [1,1,1,1,1,1,0,0] Zhi (((a0,()),((a1,()),((),((),((),()))))),((a2,()),((a3,()),((a4,()),()))))
 | .b3 a0 a1 a2 a3 a4=>spL Tryz.f198 [1,1,1,1,1,1,1,0] ZgI (((a0,()),((a1,()),((),((),((),()))))),((a2,()),((a3,()),((a4,()),()))))
 | .b4 a0 a1 a2=>spL Tryz.f198 [1,1,1,1,1,1,0,1,1,1,0,0,0] Zhk (((),((),((),()))),((a0,()),((a1,()),((a2,()),()))))
theorem Zqr:Z0e 198 Tryz.f198 (mc Zph (mc Zjd (mc Za0 (mc ZkF (mc ZqA (mc Zob msN)))))) hsN Zxp 222 Zer ZsP
 | .b0 _ _ _ _=>by kernel_rfl
 | .b1 _ _=>by kernel_rfl
 | .b2 _ _ _ _ _=>by kernel_rfl
 | .b3 _ _ _ _ _=>by kernel_rfl
 | .b4 _ _ _=>by kernel_rfl
theorem ZtP:Z04 Tryz.prog B0 198 ZzW:=okP Zqr (fun x=>.b0 x.1 x.2.1 x.2.2.1 x.2.2.2.1) (by kernel_rfl) Tryz.func198 (by kernel_rfl) (by kernel_rfl) (fun _=>rfl) (fun _=>rfl)
inductive Z6l where
 | b0 (a0:Z8) (a1:Z4) (a2:Int)
noncomputable def Zel:Z6l->Tr U ((Z8×Int)⊕Z6l)
 | .b0 a0 a1 a2=>.bind 30 (Z8V a0) (fun(x1:Int)=>.bind 222 (Zdj a0.Zi a1 x1 a2) (fun(x2:Z7×(List Z4)×Int)=>.br (x2.2.2 != (0:Int)) ( .leaf (.inl (a0,x2.2.2))) ( .chk (([]:List Z4).length==0) ( .chk (decide ((0+a0.Zf.length)*120<=lim)&&decide (0+a0.Zf.length<=maxLen)) ( .chk ((([]:List Z4)++a0.Zf).length==(([]:List Z4)++a0.Zf).length) ( .chk (decide (((([]:List Z4)++a0.Zf).length+x2.2.1.length)*120<=lim)&&decide ((([]:List Z4)++a0.Zf).length+x2.2.1.length<=maxLen)) ( .chk (((([]:List Z4)++a0.Zf)++x2.2.1).length==((([]:List Z4)++a0.Zf)++x2.2.1).length) ( .leaf (.inl (({ a0 with Zi:=x2.1,Zf:=((([]:List Z4)++a0.Zf)++x2.2.1) }:Z8),(0:Int)))))))))))
noncomputable def Z15 (a0:Z8) (a1:Z4) (a2:Int):Option (Z8×Int):=Z05 Zel (.b0 a0 a1 a2)
noncomputable def ZzZ:Mod U:=⟨[44,156,3],46,fun x=>Z15 x.1 x.2.1 x.2.2.1,by decide⟩
noncomputable def Ztn:Z6l->Z08 U
 | .b0 a0 a1 a2=>Z0f Tryz.f103 [44,156,3] (a0,a1,a2,())
theorem ZqK:Z0e 103 Tryz.f103 (mc ZjX (mc ZtP msN)) hsN AN 46 Zel Ztn
 | .b0 _ _ _=>by kernel_rfl
theorem Ztq:Z04 Tryz.prog B0 103 ZzZ:=okP ZqK (fun x=>.b0 x.1 x.2.1 x.2.2.1) (by kernel_rfl) Tryz.func103 (by kernel_rfl) (by kernel_rfl) (fun _=>rfl) (fun _=>rfl)
inductive Z4x where
 | b0 (a0:Int)
noncomputable def ZbE:Z4x->Tr U (Int⊕Z4x)
 | .b0 a0=>.br (decide (a0>(2147483647:Int))) ( .leaf (.inl (2147483647:Int))) ( .leaf (.inl (w64 (a0))))
noncomputable def Z7y (a0:Int):Option Int:=Z05 ZbE (.b0 a0)
noncomputable def ZsB:Mod U:=⟨[25],3,fun x=>Z7y x.1,by decide⟩
noncomputable def ZrZ:Z4x->Z08 U
 | .b0 a0=>Z0f Tryz.f104 [25] (a0,())
theorem ZnK:Z0e 104 Tryz.f104 msN hsN AN 3 ZbE ZrZ
 | .b0 _=>by kernel_rfl
theorem Zrr:Z04 Tryz.prog B0 104 ZsB:=okP ZnK (fun x=>.b0 x.1) (by kernel_rfl) Tryz.func104 (by kernel_rfl) (by kernel_rfl) (fun _=>rfl) (fun _=>rfl)
inductive Zbe where
 | b0 (a0:Z4)
noncomputable def ZmW:Zbe->Tr U ((List Z4)⊕Zbe)
 | .b0 a0=>.chk (([a0]).length==1) ( .leaf (.inl ([a0])))
noncomputable def Z2w (a0:Z4):Option (List Z4):=Z05 ZmW (.b0 a0)
noncomputable def ZF8:Mod U:=⟨[156],36,fun x=>Z2w x.1,by decide⟩
noncomputable def ZC4:Zbe->Z08 U
 | .b0 a0=>Z0f Tryz.f271 [156] (a0,())
theorem Zy4:Z0e 271 Tryz.f271 msN hsN AN 36 ZmW ZC4
 | .b0 _=>by kernel_rfl
theorem Z5S:Z04 Tryz.prog B0 271 ZF8:=okP Zy4 (fun x=>.b0 x.1) (by kernel_rfl) Tryz.func271 (by kernel_rfl) (by kernel_rfl) (fun _=>rfl) (fun _=>rfl)
inductive Z4q where
 | b0 (a0:Z7) (a1:Bool) (a2:Int)
 | b1 (a0:Bool) (a1:Int) (a2 a3:Z7)
noncomputable def ZaK:Z4q->Tr U ((Z7×(List Z4))⊕Z4q)
 | .b0 a0 a1 a2=>.br (a0.Z1G != (1:Int)) ( .chk (([]:List Z4).length==0) ( .leaf (.inl (a0,([]:List Z4))))) ( .br (a0.Z2R != (0:Int)) ( .chk (([]:List Z4).length==0) ( .leaf (.inl (a0,([]:List Z4))))) ( .br (a0.Z1W != (1:Int)) ( .chk (([]:List Z4).length==0) ( .leaf (.inl (a0,([]:List Z4))))) ( .leaf (.inr (.b1 a1 a2 a0 (⟨(0:Int),(0:Int),(0:Int),([]:List Z4),(0:Int),(0:Int),([]:List Z9),false,(0:Int),(0:Int),false,false,(0:Int),(0:Int),(0:Int),(0:Int),(0:Int),(0:Int),(0:Int),(0:Int)⟩:Z7))))))
 | .b1 a0 a1 a2 a3=>.br (!a0) ( .bind 36 (Z2w (⟨(13:Int),Zu,(0:Int),(0:Int),(6:Int),(3:Int),(0:Int),(0:Int),(0:Int),(0:Int),(0:Int)⟩:Z4)) (fun(x1:List Z4)=>.leaf (.inl (({ a2 with Other:=(-1:Int),Z1W:=(0:Int) }:Z7),x1)))) ( .chk (([(⟨(4:Int),Zu,(0:Int),(0:Int),(0:Int),(0:Int),a1,(0:Int),(0:Int),(0:Int),(0:Int)⟩:Z4),(⟨(5:Int),Zu,(0:Int),(0:Int),(0:Int),(0:Int),(0:Int),(0:Int),(0:Int),(0:Int),(0:Int)⟩:Z4)]).length==2) ( .leaf (.inl (({ a2 with Z4h:=a1,Z1W:=(3:Int) }:Z7),[(⟨(4:Int),Zu,(0:Int),(0:Int),(0:Int),(0:Int),a1,(0:Int),(0:Int),(0:Int),(0:Int)⟩:Z4),(⟨(5:Int),Zu,(0:Int),(0:Int),(0:Int),(0:Int),(0:Int),(0:Int),(0:Int),(0:Int),(0:Int)⟩:Z4)]))))
noncomputable def Zaa (a0:Z7) (a1:Bool) (a2:Int):Option (Z7×(List Z4)):=Z05 ZaK (.b0 a0 a1 a2)
noncomputable def Zu6:Mod U:=⟨[39,4,25],140,fun x=>Zaa x.1 x.2.1 x.2.2.1,by decide⟩
def ZcJ:Lay:=⟨[1,2,3,6],[[.keep],[.keep],[.keep],[.keep]],[.var k0,.var k0],⟨[.one (.v 4 1 false),.one (.v 25 1 false),.one (.ptr 0),.one (.ptr 1)],[.var 39 20 (.agg [.v 39 20 true]),.var 39 20 (.agg [.v 39 20 true])]⟩⟩
def Zvi:Nat->Option Lay
 | 3=>some ZcJ
 | _=>none
noncomputable def ZqY:Z4q->Z08 U
 | .b0 a0 a1 a2=>Z0f Tryz.f199 [39,4,25] (a0,a1,a2,())
 | .b1 a0 a1 a2 a3=>spL Tryz.f199 [1,1,0,0] ZcJ (((a0,()),((a1,()),((),((),())))),((a2,()),((a3,()),())))
theorem Zof:Z0e 199 Tryz.f199 (mc Z5S msN) hsN Zvi 140 ZaK ZqY
 | .b0 _ _ _=>by kernel_rfl
 | .b1 _ _ _ _=>by kernel_rfl
theorem Zsk:Z04 Tryz.prog B0 199 Zu6:=okP Zof (fun x=>.b0 x.1 x.2.1 x.2.2.1) (by kernel_rfl) Tryz.func199 (by kernel_rfl) (by kernel_rfl) (fun _=>rfl) (fun _=>rfl)
inductive Z8I where
 | b0 (a0:Zv) (a1 a2:Bool)
noncomputable def Zi5:Z8I->Tr U (Zv⊕Z8I)
 | .b0 a0 a1 a2=>.leaf (.inl ({ a0 with ZJn:=a1,ZJd:=a2 }:Zv))
noncomputable def Z7X (a0:Zv) (a1 a2:Bool):Option Zv:=Z05 Zi5 (.b0 a0 a1 a2)
noncomputable def ZD0:Mod U:=⟨[41,4,4],41,fun x=>Z7X x.1 x.2.1 x.2.2.1,by decide⟩
noncomputable def ZzM:Z8I->Z08 U
 | .b0 a0 a1 a2=>Z0f Tryz.f200 [41,4,4] (a0,a1,a2,())
theorem ZuH:Z0e 200 Tryz.f200 msN hsN AN 41 Zi5 ZzM
 | .b0 _ _ _=>by kernel_rfl
theorem Zdm:Z04 Tryz.prog B0 200 ZD0:=okP ZuH (fun x=>.b0 x.1 x.2.1 x.2.2.1) (by kernel_rfl) Tryz.func200 (by kernel_rfl) (by kernel_rfl) (fun _=>rfl) (fun _=>rfl)
inductive Z4X where
 | b0 (a0:Int) (a1:ByteArray) (a2:List Int)
 | b1 (a0:Int) (a1 a2:List Int) (a3:Int)
noncomputable def Zbj:Z4X->Tr U (Int⊕Z4X)
 | .b0 a0 a1 a2=>.chk (ZHN U 5 a1) ( .chk (([(0:Int)]).length==1) ( .chk ((Z2J U 5 a1).length==(Z2J U 5 a1).length) ( .chk (decide (((Z2J U 5 a1).length+([(0:Int)]).length)*1<=lim)&&decide ((Z2J U 5 a1).length+([(0:Int)]).length<=maxLen)) ( .chk (((Z2J U 5 a1)++[(0:Int)]).length==((Z2J U 5 a1)++[(0:Int)]).length) ( .leaf (.inr (.b1 a0 a2 ((Z2J U 5 a1)++[(0:Int)]) (0:Int))))))))
 | .b1 a0 a1 a2 a3=>.br (decide (a3<(↑a1.length:Int))) ( .chk (decide (0<=a3/\a3<(↑a1.length:Int))) ( .bind 25 (a1[(Int.toNat a3)]?) (fun(x1:Int)=>.bind 1351 (Z6y (8:Int) x1) (fun(y2:Z1R)=>.chk (y2.q0.length==y2.q0.length) ( .chk (a2.length==a2.length) ( .chk (decide ((a2.length+y2.q0.length)*1<=lim)&&decide (a2.length+y2.q0.length<=maxLen)) ( .chk ((a2++y2.q0).length==(a2++y2.q0).length) ( .leaf (.inr (.b1 a0 a1 (a2++y2.q0) (w64 (a3+(1:Int))))))))))))) ( .chk (a2.length==a2.length) ( .bind 25 (Zf9 a0 a2) (fun(x3:Int)=>.leaf (.inl x3))))
noncomputable def ZbK (a0:Int) (a1:ByteArray) (a2:List Int):Option Int:=Z05 Zbj (.b0 a0 a1 a2)
noncomputable def Zv6:Mod U:=⟨[29,9,254],29,fun x=>ZbK x.1 x.2.1 x.2.2.1,by decide⟩
def Zd2:Lay:=⟨[0,2,7,8],[[.keep],[.s 25 1],[.own 5 1],[.keep]],[.row true],⟨[.one (.v 29 1 false),.one (.v 254 1 false),.one (.own 5 0),.one (.v 3 1 false)],[.row 5 true]⟩⟩
def ZuT:Nat->Option Lay
 | 3=>some Zd2
 | _=>none
noncomputable def ZrK:Z4X->Z08 U
 | .b0 a0 a1 a2=>Z0f Tryz.f272 [29,9,254] (a0,a1,a2,())
 | .b1 a0 a1 a2 a3=>spL Tryz.f272 [1,1,0,1,0,0,0,0] Zd2 (((a0,()),((a1,()),((),((a3,()),())))),(a2,()))
theorem ZoN:Z0e 272 Tryz.f272 (mc ZpN msN) (hc [] ZbO hsN) ZuT 29 Zbj ZrK
 | .b0 _ _ _=>by kernel_rfl
 | .b1 _ _ _ _=>by kernel_rfl
theorem ZqI:Z04 Tryz.prog B0 272 Zv6:=okP ZoN (fun x=>.b0 x.1 x.2.1 x.2.2.1) (by kernel_rfl) Tryz.func272 (by kernel_rfl) (by kernel_rfl) (fun _=>rfl) (fun _=>rfl)
inductive Zbl where
 | b0 (a0 a1 a2 a3:Int)
noncomputable def ZlX:Zbl->Tr U (Zv⊕Zbl)
 | .b0 a0 a1 a2 a3=>.chk (([a2,a3]).length==2) ( .bind 29 (ZbK a1 (⟨#[115,101,115,115,105,111,110]⟩:ByteArray) ([a2,a3])) (fun(x1:Int)=>.br (a0==(1:Int)) ( .leaf (.inl (⟨(1:Int),x1,(bits .xor .u64 a2 a3),false,false,(0:Int),(0:Int)⟩:Zv))) ( .leaf (.inl (⟨(0:Int),x1,(bits .xor .u64 a2 a3),false,false,(0:Int),(0:Int)⟩:Zv)))))
noncomputable def Zfg (a0 a1 a2 a3:Int):Option Zv:=Z05 ZlX (.b0 a0 a1 a2 a3)
noncomputable def ZGd:Mod U:=⟨[3,29,25,25],41,fun x=>Zfg x.1 x.2.1 x.2.2.1 x.2.2.2.1,by decide⟩
noncomputable def ZB8:Zbl->Z08 U
 | .b0 a0 a1 a2 a3=>Z0f Tryz.f201 [3,29,25,25] (a0,a1,a2,a3,())
theorem Zxb:Z0e 201 Tryz.f201 (mc ZqI msN) hsN AN 41 ZlX ZB8
 | .b0 _ _ _ _=>by kernel_rfl
theorem ZoZ:Z04 Tryz.prog B0 201 ZGd:=okP Zxb (fun x=>.b0 x.1 x.2.1 x.2.2.1 x.2.2.2.1) (by kernel_rfl) Tryz.func201 (by kernel_rfl) (by kernel_rfl) (fun _=>rfl) (fun _=>rfl)
inductive Zap where
 | b0 (a0:Z8) (a1:Int)
 | b1 (a0:Int) (a1 a2:Z8)
noncomputable def ZlT:Zap->Tr U ((Z8×Int)⊕Zap)
 | .b0 a0 a1=>.br (a0.Z1G != (1:Int)) ( .leaf (.inl (a0,(9:Int)))) ( .br (a0.Zi.Z1W != (1:Int)) ( .leaf (.inl (a0,(9:Int)))) ( .leaf (.inr (.b1 a1 a0 (⟨(0:Int),Zm,(0:Int),(0:Int),(0:Int),(0:Int),(0:Int),(0:Int),(0:Int),false,false,false,false,false,(⟨(0:Int),(0:Int),([]:List Zb),false,false,(0:Int),(0:Int)⟩:Zr),Zq,(⟨(0:Int),(0:Int),(0:Int),([]:List Z4),(0:Int),(0:Int),([]:List Z9),false,(0:Int),(0:Int),false,false,(0:Int),(0:Int),(0:Int),(0:Int),(0:Int),(0:Int),(0:Int),(0:Int)⟩:Z7),Zt,(0:Int),([]:List Zg),([]:List Z4),(0:Int),(0:Int)⟩:Z8)))))
 | .b1 a0 a1 a2=>.bind 140 (Zaa a1.Zi (a0 != (0:Int)) a1.Zc9) (fun(x1:Z7×(List Z4))=>.chk (([]:List Z4).length==0) ( .chk (decide ((0+a1.Zf.length)*120<=lim)&&decide (0+a1.Zf.length<=maxLen)) ( .chk ((([]:List Z4)++a1.Zf).length==(([]:List Z4)++a1.Zf).length) ( .chk (decide (((([]:List Z4)++a1.Zf).length+x1.2.length)*120<=lim)&&decide ((([]:List Z4)++a1.Zf).length+x1.2.length<=maxLen)) ( .br (a0 != (0:Int)) ( .bind 41 (Zfg a1.Z1G a0 x1.1.ZkQ x1.1.Z4h) (fun(x2:Zv)=>.bind 41 (Z7X x2 false true) (fun(x3:Zv)=>.chk (((([]:List Z4)++a1.Zf)++x1.2).length==((([]:List Z4)++a1.Zf)++x1.2).length) ( .leaf (.inl (({ a1 with Zi:=x1.1,ZZ:=x3,Key:=a0,Zf:=((([]:List Z4)++a1.Zf)++x1.2) }:Z8),(0:Int))))))) ( .chk (((([]:List Z4)++a1.Zf)++x1.2).length==((([]:List Z4)++a1.Zf)++x1.2).length) ( .leaf (.inl (({ a1 with Zi:=x1.1,Zf:=((([]:List Z4)++a1.Zf)++x1.2) }:Z8),(0:Int))))))))))
noncomputable def Zly (a0:Z8) (a1:Int):Option (Z8×Int):=Z05 ZlT (.b0 a0 a1)
noncomputable def ZE4:Mod U:=⟨[44,29],46,fun x=>Zly x.1 x.2.1,by decide⟩
def Zn8:Lay:=⟨[1,2,4],[[.keep],[.keep],[.keep]],[.var k1,.var k1],⟨[.one (.v 29 1 false),.one (.ptr 0),.one (.ptr 1)],[.var 44 66 (.agg [.v 44 66 true]),.var 44 66 (.agg [.v 44 66 true])]⟩⟩
def ZFU:Nat->Option Lay
 | 3=>some Zn8
 | _=>none
noncomputable def ZDK:Zap->Z08 U
 | .b0 a0 a1=>Z0f Tryz.f105 [44,29] (a0,a1,())
 | .b1 a0 a1 a2=>spL Tryz.f105 [1,1,0] Zn8 (((a0,()),((),((),()))),((a1,()),((a2,()),())))
theorem Zzh:Z0e 105 Tryz.f105 (mc Zsk (mc Zdm (mc ZoZ msN))) hsN ZFU 46 ZlT ZDK
 | .b0 _ _=>by kernel_rfl
 | .b1 _ _ _=>by kernel_rfl
theorem ZCQ:Z04 Tryz.prog B0 105 ZE4:=okP Zzh (fun x=>.b0 x.1 x.2.1) (by kernel_rfl) Tryz.func105 (by kernel_rfl) (by kernel_rfl) (fun _=>rfl) (fun _=>rfl)
inductive Z76 where
 | b0 (a0:Int)
noncomputable def Zez:Z76->Tr U (Int⊕Z76)
 | .b0 a0=>.leaf (.inl (if (if (65536:Int)<a0 then (65536:Int) else a0)>(0:Int) then (if (65536:Int)<a0 then (65536:Int) else a0) else (0:Int)))
noncomputable def Z2r (a0:Int):Option Int:=Z05 Zez (.b0 a0)
noncomputable def ZzP:Mod U:=⟨[3],3,fun x=>Z2r x.1,by decide⟩
noncomputable def ZtV:Z76->Z08 U
 | .b0 a0=>Z0f Tryz.f205 [3] (a0,())
theorem Zqo:Z0e 205 Tryz.f205 msN hsN AN 3 Zez ZtV
 | .b0 _=>by kernel_rfl
theorem Zar:Z04 Tryz.prog B0 205 ZzP:=okP Zqo (fun x=>.b0 x.1) (by kernel_rfl) Tryz.func205 (by kernel_rfl) (by kernel_rfl) (fun _=>rfl) (fun _=>rfl)
inductive Z8u where
 | b0 (a0:Zg)
noncomputable def ZhL:Z8u->Tr U (Int⊕Z8u)
 | .b0 a0=>.bind 3 (Z2r a0.Good) (fun(x1:Int)=>.bind 3 (Z2r a0.Bad) (fun(x2:Int)=>.br ((w64 (x1+x2))==(0:Int)) ( .leaf (.inl (0:Int))) ( .chk ((w64 (x1+x2)) != 0) ( .leaf (.inl (w64 (Int.tdiv (w64 (x2*(1000:Int))) (w64 (x1+x2)))))))))
noncomputable def Z8s (a0:Zg):Option Int:=Z05 ZhL (.b0 a0)
noncomputable def ZB9:Mod U:=⟨[99],3,fun x=>Z8s x.1,by decide⟩
noncomputable def ZxB:Z8u->Z08 U
 | .b0 a0=>Z0f Tryz.f275 [99] (a0,())
theorem ZtG:Z0e 275 Tryz.f275 (mc Zar msN) hsN AN 3 ZhL ZxB
 | .b0 _=>by kernel_rfl
theorem ZlI:Z04 Tryz.prog B0 275 ZB9:=okP ZtG (fun x=>.b0 x.1) (by kernel_rfl) Tryz.func275 (by kernel_rfl) (by kernel_rfl) (fun _=>rfl) (fun _=>rfl)
inductive Za5 where
 | b0 (a0:Zg)
noncomputable def ZmS:Za5->Tr U (Bool⊕Za5)
 | .b0 a0=>.bind 3 (Z2r a0.Good) (fun(x1:Int)=>.bind 3 (Z2r a0.Bad) (fun(x2:Int)=>.br (decide ((w64 (x1+x2))>=(8:Int))) ( .bind 3 (Z8s a0) (fun(x3:Int)=>.leaf (.inl (decide (x3>=(250:Int)))))) ( .leaf (.inl false))))
noncomputable def ZmR (a0:Zg):Option Bool:=Z05 ZmS (.b0 a0)
noncomputable def ZG1:Mod U:=⟨[99],4,fun x=>ZmR x.1,by decide⟩
noncomputable def ZD4:Za5->Z08 U
 | .b0 a0=>Z0f Tryz.f273 [99] (a0,())
theorem Zx6:Z0e 273 Tryz.f273 (mc Zar (mc ZlI msN)) hsN AN 4 ZmS ZD4
 | .b0 _=>by kernel_rfl
theorem ZBS:Z04 Tryz.prog B0 273 ZG1:=okP Zx6 (fun x=>.b0 x.1) (by kernel_rfl) Tryz.func273 (by kernel_rfl) (by kernel_rfl) (fun _=>rfl) (fun _=>rfl)
inductive Zgh where
 | b0 (a0:List Zg) (a1:Int)
 | b1 (a0:Zg)
 | b2 (a0:List Zg) (a1:Int) (a2:Zg)
noncomputable def Zqu:Zgh->Tr U (Zg⊕Zgh)
 | .b0 a0 a1=>.br (decide (a1<(0:Int))) ( .leaf (.inr (.b1 (⟨(0:Int),(0:Int)⟩:Zg)))) ( .br (decide (a1>=(↑a0.length:Int))) ( .leaf (.inr (.b1 (⟨(0:Int),(0:Int)⟩:Zg)))) ( .leaf (.inr (.b2 a0 a1 (⟨(0:Int),(0:Int)⟩:Zg)))))
 | .b1 a0=>.leaf (.inl (⟨(0:Int),(0:Int)⟩:Zg))
 | .b2 a0 a1 a2=>.chk (decide (0<=a1/\a1<(↑a0.length:Int))) ( .bind 99 (a0[(Int.toNat a1)]?) (fun(x1:Zg)=>.leaf (.inl x1)))
noncomputable def Zfa (a0:List Zg) (a1:Int):Option Zg:=Z05 Zqu (.b0 a0 a1)
noncomputable def ZId:Mod U:=⟨[42,3],99,fun x=>Zfa x.1 x.2.1,by decide⟩
def ZpH:Lay:=⟨[4],[[.keep]],[.var [.keep,.keep]],⟨[.one (.ptr 0)],[.var 99 2 (.agg [.v 99 2 true])]⟩⟩
def Zpz:Lay:=⟨[0,1,4],[[.s 99 2],[.keep],[.keep]],[.var [.keep,.keep]],⟨[.one (.v 42 1 false),.one (.v 3 1 false),.one (.ptr 0)],[.var 99 2 (.agg [.v 99 2 true])]⟩⟩
def ZHD:Nat->Option Lay
 | 2=>some ZpH
 | 3=>some Zpz
 | _=>none
noncomputable def ZH2:Zgh->Z08 U
 | .b0 a0 a1=>Z0f Tryz.f274 [42,3] (a0,a1,())
 | .b1 a0=>spL Tryz.f274 [1,0,1,0,0] ZpH (((),()),((a0,()),()))
 | .b2 a0 a1 a2=>spL Tryz.f274 [1,1,0] Zpz (((a0,()),((a1,()),((),()))),((a2,()),()))
theorem ZDu:Z0e 274 Tryz.f274 msN hsN ZHD 99 Zqu ZH2
 | .b0 _ _=>by kernel_rfl
 | .b1 _=>by kernel_rfl
 | .b2 _ _ _=>by kernel_rfl
theorem ZF4:Z04 Tryz.prog B0 274 ZId:=okP ZDu (fun x=>.b0 x.1 x.2.1) (by kernel_rfl) Tryz.func274 (by kernel_rfl) (by kernel_rfl) (fun _=>rfl) (fun _=>rfl)
end Go.Proofs.YtjodhcdmhobmoaaGreatDoor
namespace Go.Proofs.YtjodhcdmhobmoaaGreatDoor
open Go Go.Proofs.YtjodhcdmhobmoaaGreatDoor.Le
set_option maxRecDepth 100000
inductive Z71 where
 | b0 (a0:List Zg) (a1:List Int)
 | b1 (a0:List Zg) (a1:List Int) (a2 a3:Int)
 | b2 (a0:List Zg) (a1:List Int) (a2 a3:Int)
 | b3 (a0:List Zg) (a1:List Int) (a2:Int)
noncomputable def Zeu:Z71->Tr U (Int⊕Z71)
 | .b0 a0 a1=>.leaf (.inr (.b1 a0 a1 (-1:Int) (0:Int)))
 | .b1 a0 a1 a2 a3=>.br (decide (a3<(↑a1.length:Int))) ( .chk (decide (0<=a3/\a3<(↑a1.length:Int))) ( .bind 3 (a1[(Int.toNat a3)]?) (fun(x1:Int)=>.bind 99 (Zfa a0 x1) (fun(x2:Zg)=>.bind 4 (ZmR x2) (fun(x3:Bool)=>.br (!x3) ( .leaf (.inr (.b2 a0 a1 a2 a3))) ( .br (decide (a2<(0:Int))) ( .leaf (.inr (.b3 a0 a1 a3))) ( .chk (decide (0<=a3/\a3<(↑a1.length:Int))) ( .bind 3 (a1[(Int.toNat a3)]?) (fun(x4:Int)=>.bind 99 (Zfa a0 x4) (fun(x5:Zg)=>.bind 3 (Z8s x5) (fun(x6:Int)=>.chk (decide (0<=a2/\a2<(↑a1.length:Int))) ( .bind 3 (a1[(Int.toNat a2)]?) (fun(x7:Int)=>.bind 99 (Zfa a0 x7) (fun(x8:Zg)=>.bind 3 (Z8s x8) (fun(x9:Int)=>.br (decide (x6>x9)) ( .leaf (.inr (.b3 a0 a1 a3))) ( .leaf (.inr (.b2 a0 a1 a2 a3)))))))))))))))))) ( .leaf (.inl a2))
 | .b2 a0 a1 a2 a3=>.leaf (.inr (.b1 a0 a1 a2 (w64 (a3+(1:Int)))))
 | .b3 a0 a1 a2=>.leaf (.inr (.b2 a0 a1 a2 a2))
noncomputable def ZdN (a0:List Zg) (a1:List Int):Option Int:=Z05 Zeu (.b0 a0 a1)
noncomputable def Zxv:Mod U:=⟨[42,226],3,fun x=>ZdN x.1 x.2.1,by decide⟩
def Zgv:Lay:=⟨[0,1,5,6],[[.s 99 2],[.s 3 1],[.keep],[.keep]],[],⟨[.one (.v 42 1 false),.one (.v 226 1 false),.one (.v 3 1 false),.one (.v 3 1 false)],[]⟩⟩
def Zfs:Lay:=⟨[0,1,5,6],[[.s 99 2],[.s 3 1],[.keep],[.keep]],[],⟨[.one (.v 42 1 false),.one (.v 226 1 false),.one (.v 3 1 false),.one (.v 3 1 false)],[]⟩⟩
def ZfM:Lay:=⟨[0,1,6],[[.s 99 2],[.s 3 1],[.keep]],[],⟨[.one (.v 42 1 false),.one (.v 226 1 false),.one (.v 3 1 false)],[]⟩⟩
def ZyG:Nat->Option Lay
 | 3=>some Zgv
 | 4=>some Zfs
 | 7=>some ZfM
 | _=>none
noncomputable def Ztl:Z71->Z08 U
 | .b0 a0 a1=>Z0f Tryz.f203 [42,226] (a0,a1,())
 | .b1 a0 a1 a2 a3=>spL Tryz.f203 [1,1,0,1,0,0,0,0] Zgv (((a0,()),((a1,()),((a2,()),((a3,()),())))),())
 | .b2 a0 a1 a2 a3=>spL Tryz.f203 [1,1,0,1,0,0,1,1] Zfs (((a0,()),((a1,()),((a2,()),((a3,()),())))),())
 | .b3 a0 a1 a2=>spL Tryz.f203 [1,1,0,1,0,0,1,0,0,1,1,0] ZfM (((a0,()),((a1,()),((a2,()),()))),())
theorem ZqS:Z0e 203 Tryz.f203 (mc ZBS (mc ZF4 (mc ZlI msN))) hsN ZyG 3 Zeu Ztl
 | .b0 _ _=>by kernel_rfl
 | .b1 _ _ _ _=>by kernel_rfl
 | .b2 _ _ _ _=>by kernel_rfl
 | .b3 _ _ _=>by kernel_rfl
theorem Zvq:Z04 Tryz.prog B0 203 Zxv:=okP ZqS (fun x=>.b0 x.1 x.2.1) (by kernel_rfl) Tryz.func203 (by kernel_rfl) (by kernel_rfl) (fun _=>rfl) (fun _=>rfl)
inductive ZgA where
 | b0 (a0:List Int)
 | b1 (a0:List Int) (a1 a2:Int)
noncomputable def ZqL:ZgA->Tr U (Int⊕ZgA)
 | .b0 a0=>.leaf (.inr (.b1 a0 (0:Int) (0:Int)))
 | .b1 a0 a1 a2=>.br (decide (a2<(↑a0.length:Int))) ( .chk (decide (0<=a2/\a2<(↑a0.length:Int))) ( .bind 3 (a0[(Int.toNat a2)]?) (fun(x1:Int)=>.bind 25 (Z6C x1) (fun(x2:Int)=>.leaf (.inr (.b1 a0 (IntKind.wrap .u64 (a1+x2)) (w64 (a2+(1:Int))))))))) ( .leaf (.inl a1))
noncomputable def ZrW (a0:List Int):Option Int:=Z05 ZqL (.b0 a0)
noncomputable def ZI3:Mod U:=⟨[226],26,fun x=>ZrW x.1,by decide⟩
def Zpj:Lay:=⟨[0,3,4],[[.s 3 1],[.keep],[.keep]],[],⟨[.one (.v 226 1 false),.one (.v 25 1 false),.one (.v 3 1 false)],[]⟩⟩
def ZHh:Nat->Option Lay
 | 3=>some Zpj
 | _=>none
noncomputable def ZED:ZgA->Z08 U
 | .b0 a0=>Z0f Tryz.f204 [226] (a0,())
 | .b1 a0 a1 a2=>spL Tryz.f204 [1,1,0,1,0,0,0,0] Zpj (((a0,()),((a1,()),((a2,()),()))),())
theorem ZCk:Z0e 204 Tryz.f204 (mc ZaJ msN) hsN ZHh 26 ZqL ZED
 | .b0 _=>by kernel_rfl
 | .b1 _ _ _=>by kernel_rfl
theorem ZFC:Z04 Tryz.prog B0 204 ZI3:=okP ZCk (fun x=>.b0 x.1) (by kernel_rfl) Tryz.func204 (by kernel_rfl) (by kernel_rfl) (fun _=>rfl) (fun _=>rfl)
inductive Z3E where
 | b0 (a0:List Zg) (a1 a2:Int)
 | b1 (a0:List Zg) (a1:Int) (a2:List Int)
 | b2 (a0:List Int)
noncomputable def Z97:Z3E->Tr U (Int⊕Z3E)
 | .b0 a0 a1 a2=>.bind 226 (Z7Z a1) (fun(x1:List Int)=>.leaf (.inr (.b1 a0 (if (if (37:Int)<a2 then (37:Int) else a2)>(2:Int) then (if (37:Int)<a2 then (37:Int) else a2) else (2:Int)) x1)))
 | .b1 a0 a1 a2=>.br (decide ((↑a2.length:Int)>a1)) ( .bind 3 (ZdN a0 a2) (fun(x1:Int)=>.br (decide (x1<(0:Int))) ( .leaf (.inr (.b2 a2))) ( .chk (decide (0<=x1/\x1<=(↑a2.length:Int))) ( .chk (([]:List Int).length==0) ( .chk (decide ((0+((a2.drop 0).take ((Int.toNat x1) - 0)).length)*8<=lim)&&decide (0+((a2.drop 0).take ((Int.toNat x1) - 0)).length<=maxLen)) ( .chk (decide (0<=(w64 (x1+(1:Int)))/\(w64 (x1+(1:Int)))<=(↑a2.length:Int))) ( .chk ((([]:List Int)++((a2.drop 0).take ((Int.toNat x1) - 0))).length==(([]:List Int)++((a2.drop 0).take ((Int.toNat x1) - 0))).length) ( .chk (decide (((([]:List Int)++((a2.drop 0).take ((Int.toNat x1) - 0))).length+((a2.drop (Int.toNat (w64 (x1+(1:Int))))).take (a2.length - (Int.toNat (w64 (x1+(1:Int)))))).length)*8<=lim)&&decide ((([]:List Int)++((a2.drop 0).take ((Int.toNat x1) - 0))).length+((a2.drop (Int.toNat (w64 (x1+(1:Int))))).take (a2.length - (Int.toNat (w64 (x1+(1:Int)))))).length<=maxLen)) ( .chk (((([]:List Int)++((a2.drop 0).take ((Int.toNat x1) - 0)))++((a2.drop (Int.toNat (w64 (x1+(1:Int))))).take (a2.length - (Int.toNat (w64 (x1+(1:Int))))))).length==((([]:List Int)++((a2.drop 0).take ((Int.toNat x1) - 0)))++((a2.drop (Int.toNat (w64 (x1+(1:Int))))).take (a2.length - (Int.toNat (w64 (x1+(1:Int))))))).length) ( .leaf (.inr (.b1 a0 a1 ((([]:List Int)++((a2.drop 0).take ((Int.toNat x1) - 0)))++((a2.drop (Int.toNat (w64 (x1+(1:Int))))).take (a2.length - (Int.toNat (w64 (x1+(1:Int))))))))))))))))))) ( .leaf (.inr (.b2 a2)))
 | .b2 a0=>.bind 26 (ZrW a0) (fun(x1:Int)=>.leaf (.inl x1))
noncomputable def Z90 (a0:List Zg) (a1 a2:Int):Option Int:=Z05 Z97 (.b0 a0 a1 a2)
noncomputable def Zsi:Mod U:=⟨[42,26,3],26,fun x=>Z90 x.1 x.2.1 x.2.2.1,by decide⟩
def ZaZ:Lay:=⟨[0,2,7],[[.s 99 2],[.keep],[.s 3 1]],[],⟨[.one (.v 42 1 false),.one (.v 3 1 false),.one (.v 226 1 false)],[]⟩⟩
def ZbG:Lay:=⟨[7],[[.s 3 1]],[],⟨[.one (.v 226 1 false)],[]⟩⟩
def Zs4:Nat->Option Lay
 | 3=>some ZaZ
 | 7=>some ZbG
 | _=>none
noncomputable def Zo9:Z3E->Z08 U
 | .b0 a0 a1 a2=>Z0f Tryz.f106 [42,26,3] (a0,a1,a2,())
 | .b1 a0 a1 a2=>spL Tryz.f106 [1,1,1,0,0,0,0,0] ZaZ (((a0,()),((a1,()),((a2,()),()))),())
 | .b2 a0=>spL Tryz.f106 [1,1,1,1,0] ZbG (((a0,()),()),())
theorem Znd:Z0e 106 Tryz.f106 (mc ZeR (mc Zvq (mc ZFC msN))) hsN Zs4 26 Z97 Zo9
 | .b0 _ _ _=>by kernel_rfl
 | .b1 _ _ _=>by kernel_rfl
 | .b2 _=>by kernel_rfl
theorem Zo1:Z04 Tryz.prog B0 106 Zsi:=okP Znd (fun x=>.b0 x.1 x.2.1 x.2.2.1) (by kernel_rfl) Tryz.func106 (by kernel_rfl) (by kernel_rfl) (fun _=>rfl) (fun _=>rfl)
inductive Z5U where
 | b0 (a0:List Zg)
 | b1 (a0 a1:List Zg) (a2:Int)
noncomputable def Zed:Z5U->Tr U ((List Zg)⊕Z5U)
 | .b0 a0=>.chk (([]:List Zg).length==0) ( .leaf (.inr (.b1 a0 ([]:List Zg) (0:Int))))
 | .b1 a0 a1 a2=>.br (decide (a2<(↑a0.length:Int))) ( .chk (decide (0<=a2/\a2<(↑a0.length:Int))) ( .bind 99 (a0[(Int.toNat a2)]?) (fun(x1:Zg)=>.bind 3 (Z2r x1.Good) (fun(x2:Int)=>.chk (decide (0<=a2/\a2<(↑a0.length:Int))) ( .bind 99 (a0[(Int.toNat a2)]?) (fun(x3:Zg)=>.bind 3 (Z2r x3.Bad) (fun(x4:Int)=>.chk (([(⟨(w64 (Int.tdiv x2 (2:Int))),(w64 (Int.tdiv x4 (2:Int)))⟩:Zg)]).length==1) ( .chk (a1.length==a1.length) ( .chk (decide ((a1.length+([(⟨(w64 (Int.tdiv x2 (2:Int))),(w64 (Int.tdiv x4 (2:Int)))⟩:Zg)]).length)*16<=lim)&&decide (a1.length+([(⟨(w64 (Int.tdiv x2 (2:Int))),(w64 (Int.tdiv x4 (2:Int)))⟩:Zg)]).length<=maxLen)) ( .chk ((a1++[(⟨(w64 (Int.tdiv x2 (2:Int))),(w64 (Int.tdiv x4 (2:Int)))⟩:Zg)]).length==(a1++[(⟨(w64 (Int.tdiv x2 (2:Int))),(w64 (Int.tdiv x4 (2:Int)))⟩:Zg)]).length) ( .leaf (.inr (.b1 a0 (a1++[(⟨(w64 (Int.tdiv x2 (2:Int))),(w64 (Int.tdiv x4 (2:Int)))⟩:Zg)]) (w64 (a2+(1:Int)))))))))))))))) ( .chk (a1.length==a1.length) ( .leaf (.inl a1)))
noncomputable def ZeA (a0:List Zg):Option (List Zg):=Z05 Zed (.b0 a0)
noncomputable def ZzL:Mod U:=⟨[42],42,fun x=>ZeA x.1,by decide⟩
def Zf8:Lay:=⟨[0,3,4],[[.s 99 2],[.own 99 2],[.keep]],[.row true],⟨[.one (.v 42 1 false),.one (.own 99 0),.one (.v 3 1 false)],[.row 99 true]⟩⟩
def Zyf:Nat->Option Lay
 | 3=>some Zf8
 | _=>none
noncomputable def Zvv:Z5U->Z08 U
 | .b0 a0=>Z0f Tryz.f107 [42] (a0,())
 | .b1 a0 a1 a2=>spL Tryz.f107 [1,1,0,1,0,0,0,0] Zf8 (((a0,()),((),((a2,()),()))),(a1,()))
theorem ZrL:Z0e 107 Tryz.f107 (mc Zar msN) hsN Zyf 42 Zed Zvv
 | .b0 _=>by kernel_rfl
 | .b1 _ _ _=>by kernel_rfl
theorem Zvz:Z04 Tryz.prog B0 107 ZzL:=okP ZrL (fun x=>.b0 x.1) (by kernel_rfl) Tryz.func107 (by kernel_rfl) (by kernel_rfl) (fun _=>rfl) (fun _=>rfl)
inductive ZfF where
 | b0 (a0:Z8) (a1:Z0K) (a2:Int)
 | b1 (a0:Int) (a1 a2:Z8)
 | b2 (a0:Int) (a1 a2:Z8)
noncomputable def Zsq:ZfF->Tr U ((Z8×Int)⊕ZfF)
 | .b0 a0 a1 a2=>.br (a0.ZL != (0:Int)) ( .leaf (.inl (a0,(9:Int)))) ( .br (a1.Kind==(1:Int)) ( .bind 46 (ZhD a0 a1.ZH) (fun(x1:Z8×Int)=>.leaf (.inl (x1.1,x1.2)))) ( .br (a1.Kind==(2:Int)) ( .bind 46 (Z15 a0 (⟨(0:Int),a1.ZI,(0:Int),(0:Int),(0:Int),(0:Int),(0:Int),(0:Int),(0:Int),(0:Int),(0:Int)⟩:Z4) a2) (fun(x2:Z8×Int)=>.leaf (.inl (x2.1,x2.2)))) ( .br (a1.Kind==(3:Int)) ( .bind 46 (Z15 a0 (⟨(1:Int),Zu,a1.Map,(0:Int),(0:Int),(0:Int),(0:Int),(0:Int),(0:Int),(0:Int),(0:Int)⟩:Z4) a2) (fun(x3:Z8×Int)=>.leaf (.inl (x3.1,x3.2)))) ( .br (a1.Kind==(4:Int)) ( .bind 3 (Z7y a1.Number) (fun(x4:Int)=>.bind 46 (Z15 a0 (⟨(2:Int),Zu,(0:Int),(0:Int),x4,(0:Int),(0:Int),(0:Int),(0:Int),(0:Int),(0:Int)⟩:Z4) a2) (fun(x5:Z8×Int)=>.leaf (.inl (x5.1,x5.2))))) ( .br (a1.Kind==(6:Int)) ( .bind 46 (Z15 a0 (⟨(8:Int),Zu,(0:Int),(0:Int),(0:Int),(0:Int),(0:Int),(0:Int),(63:Int),(0:Int),(0:Int)⟩:Z4) a2) (fun(x6:Z8×Int)=>.leaf (.inl (x6.1,x6.2)))) ( .br (a1.Kind==(7:Int)) ( .bind 46 (Z15 a0 (⟨(12:Int),Zu,(0:Int),(0:Int),(0:Int),(0:Int),(0:Int),(0:Int),(0:Int),(11:Int),(0:Int)⟩:Z4) a2) (fun(x7:Z8×Int)=>.leaf (.inl (x7.1,x7.2)))) ( .br (a1.Kind==(8:Int)) ( .bind 46 (Z15 a0 (⟨(18:Int),Zu,(0:Int),(0:Int),(0:Int),(0:Int),(0:Int),(0:Int),(0:Int),(0:Int),(0:Int)⟩:Z4) a2) (fun(x8:Z8×Int)=>.leaf (.inl (x8.1,x8.2)))) ( .br (a1.Kind==(9:Int)) ( .bind 3 (Z7y a1.Number) (fun(x9:Int)=>.bind 46 (Z15 a0 (⟨(20:Int),Zu,(0:Int),(0:Int),(0:Int),(0:Int),(0:Int),(0:Int),(0:Int),(0:Int),x9⟩:Z4) a2) (fun(x10:Z8×Int)=>.leaf (.inl (x10.1,x10.2))))) ( .br (a1.Kind==(12:Int)) ( .bind 46 (Z15 a0 (⟨(15:Int),a1.ZI,(0:Int),(0:Int),(0:Int),(0:Int),(0:Int),(0:Int),(0:Int),(0:Int),(0:Int)⟩:Z4) a2) (fun(x11:Z8×Int)=>.leaf (.inl (x11.1,x11.2)))) ( .br (a1.Kind==(5:Int)) ( .br (a1.Key==(0:Int)) ( .leaf (.inl (a0,(17:Int)))) ( .bind 46 (Z15 a0 (⟨(3:Int),Zu,(0:Int),(0:Int),(0:Int),(0:Int),a0.Zc9,a1.Number,(0:Int),(0:Int),(0:Int)⟩:Z4) a2) (fun(x12:Z8×Int)=>.br (x12.2==(0:Int)) ( .leaf (.inr (.b1 x12.2 (⟨(0:Int),Zm,(0:Int),(0:Int),(0:Int),(0:Int),(0:Int),(0:Int),(0:Int),false,false,false,false,false,(⟨(0:Int),(0:Int),([]:List Zb),false,false,(0:Int),(0:Int)⟩:Zr),Zq,(⟨(0:Int),(0:Int),(0:Int),([]:List Z4),(0:Int),(0:Int),([]:List Z9),false,(0:Int),(0:Int),false,false,(0:Int),(0:Int),(0:Int),(0:Int),(0:Int),(0:Int),(0:Int),(0:Int)⟩:Z7),Zt,(0:Int),([]:List Zg),([]:List Z4),(0:Int),(0:Int)⟩:Z8) ({ x12.1 with Key:=a1.Key }:Z8)))) ( .leaf (.inr (.b1 x12.2 (⟨(0:Int),Zm,(0:Int),(0:Int),(0:Int),(0:Int),(0:Int),(0:Int),(0:Int),false,false,false,false,false,(⟨(0:Int),(0:Int),([]:List Zb),false,false,(0:Int),(0:Int)⟩:Zr),Zq,(⟨(0:Int),(0:Int),(0:Int),([]:List Z4),(0:Int),(0:Int),([]:List Z9),false,(0:Int),(0:Int),false,false,(0:Int),(0:Int),(0:Int),(0:Int),(0:Int),(0:Int),(0:Int),(0:Int)⟩:Z7),Zt,(0:Int),([]:List Zg),([]:List Z4),(0:Int),(0:Int)⟩:Z8) x12.1)))))) ( .br (a1.Kind==(10:Int)) ( .bind 46 (Zly a0 a1.Key) (fun(x13:Z8×Int)=>.leaf (.inl (x13.1,x13.2)))) ( .br (a1.Kind==(13:Int)) ( .br (a0.Z1G != (0:Int)) ( .leaf (.inl (a0,(9:Int)))) ( .bind 26 (Z90 a0.Zx a0.ZX.Map (2:Int)) (fun(x14:Int)=>.br (x14==a0.ZX.Map) ( .leaf (.inl (a0,(0:Int)))) ( .bind 46 (Z15 a0 (⟨(1:Int),Zu,x14,(0:Int),(0:Int),(0:Int),(0:Int),(0:Int),(0:Int),(0:Int),(0:Int)⟩:Z4) a2) (fun(x15:Z8×Int)=>.br (x15.2==(0:Int)) ( .bind 42 (ZeA a0.Zx) (fun(x16:List Zg)=>.leaf (.inr (.b2 x15.2 (⟨(0:Int),Zm,(0:Int),(0:Int),(0:Int),(0:Int),(0:Int),(0:Int),(0:Int),false,false,false,false,false,(⟨(0:Int),(0:Int),([]:List Zb),false,false,(0:Int),(0:Int)⟩:Zr),Zq,(⟨(0:Int),(0:Int),(0:Int),([]:List Z4),(0:Int),(0:Int),([]:List Z9),false,(0:Int),(0:Int),false,false,(0:Int),(0:Int),(0:Int),(0:Int),(0:Int),(0:Int),(0:Int),(0:Int)⟩:Z7),Zt,(0:Int),([]:List Zg),([]:List Z4),(0:Int),(0:Int)⟩:Z8) ({ x15.1 with Zx:=x16 }:Z8))))) ( .leaf (.inr (.b2 x15.2 (⟨(0:Int),Zm,(0:Int),(0:Int),(0:Int),(0:Int),(0:Int),(0:Int),(0:Int),false,false,false,false,false,(⟨(0:Int),(0:Int),([]:List Zb),false,false,(0:Int),(0:Int)⟩:Zr),Zq,(⟨(0:Int),(0:Int),(0:Int),([]:List Z4),(0:Int),(0:Int),([]:List Z9),false,(0:Int),(0:Int),false,false,(0:Int),(0:Int),(0:Int),(0:Int),(0:Int),(0:Int),(0:Int),(0:Int)⟩:Z7),Zt,(0:Int),([]:List Zg),([]:List Z4),(0:Int),(0:Int)⟩:Z8) x15.1)))))))) ( .leaf (.inl (a0,(12:Int))))))))))))))))
 | .b1 a0 a1 a2=>.leaf (.inl (a2,a0))
 | .b2 a0 a1 a2=>.leaf (.inl (a2,a0))
noncomputable def Zfu (a0:Z8) (a1:Z0K) (a2:Int):Option (Z8×Int):=Z05 Zsq (.b0 a0 a1 a2)
noncomputable def ZHl:Mod U:=⟨[44,83,3],46,fun x=>Zfu x.1 x.2.1 x.2.2.1,by decide⟩
def ZoY:Lay:=⟨[6,8,9],[[.keep],[.keep],[.keep]],[.var k1,.var k1],⟨[.one (.ptr 0),.one (.ptr 1),.one (.v 45 1 false)],[.var 44 66 (.agg [.v 44 66 true]),.var 44 66 (.agg [.v 44 66 true])]⟩⟩
def ZpP:Lay:=⟨[6,11,12],[[.keep],[.keep],[.keep]],[.var k1,.var k1],⟨[.one (.ptr 0),.one (.ptr 1),.one (.v 45 1 false)],[.var 44 66 (.agg [.v 44 66 true]),.var 44 66 (.agg [.v 44 66 true])]⟩⟩
def ZHE:Nat->Option Lay
 | 28=>some ZoY
 | 40=>some ZpP
 | _=>none
noncomputable def ZEg:ZfF->Z08 U
 | .b0 a0 a1 a2=>Z0f Tryz.f33 [44,83,3] (a0,a1,a2,())
 | .b1 a0 a1 a2=>spL Tryz.f33 [1,1,0,1,0,1,1,1,1,1,1,1,1,1,1,1,1,1,1,1,1,1,1,1,0,1,1,1,0] ZoY (((),((),((a0,()),()))),((a1,()),((a2,()),())))
 | .b2 a0 a1 a2=>spL Tryz.f33 [1,1,0,1,0,1,1,1,1,1,1,1,1,1,1,1,1,1,1,1,1,1,1,1,1,1,1,1,0,1,1,1,1,1,0] ZpP (((),((),((a0,()),()))),((a1,()),((a2,()),())))
theorem ZCe:Z0e 33 Tryz.f33 (mc ZxC (mc Ztq (mc Zrr (mc ZCQ (mc Zo1 (mc Zvz msN)))))) hsN ZHE 46 Zsq ZEg
 | .b0 _ _ _=>by kernel_rfl
 | .b1 _ _ _=>by kernel_rfl
 | .b2 _ _ _=>by kernel_rfl
theorem ZEe:Z04 Tryz.prog B0 33 ZHl:=okP ZCe (fun x=>.b0 x.1 x.2.1 x.2.2.1) (by kernel_rfl) Tryz.func33 (by kernel_rfl) (by kernel_rfl) (fun _=>rfl) (fun _=>rfl)
inductive Z6Z where
 | b0 (a0:Int) (a1:List Int)
noncomputable def ZeT:Z6Z->Tr U (((List Int)×Int)⊕Z6Z)
 | .b0 a0 a1=>.br (decide ((w64 ((↑a1.length:Int) - (3:Int)))<(0:Int))) ( .chk (([]:List Int).length==0) ( .leaf (.inl (([]:List Int),(3:Int))))) ( .chk (decide (0<=(w64 ((↑a1.length:Int) - (3:Int)))/\(w64 ((↑a1.length:Int) - (3:Int)))<=(↑a1.length:Int))) ( .chk (Z55 U 5 ((a1.drop (Int.toNat (w64 ((↑a1.length:Int) - (3:Int))))).take (a1.length - (Int.toNat (w64 ((↑a1.length:Int) - (3:Int))))))) ( .chk (decide (0<=(w64 ((↑a1.length:Int) - (3:Int)))/\(w64 ((↑a1.length:Int) - (3:Int)))<=(↑a1.length:Int))) ( .bind 22 (Zh4 a0 ((a1.drop 0).take ((Int.toNat (w64 ((↑a1.length:Int) - (3:Int)))) - 0))) (fun(x1:Int)=>.bind 62 (ZbR x1) (fun(x2:List Int)=>.chk (Z55 U 5 x2) ( .br (!((strOf U 5 ((a1.drop (Int.toNat (w64 ((↑a1.length:Int) - (3:Int))))).take (a1.length - (Int.toNat (w64 ((↑a1.length:Int) - (3:Int))))))).toList==(strOf U 5 x2).toList)) ( .chk (([]:List Int).length==0) ( .leaf (.inl (([]:List Int),(10:Int))))) ( .chk (decide (0<=(w64 ((↑a1.length:Int) - (3:Int)))/\(w64 ((↑a1.length:Int) - (3:Int)))<=(↑a1.length:Int))) ( .chk (([]:List Int).length==0) ( .chk (decide ((0+((a1.drop 0).take ((Int.toNat (w64 ((↑a1.length:Int) - (3:Int)))) - 0)).length)*1<=lim)&&decide (0+((a1.drop 0).take ((Int.toNat (w64 ((↑a1.length:Int) - (3:Int)))) - 0)).length<=maxLen)) ( .chk ((([]:List Int)++((a1.drop 0).take ((Int.toNat (w64 ((↑a1.length:Int) - (3:Int)))) - 0))).length==(([]:List Int)++((a1.drop 0).take ((Int.toNat (w64 ((↑a1.length:Int) - (3:Int)))) - 0))).length) ( .leaf (.inl ((([]:List Int)++((a1.drop 0).take ((Int.toNat (w64 ((↑a1.length:Int) - (3:Int)))) - 0))),(0:Int)))))))))))))))
noncomputable def ZeO (a0:Int) (a1:List Int):Option ((List Int)×Int):=Z05 ZeT (.b0 a0 a1)
noncomputable def ZyS:Mod U:=⟨[22,62],120,fun x=>ZeO x.1 x.2.1,by decide⟩
noncomputable def ZtR:Z6Z->Z08 U
 | .b0 a0 a1=>Z0f Tryz.f114 [22,62] (a0,a1,())
theorem ZrE:Z0e 114 Tryz.f114 (mc Zm7 (mc ZoV msN)) hsN AN 120 ZeT ZtR
 | .b0 _ _=>by kernel_rfl
theorem Zut:Z04 Tryz.prog B0 114 ZyS:=okP ZrE (fun x=>.b0 x.1 x.2.1) (by kernel_rfl) Tryz.func114 (by kernel_rfl) (by kernel_rfl) (fun _=>rfl) (fun _=>rfl)
inductive Z50 where
 | b0 (a0:List Int)
 | b1 (a0:Zk)
 | b2 (a0:List Int) (a1 a2 a3:Int) (a4:Zk)
noncomputable def Zb2:Z50->Tr U ((Zk×Int)⊕Z50)
 | .b0 a0=>.br (decide ((↑a0.length:Int)<(2:Int))) ( .leaf (.inl (Z0D,(3:Int)))) ( .chk (decide (0<=(0:Int)/\(0:Int)<(↑a0.length:Int))) ( .bind 5 (a0[(Int.toNat (0:Int))]?) (fun(x1:Int)=>.chk (decide (0<=(1:Int)/\(1:Int)<(↑a0.length:Int))) ( .bind 5 (a0[(Int.toNat (1:Int))]?) (fun(x2:Int)=>.br (decide ((w64 (x1))>=(32:Int))) ( .leaf (.inl (Z0D,(2:Int)))) ( .br ((Int.tmod (w64 (x1)) (4:Int))==(0:Int)) ( .leaf (.inl (Z0D,(12:Int)))) ( .br ((w64 (x2))==(0:Int)) ( .br ((Int.tmod (w64 (x1)) (4:Int)) != (1:Int)) ( .leaf (.inr (.b1 (⟨(0:Int),(0:Int),(0:Int),(⟨(0:Int),([]:List Int)⟩:Zb)⟩:Zk)))) ( .leaf (.inr (.b2 a0 (w64 (x1)) (w64 (x2)) (Int.tmod (w64 (x1)) (4:Int)) (⟨(0:Int),(0:Int),(0:Int),(⟨(0:Int),([]:List Int)⟩:Zb)⟩:Zk))))) ( .leaf (.inr (.b2 a0 (w64 (x1)) (w64 (x2)) (Int.tmod (w64 (x1)) (4:Int)) (⟨(0:Int),(0:Int),(0:Int),(⟨(0:Int),([]:List Int)⟩:Zb)⟩:Zk)))))))))))
 | .b1 a0=>.leaf (.inl (Z0D,(1:Int)))
 | .b2 a0 a1 a2 a3 a4=>.br (decide ((w64 ((↑a0.length:Int) - (2:Int)))<a2)) ( .leaf (.inl (Z0D,(3:Int)))) ( .br (decide ((w64 ((↑a0.length:Int) - (2:Int)))>a2)) ( .leaf (.inl (Z0D,(2:Int)))) ( .chk (decide (0<=(2:Int)/\(2:Int)<=(↑a0.length:Int))) ( .chk (([]:List Int).length==0) ( .chk (decide ((0+((a0.drop (Int.toNat (2:Int))).take (a0.length - (Int.toNat (2:Int)))).length)*1<=lim)&&decide (0+((a0.drop (Int.toNat (2:Int))).take (a0.length - (Int.toNat (2:Int)))).length<=maxLen)) ( .chk ((([]:List Int)++((a0.drop (Int.toNat (2:Int))).take (a0.length - (Int.toNat (2:Int))))).length==(([]:List Int)++((a0.drop (Int.toNat (2:Int))).take (a0.length - (Int.toNat (2:Int))))).length) ( .leaf (.inl ((⟨(Int.tmod (w64 (Int.tdiv a1 (8:Int))) (2:Int)),(Int.tmod (w64 (Int.tdiv a1 (4:Int))) (2:Int)),(Int.tmod (w64 (Int.tdiv a1 (16:Int))) (2:Int)),(⟨a3,(([]:List Int)++((a0.drop (Int.toNat (2:Int))).take (a0.length - (Int.toNat (2:Int)))))⟩:Zb)⟩:Zk),(0:Int)))))))))
noncomputable def Zac (a0:List Int):Option (Zk×Int):=Z05 Zb2 (.b0 a0)
noncomputable def ZtX:Mod U:=⟨[62],71,fun x=>Zac x.1,by decide⟩
def ZcR:Lay:=⟨[2],[[.keep]],[.var k5],⟨[.one (.ptr 0)],[.var 70 5 (.agg [.v 70 5 true])]⟩⟩
def Zcn:Lay:=⟨[0,2,4,5,6],[[.s 5 1],[.keep],[.keep],[.keep],[.keep]],[.var k5],⟨[.one (.v 62 1 false),.one (.ptr 0),.one (.v 3 1 false),.one (.v 3 1 false),.one (.v 3 1 false)],[.var 70 5 (.agg [.v 70 5 true])]⟩⟩
def Zve:Nat->Option Lay
 | 10=>some ZcR
 | 11=>some Zcn
 | _=>none
noncomputable def Zq5:Z50->Z08 U
 | .b0 a0=>Z0f Tryz.f115 [62] (a0,())
 | .b1 a0=>spL Tryz.f115 [1,1,1,1,1,1,0,1,0,0] ZcR (((),()),((a0,()),()))
 | .b2 a0 a1 a2 a3 a4=>spL Tryz.f115 [1,1,1,1,1,1,1,0,0] Zcn (((a0,()),((),((a1,()),((a2,()),((a3,()),()))))),((a4,()),()))
theorem ZnG:Z0e 115 Tryz.f115 msN hsN Zve 71 Zb2 Zq5
 | .b0 _=>by kernel_rfl
 | .b1 _=>by kernel_rfl
 | .b2 _ _ _ _ _=>by kernel_rfl
theorem ZqU:Z04 Tryz.prog B0 115 ZtX:=okP ZnG (fun x=>.b0 x.1) (by kernel_rfl) Tryz.func115 (by kernel_rfl) (by kernel_rfl) (fun _=>rfl) (fun _=>rfl)
inductive Z8C where
 | b0 (a0 a1:List Int)
noncomputable def Zj0:Z8C->Tr U (Bool⊕Z8C)
 | .b0 a0 a1=>.chk (Z55 U 5 a0) ( .chk (Z55 U 5 a1) ( .leaf (.inl ((strOf U 5 a0).toList==(strOf U 5 a1).toList))))
noncomputable def ZiD (a0 a1:List Int):Option Bool:=Z05 Zj0 (.b0 a0 a1)
noncomputable def ZDC:Mod U:=⟨[62,62],4,fun x=>ZiD x.1 x.2.1,by decide⟩
noncomputable def Zxs:Z8C->Z08 U
 | .b0 a0 a1=>Z0f Tryz.f278 [62,62] (a0,a1,())
theorem Ztj:Z0e 278 Tryz.f278 msN hsN AN 4 Zj0 Zxs
 | .b0 _ _=>by kernel_rfl
theorem ZwE:Z04 Tryz.prog B0 278 ZDC:=okP Ztj (fun x=>.b0 x.1 x.2.1) (by kernel_rfl) Tryz.func278 (by kernel_rfl) (by kernel_rfl) (fun _=>rfl) (fun _=>rfl)
inductive Z82 where
 | b0 (a0 a1:Int) (a2 a3:List Int)
noncomputable def Zi7:Z82->Tr U (((List Int)×Int)⊕Z82)
 | .b0 a0 a1 a2 a3=>.br (decide ((w64 ((↑a3.length:Int) - (4:Int)))<(0:Int))) ( .chk (([]:List Int).length==0) ( .leaf (.inl (([]:List Int),(3:Int))))) ( .chk (decide (0<=(w64 ((↑a3.length:Int) - (4:Int)))/\(w64 ((↑a3.length:Int) - (4:Int)))<=(↑a3.length:Int))) ( .bind 62 (Zgl a0 a1 a2 ((a3.drop 0).take ((Int.toNat (w64 ((↑a3.length:Int) - (4:Int)))) - 0))) (fun(x1:List Int)=>.chk (decide (0<=(w64 ((↑a3.length:Int) - (4:Int)))/\(w64 ((↑a3.length:Int) - (4:Int)))<=(↑a3.length:Int))) ( .bind 4 (ZiD x1 ((a3.drop (Int.toNat (w64 ((↑a3.length:Int) - (4:Int))))).take (a3.length - (Int.toNat (w64 ((↑a3.length:Int) - (4:Int))))))) (fun(x2:Bool)=>.br (!x2) ( .chk (([]:List Int).length==0) ( .leaf (.inl (([]:List Int),(15:Int))))) ( .bind 62 (Z7A a0 a1 (w64 ((↑a3.length:Int) - (4:Int)))) (fun(x3:List Int)=>.bind 1350 (Zfb ((a3.drop 0).take ((Int.toNat (w64 ((↑a3.length:Int) - (4:Int)))) - 0)) x3) (fun(y4:Z3L)=>.chk (y4.q0.length==y4.q0.length) ( .leaf (.inl (y4.q0,(0:Int))))))))))))
noncomputable def ZiS (a0 a1:Int) (a2 a3:List Int):Option ((List Int)×Int):=Z05 Zi7 (.b0 a0 a1 a2 a3)
noncomputable def ZDr:Mod U:=⟨[29,25,62,62],120,fun x=>ZiS x.1 x.2.1 x.2.2.1 x.2.2.2.1,by decide⟩
noncomputable def Zzj:Z82->Z08 U
 | .b0 a0 a1 a2 a3=>Z0f Tryz.f211 [29,25,62,62] (a0,a1,a2,a3,())
theorem ZsX:Z0e 211 Tryz.f211 (mc Zgf (mc ZpO (mc ZwE msN))) (hc [] Zpd hsN) AN 120 Zi7 Zzj
 | .b0 _ _ _ _=>by kernel_rfl
theorem ZzF:Z04 Tryz.prog B0 211 ZDr:=okP ZsX (fun x=>.b0 x.1 x.2.1 x.2.2.1 x.2.2.2.1) (by kernel_rfl) Tryz.func211 (by kernel_rfl) (by kernel_rfl) (fun _=>rfl) (fun _=>rfl)
inductive Z77 where
 | b0 (a0:Int)
noncomputable def Zdy:Z77->Tr U (Int⊕Z77)
 | .b0 a0=>.br (a0==(1:Int)) ( .leaf (.inl (0:Int))) ( .leaf (.inl (1:Int)))
noncomputable def ZeD (a0:Int):Option Int:=Z05 Zdy (.b0 a0)
noncomputable def Zy0:Mod U:=⟨[3],3,fun x=>ZeD x.1,by decide⟩
noncomputable def Zuc:Z77->Z08 U
 | .b0 a0=>Z0f Tryz.f212 [3] (a0,())
theorem ZpX:Z0e 212 Tryz.f212 msN hsN AN 3 Zdy Zuc
 | .b0 _=>by kernel_rfl
theorem ZuF:Z04 Tryz.prog B0 212 Zy0:=okP ZpX (fun x=>.b0 x.1) (by kernel_rfl) Tryz.func212 (by kernel_rfl) (by kernel_rfl) (fun _=>rfl) (fun _=>rfl)
inductive Z8l where
 | b0 (a0:Zv) (a1:Zk)
 | b1 (a0:Zv) (a1 a2:Zk)
noncomputable def Zi0:Z8l->Tr U ((Zk×Int)⊕Z8l)
 | .b0 a0 a1=>.bind 45 (Z2u a1) (fun(x1:Int)=>.br (x1 != (0:Int)) ( .leaf (.inl (Z0D,x1))) ( .br (!a0.ZJd) ( .leaf (.inl (a1,(0:Int)))) ( .bind 4 (Z4g a1.ZH) (fun(x2:Bool)=>.br x2 ( .leaf (.inl (a1,(0:Int)))) ( .leaf (.inr (.b1 a0 a1 (⟨(0:Int),(0:Int),(0:Int),(⟨(0:Int),([]:List Int)⟩:Zb)⟩:Zk))))))))
 | .b1 a0 a1 a2=>.br (decide ((↑a1.ZH.Payload.length:Int)<(5:Int))) ( .leaf (.inl (Z0D,(3:Int)))) ( .bind 3 (ZeD a0.Z1G) (fun(x1:Int)=>.bind 25 (Z9g a0 x1 a0.Rx) (fun(x2:Int)=>.chk (([(IntKind.wrap .u8 (a1.ZH.Z5c))]).length==1) ( .bind 120 (ZiS a0.Key x2 ([(IntKind.wrap .u8 (a1.ZH.Z5c))]) a1.ZH.Payload) (fun(x3:(List Int)×Int)=>.br (x3.2 != (0:Int)) ( .leaf (.inl (Z0D,x3.2))) ( .bind 70 (Zc8 a1 x3.1) (fun(x4:Zk)=>.leaf (.inl (x4,(0:Int))))))))))
noncomputable def ZiO (a0:Zv) (a1:Zk):Option (Zk×Int):=Z05 Zi0 (.b0 a0 a1)
noncomputable def ZAZ:Mod U:=⟨[41,70],71,fun x=>ZiO x.1 x.2.1,by decide⟩
def Zjz:Lay:=⟨[2,3,4],[[.keep],[.keep],[.keep]],[.var k7,.var k5,.var k5],⟨[.one (.ptr 0),.one (.ptr 1),.one (.ptr 2)],[.var 41 7 (.agg [.v 41 7 true]),.var 70 5 (.agg [.v 70 5 true]),.var 70 5 (.agg [.v 70 5 true])]⟩⟩
def ZC3:Nat->Option Lay
 | 6=>some Zjz
 | _=>none
noncomputable def ZxE:Z8l->Z08 U
 | .b0 a0 a1=>Z0f Tryz.f117 [41,70] (a0,a1,())
 | .b1 a0 a1 a2=>spL Tryz.f117 [1,1,1,0,0] Zjz (((),((),((),()))),((a0,()),((a1,()),((a2,()),()))))
theorem Ztv:Z0e 117 Tryz.f117 (mc Z7l (mc Z38 (mc Zna (mc ZjK (mc ZzF (mc ZuF msN)))))) hsN ZC3 71 Zi0 ZxE
 | .b0 _ _=>by kernel_rfl
 | .b1 _ _ _=>by kernel_rfl
theorem Zwo:Z04 Tryz.prog B0 117 ZAZ:=okP Ztv (fun x=>.b0 x.1 x.2.1) (by kernel_rfl) Tryz.func117 (by kernel_rfl) (by kernel_rfl) (fun _=>rfl) (fun _=>rfl)
inductive Z8b where
 | b0 (a0:Zr) (a1:Zk)
 | b1 (a0:Zr) (a1:Zk) (a2:Zr) (a3:Zb)
 | b2 (a0:Bool) (a1:Zr) (a2:Zk) (a3:Zr) (a4:Zb)
 | b3 (a0:Bool) (a1:Zr) (a2:Zk) (a3:Zr) (a4:Zb)
 | b4 (a0:Bool) (a1:Zr) (a2:Zk) (a3:Zr) (a4:Zb)
 | b5 (a0:Bool) (a1 a2:Zr) (a3:Zb)
noncomputable def Zi2:Z8b->Tr U ((Zr×Zb×Bool×Bool)⊕Z8b)
 | .b0 a0 a1=>.bind 45 (Z2u a1) (fun(x1:Int)=>.br (x1 != (0:Int)) ( .leaf (.inl (a0,(⟨(0:Int),[]⟩:Zb),false,false))) ( .br a0.Open ( .br (a1.Z8Y != a0.SN) ( .leaf (.inr (.b1 a0 a1 (⟨(0:Int),(0:Int),([]:List Zb),false,false,(0:Int),(0:Int)⟩:Zr) (⟨(0:Int),([]:List Int)⟩:Zb)))) ( .leaf (.inr (.b2 false a0 a1 (⟨(0:Int),(0:Int),([]:List Zb),false,false,(0:Int),(0:Int)⟩:Zr) (⟨(0:Int),([]:List Int)⟩:Zb))))) ( .leaf (.inr (.b2 false a0 a1 (⟨(0:Int),(0:Int),([]:List Zb),false,false,(0:Int),(0:Int)⟩:Zr) (⟨(0:Int),([]:List Int)⟩:Zb))))))
 | .b1 a0 a1 a2 a3=>.br (!a0.Empty) ( .br (decide ((↑a0.ZP.length:Int)>(0:Int))) ( .leaf (.inr (.b3 true ({ a0 with SN:=(w64 ((1:Int) - a0.SN)) }:Zr) a1 a2 a3))) ( .leaf (.inr (.b4 true ({ a0 with SN:=(w64 ((1:Int) - a0.SN)) }:Zr) a1 a2 a3)))) ( .leaf (.inr (.b4 true ({ a0 with SN:=(w64 ((1:Int) - a0.SN)) }:Zr) a1 a2 a3)))
 | .b2 a0 a1 a2 a3 a4=>.br (a2.SN==a1.Z8Y) ( .bind 4 (Z5N a2.ZH) (fun(x1:Bool)=>.br (!x1) ( .leaf (.inl (({ a1 with Z8Y:=(w64 ((1:Int) - a1.Z8Y)),Taken:=(w64 (a1.Taken+(1:Int))) }:Zr),a2.ZH,true,a0))) ( .leaf (.inr (.b5 a0 ({ a1 with Z8Y:=(w64 ((1:Int) - a1.Z8Y)) }:Zr) a3 a4))))) ( .leaf (.inr (.b5 a0 a1 a3 a4)))
 | .b3 a0 a1 a2 a3 a4=>.chk (decide (0<=(1:Int)/\(1:Int)<=(↑a1.ZP.length:Int))) ( .chk (([]:List Zb).length==0) ( .chk (decide ((0+((a1.ZP.drop (Int.toNat (1:Int))).take (a1.ZP.length - (Int.toNat (1:Int)))).length)*32<=lim)&&decide (0+((a1.ZP.drop (Int.toNat (1:Int))).take (a1.ZP.length - (Int.toNat (1:Int)))).length<=maxLen)) ( .chk ((([]:List Zb)++((a1.ZP.drop (Int.toNat (1:Int))).take (a1.ZP.length - (Int.toNat (1:Int))))).length==(([]:List Zb)++((a1.ZP.drop (Int.toNat (1:Int))).take (a1.ZP.length - (Int.toNat (1:Int))))).length) ( .leaf (.inr (.b4 a0 ({ a1 with ZP:=(([]:List Zb)++((a1.ZP.drop (Int.toNat (1:Int))).take (a1.ZP.length - (Int.toNat (1:Int))))),Z0Z:=(w64 (a1.Z0Z+(1:Int))) }:Zr) a2 a3 a4))))))
 | .b4 a0 a1 a2 a3 a4=>.leaf (.inr (.b2 a0 ({ a1 with Open:=false,Empty:=false }:Zr) a2 a3 a4))
 | .b5 a0 a1 a2 a3=>.leaf (.inl (a1,(⟨(0:Int),[]⟩:Zb),false,a0))
noncomputable def ZhF (a0:Zr) (a1:Zk):Option (Zr×Zb×Bool×Bool):=Z05 Zi2 (.b0 a0 a1)
noncomputable def ZCS:Mod U:=⟨[33,70],163,fun x=>ZhF x.1 x.2.1,by decide⟩
def Zjh:Lay:=⟨[2,3,4,5],[[.keep],[.keep],[.keep],[.keep]],[.var k6,.var k5,.var k6,.var [.keep,.s 5 1]],⟨[.one (.ptr 0),.one (.ptr 1),.one (.ptr 2),.one (.ptr 3)],[.var 33 7 (.agg [.v 33 7 true]),.var 70 5 (.agg [.v 70 5 true]),.var 33 7 (.agg [.v 33 7 true]),.var 68 2 (.agg [.v 68 2 true])]⟩⟩
def ZjM:Lay:=⟨[2,3,4,5,7],[[.keep],[.keep],[.keep],[.keep],[.keep]],[.var k6,.var k5,.var k6,.var [.keep,.s 5 1]],⟨[.one (.ptr 0),.one (.ptr 1),.one (.ptr 2),.one (.ptr 3),.one (.v 4 1 false)],[.var 33 7 (.agg [.v 33 7 true]),.var 70 5 (.agg [.v 70 5 true]),.var 33 7 (.agg [.v 33 7 true]),.var 68 2 (.agg [.v 68 2 true])]⟩⟩
def Zjy:Lay:=⟨[2,3,4,5,7],[[.keep],[.keep],[.keep],[.keep],[.keep]],[.var k6,.var k5,.var k6,.var [.keep,.s 5 1]],⟨[.one (.ptr 0),.one (.ptr 1),.one (.ptr 2),.one (.ptr 3),.one (.v 4 1 false)],[.var 33 7 (.agg [.v 33 7 true]),.var 70 5 (.agg [.v 70 5 true]),.var 33 7 (.agg [.v 33 7 true]),.var 68 2 (.agg [.v 68 2 true])]⟩⟩
def ZjI:Lay:=⟨[2,3,4,5,7],[[.keep],[.keep],[.keep],[.keep],[.keep]],[.var k6,.var k5,.var k6,.var [.keep,.s 5 1]],⟨[.one (.ptr 0),.one (.ptr 1),.one (.ptr 2),.one (.ptr 3),.one (.v 4 1 false)],[.var 33 7 (.agg [.v 33 7 true]),.var 70 5 (.agg [.v 70 5 true]),.var 33 7 (.agg [.v 33 7 true]),.var 68 2 (.agg [.v 68 2 true])]⟩⟩
def Zj8:Lay:=⟨[2,4,5,7],[[.keep],[.keep],[.keep],[.keep]],[.var k6,.var k6,.var [.keep,.s 5 1]],⟨[.one (.ptr 0),.one (.ptr 1),.one (.ptr 2),.one (.v 4 1 false)],[.var 33 7 (.agg [.v 33 7 true]),.var 33 7 (.agg [.v 33 7 true]),.var 68 2 (.agg [.v 68 2 true])]⟩⟩
def ZBh:Nat->Option Lay
 | 4=>some Zjh
 | 10=>some ZjM
 | 7=>some Zjy
 | 9=>some ZjI
 | 15=>some Zj8
 | _=>none
noncomputable def ZyB:Z8b->Z08 U
 | .b0 a0 a1=>Z0f Tryz.f118 [33,70] (a0,a1,())
 | .b1 a0 a1 a2 a3=>spL Tryz.f118 [1,1,0,1,0,0] Zjh (((),((),((),((),())))),((a0,()),((a1,()),((a2,()),((a3,()),())))))
 | .b2 a0 a1 a2 a3 a4=>spL Tryz.f118 [1,1,1,0,0] ZjM (((),((),((),((),((a0,()),()))))),((a1,()),((a2,()),((a3,()),((a4,()),())))))
 | .b3 a0 a1 a2 a3 a4=>spL Tryz.f118 [1,1,0,1,0,1,1,0,1,0,0] Zjy (((),((),((),((),((a0,()),()))))),((a1,()),((a2,()),((a3,()),((a4,()),())))))
 | .b4 a0 a1 a2 a3 a4=>spL Tryz.f118 [1,1,0,1,0,1,1,1] ZjI (((),((),((),((),((a0,()),()))))),((a1,()),((a2,()),((a3,()),((a4,()),())))))
 | .b5 a0 a1 a2 a3=>spL Tryz.f118 [1,1,1,1,0] Zj8 (((),((),((),((a0,()),())))),((a1,()),((a2,()),((a3,()),()))))
theorem Zt0:Z0e 118 Tryz.f118 (mc Z38 (mc ZcD msN)) hsN ZBh 163 Zi2 ZyB
 | .b0 _ _=>by kernel_rfl
 | .b1 _ _ _ _=>by kernel_rfl
 | .b2 _ _ _ _ _=>by kernel_rfl
 | .b3 _ _ _ _ _=>by kernel_rfl
 | .b4 _ _ _ _ _=>by kernel_rfl
 | .b5 _ _ _ _=>by kernel_rfl
theorem Zxu:Z04 Tryz.prog B0 118 ZCS:=okP Zt0 (fun x=>.b0 x.1 x.2.1) (by kernel_rfl) Tryz.func118 (by kernel_rfl) (by kernel_rfl) (fun _=>rfl) (fun _=>rfl)
end Go.Proofs.YtjodhcdmhobmoaaGreatDoor
namespace Go.Proofs.YtjodhcdmhobmoaaGreatDoor
open Go Go.Proofs.YtjodhcdmhobmoaaGreatDoor.Le
set_option maxRecDepth 100000
inductive Z7Y where
 | b0 (a0:Zv) (a1 a2:Bool)
 | b1 (a0:Bool) (a1 a2:Zv)
 | b2 (a0:Bool) (a1 a2:Zv)
 | b3 (a0 a1:Zv)
noncomputable def Zi3:Z7Y->Tr U (Zv⊕Z7Y)
 | .b0 a0 a1 a2=>.br a1 ( .br a0.ZJn ( .leaf (.inr (.b1 a2 a0 Zt))) ( .leaf (.inr (.b2 a2 a0 Zt)))) ( .leaf (.inr (.b2 a2 a0 Zt)))
 | .b1 a0 a1 a2=>.leaf (.inr (.b2 a0 ({ a1 with Tx:=(IntKind.wrap .u64 (a1.Tx+(1:Int))) }:Zv) a2))
 | .b2 a0 a1 a2=>.br a0 ( .br a1.ZJd ( .leaf (.inr (.b3 a1 a2))) ( .leaf (.inl a1))) ( .leaf (.inl a1))
 | .b3 a0 a1=>.leaf (.inl ({ a0 with Rx:=(IntKind.wrap .u64 (a0.Rx+(1:Int))) }:Zv))
noncomputable def Zc7 (a0:Zv) (a1 a2:Bool):Option Zv:=Z05 Zi3 (.b0 a0 a1 a2)
noncomputable def ZBq:Mod U:=⟨[41,4,4],41,fun x=>Zc7 x.1 x.2.1 x.2.2.1,by decide⟩
def ZjF:Lay:=⟨[2,3,6],[[.keep],[.keep],[.keep]],[.var k7,.var k7],⟨[.one (.v 4 1 false),.one (.ptr 0),.one (.ptr 1)],[.var 41 7 (.agg [.v 41 7 true]),.var 41 7 (.agg [.v 41 7 true])]⟩⟩
def Zjk:Lay:=⟨[2,3,6],[[.keep],[.keep],[.keep]],[.var k7,.var k7],⟨[.one (.v 4 1 false),.one (.ptr 0),.one (.ptr 1)],[.var 41 7 (.agg [.v 41 7 true]),.var 41 7 (.agg [.v 41 7 true])]⟩⟩
def Zji:Lay:=⟨[3,6],[[.keep],[.keep]],[.var k7,.var k7],⟨[.one (.ptr 0),.one (.ptr 1)],[.var 41 7 (.agg [.v 41 7 true]),.var 41 7 (.agg [.v 41 7 true])]⟩⟩
def ZBv:Nat->Option Lay
 | 2=>some ZjF
 | 3=>some Zjk
 | 4=>some Zji
 | _=>none
noncomputable def Zzw:Z7Y->Z08 U
 | .b0 a0 a1 a2=>Z0f Tryz.f120 [41,4,4] (a0,a1,a2,())
 | .b1 a0 a1 a2=>spL Tryz.f120 [1,0,1,0] ZjF (((a0,()),((),((),()))),((a1,()),((a2,()),())))
 | .b2 a0 a1 a2=>spL Tryz.f120 [1,1,0,0] Zjk (((a0,()),((),((),()))),((a1,()),((a2,()),())))
 | .b3 a0 a1=>spL Tryz.f120 [1,1,0,1,0] Zji (((),((),())),((a0,()),((a1,()),())))
theorem Zw3:Z0e 120 Tryz.f120 msN hsN ZBv 41 Zi3 Zzw
 | .b0 _ _ _=>by kernel_rfl
 | .b1 _ _ _=>by kernel_rfl
 | .b2 _ _ _=>by kernel_rfl
 | .b3 _ _=>by kernel_rfl
theorem Zne:Z04 Tryz.prog B0 120 ZBq:=okP Zw3 (fun x=>.b0 x.1 x.2.1 x.2.2.1) (by kernel_rfl) Tryz.func120 (by kernel_rfl) (by kernel_rfl) (fun _=>rfl) (fun _=>rfl)
inductive Z8t where
 | b0 (a0:Int)
 | b1 (a0:Int) (a1:Zd)
 | b2 (a0:Int) (a1:Zd)
 | b3 (a0:Int) (a1:Zd)
 | b4 (a0:Int) (a1:Zd)
 | b5 (a0:Int) (a1:Zd)
 | b6 (a0:Int) (a1:Zd)
 | b7 (a0:Int) (a1:Zd)
 | b8 (a0:Int) (a1:Zd)
noncomputable def Z8N:Z8t->Tr U (Int⊕Z8t)
 | .b0 a0=>.bind 262 (Z06 a0) (fun(x1:Zd)=>.br x1.ZI ( .leaf (.inr (.b1 (10:Int) x1))) ( .leaf (.inr (.b1 (1:Int) x1))))
 | .b1 a0 a1=>.br a1.Map ( .leaf (.inr (.b2 (w64 (a0+(5:Int))) a1))) ( .leaf (.inr (.b2 a0 a1)))
 | .b2 a0 a1=>.br a1.Z0u ( .leaf (.inr (.b3 (w64 (a0+(2:Int))) a1))) ( .leaf (.inr (.b3 a0 a1)))
 | .b3 a0 a1=>.br a1.ZL ( .leaf (.inr (.b4 a0 a1))) ( .br a1.Version ( .leaf (.inr (.b4 a0 a1))) ( .br a1.Length ( .leaf (.inr (.b4 a0 a1))) ( .leaf (.inr (.b5 a0 a1)))))
 | .b4 a0 a1=>.leaf (.inr (.b5 (w64 (a0+(1:Int))) a1))
 | .b5 a0 a1=>.br a1.Z0C ( .leaf (.inr (.b6 (w64 (a0+(1:Int))) a1))) ( .leaf (.inr (.b6 a0 a1)))
 | .b6 a0 a1=>.br a1.Z4h ( .leaf (.inr (.b7 a0 a1))) ( .br a1.ZQ ( .leaf (.inr (.b7 a0 a1))) ( .leaf (.inr (.b8 a0 a1))))
 | .b7 a0 a1=>.leaf (.inr (.b8 (w64 (a0+(8:Int))) a1))
 | .b8 a0 a1=>.br a1.Mark ( .leaf (.inl (w64 (a0+(8:Int))))) ( .leaf (.inl a0))
noncomputable def ZbU (a0:Int):Option Int:=Z05 Z8N (.b0 a0)
noncomputable def ZDG:Mod U:=⟨[3],3,fun x=>ZbU x.1,by decide⟩
def Zk5:Lay:=⟨[3,4],[[.keep],[.keep]],[.var k3],⟨[.one (.ptr 0),.one (.v 3 1 false)],[.var 262 11 (.agg [.v 262 11 true])]⟩⟩
def ZjG:Lay:=⟨[3,4],[[.keep],[.keep]],[.var k3],⟨[.one (.ptr 0),.one (.v 3 1 false)],[.var 262 11 (.agg [.v 262 11 true])]⟩⟩
def Zjt:Lay:=⟨[3,4],[[.keep],[.keep]],[.var k3],⟨[.one (.ptr 0),.one (.v 3 1 false)],[.var 262 11 (.agg [.v 262 11 true])]⟩⟩
def Zk6:Lay:=⟨[3,4],[[.keep],[.keep]],[.var k3],⟨[.one (.ptr 0),.one (.v 3 1 false)],[.var 262 11 (.agg [.v 262 11 true])]⟩⟩
def ZjU:Lay:=⟨[3,4],[[.keep],[.keep]],[.var k3],⟨[.one (.ptr 0),.one (.v 3 1 false)],[.var 262 11 (.agg [.v 262 11 true])]⟩⟩
def Zjc:Lay:=⟨[3,4],[[.keep],[.keep]],[.var k3],⟨[.one (.ptr 0),.one (.v 3 1 false)],[.var 262 11 (.agg [.v 262 11 true])]⟩⟩
def ZjH:Lay:=⟨[3,4],[[.keep],[.keep]],[.var k3],⟨[.one (.ptr 0),.one (.v 3 1 false)],[.var 262 11 (.agg [.v 262 11 true])]⟩⟩
def Zjq:Lay:=⟨[3,4],[[.keep],[.keep]],[.var k3],⟨[.one (.ptr 0),.one (.v 3 1 false)],[.var 262 11 (.agg [.v 262 11 true])]⟩⟩
def ZDf:Nat->Option Lay
 | 5=>some Zk5
 | 7=>some ZjG
 | 9=>some Zjt
 | 10=>some Zk6
 | 11=>some ZjU
 | 13=>some Zjc
 | 14=>some ZjH
 | 15=>some Zjq
 | _=>none
noncomputable def Zxh:Z8t->Z08 U
 | .b0 a0=>Z0f Tryz.f279 [3] (a0,())
 | .b1 a0 a1=>spL Tryz.f279 [1,1,1,1,0,0] Zk5 (((),((a0,()),())),((a1,()),()))
 | .b2 a0 a1=>spL Tryz.f279 [1,1,1,1,1,0,0] ZjG (((),((a0,()),())),((a1,()),()))
 | .b3 a0 a1=>spL Tryz.f279 [1,1,1,1,1,1,0,0] Zjt (((),((a0,()),())),((a1,()),()))
 | .b4 a0 a1=>spL Tryz.f279 [1,1,1,1,1,1,0,1,0] Zk6 (((),((a0,()),())),((a1,()),()))
 | .b5 a0 a1=>spL Tryz.f279 [1,1,1,1,1,1,1,0,0] ZjU (((),((a0,()),())),((a1,()),()))
 | .b6 a0 a1=>spL Tryz.f279 [1,1,1,1,1,1,1,1,0,0] Zjc (((),((a0,()),())),((a1,()),()))
 | .b7 a0 a1=>spL Tryz.f279 [1,1,1,1,1,1,1,1,0,1,0] ZjH (((),((a0,()),())),((a1,()),()))
 | .b8 a0 a1=>spL Tryz.f279 [1,1,1,1,1,1,1,1,1,0,0] Zjq (((),((a0,()),())),((a1,()),()))
theorem ZuN:Z0e 279 Tryz.f279 (mc Z1v msN) hsN ZDf 3 Z8N Zxh
 | .b0 _=>by kernel_rfl
 | .b1 _ _=>by kernel_rfl
 | .b2 _ _=>by kernel_rfl
 | .b3 _ _=>by kernel_rfl
 | .b4 _ _=>by kernel_rfl
 | .b5 _ _=>by kernel_rfl
 | .b6 _ _=>by kernel_rfl
 | .b7 _ _=>by kernel_rfl
 | .b8 _ _=>by kernel_rfl
theorem ZyM:Z04 Tryz.prog B0 279 ZDG:=okP ZuN (fun x=>.b0 x.1) (by kernel_rfl) Tryz.func279 (by kernel_rfl) (by kernel_rfl) (fun _=>rfl) (fun _=>rfl)
inductive ZaS where
 | b0 (a0:List Int) (a1 a2:Int)
 | b1 (a0:List Int) (a1 a2 a3:Int)
noncomputable def Zmg:ZaS->Tr U (Int⊕ZaS)
 | .b0 a0 a1 a2=>.leaf (.inr (.b1 a0 a1 (0:Int) (w64 (a2 - (1:Int)))))
 | .b1 a0 a1 a2 a3=>.br (decide (a3>=(0:Int))) ( .chk (decide (0<=(w64 (a1+a3))/\(w64 (a1+a3))<(↑a0.length:Int))) ( .bind 5 (a0[(Int.toNat (w64 (a1+a3)))]?) (fun(x1:Int)=>.leaf (.inr (.b1 a0 a1 (IntKind.wrap .u64 ((IntKind.wrap .u64 (a2*(256:Int)))+(IntKind.wrap .u64 (x1)))) (w64 (a3 - (1:Int)))))))) ( .leaf (.inl a2))
noncomputable def Z27 (a0:List Int) (a1 a2:Int):Option Int:=Z05 Zmg (.b0 a0 a1 a2)
noncomputable def ZEd:Mod U:=⟨[62,3,3],25,fun x=>Z27 x.1 x.2.1 x.2.2.1,by decide⟩
def ZmA:Lay:=⟨[0,1,7,8],[[.s 5 1],[.keep],[.keep],[.keep]],[],⟨[.one (.v 62 1 false),.one (.v 3 1 false),.one (.v 25 1 false),.one (.v 3 1 false)],[]⟩⟩
def ZGO:Nat->Option Lay
 | 3=>some ZmA
 | _=>none
noncomputable def ZCv:ZaS->Z08 U
 | .b0 a0 a1 a2=>Z0f Tryz.f345 [62,3,3] (a0,a1,a2,())
 | .b1 a0 a1 a2 a3=>spL Tryz.f345 [1,1,0,1,0,0,0,0] ZmA (((a0,()),((a1,()),((a2,()),((a3,()),())))),())
theorem ZyI:Z0e 345 Tryz.f345 msN hsN ZGO 25 Zmg ZCv
 | .b0 _ _ _=>by kernel_rfl
 | .b1 _ _ _ _=>by kernel_rfl
theorem ZpG:Z04 Tryz.prog B0 345 ZEd:=okP ZyI (fun x=>.b0 x.1 x.2.1 x.2.2.1) (by kernel_rfl) Tryz.func345 (by kernel_rfl) (by kernel_rfl) (fun _=>rfl) (fun _=>rfl)
inductive Z2b where
 | b0 (a0:List Int) (a1:Int)
noncomputable def Z58:Z2b->Tr U (ZO⊕Z2b)
 | .b0 a0 a1=>.bind 25 (Z27 a0 a1 (1:Int)) (fun(x1:Int)=>.bind 25 (Z27 a0 (w64 (a1+(1:Int))) (2:Int)) (fun(x2:Int)=>.bind 25 (Z27 a0 (w64 (a1+(3:Int))) (2:Int)) (fun(x3:Int)=>.bind 25 (Z27 a0 (w64 (a1+(5:Int))) (2:Int)) (fun(x4:Int)=>.bind 25 (Z27 a0 (w64 (a1+(7:Int))) (2:Int)) (fun(x5:Int)=>.leaf (.inl (⟨(w64 (x1)),(w64 (x2)),(w64 (x3)),(w64 (x4)),(w64 (x5))⟩:ZO)))))))
noncomputable def Z5g (a0:List Int) (a1:Int):Option ZO:=Z05 Z58 (.b0 a0 a1)
noncomputable def Zkj:Mod U:=⟨[62,3],24,fun x=>Z5g x.1 x.2.1,by decide⟩
noncomputable def ZiJ:Z2b->Z08 U
 | .b0 a0 a1=>Z0f Tryz.f344 [62,3] (a0,a1,())
theorem Zg2:Z0e 344 Tryz.f344 (mc ZpG msN) hsN AN 24 Z58 ZiJ
 | .b0 _ _=>by kernel_rfl
theorem ZiM:Z04 Tryz.prog B0 344 Zkj:=okP Zg2 (fun x=>.b0 x.1 x.2.1) (by kernel_rfl) Tryz.func344 (by kernel_rfl) (by kernel_rfl) (fun _=>rfl) (fun _=>rfl)
inductive Z70 where
 | b0 (a0:Z4) (a1:List Int)
 | b1 (a0:List Int) (a1:Int) (a2 a3:Z4) (a4:Zd)
 | b2 (a0:List Int) (a1:Int) (a2 a3:Z4) (a4:Zd)
 | b3 (a0:List Int) (a1:Int) (a2 a3:Z4) (a4:Zd)
 | b4 (a0:List Int) (a1:Int) (a2 a3:Z4) (a4:Zd)
 | b5 (a0:List Int) (a1:Int) (a2 a3:Z4) (a4:Zd)
 | b6 (a0:List Int) (a1:Int) (a2 a3:Z4) (a4:Zd)
 | b7 (a0:List Int) (a1:Int) (a2 a3:Z4) (a4:Zd)
 | b8 (a0:List Int) (a1:Int) (a2 a3:Z4) (a4:Zd)
 | b9 (a0:List Int) (a1:Int) (a2 a3:Z4) (a4:Zd)
noncomputable def Z6a:Z70->Tr U (Z4⊕Z70)
 | .b0 a0 a1=>.bind 262 (Z06 a0.Kind) (fun(x1:Zd)=>.br x1.ZI ( .bind 24 (Z5g a1 (1:Int)) (fun(x2:ZO)=>.leaf (.inr (.b1 a1 (10:Int) ({ a0 with ZI:=x2 }:Z4) Z0b x1)))) ( .leaf (.inr (.b1 a1 (1:Int) a0 Z0b x1))))
 | .b1 a0 a1 a2 a3 a4=>.br a4.Map ( .bind 25 (Z27 a0 a1 (5:Int)) (fun(x1:Int)=>.leaf (.inr (.b2 a0 (w64 (a1+(5:Int))) ({ a2 with Map:=x1 }:Z4) a3 a4)))) ( .leaf (.inr (.b2 a0 a1 a2 a3 a4)))
 | .b2 a0 a1 a2 a3 a4=>.br a4.Z0u ( .bind 25 (Z27 a0 a1 (2:Int)) (fun(x1:Int)=>.leaf (.inr (.b3 a0 a1 ({ a2 with Z0u:=(IntKind.wrap .u16 (x1)) }:Z4) a3 a4)))) ( .leaf (.inr (.b3 a0 a1 a2 a3 a4)))
 | .b3 a0 a1 a2 a3 a4=>.br a4.ZL ( .chk (decide (0<=a1/\a1<(↑a0.length:Int))) ( .bind 5 (a0[(Int.toNat a1)]?) (fun(x1:Int)=>.leaf (.inr (.b4 a0 (w64 (a1+(1:Int))) ({ a2 with ZL:=(w64 (x1)) }:Z4) a3 a4))))) ( .leaf (.inr (.b4 a0 a1 a2 a3 a4)))
 | .b4 a0 a1 a2 a3 a4=>.br a4.Z0C ( .chk (decide (0<=a1/\a1<(↑a0.length:Int))) ( .bind 5 (a0[(Int.toNat a1)]?) (fun(x1:Int)=>.leaf (.inr (.b5 a0 a1 ({ a2 with Z0C:=(w64 (x1)) }:Z4) a3 a4))))) ( .leaf (.inr (.b5 a0 a1 a2 a3 a4)))
 | .b5 a0 a1 a2 a3 a4=>.br a4.Z4h ( .bind 25 (Z27 a0 a1 (8:Int)) (fun(x1:Int)=>.leaf (.inr (.b6 a0 (w64 (a1+(8:Int))) ({ a2 with Z4h:=x1 }:Z4) a3 a4)))) ( .leaf (.inr (.b6 a0 a1 a2 a3 a4)))
 | .b6 a0 a1 a2 a3 a4=>.br a4.Mark ( .bind 25 (Z27 a0 a1 (8:Int)) (fun(x1:Int)=>.leaf (.inr (.b7 a0 a1 ({ a2 with Mark:=x1 }:Z4) a3 a4)))) ( .leaf (.inr (.b7 a0 a1 a2 a3 a4)))
 | .b7 a0 a1 a2 a3 a4=>.br a4.ZQ ( .bind 25 (Z27 a0 a1 (8:Int)) (fun(x1:Int)=>.leaf (.inr (.b8 a0 a1 ({ a2 with ZQ:=x1 }:Z4) a3 a4)))) ( .leaf (.inr (.b8 a0 a1 a2 a3 a4)))
 | .b8 a0 a1 a2 a3 a4=>.br a4.Version ( .chk (decide (0<=a1/\a1<(↑a0.length:Int))) ( .bind 5 (a0[(Int.toNat a1)]?) (fun(x1:Int)=>.leaf (.inr (.b9 a0 a1 ({ a2 with Version:=(w64 (x1)) }:Z4) a3 a4))))) ( .leaf (.inr (.b9 a0 a1 a2 a3 a4)))
 | .b9 a0 a1 a2 a3 a4=>.br a4.Length ( .chk (decide (0<=a1/\a1<(↑a0.length:Int))) ( .bind 5 (a0[(Int.toNat a1)]?) (fun(x1:Int)=>.leaf (.inl ({ a2 with Length:=(w64 (x1)) }:Z4))))) ( .leaf (.inl a2))
noncomputable def Zdu (a0:Z4) (a1:List Int):Option Z4:=Z05 Z6a (.b0 a0 a1)
noncomputable def Zya:Mod U:=⟨[156,62],156,fun x=>Zdu x.1 x.2.1,by decide⟩
def Zhv:Lay:=⟨[1,2,4,5,6],[[.s 5 1],[.keep],[.keep],[.keep],[.keep]],[.var k2,.var k2,.var k3],⟨[.one (.v 62 1 false),.one (.ptr 0),.one (.ptr 1),.one (.ptr 2),.one (.v 3 1 false)],[.var 156 15 (.agg [.v 156 15 true]),.var 156 15 (.agg [.v 156 15 true]),.var 262 11 (.agg [.v 262 11 true])]⟩⟩
def Zgd:Lay:=⟨[1,2,4,5,6],[[.s 5 1],[.keep],[.keep],[.keep],[.keep]],[.var k2,.var k2,.var k3],⟨[.one (.v 62 1 false),.one (.ptr 0),.one (.ptr 1),.one (.ptr 2),.one (.v 3 1 false)],[.var 156 15 (.agg [.v 156 15 true]),.var 156 15 (.agg [.v 156 15 true]),.var 262 11 (.agg [.v 262 11 true])]⟩⟩
def Zfz:Lay:=⟨[1,2,4,5,6],[[.s 5 1],[.keep],[.keep],[.keep],[.keep]],[.var k2,.var k2,.var k3],⟨[.one (.v 62 1 false),.one (.ptr 0),.one (.ptr 1),.one (.ptr 2),.one (.v 3 1 false)],[.var 156 15 (.agg [.v 156 15 true]),.var 156 15 (.agg [.v 156 15 true]),.var 262 11 (.agg [.v 262 11 true])]⟩⟩
def Zh0:Lay:=⟨[1,2,4,5,6],[[.s 5 1],[.keep],[.keep],[.keep],[.keep]],[.var k2,.var k2,.var k3],⟨[.one (.v 62 1 false),.one (.ptr 0),.one (.ptr 1),.one (.ptr 2),.one (.v 3 1 false)],[.var 156 15 (.agg [.v 156 15 true]),.var 156 15 (.agg [.v 156 15 true]),.var 262 11 (.agg [.v 262 11 true])]⟩⟩
def ZgD:Lay:=⟨[1,2,4,5,6],[[.s 5 1],[.keep],[.keep],[.keep],[.keep]],[.var k2,.var k2,.var k3],⟨[.one (.v 62 1 false),.one (.ptr 0),.one (.ptr 1),.one (.ptr 2),.one (.v 3 1 false)],[.var 156 15 (.agg [.v 156 15 true]),.var 156 15 (.agg [.v 156 15 true]),.var 262 11 (.agg [.v 262 11 true])]⟩⟩
def ZgL:Lay:=⟨[1,2,4,5,6],[[.s 5 1],[.keep],[.keep],[.keep],[.keep]],[.var k2,.var k2,.var k3],⟨[.one (.v 62 1 false),.one (.ptr 0),.one (.ptr 1),.one (.ptr 2),.one (.v 3 1 false)],[.var 156 15 (.agg [.v 156 15 true]),.var 156 15 (.agg [.v 156 15 true]),.var 262 11 (.agg [.v 262 11 true])]⟩⟩
def ZfZ:Lay:=⟨[1,2,4,5,6],[[.s 5 1],[.keep],[.keep],[.keep],[.keep]],[.var k2,.var k2,.var k3],⟨[.one (.v 62 1 false),.one (.ptr 0),.one (.ptr 1),.one (.ptr 2),.one (.v 3 1 false)],[.var 156 15 (.agg [.v 156 15 true]),.var 156 15 (.agg [.v 156 15 true]),.var 262 11 (.agg [.v 262 11 true])]⟩⟩
def ZfW:Lay:=⟨[1,2,4,5,6],[[.s 5 1],[.keep],[.keep],[.keep],[.keep]],[.var k2,.var k2,.var k3],⟨[.one (.v 62 1 false),.one (.ptr 0),.one (.ptr 1),.one (.ptr 2),.one (.v 3 1 false)],[.var 156 15 (.agg [.v 156 15 true]),.var 156 15 (.agg [.v 156 15 true]),.var 262 11 (.agg [.v 262 11 true])]⟩⟩
def ZgV:Lay:=⟨[1,2,4,5,6],[[.s 5 1],[.keep],[.keep],[.keep],[.keep]],[.var k2,.var k2,.var k3],⟨[.one (.v 62 1 false),.one (.ptr 0),.one (.ptr 1),.one (.ptr 2),.one (.v 3 1 false)],[.var 156 15 (.agg [.v 156 15 true]),.var 156 15 (.agg [.v 156 15 true]),.var 262 11 (.agg [.v 262 11 true])]⟩⟩
def ZwL:Nat->Option Lay
 | 6=>some Zhv
 | 9=>some Zgd
 | 11=>some Zfz
 | 14=>some Zh0
 | 16=>some ZgD
 | 19=>some ZgL
 | 21=>some ZfZ
 | 23=>some ZfW
 | 25=>some ZgV
 | _=>none
noncomputable def Zub:Z70->Z08 U
 | .b0 a0 a1=>Z0f Tryz.f280 [156,62] (a0,a1,())
 | .b1 a0 a1 a2 a3 a4=>spL Tryz.f280 [1,1,1,1,0,0] Zhv (((a0,()),((),((),((),((a1,()),()))))),((a2,()),((a3,()),((a4,()),()))))
 | .b2 a0 a1 a2 a3 a4=>spL Tryz.f280 [1,1,1,1,1,0,0] Zgd (((a0,()),((),((),((),((a1,()),()))))),((a2,()),((a3,()),((a4,()),()))))
 | .b3 a0 a1 a2 a3 a4=>spL Tryz.f280 [1,1,1,1,1,1,0,0] Zfz (((a0,()),((),((),((),((a1,()),()))))),((a2,()),((a3,()),((a4,()),()))))
 | .b4 a0 a1 a2 a3 a4=>spL Tryz.f280 [1,1,1,1,1,1,1,0,0] Zh0 (((a0,()),((),((),((),((a1,()),()))))),((a2,()),((a3,()),((a4,()),()))))
 | .b5 a0 a1 a2 a3 a4=>spL Tryz.f280 [1,1,1,1,1,1,1,1,0,0] ZgD (((a0,()),((),((),((),((a1,()),()))))),((a2,()),((a3,()),((a4,()),()))))
 | .b6 a0 a1 a2 a3 a4=>spL Tryz.f280 [1,1,1,1,1,1,1,1,1,0,0] ZgL (((a0,()),((),((),((),((a1,()),()))))),((a2,()),((a3,()),((a4,()),()))))
 | .b7 a0 a1 a2 a3 a4=>spL Tryz.f280 [1,1,1,1,1,1,1,1,1,1,0,0] ZfZ (((a0,()),((),((),((),((a1,()),()))))),((a2,()),((a3,()),((a4,()),()))))
 | .b8 a0 a1 a2 a3 a4=>spL Tryz.f280 [1,1,1,1,1,1,1,1,1,1,1,0,0] ZfW (((a0,()),((),((),((),((a1,()),()))))),((a2,()),((a3,()),((a4,()),()))))
 | .b9 a0 a1 a2 a3 a4=>spL Tryz.f280 [1,1,1,1,1,1,1,1,1,1,1,1,0,0] ZgV (((a0,()),((),((),((),((a1,()),()))))),((a2,()),((a3,()),((a4,()),()))))
theorem Zq2:Z0e 280 Tryz.f280 (mc Z1v (mc ZiM (mc ZpG msN))) hsN ZwL 156 Z6a Zub
 | .b0 _ _=>by kernel_rfl
 | .b1 _ _ _ _ _=>by kernel_rfl
 | .b2 _ _ _ _ _=>by kernel_rfl
 | .b3 _ _ _ _ _=>by kernel_rfl
 | .b4 _ _ _ _ _=>by kernel_rfl
 | .b5 _ _ _ _ _=>by kernel_rfl
 | .b6 _ _ _ _ _=>by kernel_rfl
 | .b7 _ _ _ _ _=>by kernel_rfl
 | .b8 _ _ _ _ _=>by kernel_rfl
 | .b9 _ _ _ _ _=>by kernel_rfl
theorem Zvs:Z04 Tryz.prog B0 280 Zya:=okP Zq2 (fun x=>.b0 x.1 x.2.1) (by kernel_rfl) Tryz.func280 (by kernel_rfl) (by kernel_rfl) (fun _=>rfl) (fun _=>rfl)
inductive Z4C where
 | b0 (a0:List Int)
noncomputable def Zai:Z4C->Tr U ((Z4×Int)⊕Z4C)
 | .b0 a0=>.br ((↑a0.length:Int)==(0:Int)) ( .leaf (.inl (Z0b,(3:Int)))) ( .chk (decide (0<=(0:Int)/\(0:Int)<(↑a0.length:Int))) ( .bind 5 (a0[(Int.toNat (0:Int))]?) (fun(x1:Int)=>.bind 262 (Z06 (w64 (x1))) (fun(x2:Zd)=>.br (!x2.Z40) ( .leaf (.inl (Z0b,(12:Int)))) ( .bind 3 (ZbU (w64 (x1))) (fun(x3:Int)=>.br (decide ((↑a0.length:Int)<x3)) ( .leaf (.inl (Z0b,(3:Int)))) ( .bind 3 (ZbU (w64 (x1))) (fun(x4:Int)=>.br (decide ((↑a0.length:Int)>x4)) ( .leaf (.inl (Z0b,(2:Int)))) ( .bind 156 (Zdu (⟨(w64 (x1)),Zu,(0:Int),(0:Int),(0:Int),(0:Int),(0:Int),(0:Int),(0:Int),(0:Int),(0:Int)⟩:Z4) a0) (fun(x5:Z4)=>.bind 45 (Z65 x5) (fun(x6:Int)=>.br (x6 != (0:Int)) ( .leaf (.inl (Z0b,x6))) ( .leaf (.inl (x5,(0:Int)))))))))))))))
noncomputable def Z7E (a0:List Int):Option (Z4×Int):=Z05 Zai (.b0 a0)
noncomputable def Zwf:Mod U:=⟨[62],231,fun x=>Z7E x.1,by decide⟩
noncomputable def Zqm:Z4C->Z08 U
 | .b0 a0=>Z0f Tryz.f214 [62] (a0,())
theorem Zo2:Z0e 214 Tryz.f214 (mc Za0 (mc Z1v (mc ZyM (mc Zvs msN)))) hsN AN 231 Zai Zqm
 | .b0 _=>by kernel_rfl
theorem ZfX:Z04 Tryz.prog B0 214 Zwf:=okP Zo2 (fun x=>.b0 x.1) (by kernel_rfl) Tryz.func214 (by kernel_rfl) (by kernel_rfl) (fun _=>rfl) (fun _=>rfl)
inductive Z8d where
 | b0 (a0:Z7) (a1:Z4)
 | b1 (a0:Z7) (a1:Z4) (a2:Z7)
 | b2 (a0:Z7) (a1:Z4) (a2:Z7)
 | b3 (a0 a1:Z7)
noncomputable def Zii:Z8d->Tr U ((Z7×(List Z5))⊕Z8d)
 | .b0 a0 a1=>.br (a0.Z2R==(0:Int)) ( .br (a0.Own==(2:Int)) ( .br (a1.Kind==(2:Int)) ( .leaf (.inr (.b1 a0 a1 (⟨(0:Int),(0:Int),(0:Int),([]:List Z4),(0:Int),(0:Int),([]:List Z9),false,(0:Int),(0:Int),false,false,(0:Int),(0:Int),(0:Int),(0:Int),(0:Int),(0:Int),(0:Int),(0:Int)⟩:Z7)))) ( .leaf (.inr (.b2 a0 a1 (⟨(0:Int),(0:Int),(0:Int),([]:List Z4),(0:Int),(0:Int),([]:List Z9),false,(0:Int),(0:Int),false,false,(0:Int),(0:Int),(0:Int),(0:Int),(0:Int),(0:Int),(0:Int),(0:Int)⟩:Z7))))) ( .leaf (.inr (.b2 a0 a1 (⟨(0:Int),(0:Int),(0:Int),([]:List Z4),(0:Int),(0:Int),([]:List Z9),false,(0:Int),(0:Int),false,false,(0:Int),(0:Int),(0:Int),(0:Int),(0:Int),(0:Int),(0:Int),(0:Int)⟩:Z7))))) ( .leaf (.inr (.b2 a0 a1 (⟨(0:Int),(0:Int),(0:Int),([]:List Z4),(0:Int),(0:Int),([]:List Z9),false,(0:Int),(0:Int),false,false,(0:Int),(0:Int),(0:Int),(0:Int),(0:Int),(0:Int),(0:Int),(0:Int)⟩:Z7))))
 | .b1 a0 a1 a2=>.leaf (.inr (.b2 ({ a0 with Z2R:=(22:Int) }:Z7) a1 a2))
 | .b2 a0 a1 a2=>.bind 4 (Z2A a1.Kind) (fun(x1:Bool)=>.br x1 ( .br (a0.Own==a1.Kind) ( .leaf (.inr (.b3 a0 a2))) ( .chk (([]:List Z5).length==0) ( .leaf (.inl (a0,([]:List Z5)))))) ( .chk (([]:List Z5).length==0) ( .leaf (.inl (a0,([]:List Z5))))))
 | .b3 a0 a1=>.chk (([]:List Z5).length==0) ( .leaf (.inl (({ a0 with Told:=true }:Z7),([]:List Z5))))
noncomputable def ZhU (a0:Z7) (a1:Z4):Option (Z7×(List Z5)):=Z05 Zii (.b0 a0 a1)
noncomputable def ZBZ:Mod U:=⟨[39,156],233,fun x=>ZhU x.1 x.2.1,by decide⟩
def Zj5:Lay:=⟨[2,3,4],[[.keep],[.keep],[.keep]],[.var k0,.var k2,.var k0],⟨[.one (.ptr 0),.one (.ptr 1),.one (.ptr 2)],[.var 39 20 (.agg [.v 39 20 true]),.var 156 15 (.agg [.v 156 15 true]),.var 39 20 (.agg [.v 39 20 true])]⟩⟩
def Zjg:Lay:=⟨[2,3,4],[[.keep],[.keep],[.keep]],[.var k0,.var k2,.var k0],⟨[.one (.ptr 0),.one (.ptr 1),.one (.ptr 2)],[.var 39 20 (.agg [.v 39 20 true]),.var 156 15 (.agg [.v 156 15 true]),.var 39 20 (.agg [.v 39 20 true])]⟩⟩
def Zj6:Lay:=⟨[2,4],[[.keep],[.keep]],[.var k0,.var k0],⟨[.one (.ptr 0),.one (.ptr 1)],[.var 39 20 (.agg [.v 39 20 true]),.var 39 20 (.agg [.v 39 20 true])]⟩⟩
def ZCN:Nat->Option Lay
 | 2=>some Zj5
 | 3=>some Zjg
 | 4=>some Zj6
 | _=>none
noncomputable def ZzA:Z8d->Z08 U
 | .b0 a0 a1=>Z0f Tryz.f215 [39,156] (a0,a1,())
 | .b1 a0 a1 a2=>spL Tryz.f215 [1,0,1,0] Zj5 (((),((),((),()))),((a0,()),((a1,()),((a2,()),()))))
 | .b2 a0 a1 a2=>spL Tryz.f215 [1,1,0,0] Zjg (((),((),((),()))),((a0,()),((a1,()),((a2,()),()))))
 | .b3 a0 a1=>spL Tryz.f215 [1,1,0,1,0] Zj6 (((),((),())),((a0,()),((a1,()),())))
theorem ZuJ:Z0e 215 Tryz.f215 (mc Z3b msN) hsN ZCN 233 Zii ZzA
 | .b0 _ _=>by kernel_rfl
 | .b1 _ _ _=>by kernel_rfl
 | .b2 _ _ _=>by kernel_rfl
 | .b3 _ _=>by kernel_rfl
theorem ZyZ:Z04 Tryz.prog B0 215 ZBZ:=okP ZuJ (fun x=>.b0 x.1 x.2.1) (by kernel_rfl) Tryz.func215 (by kernel_rfl) (by kernel_rfl) (fun _=>rfl) (fun _=>rfl)
inductive Z6e where
 | b0 (a0:List Z5) (a1:Int)
 | b1 (a0:List Z5) (a1:Int) (a2:List Z5) (a3:Int)
noncomputable def Zem:Z6e->Tr U ((List Z5)⊕Z6e)
 | .b0 a0 a1=>.chk (([]:List Z5).length==0) ( .leaf (.inr (.b1 a0 a1 ([]:List Z5) (0:Int))))
 | .b1 a0 a1 a2 a3=>.br (decide (a3<(↑a0.length:Int))) ( .chk (decide (0<=a3/\a3<(↑a0.length:Int))) ( .bind 148 (a0[(Int.toNat a3)]?) (fun(x1:Z5)=>.chk (([({ x1 with Event:=a1 }:Z5)]).length==1) ( .chk (a2.length==a2.length) ( .chk (decide ((a2.length+([({ x1 with Event:=a1 }:Z5)]).length)*160<=lim)&&decide (a2.length+([({ x1 with Event:=a1 }:Z5)]).length<=maxLen)) ( .chk ((a2++[({ x1 with Event:=a1 }:Z5)]).length==(a2++[({ x1 with Event:=a1 }:Z5)]).length) ( .leaf (.inr (.b1 a0 a1 (a2++[({ x1 with Event:=a1 }:Z5)]) (w64 (a3+(1:Int)))))))))))) ( .chk (a2.length==a2.length) ( .leaf (.inl a2)))
noncomputable def Z92 (a0:List Z5) (a1:Int):Option (List Z5):=Z05 Zem (.b0 a0 a1)
noncomputable def Zza:Mod U:=⟨[77,30],77,fun x=>Z92 x.1 x.2.1,by decide⟩
def Zfc:Lay:=⟨[0,1,5,6],[[.s 148 18],[.keep],[.own 148 18],[.keep]],[.row true],⟨[.one (.v 77 1 false),.one (.v 30 1 false),.one (.own 148 0),.one (.v 3 1 false)],[.row 148 true]⟩⟩
def Zx3:Nat->Option Lay
 | 3=>some Zfc
 | _=>none
noncomputable def ZsF:Z6e->Z08 U
 | .b0 a0 a1=>Z0f Tryz.f216 [77,30] (a0,a1,())
 | .b1 a0 a1 a2 a3=>spL Tryz.f216 [1,1,0,1,0,0,0,0] Zfc (((a0,()),((a1,()),((),((a3,()),())))),(a2,()))
theorem ZrA:Z0e 216 Tryz.f216 msN hsN Zx3 77 Zem ZsF
 | .b0 _ _=>by kernel_rfl
 | .b1 _ _ _ _=>by kernel_rfl
theorem ZjC:Z04 Tryz.prog B0 216 Zza:=okP ZrA (fun x=>.b0 x.1 x.2.1) (by kernel_rfl) Tryz.func216 (by kernel_rfl) (by kernel_rfl) (fun _=>rfl) (fun _=>rfl)
inductive Z6u where
 | b0 (a0:Z8) (a1:Zb)
 | b1 (a0:Z8) (a1:Zb) (a2:Z8)
 | b2 (a0:List Z5) (a1 a2:Z8)
noncomputable def Zet:Z6u->Tr U ((Z8×(List Z5))⊕Z6u)
 | .b0 a0 a1=>.bind 4 (Z4g a1) (fun(x1:Bool)=>.br x1 ( .chk (([]:List Z5).length==0) ( .leaf (.inl (a0,([]:List Z5))))) ( .br a0.ZZ.ZJn ( .bind 41 (Zc7 a0.ZZ true false) (fun(x2:Zv)=>.leaf (.inr (.b1 ({ a0 with ZZ:=x2 }:Z8) a1 (⟨(0:Int),Zm,(0:Int),(0:Int),(0:Int),(0:Int),(0:Int),(0:Int),(0:Int),false,false,false,false,false,(⟨(0:Int),(0:Int),([]:List Zb),false,false,(0:Int),(0:Int)⟩:Zr),Zq,(⟨(0:Int),(0:Int),(0:Int),([]:List Z4),(0:Int),(0:Int),([]:List Z9),false,(0:Int),(0:Int),false,false,(0:Int),(0:Int),(0:Int),(0:Int),(0:Int),(0:Int),(0:Int),(0:Int)⟩:Z7),Zt,(0:Int),([]:List Zg),([]:List Z4),(0:Int),(0:Int)⟩:Z8))))) ( .leaf (.inr (.b1 a0 a1 (⟨(0:Int),Zm,(0:Int),(0:Int),(0:Int),(0:Int),(0:Int),(0:Int),(0:Int),false,false,false,false,false,(⟨(0:Int),(0:Int),([]:List Zb),false,false,(0:Int),(0:Int)⟩:Zr),Zq,(⟨(0:Int),(0:Int),(0:Int),([]:List Z4),(0:Int),(0:Int),([]:List Z9),false,(0:Int),(0:Int),false,false,(0:Int),(0:Int),(0:Int),(0:Int),(0:Int),(0:Int),(0:Int),(0:Int)⟩:Z7),Zt,(0:Int),([]:List Zg),([]:List Z4),(0:Int),(0:Int)⟩:Z8))))))
 | .b1 a0 a1 a2=>.br (a1.Z5c != (3:Int)) ( .chk (([]:List Z5).length==0) ( .leaf (.inl (a0,([]:List Z5))))) ( .bind 231 (Z7E a1.Payload) (fun(x1:Z4×Int)=>.bind 233 (ZhU a0.Zi x1.1) (fun(x2:Z7×(List Z5))=>.br (x1.1.Kind==(5:Int)) ( .bind 41 (Z7X a0.ZZ true a0.ZZ.ZJd) (fun(x3:Zv)=>.leaf (.inr (.b2 x2.2 ({ a0 with Zi:=x2.1,ZZ:=x3 }:Z8) a2)))) ( .leaf (.inr (.b2 x2.2 ({ a0 with Zi:=x2.1 }:Z8) a2))))))
 | .b2 a0 a1 a2=>.bind 77 (Z92 a0 a1.Event) (fun(x1:List Z5)=>.leaf (.inl (a1,x1)))
noncomputable def Ze2 (a0:Z8) (a1:Zb):Option (Z8×(List Z5)):=Z05 Zet (.b0 a0 a1)
noncomputable def Zzy:Mod U:=⟨[44,68],78,fun x=>Ze2 x.1 x.2.1,by decide⟩
def Zgw:Lay:=⟨[2,3,4],[[.keep],[.keep],[.keep]],[.var k1,.var [.keep,.s 5 1],.var k1],⟨[.one (.ptr 0),.one (.ptr 1),.one (.ptr 2)],[.var 44 66 (.agg [.v 44 66 true]),.var 68 2 (.agg [.v 68 2 true]),.var 44 66 (.agg [.v 44 66 true])]⟩⟩
def Zfx:Lay:=⟨[2,4,9],[[.keep],[.keep],[.s 148 18]],[.var k1,.var k1],⟨[.one (.ptr 0),.one (.ptr 1),.one (.v 77 1 false)],[.var 44 66 (.agg [.v 44 66 true]),.var 44 66 (.agg [.v 44 66 true])]⟩⟩
def ZzT:Nat->Option Lay
 | 5=>some Zgw
 | 12=>some Zfx
 | _=>none
noncomputable def ZuA:Z6u->Z08 U
 | .b0 a0 a1=>Z0f Tryz.f119 [44,68] (a0,a1,())
 | .b1 a0 a1 a2=>spL Tryz.f119 [1,1,1,0,0] Zgw (((),((),((),()))),((a0,()),((a1,()),((a2,()),()))))
 | .b2 a0 a1 a2=>spL Tryz.f119 [1,1,1,1,1,1,1,1,0] Zfx (((),((),((a0,()),()))),((a1,()),((a2,()),())))
theorem Zs7:Z0e 119 Tryz.f119 (mc Z7l (mc Zne (mc Zdm (mc ZfX (mc ZyZ (mc ZjC msN)))))) hsN ZzT 78 Zet ZuA
 | .b0 _ _=>by kernel_rfl
 | .b1 _ _ _=>by kernel_rfl
 | .b2 _ _ _=>by kernel_rfl
theorem Zw0:Z04 Tryz.prog B0 119 Zzy:=okP Zs7 (fun x=>.b0 x.1 x.2.1) (by kernel_rfl) Tryz.func119 (by kernel_rfl) (by kernel_rfl) (fun _=>rfl) (fun _=>rfl)
inductive Z1x where
 | b0 (a0:Z7) (a1:Z4) (a2 a3:Int)
 | b1 (a0 a1:Z7)
noncomputable def Z3d:Z1x->Tr U (Z7⊕Z1x)
 | .b0 a0 a1 a2 a3=>.br (a0.Z1G != (1:Int)) ( .leaf (.inl a0)) ( .bind 138 (Z7s a1) (fun(x1:Z9)=>.bind 269 (Zgp a0.Zy a2 x1) (fun(x2:(List Z9)×Int)=>.br (x2.2==(18:Int)) ( .leaf (.inl ({ a0 with Z2R:=(40:Int) }:Z7))) ( .br (x2.2 != (0:Int)) ( .leaf (.inl ({ a0 with Z2R:=(42:Int) }:Z7))) ( .br (a1.Kind==(0:Int)) ( .br (a0.Own==(15:Int)) ( .leaf (.inr (.b1 ({ a0 with Other:=a1.Kind,Z0i:=a3,Zy:=x2.1 }:Z7) (⟨(0:Int),(0:Int),(0:Int),([]:List Z4),(0:Int),(0:Int),([]:List Z9),false,(0:Int),(0:Int),false,false,(0:Int),(0:Int),(0:Int),(0:Int),(0:Int),(0:Int),(0:Int),(0:Int)⟩:Z7)))) ( .leaf (.inl ({ a0 with Other:=a1.Kind,Z0i:=a3,Zy:=x2.1 }:Z7)))) ( .leaf (.inl ({ a0 with Other:=a1.Kind,Z0i:=a3,Zy:=x2.1 }:Z7))))))))
 | .b1 a0 a1=>.leaf (.inl ({ a0 with Own:=(-1:Int) }:Z7))
noncomputable def Z3h (a0:Z7) (a1:Z4) (a2 a3:Int):Option Z7:=Z05 Z3d (.b0 a0 a1 a2 a3)
noncomputable def ZgR:Mod U:=⟨[39,156,30,3],39,fun x=>Z3h x.1 x.2.1 x.2.2.1 x.2.2.2.1,by decide⟩
def Z5s:Lay:=⟨[4,8],[[.keep],[.keep]],[.var k0,.var k0],⟨[.one (.ptr 0),.one (.ptr 1)],[.var 39 20 (.agg [.v 39 20 true]),.var 39 20 (.agg [.v 39 20 true])]⟩⟩
def ZfQ:Nat->Option Lay
 | 14=>some Z5s
 | _=>none
noncomputable def ZdC:Z1x->Z08 U
 | .b0 a0 a1 a2 a3=>Z0f Tryz.f281 [39,156,30,3] (a0,a1,a2,a3,())
 | .b1 a0 a1=>spL Tryz.f281 [1,1,1,1,1,1,1,1,0,1,0] Z5s (((),((),())),((a0,()),((a1,()),())))
theorem Zcc:Z0e 281 Tryz.f281 (mc ZpA (mc Zgm msN)) hsN ZfQ 39 Z3d ZdC
 | .b0 _ _ _ _=>by kernel_rfl
 | .b1 _ _=>by kernel_rfl
theorem Zep:Z04 Tryz.prog B0 281 ZgR:=okP Zcc (fun x=>.b0 x.1 x.2.1 x.2.2.1 x.2.2.2.1) (by kernel_rfl) Tryz.func281 (by kernel_rfl) (by kernel_rfl) (fun _=>rfl) (fun _=>rfl)
inductive Z86 where
 | b0 (a0 a1:Int)
noncomputable def Zj3:Z86->Tr U ((List Z5)⊕Z86)
 | .b0 a0 a1=>.chk (([(⟨a0,(0:Int),(⟨(0:Int),[]⟩:Zb),Z0I,a1,Zu⟩:Z5)]).length==1) ( .leaf (.inl ([(⟨a0,(0:Int),(⟨(0:Int),[]⟩:Zb),Z0I,a1,Zu⟩:Z5)])))
noncomputable def Z1q (a0 a1:Int):Option (List Z5):=Z05 Zj3 (.b0 a0 a1)
noncomputable def ZDF:Mod U:=⟨[3,25],77,fun x=>Z1q x.1 x.2.1,by decide⟩
noncomputable def Zwq:Z86->Z08 U
 | .b0 a0 a1=>Z0f Tryz.f346 [3,25] (a0,a1,())
theorem Zuq:Z0e 346 Tryz.f346 msN hsN AN 77 Zj3 Zwq
 | .b0 _ _=>by kernel_rfl
theorem Z99:Z04 Tryz.prog B0 346 ZDF:=okP Zuq (fun x=>.b0 x.1 x.2.1) (by kernel_rfl) Tryz.func346 (by kernel_rfl) (by kernel_rfl) (fun _=>rfl) (fun _=>rfl)
inductive Z1M where
 | b0 (a0:Z7) (a1:Z4) (a2:Int)
 | b1 (a0:Int) (a1:Z7) (a2:Z4) (a3:Z7)
 | b2 (a0:Bool) (a1:Z7) (a2:Z4) (a3:Z7)
 | b3 (a0:Z7) (a1:Z4) (a2:Z7)
 | b4 (a0:Bool) (a1:Z7) (a2:Z4) (a3:Z7)
 | b5 (a0 a1:Z7)
 | b6 (a0 a1:Z7)
 | b7 (a0:Bool) (a1:Z7) (a2:Z4) (a3:Z7)
 | b8 (a0:Bool) (a1 a2:Z7)
noncomputable def Z3V:Z1M->Tr U ((Z7×(List Z4)×(List Z5))⊕Z1M)
 | .b0 a0 a1 a2=>.br (a1.Kind==(3:Int)) ( .br (!(a0.Z1G==(0:Int))) ( .br (a0.Z1W==(0:Int)) ( .leaf (.inr (.b1 a2 a0 a1 (⟨(0:Int),(0:Int),(0:Int),([]:List Z4),(0:Int),(0:Int),([]:List Z9),false,(0:Int),(0:Int),false,false,(0:Int),(0:Int),(0:Int),(0:Int),(0:Int),(0:Int),(0:Int),(0:Int)⟩:Z7)))) ( .leaf (.inr (.b2 (a0.Z1G==(0:Int)) a0 a1 (⟨(0:Int),(0:Int),(0:Int),([]:List Z4),(0:Int),(0:Int),([]:List Z9),false,(0:Int),(0:Int),false,false,(0:Int),(0:Int),(0:Int),(0:Int),(0:Int),(0:Int),(0:Int),(0:Int)⟩:Z7))))) ( .leaf (.inr (.b2 (a0.Z1G==(0:Int)) a0 a1 (⟨(0:Int),(0:Int),(0:Int),([]:List Z4),(0:Int),(0:Int),([]:List Z9),false,(0:Int),(0:Int),false,false,(0:Int),(0:Int),(0:Int),(0:Int),(0:Int),(0:Int),(0:Int),(0:Int)⟩:Z7))))) ( .leaf (.inr (.b2 (a0.Z1G==(0:Int)) a0 a1 (⟨(0:Int),(0:Int),(0:Int),([]:List Z4),(0:Int),(0:Int),([]:List Z9),false,(0:Int),(0:Int),false,false,(0:Int),(0:Int),(0:Int),(0:Int),(0:Int),(0:Int),(0:Int),(0:Int)⟩:Z7))))
 | .b1 a0 a1 a2 a3=>.bind 77 (Z1q (8:Int) a2.Mark) (fun(x1:List Z5)=>.chk (([]:List Z4).length==0) ( .leaf (.inl (({ a1 with Other:=(3:Int),Z0i:=a0,ZkQ:=a2.Z4h,Mark:=a2.Mark,Z1W:=(1:Int) }:Z7),([]:List Z4),x1))))
 | .b2 a0 a1 a2 a3=>.br (a2.Kind==(4:Int)) ( .br a0 ( .br (a1.Z1W==(1:Int)) ( .leaf (.inr (.b3 a1 a2 a3))) ( .leaf (.inr (.b4 a0 a1 a2 a3)))) ( .leaf (.inr (.b4 a0 a1 a2 a3)))) ( .leaf (.inr (.b4 a0 a1 a2 a3)))
 | .b3 a0 a1 a2=>.leaf (.inr (.b5 ({ a0 with ZkQ:=a1.Z4h,Z1W:=(2:Int) }:Z7) a2))
 | .b4 a0 a1 a2 a3=>.br (a2.Kind==(5:Int)) ( .br a0 ( .br (a1.Z1W==(2:Int)) ( .leaf (.inr (.b6 a1 a3))) ( .leaf (.inr (.b7 a0 a1 a2 a3)))) ( .leaf (.inr (.b7 a0 a1 a2 a3)))) ( .leaf (.inr (.b7 a0 a1 a2 a3)))
 | .b5 a0 a1=>.chk (([]:List Z4).length==0) ( .chk (([]:List Z5).length==0) ( .leaf (.inl (a0,([]:List Z4),([]:List Z5)))))
 | .b6 a0 a1=>.bind 36 (Z2w (⟨(6:Int),Zu,(0:Int),(0:Int),(0:Int),(0:Int),(0:Int),(0:Int),(0:Int),(0:Int),(0:Int)⟩:Z4)) (fun(x1:List Z4)=>.chk (([]:List Z5).length==0) ( .leaf (.inl (({ a0 with Z1W:=(3:Int) }:Z7),x1,([]:List Z5)))))
 | .b7 a0 a1 a2 a3=>.br (a2.Kind==(6:Int)) ( .br (a1.Z1W==(3:Int)) ( .leaf (.inr (.b8 a0 a1 a3))) ( .leaf (.inr (.b5 a1 a3)))) ( .leaf (.inr (.b5 a1 a3)))
 | .b8 a0 a1 a2=>.br a0 ( .bind 77 (Z1q (3:Int) (0:Int)) (fun(x1:List Z5)=>.chk (([]:List Z4).length==0) ( .leaf (.inl (({ a1 with Own:=(-1:Int),Z1W:=(4:Int) }:Z7),([]:List Z4),x1))))) ( .bind 36 (Z2w (⟨(6:Int),Zu,(0:Int),(0:Int),(0:Int),(0:Int),(0:Int),(0:Int),(0:Int),(0:Int),(0:Int)⟩:Z4)) (fun(x2:List Z4)=>.bind 77 (Z1q (3:Int) (0:Int)) (fun(x3:List Z5)=>.leaf (.inl (({ a1 with Other:=(-1:Int),Z1W:=(4:Int) }:Z7),x2,x3)))))
noncomputable def Z42 (a0:Z7) (a1:Z4) (a2:Int):Option (Z7×(List Z4)×(List Z5)):=Z05 Z3V (.b0 a0 a1 a2)
noncomputable def ZiB:Mod U:=⟨[39,156,3],237,fun x=>Z42 x.1 x.2.1 x.2.2.1,by decide⟩
def Z6o:Lay:=⟨[2,3,4,6],[[.keep],[.keep],[.keep],[.keep]],[.var k0,.var k2,.var k0],⟨[.one (.v 3 1 false),.one (.ptr 0),.one (.ptr 1),.one (.ptr 2)],[.var 39 20 (.agg [.v 39 20 true]),.var 156 15 (.agg [.v 156 15 true]),.var 39 20 (.agg [.v 39 20 true])]⟩⟩
def Z6S:Lay:=⟨[3,4,6,9],[[.keep],[.keep],[.keep],[.keep]],[.var k0,.var k2,.var k0],⟨[.one (.ptr 0),.one (.ptr 1),.one (.ptr 2),.one (.v 4 1 false)],[.var 39 20 (.agg [.v 39 20 true]),.var 156 15 (.agg [.v 156 15 true]),.var 39 20 (.agg [.v 39 20 true])]⟩⟩
def Z6K:Lay:=⟨[3,4,6],[[.keep],[.keep],[.keep]],[.var k0,.var k2,.var k0],⟨[.one (.ptr 0),.one (.ptr 1),.one (.ptr 2)],[.var 39 20 (.agg [.v 39 20 true]),.var 156 15 (.agg [.v 156 15 true]),.var 39 20 (.agg [.v 39 20 true])]⟩⟩
def Z6f:Lay:=⟨[3,4,6,9],[[.keep],[.keep],[.keep],[.keep]],[.var k0,.var k2,.var k0],⟨[.one (.ptr 0),.one (.ptr 1),.one (.ptr 2),.one (.v 4 1 false)],[.var 39 20 (.agg [.v 39 20 true]),.var 156 15 (.agg [.v 156 15 true]),.var 39 20 (.agg [.v 39 20 true])]⟩⟩
def Z5Z:Lay:=⟨[3,6],[[.keep],[.keep]],[.var k0,.var k0],⟨[.one (.ptr 0),.one (.ptr 1)],[.var 39 20 (.agg [.v 39 20 true]),.var 39 20 (.agg [.v 39 20 true])]⟩⟩
def Z6g:Lay:=⟨[3,6],[[.keep],[.keep]],[.var k0,.var k0],⟨[.one (.ptr 0),.one (.ptr 1)],[.var 39 20 (.agg [.v 39 20 true]),.var 39 20 (.agg [.v 39 20 true])]⟩⟩
def Z67:Lay:=⟨[3,4,6,9],[[.keep],[.keep],[.keep],[.keep]],[.var k0,.var k2,.var k0],⟨[.one (.ptr 0),.one (.ptr 1),.one (.ptr 2),.one (.v 4 1 false)],[.var 39 20 (.agg [.v 39 20 true]),.var 156 15 (.agg [.v 156 15 true]),.var 39 20 (.agg [.v 39 20 true])]⟩⟩
def Z6M:Lay:=⟨[3,6,9],[[.keep],[.keep],[.keep]],[.var k0,.var k0],⟨[.one (.ptr 0),.one (.ptr 1),.one (.v 4 1 false)],[.var 39 20 (.agg [.v 39 20 true]),.var 39 20 (.agg [.v 39 20 true])]⟩⟩
def Zik:Nat->Option Lay
 | 3=>some Z6o
 | 9=>some Z6S
 | 10=>some Z6K
 | 12=>some Z6f
 | 22=>some Z5Z
 | 13=>some Z6g
 | 15=>some Z67
 | 16=>some Z6M
 | _=>none
noncomputable def Zgg:Z1M->Z08 U
 | .b0 a0 a1 a2=>Z0f Tryz.f282 [39,156,3] (a0,a1,a2,())
 | .b1 a0 a1 a2 a3=>spL Tryz.f282 [1,1,0,0,1,0,0] Z6o (((a0,()),((),((),((),())))),((a1,()),((a2,()),((a3,()),()))))
 | .b2 a0 a1 a2 a3=>spL Tryz.f282 [1,1,0,0,1,1,0] Z6S (((),((),((),((a0,()),())))),((a1,()),((a2,()),((a3,()),()))))
 | .b3 a0 a1 a2=>spL Tryz.f282 [1,1,0,0,1,1,1,0,0] Z6K (((),((),((),()))),((a0,()),((a1,()),((a2,()),()))))
 | .b4 a0 a1 a2 a3=>spL Tryz.f282 [1,1,0,0,1,1,1,1,0] Z6f (((),((),((),((a0,()),())))),((a1,()),((a2,()),((a3,()),()))))
 | .b5 a0 a1=>spL Tryz.f282 [1,1,1,0] Z5Z (((),((),())),((a0,()),((a1,()),())))
 | .b6 a0 a1=>spL Tryz.f282 [1,1,0,0,1,1,1,1,1,0,0] Z6g (((),((),())),((a0,()),((a1,()),())))
 | .b7 a0 a1 a2 a3=>spL Tryz.f282 [1,1,0,0,1,1,1,1,1,1,0] Z67 (((),((),((),((a0,()),())))),((a1,()),((a2,()),((a3,()),()))))
 | .b8 a0 a1 a2=>spL Tryz.f282 [1,1,0,0,1,1,1,1,1,1,1,0,0] Z6M (((),((),((a0,()),()))),((a1,()),((a2,()),())))
theorem ZeQ:Z0e 282 Tryz.f282 (mc Z5S (mc Z99 msN)) hsN Zik 237 Z3V Zgg
 | .b0 _ _ _=>by kernel_rfl
 | .b1 _ _ _ _=>by kernel_rfl
 | .b2 _ _ _ _=>by kernel_rfl
 | .b3 _ _ _=>by kernel_rfl
 | .b4 _ _ _ _=>by kernel_rfl
 | .b5 _ _=>by kernel_rfl
 | .b6 _ _=>by kernel_rfl
 | .b7 _ _ _ _=>by kernel_rfl
 | .b8 _ _ _=>by kernel_rfl
theorem Zfl:Z04 Tryz.prog B0 282 ZiB:=okP ZeQ (fun x=>.b0 x.1 x.2.1 x.2.2.1) (by kernel_rfl) Tryz.func282 (by kernel_rfl) (by kernel_rfl) (fun _=>rfl) (fun _=>rfl)
end Go.Proofs.YtjodhcdmhobmoaaGreatDoor
