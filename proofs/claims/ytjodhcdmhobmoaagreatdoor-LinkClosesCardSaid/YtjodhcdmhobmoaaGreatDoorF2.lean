/-
  A part of the proof.
-/
import Derived.Test.YtjodhcdmhobmoaaGreatDoorF1
set_option linter.unusedVariables false
set_option linter.unusedSimpArgs false
namespace Go.Proofs.YtjodhcdmhobmoaaGreatDoor
open Go Go.Proofs.YtjodhcdmhobmoaaGreatDoor.Le
set_option maxRecDepth 100000
inductive Z91 where
 | b0 (a0:Z7) (a1 a2:Int)
 | b1 (a0 a1:Int) (a2:List Z4) (a3 a4:Z7)
 | b2 (a0 a1:Int) (a2:List Z4) (a3 a4:Z7)
 | b3 (a0:List Z4) (a1 a2:Z7)
 | b4 (a0 a1:Int) (a2:List Z4) (a3 a4:Z7) (a5:Z4)
noncomputable def Z1t:Z91->Tr U ((Z7×(List Z4))⊕Z91)
 | .b0 a0 a1 a2=>.chk (([]:List Z4).length==0) ( .leaf (.inr (.b1 a1 a2 ([]:List Z4) a0 ZI)))
 | .b1 a0 a1 a2 a3 a4=>.br (a3.Z1n==0) ( .br (decide (a3.Own<0)) ( .br (decide ((↑a3.Zf.length:Int)>0)) ( .chk (decide (0<=(0:Int)/\(0:Int)<(↑a3.Zf.length:Int))) ( .bind 156 (a3.Zf[(Int.toNat 0)]?) (fun(x1:Z4)=>.bind 4 (Zet a3 x1) (fun(x2:Bool)=>.br x2 ( .chk (a2.length==a2.length) ( .leaf (.inr (.b2 a0 a1 a2 a3 a4)))) ( .chk (a2.length==a2.length) ( .leaf (.inr (.b3 a2 a3 a4)))))))) ( .chk (a2.length==a2.length) ( .leaf (.inr (.b3 a2 a3 a4))))) ( .chk (a2.length==a2.length) ( .leaf (.inr (.b3 a2 a3 a4))))) ( .chk (a2.length==a2.length) ( .leaf (.inr (.b3 a2 a3 a4))))
 | .b2 a0 a1 a2 a3 a4=>.chk (decide (0<=(0:Int)/\(0:Int)<(↑a3.Zf.length:Int))) ( .bind 156 (a3.Zf[(Int.toNat 0)]?) (fun(x1:Z4)=>.chk (decide (0<=(1:Int)/\(1:Int)<=(↑a3.Zf.length:Int))) ( .chk (([]:List Z4).length==0) ( .chk (decide ((0+((a3.Zf.drop (Int.toNat 1)).take (a3.Zf.length - (Int.toNat 1))).length)*120<=lim)&&decide (0+((a3.Zf.drop (Int.toNat 1)).take (a3.Zf.length - (Int.toNat 1))).length<=maxLen)) ( .br (x1.Kind==12) ( .br a3.Z0q ( .chk ((([]:List Z4)++((a3.Zf.drop (Int.toNat 1)).take (a3.Zf.length - (Int.toNat 1)))).length==(([]:List Z4)++((a3.Zf.drop (Int.toNat 1)).take (a3.Zf.length - (Int.toNat 1)))).length) ( .chk (a2.length==a2.length) ( .leaf (.inr (.b1 a0 a1 a2 ({ a3 with Zf:=(([]:List Z4)++((a3.Zf.drop (Int.toNat 1)).take (a3.Zf.length - (Int.toNat 1)))) }:Z7) a4))))) ( .br (x1.Kind==3) ( .br (a3.Z29 != 0) ( .chk ((([]:List Z4)++((a3.Zf.drop (Int.toNat 1)).take (a3.Zf.length - (Int.toNat 1)))).length==(([]:List Z4)++((a3.Zf.drop (Int.toNat 1)).take (a3.Zf.length - (Int.toNat 1)))).length) ( .chk (a2.length==a2.length) ( .leaf (.inr (.b1 a0 a1 a2 ({ a3 with Zf:=(([]:List Z4)++((a3.Zf.drop (Int.toNat 1)).take (a3.Zf.length - (Int.toNat 1)))) }:Z7) a4))))) ( .chk ((a2.length==a2.length)&&((([]:List Z4)++((a3.Zf.drop (Int.toNat 1)).take (a3.Zf.length - (Int.toNat 1)))).length==(([]:List Z4)++((a3.Zf.drop (Int.toNat 1)).take (a3.Zf.length - (Int.toNat 1)))).length)) ( .leaf (.inr (.b4 a0 a1 a2 ({ a3 with Zf:=(([]:List Z4)++((a3.Zf.drop (Int.toNat 1)).take (a3.Zf.length - (Int.toNat 1)))) }:Z7) a4 x1))))) ( .chk ((a2.length==a2.length)&&((([]:List Z4)++((a3.Zf.drop (Int.toNat 1)).take (a3.Zf.length - (Int.toNat 1)))).length==(([]:List Z4)++((a3.Zf.drop (Int.toNat 1)).take (a3.Zf.length - (Int.toNat 1)))).length)) ( .leaf (.inr (.b4 a0 a1 a2 ({ a3 with Zf:=(([]:List Z4)++((a3.Zf.drop (Int.toNat 1)).take (a3.Zf.length - (Int.toNat 1)))) }:Z7) a4 x1)))))) ( .br (x1.Kind==3) ( .br (a3.Z29 != 0) ( .chk ((([]:List Z4)++((a3.Zf.drop (Int.toNat 1)).take (a3.Zf.length - (Int.toNat 1)))).length==(([]:List Z4)++((a3.Zf.drop (Int.toNat 1)).take (a3.Zf.length - (Int.toNat 1)))).length) ( .chk (a2.length==a2.length) ( .leaf (.inr (.b1 a0 a1 a2 ({ a3 with Zf:=(([]:List Z4)++((a3.Zf.drop (Int.toNat 1)).take (a3.Zf.length - (Int.toNat 1)))) }:Z7) a4))))) ( .chk ((a2.length==a2.length)&&((([]:List Z4)++((a3.Zf.drop (Int.toNat 1)).take (a3.Zf.length - (Int.toNat 1)))).length==(([]:List Z4)++((a3.Zf.drop (Int.toNat 1)).take (a3.Zf.length - (Int.toNat 1)))).length)) ( .leaf (.inr (.b4 a0 a1 a2 ({ a3 with Zf:=(([]:List Z4)++((a3.Zf.drop (Int.toNat 1)).take (a3.Zf.length - (Int.toNat 1)))) }:Z7) a4 x1))))) ( .chk ((a2.length==a2.length)&&((([]:List Z4)++((a3.Zf.drop (Int.toNat 1)).take (a3.Zf.length - (Int.toNat 1)))).length==(([]:List Z4)++((a3.Zf.drop (Int.toNat 1)).take (a3.Zf.length - (Int.toNat 1)))).length)) ( .leaf (.inr (.b4 a0 a1 a2 ({ a3 with Zf:=(([]:List Z4)++((a3.Zf.drop (Int.toNat 1)).take (a3.Zf.length - (Int.toNat 1)))) }:Z7) a4 x1))))))))))
 | .b3 a0 a1 a2=>.chk (a0.length==a0.length) ( .leaf (.inl (a1,a0)))
 | .b4 a0 a1 a2 a3 a4 a5=>.chk (a3.Zf.length==a3.Zf.length) ( .bind 216 (Z92 a3 a5 a0 a1) (fun(x1:Z7×Z4)=>.chk (([x1.2]).length==1) ( .chk (a2.length==a2.length) ( .chk (decide ((a2.length+([x1.2]).length)*120<=lim)&&decide (a2.length+([x1.2]).length<=maxLen)) ( .chk ((a2++[x1.2]).length==(a2++[x1.2]).length) ( .leaf (.inr (.b1 a0 a1 (a2++[x1.2]) x1.1 a4))))))))
noncomputable def Zdl (a0:Z7) (a1 a2:Int):Option (Z7×(List Z4)):=ZO Z1t (.b0 a0 a1 a2)
noncomputable def ZEr:Mod U:=⟨[39,30,3],140,fun x=>Zdl x.1 x.2.1 x.2.2.1,by decide⟩
def Z8o:Lay:=⟨[1,2,3,6,8],[KP,KP,KP,KP,[.own 156 15]],[.var k0,.var k0,.row true],⟨[OV 30,OV 3,PQ 0,PQ 1,.one (.own 156 2)],[VA 39 20,VA 39 20,.row 156 true]⟩⟩
def Zk7:Lay:=⟨[3,6,8],[KP,KP,[.own 156 15]],[.var k0,.var k0,.row true],⟨[PQ 0,PQ 1,.one (.own 156 2)],[VA 39 20,VA 39 20,.row 156 true]⟩⟩
def ZjB:Lay:=⟨[1,2,3,6,8,9],[KP,KP,KP,KP,[.own 156 15],KP],[.var [.keep,.keep,.keep,.own 156 15,.keep,.keep,.s 138 8,.keep,.keep,.keep,.keep,.keep,.keep,.keep,.keep,.keep,.keep,.keep,.keep,.keep],.var k0,.row true,.var k1,.row true],⟨[OV 30,OV 3,PQ 0,PQ 1,.one (.own 156 2),PQ 3],[.var 39 20 (.agg [VC 3 1,VC 3 1,VC 3 1,.own 156 4,VC 3 1,VC 3 1,VC 37 1,VC 4 1,VC 25 1,VC 25 1,VC 4 1,VC 4 1,VC 3 1,VC 3 1,VC 3 1,VC 25 1,VC 25 1,VC 25 1,VC 3 1,VC 3 1]),VA 39 20,.row 156 true,VA 156 15,.row 156 true]⟩⟩
def ZDX:Nat->Option Lay
 | 2=>some Z8o
 | 3=>some Z8o
 | 8=>some Zk7
 | 6=>some ZjB
 | _=>none
noncomputable def Zyf:Z91->Z08 U
 | .b0 a0 a1 a2=>Z0f Tryz.f96 [39,30,3] (a0,a1,a2,())
 | .b1 a0 a1 a2 a3 a4=>spL Tryz.f96 [1,1,0,0,0,0,0] Z8o (((a0,()),((a1,()),((),((),((),()))))),((a3,()),((a4,()),(a2,()))))
 | .b2 a0 a1 a2 a3 a4=>spL Tryz.f96 [1,1,0,0,0,1,0,0] Z8o (((a0,()),((a1,()),((),((),((),()))))),((a3,()),((a4,()),(a2,()))))
 | .b3 a0 a1 a2=>spL Tryz.f96 [1,1,1,0] Zk7 (((),((),((),()))),((a1,()),((a2,()),(a0,()))))
 | .b4 a0 a1 a2 a3 a4 a5=>spL Tryz.f96 [1,1,0,0,0,1,0,1,1,1,0] ZjB (((a0,()),((a1,()),((),((),((),((),())))))),((a3.Z1z,(a3.Own,(a3.Since,(a3.Other,(a3.Z0C,(a3.Zo,(a3.Told,(a3.ZZ,(a3.Z4Y,(a3.Z74,(a3.Z0q,(a3.Version,(a3.Length,(a3.Limit,(a3.Z5R,(a3.Zpv,(a3.Mark,(a3.Z29,(a3.Z1n,()))))))))))))))))))),((a4,()),(a2,((a5,()),(a3.Zf,()))))))
theorem ZuW:Z0g 96 Tryz.f96 (mc Zt0 (mc Znf msN)) hsN ZDX 140 Z1t Zyf:=by intro p;cases p<;>kernel_rfl
theorem ZyZ:Z0a Tryz.prog B0 96 ZEr:=okP ZuW (fun x=>.b0 x.1 x.2.1 x.2.2.1) (by kernel_rfl) Tryz.func96 (by kernel_rfl) (by kernel_rfl) (fun _=>rfl) (fun _=>rfl)
inductive Z8Y where
 | b0 (a0:Z9)
noncomputable def ZcL:Z8Y->Tr U (Int⊕Z8Y)
 | .b0 a0=>.bind 30 (ZdY a0.Event a0.ZN.Zt.Z0o) (fun(x1:Int)=>.leaf (.inl x1))
noncomputable def Z9B (a0:Z9):Option Int:=ZO ZcL (.b0 a0)
noncomputable def ZDG:Mod U:=⟨[44],30,fun x=>Z9B x.1,by decide⟩
noncomputable def ZzZ:Z8Y->Z08 U
 | .b0 a0=>Z0f Tryz.f97 [44] (a0,())
theorem Zvk:Z0g 97 Tryz.f97 (mc ZsV msN) hsN AN 30 ZcL ZzZ
 | .b0 ..=>by kernel_rfl
theorem Zns:Z0a Tryz.prog B0 97 ZDG:=okP Zvk (fun x=>.b0 x.1) (by kernel_rfl) Tryz.func97 (by kernel_rfl) (by kernel_rfl) (fun _=>rfl) (fun _=>rfl)
inductive ZbH where
 | b0 (a0 a1 a2:Int)
noncomputable def Zba:ZbH->Tr U (Bool⊕ZbH)
 | .b0 a0 a1 a2=>.br (decide (a0>=0)) ( .bind 4 (Z2y a0) (fun(x1:Bool)=>.br (!x1) ( .leaf (.inl (decide ((w64 (a2 - a1))>40000000)))) ( .leaf (.inl false)))) ( .leaf (.inl false))
noncomputable def Z8z (a0 a1 a2:Int):Option Bool:=ZO Zba (.b0 a0 a1 a2)
noncomputable def ZFW:Mod U:=⟨[3,3,3],4,fun x=>Z8z x.1 x.2.1 x.2.2.1,by decide⟩
noncomputable def ZEt:ZbH->Z08 U
 | .b0 a0 a1 a2=>Z0f Tryz.f191 [3,3,3] (a0,a1,a2,())
theorem Zx9:Z0g 191 Tryz.f191 (mc Z4Q msN) hsN AN 4 Zba ZEt
 | .b0 ..=>by kernel_rfl
theorem ZBX:Z0a Tryz.prog B0 191 ZFW:=okP Zx9 (fun x=>.b0 x.1 x.2.1 x.2.2.1) (by kernel_rfl) Tryz.func191 (by kernel_rfl) (by kernel_rfl) (fun _=>rfl) (fun _=>rfl)
inductive Z5c where
 | b0 (a0:Z7) (a1:Int)
noncomputable def Z54:Z5c->Tr U (Bool⊕Z5c)
 | .b0 a0 a1=>.bind 4 (Z8z a0.Own a0.Since a1) (fun(x1:Bool)=>.br x1 ( .leaf (.inl true)) ( .bind 4 (Z8z a0.Other a0.Z0C a1) (fun(x2:Bool)=>.leaf (.inl x2))))
noncomputable def Z5q (a0:Z7) (a1:Int):Option Bool:=ZO Z54 (.b0 a0 a1)
noncomputable def ZwI:Mod U:=⟨[39,3],4,fun x=>Z5q x.1 x.2.1,by decide⟩
noncomputable def Zsv:Z5c->Z08 U
 | .b0 a0 a1=>Z0f Tryz.f98 [39,3] (a0,a1,())
theorem ZpB:Z0g 98 Tryz.f98 (mc ZBX msN) hsN AN 4 Z54 Zsv
 | .b0 ..=>by kernel_rfl
theorem ZsM:Z0a Tryz.prog B0 98 ZwI:=okP ZpB (fun x=>.b0 x.1 x.2.1) (by kernel_rfl) Tryz.func98 (by kernel_rfl) (by kernel_rfl) (fun _=>rfl) (fun _=>rfl)
inductive Z57 where
 | b0 (a0:ZM)
noncomputable def Z51:Z57->Tr U (Int⊕Z57)
 | .b0 a0=>.bind 3 (Z2r a0.Z1g (10:Int) (3200:Int)) (fun(x1:Int)=>.leaf (.inl (w64 (x1*10000))))
noncomputable def Z35 (a0:ZM):Option Int:=ZO Z51 (.b0 a0)
noncomputable def Zwc:Mod U:=⟨[24],3,fun x=>Z35 x.1,by decide⟩
noncomputable def ZsO:Z57->Z08 U
 | .b0 a0=>Z0f Tryz.f99 [24] (a0,())
theorem ZpZ:Z0g 99 Tryz.f99 (mc Z6I msN) hsN AN 3 Z51 ZsO
 | .b0 ..=>by kernel_rfl
theorem Zs7:Z0a Tryz.prog B0 99 Zwc:=okP ZpZ (fun x=>.b0 x.1) (by kernel_rfl) Tryz.func99 (by kernel_rfl) (by kernel_rfl) (fun _=>rfl) (fun _=>rfl)
inductive ZeE where
 | b0 (a0:Z9) (a1:Int)
noncomputable def ZqO:ZeE->Tr U ((Z9×(List Z5))⊕ZeE)
 | .b0 a0 a1=>.chk (([(⟨4,a0.Event,(⟨0,[]⟩:Zd),Z0A,(IntKind.wrap .u64 (a1)),Zr⟩:Z5)]).length==1) ( .leaf (.inl (({ a0 with Z05:=a1 }:Z9),[(⟨4,a0.Event,(⟨0,[]⟩:Zd),Z0A,(IntKind.wrap .u64 (a1)),Zr⟩:Z5)])))
noncomputable def Ze1 (a0:Z9) (a1:Int):Option (Z9×(List Z5)):=ZO ZqO (.b0 a0 a1)
noncomputable def ZLw:Mod U:=⟨[44,3],78,fun x=>Ze1 x.1 x.2.1,by decide⟩
noncomputable def ZHC:ZeE->Z08 U
 | .b0 a0 a1=>Z0f Tryz.f100 [44,3] (a0,a1,())
theorem ZBR:Z0g 100 Tryz.f100 msN hsN AN 78 ZqO ZHC
 | .b0 ..=>by kernel_rfl
theorem Zt9:Z0a Tryz.prog B0 100 ZLw:=okP ZBR (fun x=>.b0 x.1 x.2.1) (by kernel_rfl) Tryz.func100 (by kernel_rfl) (by kernel_rfl) (fun _=>rfl) (fun _=>rfl)
inductive Z9Y where
 | b0 (a0:Z9) (a1:Int)
 | b1 (a0:Int) (a1:Bool) (a2 a3:Z9)
 | b2 (a0:Int) (a1:Bool) (a2 a3:Z9)
 | b3 (a0 a1 a2:Int) (a3 a4:Z9)
 | b4 (a0 a1:Int) (a2 a3:Z9)
 | b5 (a0:Int) (a1:List Z5) (a2:List Z8) (a3:Int) (a4 a5:Z9) (a6:Z7)
 | b6 (a0:List Z5) (a1:Int) (a2 a3:Z9)
 | b7 (a0:List Z5) (a1 a2:Z9)
 | b8 (a0:Int) (a1:List Z5) (a2:Int) (a3 a4:Z9)
 | b9 (a0:List Z5) (a1 a2:Z9)
noncomputable def Z00:Z9Y->Tr U ((Z9×(List Z5))⊕Z9Y)
 | .b0 a0 a1=>.br (a0.Z05 != 0) ( .chk (([]:List Z5).length==0) ( .leaf (.inl (a0,([]:List Z5))))) ( .br (a0.Z1z==1) ( .br (!a0.Got) ( .bind 4 (Z9J a0) (fun(x1:Bool)=>.leaf (.inr (.b1 a1 x1 a0 ZH)))) ( .leaf (.inr (.b1 a1 false a0 ZH)))) ( .leaf (.inr (.b1 a1 false a0 ZH))))
 | .b1 a0 a1 a2 a3=>.br a1 ( .bind 129 (Z8y a2.Z0y) (fun(x1:Zk×Int)=>.leaf (.inr (.b2 a0 a1 ({ a2 with Z0y:=x1.1 }:Z9) a3)))) ( .br (a2.Z1z==1) ( .bind 35 (Z75 a2.Z0y a2.Z1U) (fun(x2:Zk)=>.leaf (.inr (.b2 a0 a1 ({ a2 with Z0y:=x2 }:Z9) a3)))) ( .leaf (.inr (.b2 a0 a1 a2 a3))))
 | .b2 a0 a1 a2 a3=>.bind 104 (Z6q a2.ZN a2.Event a2.Last) (fun(x1:Int×Int)=>.br (!a2.Good) ( .br (!a1) ( .leaf (.inr (.b3 a0 x1.1 x1.2 a2 a3))) ( .leaf (.inr (.b4 a0 x1.2 a2 a3)))) ( .leaf (.inr (.b4 a0 x1.2 a2 a3))))
 | .b3 a0 a1 a2 a3 a4=>.bind 42 (Z3Q a3.Zw a1 false) (fun(x1:List Zj)=>.leaf (.inr (.b4 a0 a2 ({ a3 with Zw:=x1 }:Z9) a4)))
 | .b4 a0 a1 a2 a3=>.bind 135 (ZjM a2.Ze (IntKind.wrap .u16 (a2.Event+1))) (fun(x1:Z7×(List Z8))=>.chk (([]:List Z5).length==0) ( .leaf (.inr (.b5 a0 ([]:List Z5) x1.2 (0:Int) ({ a2 with Event:=(IntKind.wrap .u16 (a2.Event+1)),Last:=a1,Z19:=(w64 (a2.Z19+(w64 ((1250:Int)*a2.ZN.Zt.Z0j)))),Got:=false,Good:=false,Z1U:=false,More:=false,Ze:=x1.1 }:Z9) a3 x1.1))))
 | .b5 a0 a1 a2 a3 a4 a5 a6=>.br (decide (a3<(↑a2.length:Int))) ( .chk (decide (0<=a3/\a3<(↑a2.length:Int))) ( .bind 138 (a2[(Int.toNat a3)]?) (fun(x1:Z8)=>.bind 44 (Zcj a4 x1) (fun(x2:Z9)=>.chk (decide (0<=a3/\a3<(↑a2.length:Int))) ( .bind 138 (a2[(Int.toNat a3)]?) (fun(x3:Z8)=>.chk (([(⟨2,x2.Event,(⟨0,[]⟩:Zd),x3,0,Zr⟩:Z5)]).length==1) ( .chk (a1.length==a1.length) ( .chk (decide ((a1.length+([(⟨2,x2.Event,(⟨0,[]⟩:Zd),x3,0,Zr⟩:Z5)]).length)*160<=lim)&&decide (a1.length+([(⟨2,x2.Event,(⟨0,[]⟩:Zd),x3,0,Zr⟩:Z5)]).length<=maxLen)) ( .chk ((a1++[(⟨2,x2.Event,(⟨0,[]⟩:Zd),x3,0,Zr⟩:Z5)]).length==(a1++[(⟨2,x2.Event,(⟨0,[]⟩:Zd),x3,0,Zr⟩:Z5)]).length) ( .leaf (.inr (.b5 a0 (a1++[(⟨2,x2.Event,(⟨0,[]⟩:Zd),x3,0,Zr⟩:Z5)]) a2 (w64 (a3+1)) x2 a5 a6)))))))))))) ( .bind 30 (Z9B a4) (fun(x4:Int)=>.bind 140 (Zdl a4.Ze x4 a0) (fun(x5:Z7×(List Z4))=>.chk (([]:List Z4).length==0) ( .chk (decide ((0+a4.Zb.length)*120<=lim)&&decide (0+a4.Zb.length<=maxLen)) ( .chk ((([]:List Z4)++a4.Zb).length==(([]:List Z4)++a4.Zb).length) ( .chk (decide (((([]:List Z4)++a4.Zb).length+x5.2.length)*120<=lim)&&decide ((([]:List Z4)++a4.Zb).length+x5.2.length<=maxLen)) ( .br (x5.1.Z1n != 0) ( .chk ((a1.length==a1.length)&&(((([]:List Z4)++a4.Zb)++x5.2).length==((([]:List Z4)++a4.Zb)++x5.2).length)) ( .leaf (.inr (.b6 a1 x5.1.Z1n ({ a4 with Ze:=x5.1,Zb:=((([]:List Z4)++a4.Zb)++x5.2) }:Z9) a5)))) ( .bind 4 (Z5q x5.1 a0) (fun(x6:Bool)=>.br x6 ( .chk ((a1.length==a1.length)&&(((([]:List Z4)++a4.Zb)++x5.2).length==((([]:List Z4)++a4.Zb)++x5.2).length)) ( .leaf (.inr (.b6 a1 (34:Int) ({ a4 with Ze:=x5.1,Zb:=((([]:List Z4)++a4.Zb)++x5.2) }:Z9) a5)))) ( .br a4.Z2C ( .bind 3 (Z35 a4.ZN.Zt) (fun(x7:Int)=>.br (decide ((w64 (a0 - a4.Z2W))>x7)) ( .chk ((a1.length==a1.length)&&(((([]:List Z4)++a4.Zb)++x5.2).length==((([]:List Z4)++a4.Zb)++x5.2).length)) ( .leaf (.inr (.b7 a1 ({ a4 with Ze:=x5.1,Zb:=((([]:List Z4)++a4.Zb)++x5.2) }:Z9) a5)))) ( .chk ((a1.length==a1.length)&&(((([]:List Z4)++a4.Zb)++x5.2).length==((([]:List Z4)++a4.Zb)++x5.2).length)) ( .leaf (.inr (.b8 a0 a1 (0:Int) ({ a4 with Ze:=x5.1,Zb:=((([]:List Z4)++a4.Zb)++x5.2) }:Z9) a5)))))) ( .chk ((a1.length==a1.length)&&(((([]:List Z4)++a4.Zb)++x5.2).length==((([]:List Z4)++a4.Zb)++x5.2).length)) ( .leaf (.inr (.b8 a0 a1 (0:Int) ({ a4 with Ze:=x5.1,Zb:=((([]:List Z4)++a4.Zb)++x5.2) }:Z9) a5))))))))))))))
 | .b6 a0 a1 a2 a3=>.br (a1 != 0) ( .chk (a2.Zb.length==a2.Zb.length) ( .bind 78 (Ze1 a2 a1) (fun(x1:Z9×(List Z5))=>.chk (a0.length==a0.length) ( .chk (decide ((a0.length+x1.2.length)*160<=lim)&&decide (a0.length+x1.2.length<=maxLen)) ( .chk ((a0++x1.2).length==(a0++x1.2).length) ( .leaf (.inl (x1.1,(a0++x1.2))))))))) ( .chk (a2.Zb.length==a2.Zb.length) ( .chk (a0.length==a0.length) ( .leaf (.inl (a2,a0)))))
 | .b7 a0 a1 a2=>.chk ((a0.length==a0.length)&&(a1.Zb.length==a1.Zb.length)) ( .leaf (.inr (.b6 a0 (8:Int) a1 a2)))
 | .b8 a0 a1 a2 a3 a4=>.br (!a3.Z2C) ( .br (decide ((w64 (a0 - a3.Z2W))>(w64 ((7500:Int)*a3.ZN.Zt.Z0j)))) ( .chk ((a1.length==a1.length)&&(a3.Zb.length==a3.Zb.length)) ( .leaf (.inr (.b9 a1 a3 a4)))) ( .chk ((a1.length==a1.length)&&(a3.Zb.length==a3.Zb.length)) ( .leaf (.inr (.b6 a1 a2 a3 a4))))) ( .chk ((a1.length==a1.length)&&(a3.Zb.length==a3.Zb.length)) ( .leaf (.inr (.b6 a1 a2 a3 a4))))
 | .b9 a0 a1 a2=>.chk ((a0.length==a0.length)&&(a1.Zb.length==a1.Zb.length)) ( .leaf (.inr (.b6 a0 (62:Int) a1 a2)))
noncomputable def Z6b (a0:Z9) (a1:Int):Option (Z9×(List Z5)):=ZO Z00 (.b0 a0 a1)
noncomputable def ZEN:Mod U:=⟨[44,3],78,fun x=>Z6b x.1 x.2.1,by decide⟩
def Z85:Lay:=⟨[1,2,4,6],[KP,KP,KP,KP],[.var k2,.var k2],⟨[OV 3,PQ 0,PQ 1,OV 4],[VA 44 66,VA 44 66]⟩⟩
def Zl6:Lay:=⟨[1,2,4,9,10],[KP,KP,KP,KP,KP],[.var k2,.var k2],⟨[OV 3,PQ 0,PQ 1,OV 3,OV 3],[VA 44 66,VA 44 66]⟩⟩
def ZjG:Lay:=⟨[1,2,4,10],[KP,KP,KP,KP],[.var k2,.var k2],⟨[OV 3,PQ 0,PQ 1,OV 3],[VA 44 66,VA 44 66]⟩⟩
def Zjf:Lay:=⟨[1,2,4,11,12,13,14],[KP,KP,KP,[.own 148 18],KP,[.s 138 8],KP],[.var k2,.var k2,.row true,.var k0],⟨[OV 3,PQ 0,PQ 1,.one (.own 148 2),PQ 3,OV 37,OV 3],[VA 44 66,VA 44 66,.row 148 true,VA 39 20]⟩⟩
def Zjo:Lay:=⟨[2,4,11,16],[KP,KP,[.own 148 18],KP],[.var k11,.var k2,.row true,.row true],⟨[PQ 0,PQ 1,.one (.own 148 2),OV 3],[.var 44 66 (ag2 3),VA 44 66,.row 148 true,.row 156 true]⟩⟩
def Z8q:Lay:=⟨[2,4,11],[KP,KP,[.own 148 18]],[.var k11,.var k2,.row true,.row true],⟨[PQ 0,PQ 1,.one (.own 148 2)],[.var 44 66 (ag2 3),VA 44 66,.row 148 true,.row 156 true]⟩⟩
def Zk1:Lay:=⟨[1,2,4,11,16],[KP,KP,KP,[.own 148 18],KP],[.var k11,.var k2,.row true,.row true],⟨[OV 3,PQ 0,PQ 1,.one (.own 148 2),OV 3],[.var 44 66 (ag2 3),VA 44 66,.row 148 true,.row 156 true]⟩⟩
def ZBv:Nat->Option Lay
 | 4=>some Z85
 | 9=>some Z85
 | 11=>some Zl6
 | 12=>some ZjG
 | 20=>some Zjf
 | 36=>some Zjo
 | 33=>some Z8q
 | 34=>some Zk1
 | 35=>some Z8q
 | _=>none
noncomputable def ZyO:Z9Y->Z08 U
 | .b0 a0 a1=>Z0f Tryz.f30 [44,3] (a0,a1,())
 | .b1 a0 a1 a2 a3=>spL Tryz.f30 [1,1,1,0,0] Z85 (((a0,()),((),((),((a1,()),())))),((a2,()),((a3,()),())))
 | .b2 a0 a1 a2 a3=>spL Tryz.f30 [1,1,1,1,0] Z85 (((a0,()),((),((),((a1,()),())))),((a2,()),((a3,()),())))
 | .b3 a0 a1 a2 a3 a4=>spL Tryz.f30 [1,1,1,1,1,0,1,0] Zl6 (((a0,()),((),((),((a1,()),((a2,()),()))))),((a3,()),((a4,()),())))
 | .b4 a0 a1 a2 a3=>spL Tryz.f30 [1,1,1,1,1,1,0] ZjG (((a0,()),((),((),((a1,()),())))),((a2,()),((a3,()),())))
 | .b5 a0 a1 a2 a3 a4 a5 a6=>spL Tryz.f30 [1,1,1,1,1,1,1,1,1,1,1,1,1,0,1,0,0,0,0] Zjf (((a0,()),((),((),((),((),((a2,()),((a3,()),()))))))),((a4,()),((a5,()),(a1,((a6,()),())))))
 | .b6 a0 a1 a2 a3=>spL Tryz.f30 [1,1,1,1,1,1,1,1,1,1,1,1,1,1,1,1,1,1,1,0,0] Zjo (((),((),((),((a1,()),())))),((tu0 a2),((a3,()),(a0,(a2.Zb,())))))
 | .b7 a0 a1 a2=>spL Tryz.f30 [1,1,1,1,1,1,1,1,1,1,1,1,1,1,1,1,1,1,0,0,1,1,1,1,1,0] Z8q (((),((),((),()))),((tu0 a1),((a2,()),(a0,(a1.Zb,())))))
 | .b8 a0 a1 a2 a3 a4=>spL Tryz.f30 [1,1,1,1,1,1,1,1,1,1,1,1,1,1,1,1,1,1,0,0,1,1,1,1,1,1,0] Zk1 (((a0,()),((),((),((),((a2,()),()))))),((tu0 a3),((a4,()),(a1,(a3.Zb,())))))
 | .b9 a0 a1 a2=>spL Tryz.f30 [1,1,1,1,1,1,1,1,1,1,1,1,1,1,1,1,1,1,0,0,1,1,1,1,1,1,1,0] Z8q (((),((),((),()))),((tu0 a1),((a2,()),(a0,(a1.Zb,())))))
theorem Zwr:Z0g 30 Tryz.f30 (mc Zn8 (mc Zrp (mc ZE3 (mc ZwJ (mc Zka (mc ZHr (mc Zz8 (mc ZyZ (mc Zns (mc ZsM (mc Zs7 (mc Zt9 msN)))))))))))) hsN ZBv 78 Z00 ZyO:=by intro p;cases p<;>kernel_rfl
theorem Znx:Z0a Tryz.prog B0 30 ZEN:=okP Zwr (fun x=>.b0 x.1 x.2.1) (by kernel_rfl) Tryz.func30 (by kernel_rfl) (by kernel_rfl) (fun _=>rfl) (fun _=>rfl)
inductive ZbM where
 | b0 (a0:Z9) (a1:Zd)
 | b1 (a0:Z9) (a1:Zd) (a2:Z9)
noncomputable def ZlS:ZbM->Tr U ((Z9×Int)⊕ZbM)
 | .b0 a0 a1=>.br (a1.Z5f != 2) ( .br (a1.Z5f != 1) ( .leaf (.inl (a0,1))) ( .leaf (.inr (.b1 a0 a1 ZH)))) ( .leaf (.inr (.b1 a0 a1 ZH)))
 | .b1 a0 a1 a2=>.bind 45 (Z3L (⟨0,0,0,a1⟩:Zn)) (fun(x1:Int)=>.br (x1 != 0) ( .leaf (.inl (a0,x1))) ( .br (decide ((↑a1.Payload.length:Int)>a0.Ze.Length)) ( .leaf (.inl (a0,4))) ( .bind 4 (Zcw a0.Ze) (fun(x2:Bool)=>.br x2 ( .leaf (.inl (a0,20))) ( .bind 189 (Zd1 a0.Arq a1) (fun(x3:ZK×Int)=>.br (x3.2 != 0) ( .leaf (.inl (a0,x3.2))) ( .leaf (.inl (({ a0 with Arq:=x3.1 }:Z9),(0:Int))))))))))
noncomputable def Zme (a0:Z9) (a1:Zd):Option (Z9×Int):=ZO ZlS (.b0 a0 a1)
noncomputable def ZGz:Mod U:=⟨[44,68],46,fun x=>Zme x.1 x.2.1,by decide⟩
def Znu:Lay:=⟨[2,3,4],[KP,KP,KP],[.var k2,.var [.keep,.s 5 1],.var k2],⟨[PQ 0,PQ 1,PQ 2],[VA 44 66,VA 68 2,VA 44 66]⟩⟩
def ZHB:Nat->Option Lay
 | 3=>some Znu
 | _=>none
noncomputable def ZDh:ZbM->Z08 U
 | .b0 a0 a1=>Z0f Tryz.f102 [44,68] (a0,a1,())
 | .b1 a0 a1 a2=>spL Tryz.f102 [1,1,0] Znu (((),((),((),()))),((a0,()),((a1,()),((a2,()),()))))
theorem Zx6:Z0g 102 Tryz.f102 (mc Znr (mc Zn6 (mc Z4W msN))) hsN ZHB 46 ZlS ZDh:=by intro p;cases p<;>kernel_rfl
theorem ZDr:Z0a Tryz.prog B0 102 ZGz:=okP Zx6 (fun x=>.b0 x.1 x.2.1) (by kernel_rfl) Tryz.func102 (by kernel_rfl) (by kernel_rfl) (fun _=>rfl) (fun _=>rfl)
inductive Z43 where
 | b0 (a0:Int)
 | b1 (a0:Int)
 | b2 (a0:Int)
 | b3 (a0:Int)
 | b4 (a0:Int)
noncomputable def Z8U:Z43->Tr U (Int⊕Z43)
 | .b0 a0=>.br (a0==0) ( .br (a0==0) ( .leaf (.inl a0)) ( .leaf (.inr (.b1 a0)))) ( .br (a0==1) ( .br (a0==1) ( .leaf (.inl a0)) ( .leaf (.inr (.b1 a0)))) ( .br (a0==2) ( .br (a0==2) ( .leaf (.inl a0)) ( .leaf (.inr (.b1 a0)))) ( .br (a0==12) ( .br (a0==12) ( .leaf (.inl a0)) ( .leaf (.inr (.b1 a0)))) ( .br (a0==15) ( .leaf (.inl a0)) ( .leaf (.inr (.b1 a0)))))))
 | .b1 a0=>.br (a0==8) ( .br (a0==8) ( .leaf (.inl (8:Int))) ( .leaf (.inr (.b2 a0)))) ( .br (a0==9) ( .leaf (.inl (8:Int))) ( .leaf (.inr (.b2 a0))))
 | .b2 a0=>.br (a0==3) ( .br (a0==3) ( .leaf (.inl (3:Int))) ( .leaf (.inr (.b3 a0)))) ( .br (a0==4) ( .br (a0==4) ( .leaf (.inl (3:Int))) ( .leaf (.inr (.b3 a0)))) ( .br (a0==5) ( .br (a0==5) ( .leaf (.inl (3:Int))) ( .leaf (.inr (.b3 a0)))) ( .br (a0==6) ( .leaf (.inl (3:Int))) ( .leaf (.inr (.b3 a0))))))
 | .b3 a0=>.br (a0==18) ( .br (a0==18) ( .leaf (.inl (18:Int))) ( .leaf (.inr (.b4 a0)))) ( .br (a0==19) ( .leaf (.inl (18:Int))) ( .leaf (.inr (.b4 a0))))
 | .b4 a0=>.br (a0==20) ( .br (a0==20) ( .leaf (.inl (20:Int))) ( .leaf (.inl (-1:Int)))) ( .br (a0==21) ( .leaf (.inl (20:Int))) ( .leaf (.inl (-1:Int))))
noncomputable def Z8F (a0:Int):Option Int:=ZO Z8U (.b0 a0)
noncomputable def Zpc:Mod U:=⟨[3],3,fun x=>Z8F x.1,by decide⟩
def Z1c:Lay:=⟨[3],[KP],[],⟨[OV 3],[]⟩⟩
def Zqb:Nat->Option Lay
 | 8=>some Z1c
 | 11=>some Z1c
 | 16=>some Z1c
 | 19=>some Z1c
 | _=>none
noncomputable def Zob:Z43->Z08 U
 | .b0 a0=>Z0f Tryz.f341 [3] (a0,())
 | .b1 a0=>spL Tryz.f341 [1,0,1,0,1,1,0,0] Z1c (((a0,()),()),())
 | .b2 a0=>spL Tryz.f341 [1,0,1,0,1,1,1,1,0,0] Z1c (((a0,()),()),())
 | .b3 a0=>spL Tryz.f341 [1,0,1,0,1,1,1,1,1,1,0,0] Z1c (((a0,()),()),())
 | .b4 a0=>spL Tryz.f341 [1,0,1,0,1,1,1,1,1,1,1,1,0,0] Z1c (((a0,()),()),())
theorem ZlR:Z0g 341 Tryz.f341 msN hsN Zqb 3 Z8U Zob:=by intro p;cases p<;>kernel_rfl
theorem ZnZ:Z0a Tryz.prog B0 341 Zpc:=okP ZlR (fun x=>.b0 x.1) (by kernel_rfl) Tryz.func341 (by kernel_rfl) (by kernel_rfl) (fun _=>rfl) (fun _=>rfl)
inductive Z3R where
 | b0 (a0:Int)
noncomputable def Z8P:Z3R->Tr U (Bool⊕Z3R)
 | .b0 a0=>.bind 262 (Z0k a0) (fun(x1:Zg)=>.br x1.Z74 ( .bind 3 (Z8F a0) (fun(x2:Int)=>.leaf (.inl (x2==a0)))) ( .leaf (.inl false)))
noncomputable def Z8R (a0:Int):Option Bool:=ZO Z8P (.b0 a0)
noncomputable def Zr2:Mod U:=⟨[3],4,fun x=>Z8R x.1,by decide⟩
noncomputable def Zoc:Z3R->Z08 U
 | .b0 a0=>Z0f Tryz.f268 [3] (a0,())
theorem ZlY:Z0g 268 Tryz.f268 (mc Z2s (mc ZnZ msN)) hsN AN 4 Z8P Zoc
 | .b0 ..=>by kernel_rfl
theorem Zo7:Z0a Tryz.prog B0 268 Zr2:=okP ZlY (fun x=>.b0 x.1) (by kernel_rfl) Tryz.func268 (by kernel_rfl) (by kernel_rfl) (fun _=>rfl) (fun _=>rfl)
inductive Z6X where
 | b0 (a0:Z7) (a1:Z4)
 | b1 (a0 a1:Z4)
noncomputable def ZeT:Z6X->Tr U (Z4⊕Z6X)
 | .b0 a0 a1=>.br (a1.Kind==8) ( .leaf (.inl ({ a1 with ZZ:=a0.ZZ }:Z4))) ( .br (a1.Kind==12) ( .leaf (.inl ({ a1 with Version:=11 }:Z4))) ( .br (a1.Kind==0) ( .br (a1.Kind==0) ( .leaf (.inr (.b1 a1 Z0x))) ( .leaf (.inl a1))) ( .br (a1.Kind==1) ( .leaf (.inr (.b1 a1 Z0x))) ( .leaf (.inl a1)))))
 | .b1 a0 a1=>.leaf (.inl ({ a0 with ZQ:=0 }:Z4))
noncomputable def Zfs (a0:Z7) (a1:Z4):Option Z4:=ZO ZeT (.b0 a0 a1)
noncomputable def ZAD:Mod U:=⟨[39,156],156,fun x=>Zfs x.1 x.2.1,by decide⟩
def ZgB:Lay:=⟨[3,4],[KP,KP],[.var k1,.var k1],⟨[PQ 0,PQ 1],[VA 156 15,VA 156 15]⟩⟩
def ZAx:Nat->Option Lay
 | 8=>some ZgB
 | _=>none
noncomputable def Zvf:Z6X->Z08 U
 | .b0 a0 a1=>Z0f Tryz.f269 [39,156] (a0,a1,())
 | .b1 a0 a1=>spL Tryz.f269 [1,0,1,0,1,1,1,1,1,0] ZgB (((),((),())),((a0,()),((a1,()),())))
theorem ZrQ:Z0g 269 Tryz.f269 msN hsN ZAx 156 ZeT Zvf:=by intro p;cases p<;>kernel_rfl
theorem ZvF:Z0a Tryz.prog B0 269 ZAD:=okP ZrQ (fun x=>.b0 x.1 x.2.1) (by kernel_rfl) Tryz.func269 (by kernel_rfl) (by kernel_rfl) (fun _=>rfl) (fun _=>rfl)
inductive Z9y where
 | b0 (a0:Z7) (a1:Int)
 | b1 (a0 a1:Int) (a2:Z7)
noncomputable def Zhj:Z9y->Tr U (Bool⊕Z9y)
 | .b0 a0 a1=>.leaf (.inr (.b1 a1 (0:Int) a0))
 | .b1 a0 a1 a2=>.br (decide (a1<(↑a2.Zf.length:Int))) ( .chk (decide (0<=a1/\a1<(↑a2.Zf.length:Int))) ( .bind 156 (a2.Zf[(Int.toNat a1)]?) (fun(x1:Z4)=>.br (x1.Kind==a0) ( .leaf (.inl true)) ( .leaf (.inr (.b1 a0 (w64 (a1+1)) a2)))))) ( .leaf (.inl false))
noncomputable def ZhF (a0:Z7) (a1:Int):Option Bool:=ZO Zhj (.b0 a0 a1)
noncomputable def ZC0:Mod U:=⟨[39,3],4,fun x=>ZhF x.1 x.2.1,by decide⟩
def ZkO:Lay:=⟨[1,2,5],[KP,KP,KP],[.var k0],⟨[OV 3,PQ 0,OV 3],[VA 39 20]⟩⟩
def ZCr:Nat->Option Lay
 | 2=>some ZkO
 | _=>none
noncomputable def Zza:Z9y->Z08 U
 | .b0 a0 a1=>Z0f Tryz.f342 [39,3] (a0,a1,())
 | .b1 a0 a1 a2=>spL Tryz.f342 [1,0,1,0,0,0,0] ZkO (((a0,()),((),((a1,()),()))),((a2,()),()))
theorem Zuh:Z0g 342 Tryz.f342 msN hsN ZCr 4 Zhj Zza:=by intro p;cases p<;>kernel_rfl
theorem ZzF:Z0a Tryz.prog B0 342 ZC0:=okP Zuh (fun x=>.b0 x.1 x.2.1) (by kernel_rfl) Tryz.func342 (by kernel_rfl) (by kernel_rfl) (fun _=>rfl) (fun _=>rfl)
inductive Z5z where
 | b0 (a0:Z7) (a1:Int)
 | b1 (a0:Int) (a1:Z7)
 | b2 (a0:Int) (a1:Z7)
noncomputable def Zdh:Z5z->Tr U (Bool⊕Z5z)
 | .b0 a0 a1=>.br (a0.Z1n != 0) ( .leaf (.inl false)) ( .br (a0.Own==2) ( .leaf (.inl false)) ( .leaf (.inr (.b1 a1 a0))))
 | .b1 a0 a1=>.bind 4 (Z2y a0) (fun(x1:Bool)=>.br x1 ( .br (a1.Z1z != 0) ( .leaf (.inl false)) ( .br (a0==15) ( .br (a1.Z1z != 1) ( .leaf (.inl false)) ( .leaf (.inr (.b2 a0 a1)))) ( .leaf (.inr (.b2 a0 a1))))) ( .br (a0==3) ( .br (a1.Z1z != 0) ( .leaf (.inl false)) ( .br (a0==15) ( .br (a1.Z1z != 1) ( .leaf (.inl false)) ( .leaf (.inr (.b2 a0 a1)))) ( .leaf (.inr (.b2 a0 a1))))) ( .br (a0==15) ( .br (a1.Z1z != 1) ( .leaf (.inl false)) ( .leaf (.inr (.b2 a0 a1)))) ( .leaf (.inr (.b2 a0 a1))))))
 | .b2 a0 a1=>.br (a0 != 3) ( .leaf (.inl true)) ( .br (a1.Z29==0) ( .bind 4 (ZhF a1 (3:Int)) (fun(x1:Bool)=>.leaf (.inl (!x1)))) ( .leaf (.inl false)))
noncomputable def Zcx (a0:Z7) (a1:Int):Option Bool:=ZO Zdh (.b0 a0 a1)
noncomputable def Zu6:Mod U:=⟨[39,3],4,fun x=>Zcx x.1 x.2.1,by decide⟩
def Z5C:Lay:=⟨[1,2],[KP,KP],[.var k0],⟨[OV 3,PQ 0],[VA 39 20]⟩⟩
def Zwb:Nat->Option Lay
 | 3=>some Z5C
 | 5=>some Z5C
 | _=>none
noncomputable def Zs5:Z5z->Z08 U
 | .b0 a0 a1=>Z0f Tryz.f270 [39,3] (a0,a1,())
 | .b1 a0 a1=>spL Tryz.f270 [1,1,0,0] Z5C (((a0,()),((),())),((a1,()),()))
 | .b2 a0 a1=>spL Tryz.f270 [1,1,1,0] Z5C (((a0,()),((),())),((a1,()),()))
theorem ZqJ:Z0g 270 Tryz.f270 (mc Z4Q (mc ZzF msN)) hsN Zwb 4 Zdh Zs5:=by intro p;cases p<;>kernel_rfl
theorem ZrU:Z0a Tryz.prog B0 270 Zu6:=okP ZqJ (fun x=>.b0 x.1 x.2.1) (by kernel_rfl) Tryz.func270 (by kernel_rfl) (by kernel_rfl) (fun _=>rfl) (fun _=>rfl)
inductive Z8Z where
 | b0 (a0:Z7) (a1:Z4) (a2 a3:Int)
 | b1 (a0 a1:Z7)
 | b2 (a0 a1:Int) (a2:Z7) (a3:Z4) (a4:Z7)
 | b3 (a0 a1:Int) (a2:Z7) (a3:Z4) (a4:Z7)
 | b4 (a0:Z7) (a1:Z4) (a2:Z7)
noncomputable def Zhc:Z8Z->Tr U ((Z7×(List Z4)×Int)⊕Z8Z)
 | .b0 a0 a1 a2 a3=>.bind 4 (Z8R a1.Kind) (fun(x1:Bool)=>.br (!x1) ( .chk (([]:List Z4).length==0) ( .leaf (.inl (a0,([]:List Z4),(12:Int))))) ( .bind 156 (Zfs a0 a1) (fun(x2:Z4)=>.bind 45 (Z93 x2) (fun(x3:Int)=>.br (x3 != 0) ( .chk (([]:List Z4).length==0) ( .leaf (.inl (a0,([]:List Z4),x3)))) ( .bind 4 (Zcx a0 x2.Kind) (fun(x4:Bool)=>.br (!x4) ( .chk (([]:List Z4).length==0) ( .leaf (.inl (a0,([]:List Z4),(9:Int))))) ( .br (x2.Kind==12) ( .br a0.Z0q ( .leaf (.inr (.b1 a0 ZI))) ( .leaf (.inr (.b2 a2 a3 a0 x2 ZI)))) ( .leaf (.inr (.b2 a2 a3 a0 x2 ZI))))))))))
 | .b1 a0 a1=>.chk (([]:List Z4).length==0) ( .leaf (.inl (a0,([]:List Z4),(0:Int))))
 | .b2 a0 a1 a2 a3 a4=>.br (a3.Kind==2) ( .leaf (.inr (.b3 a0 a1 ({ a2 with Zf:=([]:List Z4) }:Z7) a3 a4))) ( .br (decide (a2.Own>=0)) ( .leaf (.inr (.b4 a2 a3 a4))) ( .br (decide ((↑a2.Zf.length:Int)>0)) ( .leaf (.inr (.b4 a2 a3 a4))) ( .bind 4 (Zet a2 a3) (fun(x1:Bool)=>.br (!x1) ( .leaf (.inr (.b4 a2 a3 a4))) ( .leaf (.inr (.b3 a0 a1 a2 a3 a4)))))))
 | .b3 a0 a1 a2 a3 a4=>.bind 216 (Z92 a2 a3 a0 a1) (fun(x1:Z7×Z4)=>.chk (([x1.2]).length==1) ( .leaf (.inl (x1.1,[x1.2],(0:Int)))))
 | .b4 a0 a1 a2=>.br (decide ((↑a0.Zf.length:Int)>=8)) ( .chk (([]:List Z4).length==0) ( .leaf (.inl (a0,([]:List Z4),(8:Int))))) ( .chk (([]:List Z4).length==0) ( .chk (decide ((0+a0.Zf.length)*120<=lim)&&decide (0+a0.Zf.length<=maxLen)) ( .chk (([a1]).length==1) ( .chk ((([]:List Z4)++a0.Zf).length==(([]:List Z4)++a0.Zf).length) ( .chk (decide (((([]:List Z4)++a0.Zf).length+([a1]).length)*120<=lim)&&decide ((([]:List Z4)++a0.Zf).length+([a1]).length<=maxLen)) ( .chk (((([]:List Z4)++a0.Zf)++[a1]).length==((([]:List Z4)++a0.Zf)++[a1]).length) ( .chk (([]:List Z4).length==0) ( .leaf (.inl (({ a0 with Zf:=((([]:List Z4)++a0.Zf)++[a1]) }:Z7),([]:List Z4),(0:Int)))))))))))
noncomputable def ZhJ (a0:Z7) (a1:Z4) (a2 a3:Int):Option (Z7×(List Z4)×Int):=ZO Zhc (.b0 a0 a1 a2 a3)
noncomputable def ZDZ:Mod U:=⟨[39,156,30,3],222,fun x=>ZhJ x.1 x.2.1 x.2.2.1 x.2.2.2.1,by decide⟩
def ZiY:Lay:=⟨[4,8],[KP,KP],[.var k0,.var k0],⟨[PQ 0,PQ 1],[VA 39 20,VA 39 20]⟩⟩
def Z8n:Lay:=⟨[2,3,4,5,8],[KP,KP,KP,KP,KP],[.var k0,.var k1,.var k0],⟨[OV 30,OV 3,PQ 0,PQ 1,PQ 2],[VA 39 20,VA 156 15,VA 39 20]⟩⟩
def Zkz:Lay:=⟨[4,5,8],[KP,KP,KP],[.var k0,.var k1,.var k0],⟨[PQ 0,PQ 1,PQ 2],[VA 39 20,VA 156 15,VA 39 20]⟩⟩
def ZC5:Nat->Option Lay
 | 10=>some ZiY
 | 11=>some Z8n
 | 18=>some Z8n
 | 14=>some Zkz
 | _=>none
noncomputable def ZAz:Z8Z->Z08 U
 | .b0 a0 a1 a2 a3=>Z0f Tryz.f198 [39,156,30,3] (a0,a1,a2,a3,())
 | .b1 a0 a1=>spL Tryz.f198 [1,1,1,1,1,0,1,0,0] ZiY (((),((),())),((a0,()),((a1,()),())))
 | .b2 a0 a1 a2 a3 a4=>spL Tryz.f198 [1,1,1,1,1,1,0,0] Z8n (((a0,()),((a1,()),((),((),((),()))))),((a2,()),((a3,()),((a4,()),()))))
 | .b3 a0 a1 a2 a3 a4=>spL Tryz.f198 [1,1,1,1,1,1,1,0] Z8n (((a0,()),((a1,()),((),((),((),()))))),((a2,()),((a3,()),((a4,()),()))))
 | .b4 a0 a1 a2=>spL Tryz.f198 [1,1,1,1,1,1,0,1,1,1,0,0,0] Zkz (((),((),((),()))),((a0,()),((a1,()),((a2,()),()))))
theorem Zu1:Z0g 198 Tryz.f198 (mc Zt0 (mc Znf (mc Zf0 (mc Zo7 (mc ZvF (mc ZrU msN)))))) hsN ZC5 222 Zhc ZAz:=by intro p;cases p<;>kernel_rfl
theorem ZyX:Z0a Tryz.prog B0 198 ZDZ:=okP Zu1 (fun x=>.b0 x.1 x.2.1 x.2.2.1 x.2.2.2.1) (by kernel_rfl) Tryz.func198 (by kernel_rfl) (by kernel_rfl) (fun _=>rfl) (fun _=>rfl)
inductive Za0 where
 | b0 (a0:Z9) (a1:Z4) (a2:Int)
noncomputable def Zhm:Za0->Tr U ((Z9×Int)⊕Za0)
 | .b0 a0 a1 a2=>.bind 30 (Z9B a0) (fun(x1:Int)=>.bind 222 (ZhJ a0.Ze a1 x1 a2) (fun(x2:Z7×(List Z4)×Int)=>.br (x2.2.2 != 0) ( .leaf (.inl (a0,x2.2.2))) ( .chk (([]:List Z4).length==0) ( .chk (decide ((0+a0.Zb.length)*120<=lim)&&decide (0+a0.Zb.length<=maxLen)) ( .chk ((([]:List Z4)++a0.Zb).length==(([]:List Z4)++a0.Zb).length) ( .chk (decide (((([]:List Z4)++a0.Zb).length+x2.2.1.length)*120<=lim)&&decide ((([]:List Z4)++a0.Zb).length+x2.2.1.length<=maxLen)) ( .chk (((([]:List Z4)++a0.Zb)++x2.2.1).length==((([]:List Z4)++a0.Zb)++x2.2.1).length) ( .leaf (.inl (({ a0 with Ze:=x2.1,Zb:=((([]:List Z4)++a0.Zb)++x2.2.1) }:Z9),(0:Int)))))))))))
noncomputable def Z1L (a0:Z9) (a1:Z4) (a2:Int):Option (Z9×Int):=ZO Zhm (.b0 a0 a1 a2)
noncomputable def ZDw:Mod U:=⟨[44,156,3],46,fun x=>Z1L x.1 x.2.1 x.2.2.1,by decide⟩
noncomputable def ZzO:Za0->Z08 U
 | .b0 a0 a1 a2=>Z0f Tryz.f103 [44,156,3] (a0,a1,a2,())
theorem ZwK:Z0g 103 Tryz.f103 (mc Zns (mc ZyX msN)) hsN AN 46 Zhm ZzO
 | .b0 ..=>by kernel_rfl
theorem ZxA:Z0a Tryz.prog B0 103 ZDw:=okP ZwK (fun x=>.b0 x.1 x.2.1 x.2.2.1) (by kernel_rfl) Tryz.func103 (by kernel_rfl) (by kernel_rfl) (fun _=>rfl) (fun _=>rfl)
inductive Z79 where
 | b0 (a0:Int)
noncomputable def Zfm:Z79->Tr U (Int⊕Z79)
 | .b0 a0=>.br (decide (a0>2147483647)) ( .leaf (.inl (2147483647:Int))) ( .leaf (.inl (w64 (a0))))
noncomputable def ZaE (a0:Int):Option Int:=ZO Zfm (.b0 a0)
noncomputable def ZB2:Mod U:=⟨[25],3,fun x=>ZaE x.1,by decide⟩
noncomputable def ZwL:Z79->Z08 U
 | .b0 a0=>Z0f Tryz.f104 [25] (a0,())
theorem ZrX:Z0g 104 Tryz.f104 msN hsN AN 3 Zfm ZwL
 | .b0 ..=>by kernel_rfl
theorem Zvd:Z0a Tryz.prog B0 104 ZB2:=okP ZrX (fun x=>.b0 x.1) (by kernel_rfl) Tryz.func104 (by kernel_rfl) (by kernel_rfl) (fun _=>rfl) (fun _=>rfl)
inductive Zfp where
 | b0 (a0:Z4)
noncomputable def ZpC:Zfp->Tr U ((List Z4)⊕Zfp)
 | .b0 a0=>.chk (([a0]).length==1) ( .leaf (.inl ([a0])))
noncomputable def Z3X (a0:Z4):Option (List Z4):=ZO ZpC (.b0 a0)
noncomputable def ZJb:Mod U:=⟨[156],36,fun x=>Z3X x.1,by decide⟩
noncomputable def ZHV:Zfp->Z08 U
 | .b0 a0=>Z0f Tryz.f271 [156] (a0,())
theorem ZBF:Z0g 271 Tryz.f271 msN hsN AN 36 ZpC ZHV
 | .b0 ..=>by kernel_rfl
theorem Z8v:Z0a Tryz.prog B0 271 ZJb:=okP ZBF (fun x=>.b0 x.1) (by kernel_rfl) Tryz.func271 (by kernel_rfl) (by kernel_rfl) (fun _=>rfl) (fun _=>rfl)
inductive Z7s where
 | b0 (a0:Z7) (a1:Bool) (a2:Int)
 | b1 (a0:Bool) (a1:Int) (a2 a3:Z7)
noncomputable def ZeM:Z7s->Tr U ((Z7×(List Z4))⊕Z7s)
 | .b0 a0 a1 a2=>.br (a0.Z1z != 1) ( .chk (([]:List Z4).length==0) ( .leaf (.inl (a0,([]:List Z4))))) ( .br (a0.Z1n != 0) ( .chk (([]:List Z4).length==0) ( .leaf (.inl (a0,([]:List Z4))))) ( .br (a0.Z29 != 1) ( .chk (([]:List Z4).length==0) ( .leaf (.inl (a0,([]:List Z4))))) ( .leaf (.inr (.b1 a1 a2 a0 ZI)))))
 | .b1 a0 a1 a2 a3=>.br (!a0) ( .bind 36 (Z3X (⟨13,Zr,0,0,6,3,0,0,0,0,0⟩:Z4)) (fun(x1:List Z4)=>.leaf (.inl (({ a2 with Other:=-1,Z29:=0 }:Z7),x1)))) ( .chk (([(⟨4,Zr,0,0,0,0,a1,0,0,0,0⟩:Z4),(⟨5,Zr,0,0,0,0,0,0,0,0,0⟩:Z4)]).length==2) ( .leaf (.inl (({ a2 with Z5R:=a1,Z29:=3 }:Z7),[(⟨4,Zr,0,0,0,0,a1,0,0,0,0⟩:Z4),(⟨5,Zr,0,0,0,0,0,0,0,0,0⟩:Z4)]))))
noncomputable def Zfq (a0:Z7) (a1:Bool) (a2:Int):Option (Z7×(List Z4)):=ZO ZeM (.b0 a0 a1 a2)
noncomputable def ZwW:Mod U:=⟨[39,4,25],140,fun x=>Zfq x.1 x.2.1 x.2.2.1,by decide⟩
def ZgD:Lay:=⟨[1,2,3,6],[KP,KP,KP,KP],[.var k0,.var k0],⟨[OV 4,OV 25,PQ 0,PQ 1],[VA 39 20,VA 39 20]⟩⟩
def Zxr:Nat->Option Lay
 | 3=>some ZgD
 | _=>none
noncomputable def Zu2:Z7s->Z08 U
 | .b0 a0 a1 a2=>Z0f Tryz.f199 [39,4,25] (a0,a1,a2,())
 | .b1 a0 a1 a2 a3=>spL Tryz.f199 [1,1,0,0] ZgD (((a0,()),((a1,()),((),((),())))),((a2,()),((a3,()),())))
theorem ZsR:Z0g 199 Tryz.f199 (mc Z8v msN) hsN Zxr 140 ZeM Zu2:=by intro p;cases p<;>kernel_rfl
theorem Zvp:Z0a Tryz.prog B0 199 ZwW:=okP ZsR (fun x=>.b0 x.1 x.2.1 x.2.2.1) (by kernel_rfl) Tryz.func199 (by kernel_rfl) (by kernel_rfl) (fun _=>rfl) (fun _=>rfl)
inductive Zc2 where
 | b0 (a0:Zv) (a1 a2:Bool)
noncomputable def ZlK:Zc2->Tr U (Zv⊕Zc2)
 | .b0 a0 a1 a2=>.leaf (.inl ({ a0 with ZP1:=a1,ZOj:=a2 }:Zv))
noncomputable def Zbz (a0:Zv) (a1 a2:Bool):Option Zv:=ZO ZlK (.b0 a0 a1 a2)
noncomputable def ZII:Mod U:=⟨[41,4,4],41,fun x=>Zbz x.1 x.2.1 x.2.2.1,by decide⟩
noncomputable def ZEk:Zc2->Z08 U
 | .b0 a0 a1 a2=>Z0f Tryz.f200 [41,4,4] (a0,a1,a2,())
theorem Zxh:Z0g 200 Tryz.f200 msN hsN AN 41 ZlK ZEk
 | .b0 ..=>by kernel_rfl
theorem ZiK:Z0a Tryz.prog B0 200 ZII:=okP Zxh (fun x=>.b0 x.1 x.2.1 x.2.2.1) (by kernel_rfl) Tryz.func200 (by kernel_rfl) (by kernel_rfl) (fun _=>rfl) (fun _=>rfl)
inductive Z6T where
 | b0 (a0:Int) (a1:ByteArray) (a2:List Int)
 | b1 (a0:Int) (a1 a2:List Int) (a3:Int)
noncomputable def ZeI:Z6T->Tr U (Int⊕Z6T)
 | .b0 a0 a1 a2=>.chk (ZO3 U 5 a1) ( .chk (([(0:Int)]).length==1) ( .chk ((Z4e U 5 a1).length==(Z4e U 5 a1).length) ( .chk (decide (((Z4e U 5 a1).length+([(0:Int)]).length)*1<=lim)&&decide ((Z4e U 5 a1).length+([(0:Int)]).length<=maxLen)) ( .chk (((Z4e U 5 a1)++[(0:Int)]).length==((Z4e U 5 a1)++[(0:Int)]).length) ( .leaf (.inr (.b1 a0 a2 ((Z4e U 5 a1)++[(0:Int)]) (0:Int))))))))
 | .b1 a0 a1 a2 a3=>.br (decide (a3<(↑a1.length:Int))) ( .chk (decide (0<=a3/\a3<(↑a1.length:Int))) ( .bind 25 (a1[(Int.toNat a3)]?) (fun(x1:Int)=>.bind 1351 (Z9K (8:Int) x1) (fun(y2:Z2U)=>.chk (y2.q0.length==y2.q0.length) ( .chk (a2.length==a2.length) ( .chk (decide ((a2.length+y2.q0.length)*1<=lim)&&decide (a2.length+y2.q0.length<=maxLen)) ( .chk ((a2++y2.q0).length==(a2++y2.q0).length) ( .leaf (.inr (.b1 a0 a1 (a2++y2.q0) (w64 (a3+1)))))))))))) ( .chk (a2.length==a2.length) ( .bind 25 (Zjr a0 a2) (fun(x3:Int)=>.leaf (.inl x3))))
noncomputable def Zey (a0:Int) (a1:ByteArray) (a2:List Int):Option Int:=ZO ZeI (.b0 a0 a1 a2)
noncomputable def Zz7:Mod U:=⟨[29,9,254],29,fun x=>Zey x.1 x.2.1 x.2.2.1,by decide⟩
def ZgW:Lay:=⟨[0,2,7,8],[KP,[.s 25 1],[.own 5 1],KP],[.row true],⟨[OV 29,OV 254,.one (.own 5 0),OV 3],[.row 5 true]⟩⟩
def ZxI:Nat->Option Lay
 | 3=>some ZgW
 | _=>none
noncomputable def ZvX:Z6T->Z08 U
 | .b0 a0 a1 a2=>Z0f Tryz.f272 [29,9,254] (a0,a1,a2,())
 | .b1 a0 a1 a2 a3=>spL Tryz.f272 [1,1,0,1,0,0,0,0] ZgW (((a0,()),((a1,()),((),((a3,()),())))),(a2,()))
theorem ZsL:Z0g 272 Tryz.f272 (mc ZtJ msN) (hc [] ZfO hsN) ZxI 29 ZeI ZvX:=by intro p;cases p<;>kernel_rfl
theorem Zuz:Z0a Tryz.prog B0 272 Zz7:=okP ZsL (fun x=>.b0 x.1 x.2.1 x.2.2.1) (by kernel_rfl) Tryz.func272 (by kernel_rfl) (by kernel_rfl) (fun _=>rfl) (fun _=>rfl)
inductive Zfh where
 | b0 (a0 a1 a2 a3:Int)
noncomputable def Zrf:Zfh->Tr U (Zv⊕Zfh)
 | .b0 a0 a1 a2 a3=>.chk (([a2,a3]).length==2) ( .bind 29 (Zey a1 (⟨#[115,101,115,115,105,111,110]⟩:ByteArray) ([a2,a3])) (fun(x1:Int)=>.br (a0==1) ( .leaf (.inl (⟨1,x1,(bits .xor .u64 a2 a3),false,false,0,0⟩:Zv))) ( .leaf (.inl (⟨0,x1,(bits .xor .u64 a2 a3),false,false,0,0⟩:Zv)))))
noncomputable def Zl0 (a0 a1 a2 a3:Int):Option Zv:=ZO Zrf (.b0 a0 a1 a2 a3)
noncomputable def ZLi:Mod U:=⟨[3,29,25,25],41,fun x=>Zl0 x.1 x.2.1 x.2.2.1 x.2.2.2.1,by decide⟩
noncomputable def ZI2:Zfh->Z08 U
 | .b0 a0 a1 a2 a3=>Z0f Tryz.f201 [3,29,25,25] (a0,a1,a2,a3,())
theorem ZCz:Z0g 201 Tryz.f201 (mc Zuz msN) hsN AN 41 Zrf ZI2
 | .b0 ..=>by kernel_rfl
theorem Zth:Z0a Tryz.prog B0 201 ZLi:=okP ZCz (fun x=>.b0 x.1 x.2.1 x.2.2.1 x.2.2.2.1) (by kernel_rfl) Tryz.func201 (by kernel_rfl) (by kernel_rfl) (fun _=>rfl) (fun _=>rfl)
inductive Zev where
 | b0 (a0:Z9) (a1:Int)
 | b1 (a0:Int) (a1 a2:Z9)
noncomputable def Zrs:Zev->Tr U ((Z9×Int)⊕Zev)
 | .b0 a0 a1=>.br (a0.Z1z != 1) ( .leaf (.inl (a0,9))) ( .br (a0.Ze.Z29 != 1) ( .leaf (.inl (a0,9))) ( .leaf (.inr (.b1 a1 a0 ZH))))
 | .b1 a0 a1 a2=>.bind 140 (Zfq a1.Ze (a0 != 0) a1.Zld) (fun(x1:Z7×(List Z4))=>.chk (([]:List Z4).length==0) ( .chk (decide ((0+a1.Zb.length)*120<=lim)&&decide (0+a1.Zb.length<=maxLen)) ( .chk ((([]:List Z4)++a1.Zb).length==(([]:List Z4)++a1.Zb).length) ( .chk (decide (((([]:List Z4)++a1.Zb).length+x1.2.length)*120<=lim)&&decide ((([]:List Z4)++a1.Zb).length+x1.2.length<=maxLen)) ( .br (a0 != 0) ( .bind 41 (Zl0 a1.Z1z a0 x1.1.Zpv x1.1.Z5R) (fun(x2:Zv)=>.bind 41 (Zbz x2 false true) (fun(x3:Zv)=>.chk (((([]:List Z4)++a1.Zb)++x1.2).length==((([]:List Z4)++a1.Zb)++x1.2).length) ( .leaf (.inl (({ a1 with Ze:=x1.1,Z0h:=x3,Key:=a0,Zb:=((([]:List Z4)++a1.Zb)++x1.2) }:Z9),(0:Int))))))) ( .chk (((([]:List Z4)++a1.Zb)++x1.2).length==((([]:List Z4)++a1.Zb)++x1.2).length) ( .leaf (.inl (({ a1 with Ze:=x1.1,Zb:=((([]:List Z4)++a1.Zb)++x1.2) }:Z9),(0:Int))))))))))
noncomputable def Zrj (a0:Z9) (a1:Int):Option (Z9×Int):=ZO Zrs (.b0 a0 a1)
noncomputable def ZKJ:Mod U:=⟨[44,29],46,fun x=>Zrj x.1 x.2.1,by decide⟩
def ZpW:Lay:=⟨[1,2,4],[KP,KP,KP],[.var k2,.var k2],⟨[OV 29,PQ 0,PQ 1],[VA 44 66,VA 44 66]⟩⟩
def ZMi:Nat->Option Lay
 | 3=>some ZpW
 | _=>none
noncomputable def ZGJ:Zev->Z08 U
 | .b0 a0 a1=>Z0f Tryz.f105 [44,29] (a0,a1,())
 | .b1 a0 a1 a2=>spL Tryz.f105 [1,1,0] ZpW (((a0,()),((),((),()))),((a1,()),((a2,()),())))
theorem ZCv:Z0g 105 Tryz.f105 (mc Zvp (mc ZiK (mc Zth msN))) hsN ZMi 46 Zrs ZGJ:=by intro p;cases p<;>kernel_rfl
theorem ZGD:Z0a Tryz.prog B0 105 ZKJ:=okP ZCv (fun x=>.b0 x.1 x.2.1) (by kernel_rfl) Tryz.func105 (by kernel_rfl) (by kernel_rfl) (fun _=>rfl) (fun _=>rfl)
inductive Z9i where
 | b0 (a0:Int)
noncomputable def ZhC:Z9i->Tr U (Int⊕Z9i)
 | .b0 a0=>.leaf (.inl (if (if (65536:Int)<a0 then (65536:Int) else a0)>0 then (if (65536:Int)<a0 then (65536:Int) else a0) else (0:Int)))
noncomputable def Z40 (a0:Int):Option Int:=ZO ZhC (.b0 a0)
noncomputable def ZDv:Mod U:=⟨[3],3,fun x=>Z40 x.1,by decide⟩
noncomputable def Zyw:Z9i->Z08 U
 | .b0 a0=>Z0f Tryz.f205 [3] (a0,())
theorem ZuB:Z0g 205 Tryz.f205 msN hsN AN 3 ZhC Zyw
 | .b0 ..=>by kernel_rfl
theorem ZeB:Z0a Tryz.prog B0 205 ZDv:=okP ZuB (fun x=>.b0 x.1) (by kernel_rfl) Tryz.func205 (by kernel_rfl) (by kernel_rfl) (fun _=>rfl) (fun _=>rfl)
inductive Zbh where
 | b0 (a0:Zj)
noncomputable def ZmP:Zbh->Tr U (Int⊕Zbh)
 | .b0 a0=>.bind 3 (Z40 a0.Good) (fun(x1:Int)=>.bind 3 (Z40 a0.Bad) (fun(x2:Int)=>.br ((w64 (x1+x2))==0) ( .leaf (.inl (0:Int))) ( .chk ((w64 (x1+x2)) != 0) ( .leaf (.inl (w64 (Int.tdiv (w64 (x2*1000)) (w64 (x1+x2)))))))))
noncomputable def Zbg (a0:Zj):Option Int:=ZO ZmP (.b0 a0)
noncomputable def ZHc:Mod U:=⟨[99],3,fun x=>Zbg x.1,by decide⟩
noncomputable def ZDM:Zbh->Z08 U
 | .b0 a0=>Z0f Tryz.f275 [99] (a0,())
theorem Zzr:Z0g 275 Tryz.f275 (mc ZeB msN) hsN AN 3 ZmP ZDM
 | .b0 ..=>by kernel_rfl
theorem ZpE:Z0a Tryz.prog B0 275 ZHc:=okP Zzr (fun x=>.b0 x.1) (by kernel_rfl) Tryz.func275 (by kernel_rfl) (by kernel_rfl) (fun _=>rfl) (fun _=>rfl)
inductive ZdX where
 | b0 (a0:Zj)
noncomputable def ZqB:ZdX->Tr U (Bool⊕ZdX)
 | .b0 a0=>.bind 3 (Z40 a0.Good) (fun(x1:Int)=>.bind 3 (Z40 a0.Bad) (fun(x2:Int)=>.br (decide ((w64 (x1+x2))>=8)) ( .bind 3 (Zbg a0) (fun(x3:Int)=>.leaf (.inl (decide (x3>=250))))) ( .leaf (.inl false))))
noncomputable def Zqs (a0:Zj):Option Bool:=ZO ZqB (.b0 a0)
noncomputable def ZLz:Mod U:=⟨[99],4,fun x=>Zqs x.1,by decide⟩
noncomputable def ZG8:ZdX->Z08 U
 | .b0 a0=>Z0f Tryz.f273 [99] (a0,())
theorem ZDz:Z0g 273 Tryz.f273 (mc ZeB (mc ZpE msN)) hsN AN 4 ZqB ZG8
 | .b0 ..=>by kernel_rfl
theorem ZGH:Z0a Tryz.prog B0 273 ZLz:=okP ZDz (fun x=>.b0 x.1) (by kernel_rfl) Tryz.func273 (by kernel_rfl) (by kernel_rfl) (fun _=>rfl) (fun _=>rfl)
inductive ZjQ where
 | b0 (a0:List Zj) (a1:Int)
 | b1 (a0:Zj)
 | b2 (a0:List Zj) (a1:Int) (a2:Zj)
noncomputable def Zvz:ZjQ->Tr U (Zj⊕ZjQ)
 | .b0 a0 a1=>.br (decide (a1<0)) ( .leaf (.inr (.b1 (⟨0,0⟩:Zj)))) ( .br (decide (a1>=(↑a0.length:Int))) ( .leaf (.inr (.b1 (⟨0,0⟩:Zj)))) ( .leaf (.inr (.b2 a0 a1 (⟨0,0⟩:Zj)))))
 | .b1 a0=>.leaf (.inl (⟨0,0⟩:Zj))
 | .b2 a0 a1 a2=>.chk (decide (0<=a1/\a1<(↑a0.length:Int))) ( .bind 99 (a0[(Int.toNat a1)]?) (fun(x1:Zj)=>.leaf (.inl x1)))
noncomputable def Zk5 (a0:List Zj) (a1:Int):Option Zj:=ZO Zvz (.b0 a0 a1)
noncomputable def ZMQ:Mod U:=⟨[42,3],99,fun x=>Zk5 x.1 x.2.1,by decide⟩
def Ztc:Lay:=⟨[4],[KP],[.var [.keep,.keep]],⟨[PQ 0],[VA 99 2]⟩⟩
def Zte:Lay:=⟨[0,1,4],[[.s 99 2],KP,KP],[.var [.keep,.keep]],⟨[OV 42,OV 3,PQ 0],[VA 99 2]⟩⟩
def ZMX:Nat->Option Lay
 | 2=>some Ztc
 | 3=>some Zte
 | _=>none
noncomputable def ZL5:ZjQ->Z08 U
 | .b0 a0 a1=>Z0f Tryz.f274 [42,3] (a0,a1,())
 | .b1 a0=>spL Tryz.f274 [1,0,1,0,0] Ztc (((),()),((a0,()),()))
 | .b2 a0 a1 a2=>spL Tryz.f274 [1,1,0] Zte (((a0,()),((a1,()),((),()))),((a2,()),()))
theorem ZFR:Z0g 274 Tryz.f274 msN hsN ZMX 99 Zvz ZL5:=by intro p;cases p<;>kernel_rfl
theorem ZJD:Z0a Tryz.prog B0 274 ZMQ:=okP ZFR (fun x=>.b0 x.1 x.2.1) (by kernel_rfl) Tryz.func274 (by kernel_rfl) (by kernel_rfl) (fun _=>rfl) (fun _=>rfl)
inductive Z9D where
 | b0 (a0:List Zj) (a1:List Int)
 | b1 (a0:List Zj) (a1:List Int) (a2 a3:Int)
 | b2 (a0:List Zj) (a1:List Int) (a2 a3:Int)
 | b3 (a0:List Zj) (a1:List Int) (a2:Int)
noncomputable def Zis:Z9D->Tr U (Int⊕Z9D)
 | .b0 a0 a1=>.leaf (.inr (.b1 a0 a1 (-1:Int) (0:Int)))
 | .b1 a0 a1 a2 a3=>.br (decide (a3<(↑a1.length:Int))) ( .chk (decide (0<=a3/\a3<(↑a1.length:Int))) ( .bind 3 (a1[(Int.toNat a3)]?) (fun(x1:Int)=>.bind 99 (Zk5 a0 x1) (fun(x2:Zj)=>.bind 4 (Zqs x2) (fun(x3:Bool)=>.br (!x3) ( .leaf (.inr (.b2 a0 a1 a2 a3))) ( .br (decide (a2<0)) ( .leaf (.inr (.b3 a0 a1 a3))) ( .chk (decide (0<=a3/\a3<(↑a1.length:Int))) ( .bind 3 (a1[(Int.toNat a3)]?) (fun(x4:Int)=>.bind 99 (Zk5 a0 x4) (fun(x5:Zj)=>.bind 3 (Zbg x5) (fun(x6:Int)=>.chk (decide (0<=a2/\a2<(↑a1.length:Int))) ( .bind 3 (a1[(Int.toNat a2)]?) (fun(x7:Int)=>.bind 99 (Zk5 a0 x7) (fun(x8:Zj)=>.bind 3 (Zbg x8) (fun(x9:Int)=>.br (decide (x6>x9)) ( .leaf (.inr (.b3 a0 a1 a3))) ( .leaf (.inr (.b2 a0 a1 a2 a3)))))))))))))))))) ( .leaf (.inl a2))
 | .b2 a0 a1 a2 a3=>.leaf (.inr (.b1 a0 a1 a2 (w64 (a3+1))))
 | .b3 a0 a1 a2=>.leaf (.inr (.b2 a0 a1 a2 a2))
noncomputable def Zig (a0:List Zj) (a1:List Int):Option Int:=ZO Zis (.b0 a0 a1)
noncomputable def ZBA:Mod U:=⟨[42,226],3,fun x=>Zig x.1 x.2.1,by decide⟩
def Z8r:Lay:=⟨[0,1,5,6],[[.s 99 2],[.s 3 1],KP,KP],[],⟨[OV 42,OV 226,OV 3,OV 3],[]⟩⟩
def ZkV:Lay:=⟨[0,1,6],[[.s 99 2],[.s 3 1],KP],[],⟨[OV 42,OV 226,OV 3],[]⟩⟩
def ZEg:Nat->Option Lay
 | 3=>some Z8r
 | 4=>some Z8r
 | 7=>some ZkV
 | _=>none
noncomputable def Zz4:Z9D->Z08 U
 | .b0 a0 a1=>Z0f Tryz.f203 [42,226] (a0,a1,())
 | .b1 a0 a1 a2 a3=>spL Tryz.f203 [1,1,0,1,0,0,0,0] Z8r (((a0,()),((a1,()),((a2,()),((a3,()),())))),())
 | .b2 a0 a1 a2 a3=>spL Tryz.f203 [1,1,0,1,0,0,1,1] Z8r (((a0,()),((a1,()),((a2,()),((a3,()),())))),())
 | .b3 a0 a1 a2=>spL Tryz.f203 [1,1,0,1,0,0,1,0,0,1,1,0] ZkV (((a0,()),((a1,()),((a2,()),()))),())
theorem Zv2:Z0g 203 Tryz.f203 (mc ZGH (mc ZJD (mc ZpE msN))) hsN ZEg 3 Zis Zz4:=by intro p;cases p<;>kernel_rfl
theorem Zxz:Z0a Tryz.prog B0 203 ZBA:=okP Zv2 (fun x=>.b0 x.1 x.2.1) (by kernel_rfl) Tryz.func203 (by kernel_rfl) (by kernel_rfl) (fun _=>rfl) (fun _=>rfl)
inductive Zjq where
 | b0 (a0:List Int)
 | b1 (a0:List Int) (a1 a2:Int)
noncomputable def ZvL:Zjq->Tr U (Int⊕Zjq)
 | .b0 a0=>.leaf (.inr (.b1 a0 (0:Int) (0:Int)))
 | .b1 a0 a1 a2=>.br (decide (a2<(↑a0.length:Int))) ( .chk (decide (0<=a2/\a2<(↑a0.length:Int))) ( .bind 3 (a0[(Int.toNat a2)]?) (fun(x1:Int)=>.bind 25 (Z66 x1) (fun(x2:Int)=>.leaf (.inr (.b1 a0 (IntKind.wrap .u64 (a1+x2)) (w64 (a2+1)))))))) ( .leaf (.inl a1))
noncomputable def ZvJ (a0:List Int):Option Int:=ZO ZvL (.b0 a0)
noncomputable def ZN1:Mod U:=⟨[226],26,fun x=>ZvJ x.1,by decide⟩
def Ztl:Lay:=⟨[0,3,4],[[.s 3 1],KP,KP],[],⟨[OV 226,OV 25,OV 3],[]⟩⟩
def ZOb:Nat->Option Lay
 | 3=>some Ztl
 | _=>none
noncomputable def ZJJ:Zjq->Z08 U
 | .b0 a0=>Z0f Tryz.f204 [226] (a0,())
 | .b1 a0 a1 a2=>spL Tryz.f204 [1,1,0,1,0,0,0,0] Ztl (((a0,()),((a1,()),((a2,()),()))),())
theorem ZGV:Z0g 204 Tryz.f204 (mc ZdV msN) hsN ZOb 26 ZvL ZJJ:=by intro p;cases p<;>kernel_rfl
theorem ZLV:Z0a Tryz.prog B0 204 ZN1:=okP ZGV (fun x=>.b0 x.1) (by kernel_rfl) Tryz.func204 (by kernel_rfl) (by kernel_rfl) (fun _=>rfl) (fun _=>rfl)
inductive Z5u where
 | b0 (a0:List Zj) (a1 a2:Int)
 | b1 (a0:List Zj) (a1:Int) (a2:List Int)
 | b2 (a0:List Int)
noncomputable def Zdd:Z5u->Tr U (Int⊕Z5u)
 | .b0 a0 a1 a2=>.bind 226 (Z8A a1) (fun(x1:List Int)=>.leaf (.inr (.b1 a0 (if (if (37:Int)<a2 then (37:Int) else a2)>2 then (if (37:Int)<a2 then (37:Int) else a2) else (2:Int)) x1)))
 | .b1 a0 a1 a2=>.br (decide ((↑a2.length:Int)>a1)) ( .bind 3 (Zig a0 a2) (fun(x1:Int)=>.br (decide (x1<0)) ( .leaf (.inr (.b2 a2))) ( .chk (decide (0<=x1/\x1<=(↑a2.length:Int))) ( .chk (([]:List Int).length==0) ( .chk (decide ((0+((a2.drop 0).take ((Int.toNat x1) - 0)).length)*8<=lim)&&decide (0+((a2.drop 0).take ((Int.toNat x1) - 0)).length<=maxLen)) ( .chk (decide (0<=(w64 (x1+1))/\(w64 (x1+1))<=(↑a2.length:Int))) ( .chk ((([]:List Int)++((a2.drop 0).take ((Int.toNat x1) - 0))).length==(([]:List Int)++((a2.drop 0).take ((Int.toNat x1) - 0))).length) ( .chk (decide (((([]:List Int)++((a2.drop 0).take ((Int.toNat x1) - 0))).length+((a2.drop (Int.toNat (w64 (x1+1)))).take (a2.length - (Int.toNat (w64 (x1+1))))).length)*8<=lim)&&decide ((([]:List Int)++((a2.drop 0).take ((Int.toNat x1) - 0))).length+((a2.drop (Int.toNat (w64 (x1+1)))).take (a2.length - (Int.toNat (w64 (x1+1))))).length<=maxLen)) ( .chk (((([]:List Int)++((a2.drop 0).take ((Int.toNat x1) - 0)))++((a2.drop (Int.toNat (w64 (x1+1)))).take (a2.length - (Int.toNat (w64 (x1+1)))))).length==((([]:List Int)++((a2.drop 0).take ((Int.toNat x1) - 0)))++((a2.drop (Int.toNat (w64 (x1+1)))).take (a2.length - (Int.toNat (w64 (x1+1)))))).length) ( .leaf (.inr (.b1 a0 a1 ((([]:List Int)++((a2.drop 0).take ((Int.toNat x1) - 0)))++((a2.drop (Int.toNat (w64 (x1+1)))).take (a2.length - (Int.toNat (w64 (x1+1)))))))))))))))))) ( .leaf (.inr (.b2 a2)))
 | .b2 a0=>.bind 26 (ZvJ a0) (fun(x1:Int)=>.leaf (.inl x1))
noncomputable def ZcA (a0:List Zj) (a1 a2:Int):Option Int:=ZO Zdd (.b0 a0 a1 a2)
noncomputable def ZuO:Mod U:=⟨[42,26,3],26,fun x=>ZcA x.1 x.2.1 x.2.2.1,by decide⟩
def ZeU:Lay:=⟨[0,2,7],[[.s 99 2],KP,[.s 3 1]],[],⟨[OV 42,OV 3,OV 226],[]⟩⟩
def Zea:Lay:=⟨[7],[[.s 3 1]],[],⟨[OV 226],[]⟩⟩
def Zuk:Nat->Option Lay
 | 3=>some ZeU
 | 7=>some Zea
 | _=>none
noncomputable def Zsx:Z5u->Z08 U
 | .b0 a0 a1 a2=>Z0f Tryz.f106 [42,26,3] (a0,a1,a2,())
 | .b1 a0 a1 a2=>spL Tryz.f106 [1,1,1,0,0,0,0,0] ZeU (((a0,()),((a1,()),((a2,()),()))),())
 | .b2 a0=>spL Tryz.f106 [1,1,1,1,0] Zea (((a0,()),()),())
theorem Zrn:Z0g 106 Tryz.f106 (mc ZhL (mc Zxz (mc ZLV msN))) hsN Zuk 26 Zdd Zsx:=by intro p;cases p<;>kernel_rfl
theorem ZsT:Z0a Tryz.prog B0 106 ZuO:=okP Zrn (fun x=>.b0 x.1 x.2.1 x.2.2.1) (by kernel_rfl) Tryz.func106 (by kernel_rfl) (by kernel_rfl) (fun _=>rfl) (fun _=>rfl)
inductive Z9N where
 | b0 (a0:List Zj)
 | b1 (a0 a1:List Zj) (a2:Int)
noncomputable def ZiB:Z9N->Tr U ((List Zj)⊕Z9N)
 | .b0 a0=>.chk (([]:List Zj).length==0) ( .leaf (.inr (.b1 a0 ([]:List Zj) (0:Int))))
 | .b1 a0 a1 a2=>.br (decide (a2<(↑a0.length:Int))) ( .chk (decide (0<=a2/\a2<(↑a0.length:Int))) ( .bind 99 (a0[(Int.toNat a2)]?) (fun(x1:Zj)=>.bind 3 (Z40 x1.Good) (fun(x2:Int)=>.chk (decide (0<=a2/\a2<(↑a0.length:Int))) ( .bind 99 (a0[(Int.toNat a2)]?) (fun(x3:Zj)=>.bind 3 (Z40 x3.Bad) (fun(x4:Int)=>.chk (([(⟨(w64 (Int.tdiv x2 2)),(w64 (Int.tdiv x4 2))⟩:Zj)]).length==1) ( .chk (a1.length==a1.length) ( .chk (decide ((a1.length+([(⟨(w64 (Int.tdiv x2 2)),(w64 (Int.tdiv x4 2))⟩:Zj)]).length)*16<=lim)&&decide (a1.length+([(⟨(w64 (Int.tdiv x2 2)),(w64 (Int.tdiv x4 2))⟩:Zj)]).length<=maxLen)) ( .chk ((a1++[(⟨(w64 (Int.tdiv x2 2)),(w64 (Int.tdiv x4 2))⟩:Zj)]).length==(a1++[(⟨(w64 (Int.tdiv x2 2)),(w64 (Int.tdiv x4 2))⟩:Zj)]).length) ( .leaf (.inr (.b1 a0 (a1++[(⟨(w64 (Int.tdiv x2 2)),(w64 (Int.tdiv x4 2))⟩:Zj)]) (w64 (a2+1))))))))))))))) ( .chk (a1.length==a1.length) ( .leaf (.inl a1)))
noncomputable def ZiE (a0:List Zj):Option (List Zj):=ZO ZiB (.b0 a0)
noncomputable def ZCK:Mod U:=⟨[42],42,fun x=>ZiE x.1,by decide⟩
def ZiS:Lay:=⟨[0,3,4],[[.s 99 2],[.own 99 2],KP],[.row true],⟨[OV 42,.one (.own 99 0),OV 3],[.row 99 true]⟩⟩
def ZDN:Nat->Option Lay
 | 3=>some ZiS
 | _=>none
noncomputable def ZyW:Z9N->Z08 U
 | .b0 a0=>Z0f Tryz.f107 [42] (a0,())
 | .b1 a0 a1 a2=>spL Tryz.f107 [1,1,0,1,0,0,0,0] ZiS (((a0,()),((),((a2,()),()))),(a1,()))
theorem ZuJ:Z0g 107 Tryz.f107 (mc ZeB msN) hsN ZDN 42 ZiB ZyW:=by intro p;cases p<;>kernel_rfl
theorem ZAc:Z0a Tryz.prog B0 107 ZCK:=okP ZuJ (fun x=>.b0 x.1) (by kernel_rfl) Tryz.func107 (by kernel_rfl) (by kernel_rfl) (fun _=>rfl) (fun _=>rfl)
inductive ZiP where
 | b0 (a0:Z9) (a1:Z22) (a2:Int)
 | b1 (a0:Int) (a1 a2:Z9)
 | b2 (a0:Int) (a1 a2:Z9)
noncomputable def Zv7:ZiP->Tr U ((Z9×Int)⊕ZiP)
 | .b0 a0 a1 a2=>.br (a0.Z05 != 0) ( .leaf (.inl (a0,9))) ( .br (a1.Kind==1) ( .bind 46 (Zme a0 a1.ZF) (fun(x1:Z9×Int)=>.leaf (.inl (x1.1,x1.2)))) ( .br (a1.Kind==2) ( .bind 46 (Z1L a0 (⟨0,a1.Zt,0,0,0,0,0,0,0,0,0⟩:Z4) a2) (fun(x2:Z9×Int)=>.leaf (.inl (x2.1,x2.2)))) ( .br (a1.Kind==3) ( .bind 46 (Z1L a0 (⟨1,Zr,a1.Map,0,0,0,0,0,0,0,0⟩:Z4) a2) (fun(x3:Z9×Int)=>.leaf (.inl (x3.1,x3.2)))) ( .br (a1.Kind==4) ( .bind 3 (ZaE a1.Number) (fun(x4:Int)=>.bind 46 (Z1L a0 (⟨2,Zr,0,0,x4,0,0,0,0,0,0⟩:Z4) a2) (fun(x5:Z9×Int)=>.leaf (.inl (x5.1,x5.2))))) ( .br (a1.Kind==6) ( .bind 46 (Z1L a0 (⟨8,Zr,0,0,0,0,0,0,63,0,0⟩:Z4) a2) (fun(x6:Z9×Int)=>.leaf (.inl (x6.1,x6.2)))) ( .br (a1.Kind==7) ( .bind 46 (Z1L a0 (⟨12,Zr,0,0,0,0,0,0,0,11,0⟩:Z4) a2) (fun(x7:Z9×Int)=>.leaf (.inl (x7.1,x7.2)))) ( .br (a1.Kind==8) ( .bind 46 (Z1L a0 (⟨18,Zr,0,0,0,0,0,0,0,0,0⟩:Z4) a2) (fun(x8:Z9×Int)=>.leaf (.inl (x8.1,x8.2)))) ( .br (a1.Kind==9) ( .bind 3 (ZaE a1.Number) (fun(x9:Int)=>.bind 46 (Z1L a0 (⟨20,Zr,0,0,0,0,0,0,0,0,x9⟩:Z4) a2) (fun(x10:Z9×Int)=>.leaf (.inl (x10.1,x10.2))))) ( .br (a1.Kind==12) ( .bind 46 (Z1L a0 (⟨15,a1.Zt,0,0,0,0,0,0,0,0,0⟩:Z4) a2) (fun(x11:Z9×Int)=>.leaf (.inl (x11.1,x11.2)))) ( .br (a1.Kind==5) ( .br (a1.Key==0) ( .leaf (.inl (a0,17))) ( .bind 46 (Z1L a0 (⟨3,Zr,0,0,0,0,a0.Zld,a1.Number,0,0,0⟩:Z4) a2) (fun(x12:Z9×Int)=>.br (x12.2==0) ( .leaf (.inr (.b1 x12.2 ZH ({ x12.1 with Key:=a1.Key }:Z9)))) ( .leaf (.inr (.b1 x12.2 ZH x12.1)))))) ( .br (a1.Kind==10) ( .bind 46 (Zrj a0 a1.Key) (fun(x13:Z9×Int)=>.leaf (.inl (x13.1,x13.2)))) ( .br (a1.Kind==13) ( .br (a0.Z1z != 0) ( .leaf (.inl (a0,9))) ( .bind 26 (ZcA a0.Zw a0.ZN.Map (2:Int)) (fun(x14:Int)=>.br (x14==a0.ZN.Map) ( .leaf (.inl (a0,0))) ( .bind 46 (Z1L a0 (⟨1,Zr,x14,0,0,0,0,0,0,0,0⟩:Z4) a2) (fun(x15:Z9×Int)=>.br (x15.2==0) ( .bind 42 (ZiE a0.Zw) (fun(x16:List Zj)=>.leaf (.inr (.b2 x15.2 ZH ({ x15.1 with Zw:=x16 }:Z9))))) ( .leaf (.inr (.b2 x15.2 ZH x15.1)))))))) ( .leaf (.inl (a0,12)))))))))))))))
 | .b1 a0 a1 a2=>.leaf (.inl (a2,a0))
 | .b2 a0 a1 a2=>.leaf (.inl (a2,a0))
noncomputable def Zl3 (a0:Z9) (a1:Z22) (a2:Int):Option (Z9×Int):=ZO Zv7 (.b0 a0 a1 a2)
noncomputable def ZNL:Mod U:=⟨[44,83,3],46,fun x=>Zl3 x.1 x.2.1 x.2.2.1,by decide⟩
def ZsW:Lay:=⟨[6,8,9],[KP,KP,KP],[.var k2,.var k2],⟨[PQ 0,PQ 1,OV 45],[VA 44 66,VA 44 66]⟩⟩
def Zt3:Lay:=⟨[6,11,12],[KP,KP,KP],[.var k2,.var k2],⟨[PQ 0,PQ 1,OV 45],[VA 44 66,VA 44 66]⟩⟩
def ZOc:Nat->Option Lay
 | 28=>some ZsW
 | 40=>some Zt3
 | _=>none
noncomputable def ZJK:ZiP->Z08 U
 | .b0 a0 a1 a2=>Z0f Tryz.f33 [44,83,3] (a0,a1,a2,())
 | .b1 a0 a1 a2=>spL Tryz.f33 [1,1,0,1,0,1,1,1,1,1,1,1,1,1,1,1,1,1,1,1,1,1,1,1,0,1,1,1,0] ZsW (((),((),((a0,()),()))),((a1,()),((a2,()),())))
 | .b2 a0 a1 a2=>spL Tryz.f33 [1,1,0,1,0,1,1,1,1,1,1,1,1,1,1,1,1,1,1,1,1,1,1,1,1,1,1,1,0,1,1,1,1,1,0] Zt3 (((),((),((a0,()),()))),((a1,()),((a2,()),())))
theorem ZG4:Z0g 33 Tryz.f33 (mc ZDr (mc ZxA (mc Zvd (mc ZGD (mc ZsT (mc ZAc msN)))))) hsN ZOc 46 Zv7 ZJK:=by intro p;cases p<;>kernel_rfl
theorem ZLt:Z0a Tryz.prog B0 33 ZNL:=okP ZG4 (fun x=>.b0 x.1 x.2.1 x.2.2.1) (by kernel_rfl) Tryz.func33 (by kernel_rfl) (by kernel_rfl) (fun _=>rfl) (fun _=>rfl)
inductive Z9x where
 | b0 (a0:Int) (a1:List Int)
noncomputable def ZiF:Z9x->Tr U (((List Int)×Int)⊕Z9x)
 | .b0 a0 a1=>.br (decide ((w64 ((↑a1.length:Int) - 3))<0)) ( .chk (([]:List Int).length==0) ( .leaf (.inl (([]:List Int),(3:Int))))) ( .chk (decide (0<=(w64 ((↑a1.length:Int) - 3))/\(w64 ((↑a1.length:Int) - 3))<=(↑a1.length:Int))) ( .chk (Z7z U 5 ((a1.drop (Int.toNat (w64 ((↑a1.length:Int) - 3)))).take (a1.length - (Int.toNat (w64 ((↑a1.length:Int) - 3)))))) ( .chk (decide (0<=(w64 ((↑a1.length:Int) - 3))/\(w64 ((↑a1.length:Int) - 3))<=(↑a1.length:Int))) ( .bind 22 (ZjT a0 ((a1.drop 0).take ((Int.toNat (w64 ((↑a1.length:Int) - 3))) - 0))) (fun(x1:Int)=>.bind 62 (Zg7 x1) (fun(x2:List Int)=>.chk (Z7z U 5 x2) ( .br (!((strOf U 5 ((a1.drop (Int.toNat (w64 ((↑a1.length:Int) - 3)))).take (a1.length - (Int.toNat (w64 ((↑a1.length:Int) - 3)))))).toList==(strOf U 5 x2).toList)) ( .chk (([]:List Int).length==0) ( .leaf (.inl (([]:List Int),(10:Int))))) ( .chk (decide (0<=(w64 ((↑a1.length:Int) - 3))/\(w64 ((↑a1.length:Int) - 3))<=(↑a1.length:Int))) ( .chk (([]:List Int).length==0) ( .chk (decide ((0+((a1.drop 0).take ((Int.toNat (w64 ((↑a1.length:Int) - 3))) - 0)).length)*1<=lim)&&decide (0+((a1.drop 0).take ((Int.toNat (w64 ((↑a1.length:Int) - 3))) - 0)).length<=maxLen)) ( .chk ((([]:List Int)++((a1.drop 0).take ((Int.toNat (w64 ((↑a1.length:Int) - 3))) - 0))).length==(([]:List Int)++((a1.drop 0).take ((Int.toNat (w64 ((↑a1.length:Int) - 3))) - 0))).length) ( .leaf (.inl ((([]:List Int)++((a1.drop 0).take ((Int.toNat (w64 ((↑a1.length:Int) - 3))) - 0))),(0:Int)))))))))))))))
noncomputable def Zho (a0:Int) (a1:List Int):Option ((List Int)×Int):=ZO ZiF (.b0 a0 a1)
noncomputable def ZDf:Mod U:=⟨[22,62],120,fun x=>Zho x.1 x.2.1,by decide⟩
noncomputable def Zxi:Z9x->Z08 U
 | .b0 a0 a1=>Z0f Tryz.f114 [22,62] (a0,a1,())
theorem Zwm:Z0g 114 Tryz.f114 (mc Zr8 (mc Zt7 msN)) hsN AN 120 ZiF Zxi
 | .b0 ..=>by kernel_rfl
theorem ZAg:Z0a Tryz.prog B0 114 ZDf:=okP Zwm (fun x=>.b0 x.1 x.2.1) (by kernel_rfl) Tryz.func114 (by kernel_rfl) (by kernel_rfl) (fun _=>rfl) (fun _=>rfl)
inductive Z7q where
 | b0 (a0:List Int)
 | b1 (a0:Zn)
 | b2 (a0:List Int) (a1 a2 a3:Int) (a4:Zn)
noncomputable def Zel:Z7q->Tr U ((Zn×Int)⊕Z7q)
 | .b0 a0=>.br (decide ((↑a0.length:Int)<2)) ( .leaf (.inl (Z15,3))) ( .chk (decide (0<=(0:Int)/\(0:Int)<(↑a0.length:Int))) ( .bind 5 (a0[(Int.toNat 0)]?) (fun(x1:Int)=>.chk (decide (0<=(1:Int)/\(1:Int)<(↑a0.length:Int))) ( .bind 5 (a0[(Int.toNat 1)]?) (fun(x2:Int)=>.br (decide ((w64 (x1))>=32)) ( .leaf (.inl (Z15,2))) ( .br ((Int.tmod (w64 (x1)) 4)==0) ( .leaf (.inl (Z15,12))) ( .br ((w64 (x2))==0) ( .br ((Int.tmod (w64 (x1)) 4) != 1) ( .leaf (.inr (.b1 (⟨0,0,0,(⟨0,([]:List Int)⟩:Zd)⟩:Zn)))) ( .leaf (.inr (.b2 a0 (w64 (x1)) (w64 (x2)) (Int.tmod (w64 (x1)) 4) (⟨0,0,0,(⟨0,([]:List Int)⟩:Zd)⟩:Zn))))) ( .leaf (.inr (.b2 a0 (w64 (x1)) (w64 (x2)) (Int.tmod (w64 (x1)) 4) (⟨0,0,0,(⟨0,([]:List Int)⟩:Zd)⟩:Zn)))))))))))
 | .b1 a0=>.leaf (.inl (Z15,1))
 | .b2 a0 a1 a2 a3 a4=>.br (decide ((w64 ((↑a0.length:Int) - 2))<a2)) ( .leaf (.inl (Z15,3))) ( .br (decide ((w64 ((↑a0.length:Int) - 2))>a2)) ( .leaf (.inl (Z15,2))) ( .chk (decide (0<=(2:Int)/\(2:Int)<=(↑a0.length:Int))) ( .chk (([]:List Int).length==0) ( .chk (decide ((0+((a0.drop (Int.toNat 2)).take (a0.length - (Int.toNat 2))).length)*1<=lim)&&decide (0+((a0.drop (Int.toNat 2)).take (a0.length - (Int.toNat 2))).length<=maxLen)) ( .chk ((([]:List Int)++((a0.drop (Int.toNat 2)).take (a0.length - (Int.toNat 2)))).length==(([]:List Int)++((a0.drop (Int.toNat 2)).take (a0.length - (Int.toNat 2)))).length) ( .leaf (.inl ((⟨(Int.tmod (w64 (Int.tdiv a1 8)) (2:Int)),(Int.tmod (w64 (Int.tdiv a1 4)) (2:Int)),(Int.tmod (w64 (Int.tdiv a1 16)) (2:Int)),(⟨a3,(([]:List Int)++((a0.drop (Int.toNat 2)).take (a0.length - (Int.toNat 2))))⟩:Zd)⟩:Zn),(0:Int)))))))))
noncomputable def Zf9 (a0:List Int):Option (Zn×Int):=ZO Zel (.b0 a0)
noncomputable def ZyN:Mod U:=⟨[62],71,fun x=>Zf9 x.1,by decide⟩
def Zh3:Lay:=⟨[2],[KP],[.var k5],⟨[PQ 0],[VA 70 5]⟩⟩
def ZgM:Lay:=⟨[0,2,4,5,6],[[.s 5 1],KP,KP,KP,KP],[.var k5],⟨[OV 62,PQ 0,OV 3,OV 3,OV 3],[VA 70 5]⟩⟩
def ZxW:Nat->Option Lay
 | 10=>some Zh3
 | 11=>some ZgM
 | _=>none
noncomputable def ZvG:Z7q->Z08 U
 | .b0 a0=>Z0f Tryz.f115 [62] (a0,())
 | .b1 a0=>spL Tryz.f115 [1,1,1,1,1,1,0,1,0,0] Zh3 (((),()),((a0,()),()))
 | .b2 a0 a1 a2 a3 a4=>spL Tryz.f115 [1,1,1,1,1,1,1,0,0] ZgM (((a0,()),((),((a1,()),((a2,()),((a3,()),()))))),((a4,()),()))
theorem ZrE:Z0g 115 Tryz.f115 msN hsN ZxW 71 Zel ZvG:=by intro p;cases p<;>kernel_rfl
theorem Zwk:Z0a Tryz.prog B0 115 ZyN:=okP ZrE (fun x=>.b0 x.1) (by kernel_rfl) Tryz.func115 (by kernel_rfl) (by kernel_rfl) (fun _=>rfl) (fun _=>rfl)
inductive ZbV where
 | b0 (a0 a1:List Int)
noncomputable def Zlu:ZbV->Tr U (Bool⊕ZbV)
 | .b0 a0 a1=>.chk (Z7z U 5 a0) ( .chk (Z7z U 5 a1) ( .leaf (.inl ((strOf U 5 a0).toList==(strOf U 5 a1).toList))))
noncomputable def Zm2 (a0 a1:List Int):Option Bool:=ZO Zlu (.b0 a0 a1)
noncomputable def ZG5:Mod U:=⟨[62,62],4,fun x=>Zm2 x.1 x.2.1,by decide⟩
noncomputable def ZEh:ZbV->Z08 U
 | .b0 a0 a1=>Z0f Tryz.f278 [62,62] (a0,a1,())
theorem ZzE:Z0g 278 Tryz.f278 msN hsN AN 4 Zlu ZEh
 | .b0 ..=>by kernel_rfl
theorem ZDs:Z0a Tryz.prog B0 278 ZG5:=okP ZzE (fun x=>.b0 x.1 x.2.1) (by kernel_rfl) Tryz.func278 (by kernel_rfl) (by kernel_rfl) (fun _=>rfl) (fun _=>rfl)
inductive Zbk where
 | b0 (a0 a1:Int) (a2 a3:List Int)
noncomputable def ZmS:Zbk->Tr U (((List Int)×Int)⊕Zbk)
 | .b0 a0 a1 a2 a3=>.br (decide ((w64 ((↑a3.length:Int) - 4))<0)) ( .chk (([]:List Int).length==0) ( .leaf (.inl (([]:List Int),(3:Int))))) ( .chk (decide (0<=(w64 ((↑a3.length:Int) - 4))/\(w64 ((↑a3.length:Int) - 4))<=(↑a3.length:Int))) ( .bind 62 (Zki a0 a1 a2 ((a3.drop 0).take ((Int.toNat (w64 ((↑a3.length:Int) - 4))) - 0))) (fun(x1:List Int)=>.chk (decide (0<=(w64 ((↑a3.length:Int) - 4))/\(w64 ((↑a3.length:Int) - 4))<=(↑a3.length:Int))) ( .bind 4 (Zm2 x1 ((a3.drop (Int.toNat (w64 ((↑a3.length:Int) - 4)))).take (a3.length - (Int.toNat (w64 ((↑a3.length:Int) - 4)))))) (fun(x2:Bool)=>.br (!x2) ( .chk (([]:List Int).length==0) ( .leaf (.inl (([]:List Int),(15:Int))))) ( .bind 62 (Zaj a0 a1 (w64 ((↑a3.length:Int) - 4))) (fun(x3:List Int)=>.bind 1350 (Zkj ((a3.drop 0).take ((Int.toNat (w64 ((↑a3.length:Int) - 4))) - 0)) x3) (fun(y4:Z5y)=>.chk (y4.q0.length==y4.q0.length) ( .leaf (.inl (y4.q0,0)))))))))))
noncomputable def Zm0 (a0 a1:Int) (a2 a3:List Int):Option ((List Int)×Int):=ZO ZmS (.b0 a0 a1 a2 a3)
noncomputable def ZHI:Mod U:=⟨[29,25,62,62],120,fun x=>Zm0 x.1 x.2.1 x.2.2.1 x.2.2.2.1,by decide⟩
noncomputable def ZET:Zbk->Z08 U
 | .b0 a0 a1 a2 a3=>Z0f Tryz.f211 [29,25,62,62] (a0,a1,a2,a3,())
theorem Zy9:Z0g 211 Tryz.f211 (mc ZjX (mc ZtW (mc ZDs msN))) (hc [] ZsX hsN) AN 120 ZmS ZET
 | .b0 ..=>by kernel_rfl
theorem ZBT:Z0a Tryz.prog B0 211 ZHI:=okP Zy9 (fun x=>.b0 x.1 x.2.1 x.2.2.1 x.2.2.2.1) (by kernel_rfl) Tryz.func211 (by kernel_rfl) (by kernel_rfl) (fun _=>rfl) (fun _=>rfl)
inductive Z94 where
 | b0 (a0:Int)
noncomputable def Zi7:Z94->Tr U (Int⊕Z94)
 | .b0 a0=>.br (a0==1) ( .leaf (.inl (0:Int))) ( .leaf (.inl (1:Int)))
noncomputable def Zh8 (a0:Int):Option Int:=ZO Zi7 (.b0 a0)
noncomputable def ZCG:Mod U:=⟨[3],3,fun x=>Zh8 x.1,by decide⟩
noncomputable def ZxL:Z94->Z08 U
 | .b0 a0=>Z0f Tryz.f212 [3] (a0,())
theorem Zwx:Z0g 212 Tryz.f212 msN hsN AN 3 Zi7 ZxL
 | .b0 ..=>by kernel_rfl
theorem ZzP:Z0a Tryz.prog B0 212 ZCG:=okP Zwx (fun x=>.b0 x.1) (by kernel_rfl) Tryz.func212 (by kernel_rfl) (by kernel_rfl) (fun _=>rfl) (fun _=>rfl)
inductive Zc8 where
 | b0 (a0:Zv) (a1:Zn)
 | b1 (a0:Zv) (a1 a2:Zn)
noncomputable def Zm9:Zc8->Tr U ((Zn×Int)⊕Zc8)
 | .b0 a0 a1=>.bind 45 (Z3L a1) (fun(x1:Int)=>.br (x1 != 0) ( .leaf (.inl (Z15,x1))) ( .br (!a0.ZOj) ( .leaf (.inl (a1,0))) ( .bind 4 (Z6G a1.ZF) (fun(x2:Bool)=>.br x2 ( .leaf (.inl (a1,0))) ( .leaf (.inr (.b1 a0 a1 (⟨0,0,0,(⟨0,([]:List Int)⟩:Zd)⟩:Zn))))))))
 | .b1 a0 a1 a2=>.br (decide ((↑a1.ZF.Payload.length:Int)<5)) ( .leaf (.inl (Z15,3))) ( .bind 3 (Zh8 a0.Z1z) (fun(x1:Int)=>.bind 25 (Zch a0 x1 a0.Rx) (fun(x2:Int)=>.chk (([(IntKind.wrap .u8 (a1.ZF.Z5f))]).length==1) ( .bind 120 (Zm0 a0.Key x2 ([(IntKind.wrap .u8 (a1.ZF.Z5f))]) a1.ZF.Payload) (fun(x3:(List Int)×Int)=>.br (x3.2 != 0) ( .leaf (.inl (Z15,x3.2))) ( .bind 70 (Zg8 a1 x3.1) (fun(x4:Zn)=>.leaf (.inl (x4,0)))))))))
noncomputable def Zlf (a0:Zv) (a1:Zn):Option (Zn×Int):=ZO Zm9 (.b0 a0 a1)
noncomputable def ZI0:Mod U:=⟨[41,70],71,fun x=>Zlf x.1 x.2.1,by decide⟩
def Zno:Lay:=⟨[2,3,4],[KP,KP,KP],[.var k9,.var k5,.var k5],⟨[PQ 0,PQ 1,PQ 2],[VA 41 7,VA 70 5,VA 70 5]⟩⟩
def ZIr:Nat->Option Lay
 | 6=>some Zno
 | _=>none
noncomputable def ZDT:Zc8->Z08 U
 | .b0 a0 a1=>Z0f Tryz.f117 [41,70] (a0,a1,())
 | .b1 a0 a1 a2=>spL Tryz.f117 [1,1,1,0,0] Zno (((),((),((),()))),((a0,()),((a1,()),((a2,()),()))))
theorem ZAW:Z0g 117 Tryz.f117 (mc Zab (mc Z4W (mc ZpT (mc Znw (mc ZBT (mc ZzP msN)))))) hsN ZIr 71 Zm9 ZDT:=by intro p;cases p<;>kernel_rfl
theorem ZEF:Z0a Tryz.prog B0 117 ZI0:=okP ZAW (fun x=>.b0 x.1 x.2.1) (by kernel_rfl) Tryz.func117 (by kernel_rfl) (by kernel_rfl) (fun _=>rfl) (fun _=>rfl)
inductive Zbl where
 | b0 (a0:ZK) (a1:Zn)
 | b1 (a0:ZK) (a1:Zn) (a2:ZK) (a3:Zd)
 | b2 (a0:Bool) (a1:ZK) (a2:Zn) (a3:ZK) (a4:Zd)
 | b3 (a0:Bool) (a1:ZK) (a2:Zn) (a3:ZK) (a4:Zd)
 | b4 (a0:Bool) (a1:ZK) (a2:Zn) (a3:ZK) (a4:Zd)
 | b5 (a0:Bool) (a1 a2:ZK) (a3:Zd)
noncomputable def Zmg:Zbl->Tr U ((ZK×Zd×Bool×Bool)⊕Zbl)
 | .b0 a0 a1=>.bind 45 (Z3L a1) (fun(x1:Int)=>.br (x1 != 0) ( .leaf (.inl (a0,(⟨0,[]⟩:Zd),false,false))) ( .br a0.Open ( .br (a1.Zda != a0.SN) ( .leaf (.inr (.b1 a0 a1 Z4y (⟨0,([]:List Int)⟩:Zd)))) ( .leaf (.inr (.b2 false a0 a1 Z4y (⟨0,([]:List Int)⟩:Zd))))) ( .leaf (.inr (.b2 false a0 a1 Z4y (⟨0,([]:List Int)⟩:Zd))))))
 | .b1 a0 a1 a2 a3=>.br (!a0.Empty) ( .br (decide ((↑a0.Zu.length:Int)>0)) ( .leaf (.inr (.b3 true ({ a0 with SN:=(w64 ((1:Int) - a0.SN)) }:ZK) a1 a2 a3))) ( .leaf (.inr (.b4 true ({ a0 with SN:=(w64 ((1:Int) - a0.SN)) }:ZK) a1 a2 a3)))) ( .leaf (.inr (.b4 true ({ a0 with SN:=(w64 ((1:Int) - a0.SN)) }:ZK) a1 a2 a3)))
 | .b2 a0 a1 a2 a3 a4=>.br (a2.SN==a1.Zda) ( .bind 4 (Z8l a2.ZF) (fun(x1:Bool)=>.br (!x1) ( .leaf (.inl (({ a1 with Zda:=(w64 ((1:Int) - a1.Zda)),Taken:=(w64 (a1.Taken+1)) }:ZK),a2.ZF,true,a0))) ( .leaf (.inr (.b5 a0 ({ a1 with Zda:=(w64 ((1:Int) - a1.Zda)) }:ZK) a3 a4))))) ( .leaf (.inr (.b5 a0 a1 a3 a4)))
 | .b3 a0 a1 a2 a3 a4=>.chk (decide (0<=(1:Int)/\(1:Int)<=(↑a1.Zu.length:Int))) ( .chk (([]:List Zd).length==0) ( .chk (decide ((0+((a1.Zu.drop (Int.toNat 1)).take (a1.Zu.length - (Int.toNat 1))).length)*32<=lim)&&decide (0+((a1.Zu.drop (Int.toNat 1)).take (a1.Zu.length - (Int.toNat 1))).length<=maxLen)) ( .chk ((([]:List Zd)++((a1.Zu.drop (Int.toNat 1)).take (a1.Zu.length - (Int.toNat 1)))).length==(([]:List Zd)++((a1.Zu.drop (Int.toNat 1)).take (a1.Zu.length - (Int.toNat 1)))).length) ( .leaf (.inr (.b4 a0 ({ a1 with Zu:=(([]:List Zd)++((a1.Zu.drop (Int.toNat 1)).take (a1.Zu.length - (Int.toNat 1)))),Z1U:=(w64 (a1.Z1U+1)) }:ZK) a2 a3 a4))))))
 | .b4 a0 a1 a2 a3 a4=>.leaf (.inr (.b2 a0 ({ a1 with Open:=false,Empty:=false }:ZK) a2 a3 a4))
 | .b5 a0 a1 a2 a3=>.leaf (.inl (a1,(⟨0,[]⟩:Zd),false,a0))
noncomputable def ZlN (a0:ZK) (a1:Zn):Option (ZK×Zd×Bool×Bool):=ZO Zmg (.b0 a0 a1)
noncomputable def ZIa:Mod U:=⟨[33,70],163,fun x=>ZlN x.1 x.2.1,by decide⟩
def Zn7:Lay:=⟨[2,3,4,5],[KP,KP,KP,KP],[.var k6,.var k5,.var k6,.var [.keep,.s 5 1]],⟨[PQ 0,PQ 1,PQ 2,PQ 3],[VA 33 7,VA 70 5,VA 33 7,VA 68 2]⟩⟩
def Z4T:Lay:=⟨[2,3,4,5,7],[KP,KP,KP,KP,KP],[.var k6,.var k5,.var k6,.var [.keep,.s 5 1]],⟨[PQ 0,PQ 1,PQ 2,PQ 3,OV 4],[VA 33 7,VA 70 5,VA 33 7,VA 68 2]⟩⟩
def Zn3:Lay:=⟨[2,4,5,7],[KP,KP,KP,KP],[.var k6,.var k6,.var [.keep,.s 5 1]],⟨[PQ 0,PQ 1,PQ 2,OV 4],[VA 33 7,VA 33 7,VA 68 2]⟩⟩
def ZHP:Nat->Option Lay
 | 4=>some Zn7
 | 10=>some Z4T
 | 7=>some Z4T
 | 9=>some Z4T
 | 15=>some Zn3
 | _=>none
noncomputable def ZBU:Zbl->Z08 U
 | .b0 a0 a1=>Z0f Tryz.f118 [33,70] (a0,a1,())
 | .b1 a0 a1 a2 a3=>spL Tryz.f118 [1,1,0,1,0,0] Zn7 (((),((),((),((),())))),((a0,()),((a1,()),((a2,()),((a3,()),())))))
 | .b2 a0 a1 a2 a3 a4=>spL Tryz.f118 [1,1,1,0,0] Z4T (((),((),((),((),((a0,()),()))))),((a1,()),((a2,()),((a3,()),((a4,()),())))))
 | .b3 a0 a1 a2 a3 a4=>spL Tryz.f118 [1,1,0,1,0,1,1,0,1,0,0] Z4T (((),((),((),((),((a0,()),()))))),((a1,()),((a2,()),((a3,()),((a4,()),())))))
 | .b4 a0 a1 a2 a3 a4=>spL Tryz.f118 [1,1,0,1,0,1,1,1] Z4T (((),((),((),((),((a0,()),()))))),((a1,()),((a2,()),((a3,()),((a4,()),())))))
 | .b5 a0 a1 a2 a3=>spL Tryz.f118 [1,1,1,1,0] Zn3 (((),((),((),((a0,()),())))),((a1,()),((a2,()),((a3,()),()))))
theorem ZAl:Z0g 118 Tryz.f118 (mc Z4W (mc ZgK msN)) hsN ZHP 163 Zmg ZBU:=by intro p;cases p<;>kernel_rfl
theorem ZEe:Z0a Tryz.prog B0 118 ZIa:=okP ZAl (fun x=>.b0 x.1 x.2.1) (by kernel_rfl) Tryz.func118 (by kernel_rfl) (by kernel_rfl) (fun _=>rfl) (fun _=>rfl)
inductive Zc6 where
 | b0 (a0:Zv) (a1 a2:Bool)
 | b1 (a0:Bool) (a1 a2:Zv)
 | b2 (a0:Bool) (a1 a2:Zv)
 | b3 (a0 a1:Zv)
noncomputable def Zmu:Zc6->Tr U (Zv⊕Zc6)
 | .b0 a0 a1 a2=>.br a1 ( .br a0.ZP1 ( .leaf (.inr (.b1 a2 a0 Z31))) ( .leaf (.inr (.b2 a2 a0 Z31)))) ( .leaf (.inr (.b2 a2 a0 Z31)))
 | .b1 a0 a1 a2=>.leaf (.inr (.b2 a0 ({ a1 with Tx:=(IntKind.wrap .u64 (a1.Tx+1)) }:Zv) a2))
 | .b2 a0 a1 a2=>.br a0 ( .br a1.ZOj ( .leaf (.inr (.b3 a1 a2))) ( .leaf (.inl a1))) ( .leaf (.inl a1))
 | .b3 a0 a1=>.leaf (.inl ({ a0 with Rx:=(IntKind.wrap .u64 (a0.Rx+1)) }:Zv))
noncomputable def Zg0 (a0:Zv) (a1 a2:Bool):Option Zv:=ZO Zmu (.b0 a0 a1 a2)
noncomputable def ZIU:Mod U:=⟨[41,4,4],41,fun x=>Zg0 x.1 x.2.1 x.2.2.1,by decide⟩
def Zal:Lay:=⟨[2,3,6],[KP,KP,KP],[.var k9,.var k9],⟨[OV 4,PQ 0,PQ 1],[VA 41 7,VA 41 7]⟩⟩
def ZmX:Lay:=⟨[3,6],[KP,KP],[.var k9,.var k9],⟨[PQ 0,PQ 1],[VA 41 7,VA 41 7]⟩⟩
def ZGv:Nat->Option Lay
 | 2=>some Zal
 | 3=>some Zal
 | 4=>some ZmX
 | _=>none
noncomputable def ZBH:Zc6->Z08 U
 | .b0 a0 a1 a2=>Z0f Tryz.f120 [41,4,4] (a0,a1,a2,())
 | .b1 a0 a1 a2=>spL Tryz.f120 [1,0,1,0] Zal (((a0,()),((),((),()))),((a1,()),((a2,()),())))
 | .b2 a0 a1 a2=>spL Tryz.f120 [1,1,0,0] Zal (((a0,()),((),((),()))),((a1,()),((a2,()),())))
 | .b3 a0 a1=>spL Tryz.f120 [1,1,0,1,0] ZmX (((),((),())),((a0,()),((a1,()),())))
theorem ZzC:Z0g 120 Tryz.f120 msN hsN ZGv 41 Zmu ZBH:=by intro p;cases p<;>kernel_rfl
theorem ZoC:Z0a Tryz.prog B0 120 ZIU:=okP ZzC (fun x=>.b0 x.1 x.2.1 x.2.2.1) (by kernel_rfl) Tryz.func120 (by kernel_rfl) (by kernel_rfl) (fun _=>rfl) (fun _=>rfl)
inductive ZbU where
 | b0 (a0:Int)
 | b1 (a0:Int) (a1:Zg)
 | b2 (a0:Int) (a1:Zg)
 | b3 (a0:Int) (a1:Zg)
 | b4 (a0:Int) (a1:Zg)
 | b5 (a0:Int) (a1:Zg)
 | b6 (a0:Int) (a1:Zg)
 | b7 (a0:Int) (a1:Zg)
 | b8 (a0:Int) (a1:Zg)
noncomputable def ZbI:ZbU->Tr U (Int⊕ZbU)
 | .b0 a0=>.bind 262 (Z0k a0) (fun(x1:Zg)=>.br x1.Zt ( .leaf (.inr (.b1 (10:Int) x1))) ( .leaf (.inr (.b1 (1:Int) x1))))
 | .b1 a0 a1=>.br a1.Map ( .leaf (.inr (.b2 (w64 (a0+5)) a1))) ( .leaf (.inr (.b2 a0 a1)))
 | .b2 a0 a1=>.br a1.ZQ ( .leaf (.inr (.b3 (w64 (a0+2)) a1))) ( .leaf (.inr (.b3 a0 a1)))
 | .b3 a0 a1=>.br a1.Z05 ( .leaf (.inr (.b4 a0 a1))) ( .br a1.Version ( .leaf (.inr (.b4 a0 a1))) ( .br a1.Length ( .leaf (.inr (.b4 a0 a1))) ( .leaf (.inr (.b5 a0 a1)))))
 | .b4 a0 a1=>.leaf (.inr (.b5 (w64 (a0+1)) a1))
 | .b5 a0 a1=>.br a1.Z13 ( .leaf (.inr (.b6 (w64 (a0+1)) a1))) ( .leaf (.inr (.b6 a0 a1)))
 | .b6 a0 a1=>.br a1.Z5R ( .leaf (.inr (.b7 a0 a1))) ( .br a1.ZZ ( .leaf (.inr (.b7 a0 a1))) ( .leaf (.inr (.b8 a0 a1))))
 | .b7 a0 a1=>.leaf (.inr (.b8 (w64 (a0+8)) a1))
 | .b8 a0 a1=>.br a1.Mark ( .leaf (.inl (w64 (a0+8)))) ( .leaf (.inl a0))
noncomputable def ZfY (a0:Int):Option Int:=ZO ZbI (.b0 a0)
noncomputable def ZH4:Mod U:=⟨[3],3,fun x=>ZfY x.1,by decide⟩
def Z0K:Lay:=⟨[3,4],[KP,KP],[.var k3],⟨[PQ 0,OV 3],[VA 262 11]⟩⟩
def ZId:Nat->Option Lay
 | 5=>some Z0K
 | 7=>some Z0K
 | 9=>some Z0K
 | 10=>some Z0K
 | 11=>some Z0K
 | 13=>some Z0K
 | 14=>some Z0K
 | 15=>some Z0K
 | _=>none
noncomputable def ZEi:ZbU->Z08 U
 | .b0 a0=>Z0f Tryz.f279 [3] (a0,())
 | .b1 a0 a1=>spL Tryz.f279 [1,1,1,1,0,0] Z0K (((),((a0,()),())),((a1,()),()))
 | .b2 a0 a1=>spL Tryz.f279 [1,1,1,1,1,0,0] Z0K (((),((a0,()),())),((a1,()),()))
 | .b3 a0 a1=>spL Tryz.f279 [1,1,1,1,1,1,0,0] Z0K (((),((a0,()),())),((a1,()),()))
 | .b4 a0 a1=>spL Tryz.f279 [1,1,1,1,1,1,0,1,0] Z0K (((),((a0,()),())),((a1,()),()))
 | .b5 a0 a1=>spL Tryz.f279 [1,1,1,1,1,1,1,0,0] Z0K (((),((a0,()),())),((a1,()),()))
 | .b6 a0 a1=>spL Tryz.f279 [1,1,1,1,1,1,1,1,0,0] Z0K (((),((a0,()),())),((a1,()),()))
 | .b7 a0 a1=>spL Tryz.f279 [1,1,1,1,1,1,1,1,0,1,0] Z0K (((),((a0,()),())),((a1,()),()))
 | .b8 a0 a1=>spL Tryz.f279 [1,1,1,1,1,1,1,1,1,0,0] Z0K (((),((a0,()),())),((a1,()),()))
theorem ZxR:Z0g 279 Tryz.f279 (mc Z2s msN) hsN ZId 3 ZbI ZEi:=by intro p;cases p<;>kernel_rfl
theorem ZC9:Z0a Tryz.prog B0 279 ZH4:=okP ZxR (fun x=>.b0 x.1) (by kernel_rfl) Tryz.func279 (by kernel_rfl) (by kernel_rfl) (fun _=>rfl) (fun _=>rfl)
inductive ZfC where
 | b0 (a0:List Int) (a1 a2:Int)
 | b1 (a0:List Int) (a1 a2 a3:Int)
noncomputable def ZoP:ZfC->Tr U (Int⊕ZfC)
 | .b0 a0 a1 a2=>.leaf (.inr (.b1 a0 a1 (0:Int) (w64 (a2 - 1))))
 | .b1 a0 a1 a2 a3=>.br (decide (a3>=0)) ( .chk (decide (0<=(w64 (a1+a3))/\(w64 (a1+a3))<(↑a0.length:Int))) ( .bind 5 (a0[(Int.toNat (w64 (a1+a3)))]?) (fun(x1:Int)=>.leaf (.inr (.b1 a0 a1 (IntKind.wrap .u64 ((IntKind.wrap .u64 (a2*256))+(IntKind.wrap .u64 (x1)))) (w64 (a3 - 1))))))) ( .leaf (.inl a2))
noncomputable def Z3l (a0:List Int) (a1 a2:Int):Option Int:=ZO ZoP (.b0 a0 a1 a2)
noncomputable def ZK7:Mod U:=⟨[62,3,3],25,fun x=>Z3l x.1 x.2.1 x.2.2.1,by decide⟩
def Zp2:Lay:=⟨[0,1,7,8],[[.s 5 1],KP,KP,KP],[],⟨[OV 62,OV 3,OV 25,OV 3],[]⟩⟩
def ZKv:Nat->Option Lay
 | 3=>some Zp2
 | _=>none
noncomputable def ZH6:ZfC->Z08 U
 | .b0 a0 a1 a2=>Z0f Tryz.f345 [62,3,3] (a0,a1,a2,())
 | .b1 a0 a1 a2 a3=>spL Tryz.f345 [1,1,0,1,0,0,0,0] Zp2 (((a0,()),((a1,()),((a2,()),((a3,()),())))),())
theorem ZCq:Z0g 345 Tryz.f345 msN hsN ZKv 25 ZoP ZH6:=by intro p;cases p<;>kernel_rfl
theorem Zto:Z0a Tryz.prog B0 345 ZK7:=okP ZCq (fun x=>.b0 x.1 x.2.1 x.2.2.1) (by kernel_rfl) Tryz.func345 (by kernel_rfl) (by kernel_rfl) (fun _=>rfl) (fun _=>rfl)
inductive Z3j where
 | b0 (a0:List Int) (a1:Int)
noncomputable def Z7F:Z3j->Tr U (ZM⊕Z3j)
 | .b0 a0 a1=>.bind 25 (Z3l a0 a1 (1:Int)) (fun(x1:Int)=>.bind 25 (Z3l a0 (w64 (a1+1)) (2:Int)) (fun(x2:Int)=>.bind 25 (Z3l a0 (w64 (a1+3)) (2:Int)) (fun(x3:Int)=>.bind 25 (Z3l a0 (w64 (a1+5)) (2:Int)) (fun(x4:Int)=>.bind 25 (Z3l a0 (w64 (a1+7)) (2:Int)) (fun(x5:Int)=>.leaf (.inl (⟨(w64 (x1)),(w64 (x2)),(w64 (x3)),(w64 (x4)),(w64 (x5))⟩:ZM)))))))
noncomputable def Z7J (a0:List Int) (a1:Int):Option ZM:=ZO Z7F (.b0 a0 a1)
noncomputable def ZnH:Mod U:=⟨[62,3],24,fun x=>Z7J x.1 x.2.1,by decide⟩
noncomputable def Zm3:Z3j->Z08 U
 | .b0 a0 a1=>Z0f Tryz.f344 [62,3] (a0,a1,())
theorem Zjy:Z0g 344 Tryz.f344 (mc Zto msN) hsN AN 24 Z7F Zm3
 | .b0 ..=>by kernel_rfl
theorem Zlw:Z0a Tryz.prog B0 344 ZnH:=okP Zjy (fun x=>.b0 x.1 x.2.1) (by kernel_rfl) Tryz.func344 (by kernel_rfl) (by kernel_rfl) (fun _=>rfl) (fun _=>rfl)
inductive Z95 where
 | b0 (a0:Z4) (a1:List Int)
 | b1 (a0:List Int) (a1:Int) (a2 a3:Z4) (a4:Zg)
 | b2 (a0:List Int) (a1:Int) (a2 a3:Z4) (a4:Zg)
 | b3 (a0:List Int) (a1:Int) (a2 a3:Z4) (a4:Zg)
 | b4 (a0:List Int) (a1:Int) (a2 a3:Z4) (a4:Zg)
 | b5 (a0:List Int) (a1:Int) (a2 a3:Z4) (a4:Zg)
 | b6 (a0:List Int) (a1:Int) (a2 a3:Z4) (a4:Zg)
 | b7 (a0:List Int) (a1:Int) (a2 a3:Z4) (a4:Zg)
 | b8 (a0:List Int) (a1:Int) (a2 a3:Z4) (a4:Zg)
 | b9 (a0:List Int) (a1:Int) (a2 a3:Z4) (a4:Zg)
noncomputable def Z98:Z95->Tr U (Z4⊕Z95)
 | .b0 a0 a1=>.bind 262 (Z0k a0.Kind) (fun(x1:Zg)=>.br x1.Zt ( .bind 24 (Z7J a1 (1:Int)) (fun(x2:ZM)=>.leaf (.inr (.b1 a1 (10:Int) ({ a0 with Zt:=x2 }:Z4) Z0x x1)))) ( .leaf (.inr (.b1 a1 (1:Int) a0 Z0x x1))))
 | .b1 a0 a1 a2 a3 a4=>.br a4.Map ( .bind 25 (Z3l a0 a1 (5:Int)) (fun(x1:Int)=>.leaf (.inr (.b2 a0 (w64 (a1+5)) ({ a2 with Map:=x1 }:Z4) a3 a4)))) ( .leaf (.inr (.b2 a0 a1 a2 a3 a4)))
 | .b2 a0 a1 a2 a3 a4=>.br a4.ZQ ( .bind 25 (Z3l a0 a1 (2:Int)) (fun(x1:Int)=>.leaf (.inr (.b3 a0 a1 ({ a2 with ZQ:=(IntKind.wrap .u16 (x1)) }:Z4) a3 a4)))) ( .leaf (.inr (.b3 a0 a1 a2 a3 a4)))
 | .b3 a0 a1 a2 a3 a4=>.br a4.Z05 ( .chk (decide (0<=a1/\a1<(↑a0.length:Int))) ( .bind 5 (a0[(Int.toNat a1)]?) (fun(x1:Int)=>.leaf (.inr (.b4 a0 (w64 (a1+1)) ({ a2 with Z05:=(w64 (x1)) }:Z4) a3 a4))))) ( .leaf (.inr (.b4 a0 a1 a2 a3 a4)))
 | .b4 a0 a1 a2 a3 a4=>.br a4.Z13 ( .chk (decide (0<=a1/\a1<(↑a0.length:Int))) ( .bind 5 (a0[(Int.toNat a1)]?) (fun(x1:Int)=>.leaf (.inr (.b5 a0 a1 ({ a2 with Z13:=(w64 (x1)) }:Z4) a3 a4))))) ( .leaf (.inr (.b5 a0 a1 a2 a3 a4)))
 | .b5 a0 a1 a2 a3 a4=>.br a4.Z5R ( .bind 25 (Z3l a0 a1 (8:Int)) (fun(x1:Int)=>.leaf (.inr (.b6 a0 (w64 (a1+8)) ({ a2 with Z5R:=x1 }:Z4) a3 a4)))) ( .leaf (.inr (.b6 a0 a1 a2 a3 a4)))
 | .b6 a0 a1 a2 a3 a4=>.br a4.Mark ( .bind 25 (Z3l a0 a1 (8:Int)) (fun(x1:Int)=>.leaf (.inr (.b7 a0 a1 ({ a2 with Mark:=x1 }:Z4) a3 a4)))) ( .leaf (.inr (.b7 a0 a1 a2 a3 a4)))
 | .b7 a0 a1 a2 a3 a4=>.br a4.ZZ ( .bind 25 (Z3l a0 a1 (8:Int)) (fun(x1:Int)=>.leaf (.inr (.b8 a0 a1 ({ a2 with ZZ:=x1 }:Z4) a3 a4)))) ( .leaf (.inr (.b8 a0 a1 a2 a3 a4)))
 | .b8 a0 a1 a2 a3 a4=>.br a4.Version ( .chk (decide (0<=a1/\a1<(↑a0.length:Int))) ( .bind 5 (a0[(Int.toNat a1)]?) (fun(x1:Int)=>.leaf (.inr (.b9 a0 a1 ({ a2 with Version:=(w64 (x1)) }:Z4) a3 a4))))) ( .leaf (.inr (.b9 a0 a1 a2 a3 a4)))
 | .b9 a0 a1 a2 a3 a4=>.br a4.Length ( .chk (decide (0<=a1/\a1<(↑a0.length:Int))) ( .bind 5 (a0[(Int.toNat a1)]?) (fun(x1:Int)=>.leaf (.inl ({ a2 with Length:=(w64 (x1)) }:Z4))))) ( .leaf (.inl a2))
noncomputable def Zit (a0:Z4) (a1:List Int):Option Z4:=ZO Z98 (.b0 a0 a1)
noncomputable def ZCX:Mod U:=⟨[156,62],156,fun x=>Zit x.1 x.2.1,by decide⟩
def Z0i:Lay:=⟨[1,2,4,5,6],[[.s 5 1],KP,KP,KP,KP],[.var k1,.var k1,.var k3],⟨[OV 62,PQ 0,PQ 1,PQ 2,OV 3],[VA 156 15,VA 156 15,VA 262 11]⟩⟩
def ZBJ:Nat->Option Lay
 | 6=>some Z0i
 | 9=>some Z0i
 | 11=>some Z0i
 | 14=>some Z0i
 | 16=>some Z0i
 | 19=>some Z0i
 | 21=>some Z0i
 | 23=>some Z0i
 | 25=>some Z0i
 | _=>none
noncomputable def ZAY:Z95->Z08 U
 | .b0 a0 a1=>Z0f Tryz.f280 [156,62] (a0,a1,())
 | .b1 a0 a1 a2 a3 a4=>spL Tryz.f280 [1,1,1,1,0,0] Z0i (((a0,()),((),((),((),((a1,()),()))))),((a2,()),((a3,()),((a4,()),()))))
 | .b2 a0 a1 a2 a3 a4=>spL Tryz.f280 [1,1,1,1,1,0,0] Z0i (((a0,()),((),((),((),((a1,()),()))))),((a2,()),((a3,()),((a4,()),()))))
 | .b3 a0 a1 a2 a3 a4=>spL Tryz.f280 [1,1,1,1,1,1,0,0] Z0i (((a0,()),((),((),((),((a1,()),()))))),((a2,()),((a3,()),((a4,()),()))))
 | .b4 a0 a1 a2 a3 a4=>spL Tryz.f280 [1,1,1,1,1,1,1,0,0] Z0i (((a0,()),((),((),((),((a1,()),()))))),((a2,()),((a3,()),((a4,()),()))))
 | .b5 a0 a1 a2 a3 a4=>spL Tryz.f280 [1,1,1,1,1,1,1,1,0,0] Z0i (((a0,()),((),((),((),((a1,()),()))))),((a2,()),((a3,()),((a4,()),()))))
 | .b6 a0 a1 a2 a3 a4=>spL Tryz.f280 [1,1,1,1,1,1,1,1,1,0,0] Z0i (((a0,()),((),((),((),((a1,()),()))))),((a2,()),((a3,()),((a4,()),()))))
 | .b7 a0 a1 a2 a3 a4=>spL Tryz.f280 [1,1,1,1,1,1,1,1,1,1,0,0] Z0i (((a0,()),((),((),((),((a1,()),()))))),((a2,()),((a3,()),((a4,()),()))))
 | .b8 a0 a1 a2 a3 a4=>spL Tryz.f280 [1,1,1,1,1,1,1,1,1,1,1,0,0] Z0i (((a0,()),((),((),((),((a1,()),()))))),((a2,()),((a3,()),((a4,()),()))))
 | .b9 a0 a1 a2 a3 a4=>spL Tryz.f280 [1,1,1,1,1,1,1,1,1,1,1,1,0,0] Z0i (((a0,()),((),((),((),((a1,()),()))))),((a2,()),((a3,()),((a4,()),()))))
theorem ZwE:Z0g 280 Tryz.f280 (mc Z2s (mc Zlw (mc Zto msN))) hsN ZBJ 156 Z98 ZAY:=by intro p;cases p<;>kernel_rfl
theorem Zys:Z0a Tryz.prog B0 280 ZCX:=okP ZwE (fun x=>.b0 x.1 x.2.1) (by kernel_rfl) Tryz.func280 (by kernel_rfl) (by kernel_rfl) (fun _=>rfl) (fun _=>rfl)
inductive Z76 where
 | b0 (a0:List Int)
noncomputable def Zf7:Z76->Tr U ((Z4×Int)⊕Z76)
 | .b0 a0=>.br ((↑a0.length:Int)==0) ( .leaf (.inl (Z0x,3))) ( .chk (decide (0<=(0:Int)/\(0:Int)<(↑a0.length:Int))) ( .bind 5 (a0[(Int.toNat 0)]?) (fun(x1:Int)=>.bind 262 (Z0k (w64 (x1))) (fun(x2:Zg)=>.br (!x2.Z74) ( .leaf (.inl (Z0x,12))) ( .bind 3 (ZfY (w64 (x1))) (fun(x3:Int)=>.br (decide ((↑a0.length:Int)<x3)) ( .leaf (.inl (Z0x,3))) ( .bind 3 (ZfY (w64 (x1))) (fun(x4:Int)=>.br (decide ((↑a0.length:Int)>x4)) ( .leaf (.inl (Z0x,2))) ( .bind 156 (Zit (⟨(w64 (x1)),Zr,0,0,0,0,0,0,0,0,0⟩:Z4) a0) (fun(x5:Z4)=>.bind 45 (Z93 x5) (fun(x6:Int)=>.br (x6 != 0) ( .leaf (.inl (Z0x,x6))) ( .leaf (.inl (x5,0))))))))))))))
noncomputable def Zaf (a0:List Int):Option (Z4×Int):=ZO Zf7 (.b0 a0)
noncomputable def Zxa:Mod U:=⟨[62],231,fun x=>Zaf x.1,by decide⟩
noncomputable def Zup:Z76->Z08 U
 | .b0 a0=>Z0f Tryz.f214 [62] (a0,())
theorem ZrO:Z0g 214 Tryz.f214 (mc Zf0 (mc Z2s (mc ZC9 (mc Zys msN)))) hsN AN 231 Zf7 Zup
 | .b0 ..=>by kernel_rfl
theorem Zj6:Z0a Tryz.prog B0 214 Zxa:=okP ZrO (fun x=>.b0 x.1) (by kernel_rfl) Tryz.func214 (by kernel_rfl) (by kernel_rfl) (fun _=>rfl) (fun _=>rfl)
inductive Zbd where
 | b0 (a0:Z7) (a1:Z4)
 | b1 (a0:Z7) (a1:Z4) (a2:Z7)
 | b2 (a0:Z7) (a1:Z4) (a2:Z7)
 | b3 (a0 a1:Z7)
noncomputable def Zmz:Zbd->Tr U ((Z7×(List Z5))⊕Zbd)
 | .b0 a0 a1=>.br (a0.Z1n==0) ( .br (a0.Own==2) ( .br (a1.Kind==2) ( .leaf (.inr (.b1 a0 a1 ZI))) ( .leaf (.inr (.b2 a0 a1 ZI)))) ( .leaf (.inr (.b2 a0 a1 ZI)))) ( .leaf (.inr (.b2 a0 a1 ZI)))
 | .b1 a0 a1 a2=>.leaf (.inr (.b2 ({ a0 with Z1n:=22 }:Z7) a1 a2))
 | .b2 a0 a1 a2=>.bind 4 (Z2y a1.Kind) (fun(x1:Bool)=>.br x1 ( .br (a0.Own==a1.Kind) ( .leaf (.inr (.b3 a0 a2))) ( .chk (([]:List Z5).length==0) ( .leaf (.inl (a0,([]:List Z5)))))) ( .chk (([]:List Z5).length==0) ( .leaf (.inl (a0,([]:List Z5))))))
 | .b3 a0 a1=>.chk (([]:List Z5).length==0) ( .leaf (.inl (({ a0 with Told:=true }:Z7),([]:List Z5))))
noncomputable def ZmM (a0:Z7) (a1:Z4):Option (Z7×(List Z5)):=ZO Zmz (.b0 a0 a1)
noncomputable def ZGx:Mod U:=⟨[39,156],233,fun x=>ZmM x.1 x.2.1,by decide⟩
def Zaq:Lay:=⟨[2,3,4],[KP,KP,KP],[.var k0,.var k1,.var k0],⟨[PQ 0,PQ 1,PQ 2],[VA 39 20,VA 156 15,VA 39 20]⟩⟩
def Zn0:Lay:=⟨[2,4],[KP,KP],[.var k0,.var k0],⟨[PQ 0,PQ 1],[VA 39 20,VA 39 20]⟩⟩
def ZHg:Nat->Option Lay
 | 2=>some Zaq
 | 3=>some Zaq
 | 4=>some Zn0
 | _=>none
noncomputable def ZDy:Zbd->Z08 U
 | .b0 a0 a1=>Z0f Tryz.f215 [39,156] (a0,a1,())
 | .b1 a0 a1 a2=>spL Tryz.f215 [1,0,1,0] Zaq (((),((),((),()))),((a0,()),((a1,()),((a2,()),()))))
 | .b2 a0 a1 a2=>spL Tryz.f215 [1,1,0,0] Zaq (((),((),((),()))),((a0,()),((a1,()),((a2,()),()))))
 | .b3 a0 a1=>spL Tryz.f215 [1,1,0,1,0] Zn0 (((),((),())),((a0,()),((a1,()),())))
theorem Zyx:Z0g 215 Tryz.f215 (mc Z4Q msN) hsN ZHg 233 Zmz ZDy:=by intro p;cases p<;>kernel_rfl
theorem ZCj:Z0a Tryz.prog B0 215 ZGx:=okP Zyx (fun x=>.b0 x.1 x.2.1) (by kernel_rfl) Tryz.func215 (by kernel_rfl) (by kernel_rfl) (fun _=>rfl) (fun _=>rfl)
inductive Z99 where
 | b0 (a0:List Z5) (a1:Int)
 | b1 (a0:List Z5) (a1:Int) (a2:List Z5) (a3:Int)
noncomputable def Zhd:Z99->Tr U ((List Z5)⊕Z99)
 | .b0 a0 a1=>.chk (([]:List Z5).length==0) ( .leaf (.inr (.b1 a0 a1 ([]:List Z5) (0:Int))))
 | .b1 a0 a1 a2 a3=>.br (decide (a3<(↑a0.length:Int))) ( .chk (decide (0<=a3/\a3<(↑a0.length:Int))) ( .bind 148 (a0[(Int.toNat a3)]?) (fun(x1:Z5)=>.chk (([({ x1 with Event:=a1 }:Z5)]).length==1) ( .chk (a2.length==a2.length) ( .chk (decide ((a2.length+([({ x1 with Event:=a1 }:Z5)]).length)*160<=lim)&&decide (a2.length+([({ x1 with Event:=a1 }:Z5)]).length<=maxLen)) ( .chk ((a2++[({ x1 with Event:=a1 }:Z5)]).length==(a2++[({ x1 with Event:=a1 }:Z5)]).length) ( .leaf (.inr (.b1 a0 a1 (a2++[({ x1 with Event:=a1 }:Z5)]) (w64 (a3+1))))))))))) ( .chk (a2.length==a2.length) ( .leaf (.inl a2)))
noncomputable def ZcE (a0:List Z5) (a1:Int):Option (List Z5):=ZO Zhd (.b0 a0 a1)
noncomputable def ZC2:Mod U:=⟨[77,30],77,fun x=>ZcE x.1 x.2.1,by decide⟩
def ZjV:Lay:=⟨[0,1,5,6],[[.s 148 18],KP,[.own 148 18],KP],[.row true],⟨[OV 77,OV 30,.one (.own 148 0),OV 3],[.row 148 true]⟩⟩
def ZDb:Nat->Option Lay
 | 3=>some ZjV
 | _=>none
noncomputable def Zyc:Z99->Z08 U
 | .b0 a0 a1=>Z0f Tryz.f216 [77,30] (a0,a1,())
 | .b1 a0 a1 a2 a3=>spL Tryz.f216 [1,1,0,1,0,0,0,0] ZjV (((a0,()),((a1,()),((),((a3,()),())))),(a2,()))
theorem ZuT:Z0g 216 Tryz.f216 msN hsN ZDb 77 Zhd Zyc:=by intro p;cases p<;>kernel_rfl
theorem Zn1:Z0a Tryz.prog B0 216 ZC2:=okP ZuT (fun x=>.b0 x.1 x.2.1) (by kernel_rfl) Tryz.func216 (by kernel_rfl) (by kernel_rfl) (fun _=>rfl) (fun _=>rfl)
inductive Z9v where
 | b0 (a0:Z9) (a1:Zd)
 | b1 (a0:Z9) (a1:Zd) (a2:Z9)
 | b2 (a0:List Z5) (a1 a2:Z9)
noncomputable def ZhT:Z9v->Tr U ((Z9×(List Z5))⊕Z9v)
 | .b0 a0 a1=>.bind 4 (Z6G a1) (fun(x1:Bool)=>.br x1 ( .chk (([]:List Z5).length==0) ( .leaf (.inl (a0,([]:List Z5))))) ( .br a0.Z0h.ZP1 ( .bind 41 (Zg0 a0.Z0h true false) (fun(x2:Zv)=>.leaf (.inr (.b1 ({ a0 with Z0h:=x2 }:Z9) a1 ZH)))) ( .leaf (.inr (.b1 a0 a1 ZH)))))
 | .b1 a0 a1 a2=>.br (a1.Z5f != 3) ( .chk (([]:List Z5).length==0) ( .leaf (.inl (a0,([]:List Z5))))) ( .bind 231 (Zaf a1.Payload) (fun(x1:Z4×Int)=>.bind 233 (ZmM a0.Ze x1.1) (fun(x2:Z7×(List Z5))=>.br (x1.1.Kind==5) ( .bind 41 (Zbz a0.Z0h true a0.Z0h.ZOj) (fun(x3:Zv)=>.leaf (.inr (.b2 x2.2 ({ a0 with Ze:=x2.1,Z0h:=x3 }:Z9) a2)))) ( .leaf (.inr (.b2 x2.2 ({ a0 with Ze:=x2.1 }:Z9) a2))))))
 | .b2 a0 a1 a2=>.bind 77 (ZcE a0 a1.Event) (fun(x1:List Z5)=>.leaf (.inl (a1,x1)))
noncomputable def Zim (a0:Z9) (a1:Zd):Option (Z9×(List Z5)):=ZO ZhT (.b0 a0 a1)
noncomputable def ZDk:Mod U:=⟨[44,68],78,fun x=>Zim x.1 x.2.1,by decide⟩
def ZkN:Lay:=⟨[2,3,4],[KP,KP,KP],[.var k2,.var [.keep,.s 5 1],.var k2],⟨[PQ 0,PQ 1,PQ 2],[VA 44 66,VA 68 2,VA 44 66]⟩⟩
def ZjL:Lay:=⟨[2,4,9],[KP,KP,[.s 148 18]],[.var k2,.var k2],⟨[PQ 0,PQ 1,OV 77],[VA 44 66,VA 44 66]⟩⟩
def ZDu:Nat->Option Lay
 | 5=>some ZkN
 | 12=>some ZjL
 | _=>none
noncomputable def Zzs:Z9v->Z08 U
 | .b0 a0 a1=>Z0f Tryz.f119 [44,68] (a0,a1,())
 | .b1 a0 a1 a2=>spL Tryz.f119 [1,1,1,0,0] ZkN (((),((),((),()))),((a0,()),((a1,()),((a2,()),()))))
 | .b2 a0 a1 a2=>spL Tryz.f119 [1,1,1,1,1,1,1,1,0] ZjL (((),((),((a0,()),()))),((a1,()),((a2,()),())))
theorem ZwO:Z0g 119 Tryz.f119 (mc Zab (mc ZoC (mc ZiK (mc Zj6 (mc ZCj (mc Zn1 msN)))))) hsN ZDu 78 ZhT Zzs:=by intro p;cases p<;>kernel_rfl
theorem Zyq:Z0a Tryz.prog B0 119 ZDk:=okP ZwO (fun x=>.b0 x.1 x.2.1) (by kernel_rfl) Tryz.func119 (by kernel_rfl) (by kernel_rfl) (fun _=>rfl) (fun _=>rfl)
inductive Z2n where
 | b0 (a0:Z7) (a1:Z4) (a2 a3:Int)
 | b1 (a0 a1:Z7)
noncomputable def Z5k:Z2n->Tr U (Z7⊕Z2n)
 | .b0 a0 a1 a2 a3=>.br (a0.Z1z != 1) ( .leaf (.inl a0)) ( .bind 138 (Z7m a1) (fun(x1:Z8)=>.bind 269 (Zbr a0.Zo a2 x1) (fun(x2:(List Z8)×Int)=>.br (x2.2==18) ( .leaf (.inl ({ a0 with Z1n:=40 }:Z7))) ( .br (x2.2 != 0) ( .leaf (.inl ({ a0 with Z1n:=42 }:Z7))) ( .br (a1.Kind==0) ( .br (a0.Own==15) ( .leaf (.inr (.b1 ({ a0 with Other:=a1.Kind,Z0C:=a3,Zo:=x2.1 }:Z7) ZI))) ( .leaf (.inl ({ a0 with Other:=a1.Kind,Z0C:=a3,Zo:=x2.1 }:Z7)))) ( .leaf (.inl ({ a0 with Other:=a1.Kind,Z0C:=a3,Zo:=x2.1 }:Z7))))))))
 | .b1 a0 a1=>.leaf (.inl ({ a0 with Own:=-1 }:Z7))
noncomputable def Z5Q (a0:Z7) (a1:Z4) (a2 a3:Int):Option Z7:=ZO Z5k (.b0 a0 a1 a2 a3)
noncomputable def ZkT:Mod U:=⟨[39,156,30,3],39,fun x=>Z5Q x.1 x.2.1 x.2.2.1 x.2.2.2.1,by decide⟩
def Z7Z:Lay:=⟨[4,8],[KP,KP],[.var k0,.var k0],⟨[PQ 0,PQ 1],[VA 39 20,VA 39 20]⟩⟩
def Zkc:Nat->Option Lay
 | 14=>some Z7Z
 | _=>none
noncomputable def Zhf:Z2n->Z08 U
 | .b0 a0 a1 a2 a3=>Z0f Tryz.f281 [39,156,30,3] (a0,a1,a2,a3,())
 | .b1 a0 a1=>spL Tryz.f281 [1,1,1,1,1,1,1,1,0,1,0] Z7Z (((),((),())),((a0,()),((a1,()),())))
theorem Zgg:Z0g 281 Tryz.f281 (mc ZtS (mc ZkX msN)) hsN Zkc 39 Z5k Zhf:=by intro p;cases p<;>kernel_rfl
theorem Zi3:Z0a Tryz.prog B0 281 ZkT:=okP Zgg (fun x=>.b0 x.1 x.2.1 x.2.2.1 x.2.2.2.1) (by kernel_rfl) Tryz.func281 (by kernel_rfl) (by kernel_rfl) (fun _=>rfl) (fun _=>rfl)
inductive Zbo where
 | b0 (a0 a1:Int)
noncomputable def ZmR:Zbo->Tr U ((List Z5)⊕Zbo)
 | .b0 a0 a1=>.chk (([(⟨a0,0,(⟨0,[]⟩:Zd),Z0A,a1,Zr⟩:Z5)]).length==1) ( .leaf (.inl ([(⟨a0,0,(⟨0,[]⟩:Zd),Z0A,a1,Zr⟩:Z5)])))
noncomputable def Z2g (a0 a1:Int):Option (List Z5):=ZO ZmR (.b0 a0 a1)
noncomputable def ZHH:Mod U:=⟨[3,25],77,fun x=>Z2g x.1 x.2.1,by decide⟩
noncomputable def ZDx:Zbo->Z08 U
 | .b0 a0 a1=>Z0f Tryz.f346 [3,25] (a0,a1,())
theorem Zxc:Z0g 346 Tryz.f346 msN hsN AN 77 ZmR ZDx
 | .b0 ..=>by kernel_rfl
theorem ZcQ:Z0a Tryz.prog B0 346 ZHH:=okP Zxc (fun x=>.b0 x.1 x.2.1) (by kernel_rfl) Tryz.func346 (by kernel_rfl) (by kernel_rfl) (fun _=>rfl) (fun _=>rfl)
inductive Z2S where
 | b0 (a0:Z7) (a1:Z4) (a2:Int)
 | b1 (a0:Int) (a1:Z7) (a2:Z4) (a3:Z7)
 | b2 (a0:Bool) (a1:Z7) (a2:Z4) (a3:Z7)
 | b3 (a0:Z7) (a1:Z4) (a2:Z7)
 | b4 (a0:Bool) (a1:Z7) (a2:Z4) (a3:Z7)
 | b5 (a0 a1:Z7)
 | b6 (a0 a1:Z7)
 | b7 (a0:Bool) (a1:Z7) (a2:Z4) (a3:Z7)
 | b8 (a0:Bool) (a1 a2:Z7)
noncomputable def Z68:Z2S->Tr U ((Z7×(List Z4)×(List Z5))⊕Z2S)
 | .b0 a0 a1 a2=>.br (a1.Kind==3) ( .br (!(a0.Z1z==0)) ( .br (a0.Z29==0) ( .leaf (.inr (.b1 a2 a0 a1 ZI))) ( .leaf (.inr (.b2 (a0.Z1z==0) a0 a1 ZI)))) ( .leaf (.inr (.b2 (a0.Z1z==0) a0 a1 ZI)))) ( .leaf (.inr (.b2 (a0.Z1z==0) a0 a1 ZI)))
 | .b1 a0 a1 a2 a3=>.bind 77 (Z2g (8:Int) a2.Mark) (fun(x1:List Z5)=>.chk (([]:List Z4).length==0) ( .leaf (.inl (({ a1 with Other:=3,Z0C:=a0,Zpv:=a2.Z5R,Mark:=a2.Mark,Z29:=1 }:Z7),([]:List Z4),x1))))
 | .b2 a0 a1 a2 a3=>.br (a2.Kind==4) ( .br a0 ( .br (a1.Z29==1) ( .leaf (.inr (.b3 a1 a2 a3))) ( .leaf (.inr (.b4 a0 a1 a2 a3)))) ( .leaf (.inr (.b4 a0 a1 a2 a3)))) ( .leaf (.inr (.b4 a0 a1 a2 a3)))
 | .b3 a0 a1 a2=>.leaf (.inr (.b5 ({ a0 with Zpv:=a1.Z5R,Z29:=2 }:Z7) a2))
 | .b4 a0 a1 a2 a3=>.br (a2.Kind==5) ( .br a0 ( .br (a1.Z29==2) ( .leaf (.inr (.b6 a1 a3))) ( .leaf (.inr (.b7 a0 a1 a2 a3)))) ( .leaf (.inr (.b7 a0 a1 a2 a3)))) ( .leaf (.inr (.b7 a0 a1 a2 a3)))
 | .b5 a0 a1=>.chk (([]:List Z4).length==0) ( .chk (([]:List Z5).length==0) ( .leaf (.inl (a0,([]:List Z4),([]:List Z5)))))
 | .b6 a0 a1=>.bind 36 (Z3X (⟨6,Zr,0,0,0,0,0,0,0,0,0⟩:Z4)) (fun(x1:List Z4)=>.chk (([]:List Z5).length==0) ( .leaf (.inl (({ a0 with Z29:=3 }:Z7),x1,([]:List Z5)))))
 | .b7 a0 a1 a2 a3=>.br (a2.Kind==6) ( .br (a1.Z29==3) ( .leaf (.inr (.b8 a0 a1 a3))) ( .leaf (.inr (.b5 a1 a3)))) ( .leaf (.inr (.b5 a1 a3)))
 | .b8 a0 a1 a2=>.br a0 ( .bind 77 (Z2g (3:Int) (0:Int)) (fun(x1:List Z5)=>.chk (([]:List Z4).length==0) ( .leaf (.inl (({ a1 with Own:=-1,Z29:=4 }:Z7),([]:List Z4),x1))))) ( .bind 36 (Z3X (⟨6,Zr,0,0,0,0,0,0,0,0,0⟩:Z4)) (fun(x2:List Z4)=>.bind 77 (Z2g (3:Int) (0:Int)) (fun(x3:List Z5)=>.leaf (.inl (({ a1 with Other:=-1,Z29:=4 }:Z7),x2,x3)))))
noncomputable def Z6C (a0:Z7) (a1:Z4) (a2:Int):Option (Z7×(List Z4)×(List Z5)):=ZO Z68 (.b0 a0 a1 a2)
noncomputable def ZlE:Mod U:=⟨[39,156,3],237,fun x=>Z6C x.1 x.2.1 x.2.2.1,by decide⟩
def Z9z:Lay:=⟨[2,3,4,6],[KP,KP,KP,KP],[.var k0,.var k1,.var k0],⟨[OV 3,PQ 0,PQ 1,PQ 2],[VA 39 20,VA 156 15,VA 39 20]⟩⟩
def Z1q:Lay:=⟨[3,4,6,9],[KP,KP,KP,KP],[.var k0,.var k1,.var k0],⟨[PQ 0,PQ 1,PQ 2,OV 4],[VA 39 20,VA 156 15,VA 39 20]⟩⟩
def Z9P:Lay:=⟨[3,4,6],[KP,KP,KP],[.var k0,.var k1,.var k0],⟨[PQ 0,PQ 1,PQ 2],[VA 39 20,VA 156 15,VA 39 20]⟩⟩
def Z39:Lay:=⟨[3,6],[KP,KP],[.var k0,.var k0],⟨[PQ 0,PQ 1],[VA 39 20,VA 39 20]⟩⟩
def Z9d:Lay:=⟨[3,6,9],[KP,KP,KP],[.var k0,.var k0],⟨[PQ 0,PQ 1,OV 4],[VA 39 20,VA 39 20]⟩⟩
def Zlp:Nat->Option Lay
 | 3=>some Z9z
 | 9=>some Z1q
 | 10=>some Z9P
 | 12=>some Z1q
 | 22=>some Z39
 | 13=>some Z39
 | 15=>some Z1q
 | 16=>some Z9d
 | _=>none
noncomputable def ZiW:Z2S->Z08 U
 | .b0 a0 a1 a2=>Z0f Tryz.f282 [39,156,3] (a0,a1,a2,())
 | .b1 a0 a1 a2 a3=>spL Tryz.f282 [1,1,0,0,1,0,0] Z9z (((a0,()),((),((),((),())))),((a1,()),((a2,()),((a3,()),()))))
 | .b2 a0 a1 a2 a3=>spL Tryz.f282 [1,1,0,0,1,1,0] Z1q (((),((),((),((a0,()),())))),((a1,()),((a2,()),((a3,()),()))))
 | .b3 a0 a1 a2=>spL Tryz.f282 [1,1,0,0,1,1,1,0,0] Z9P (((),((),((),()))),((a0,()),((a1,()),((a2,()),()))))
 | .b4 a0 a1 a2 a3=>spL Tryz.f282 [1,1,0,0,1,1,1,1,0] Z1q (((),((),((),((a0,()),())))),((a1,()),((a2,()),((a3,()),()))))
 | .b5 a0 a1=>spL Tryz.f282 [1,1,1,0] Z39 (((),((),())),((a0,()),((a1,()),())))
 | .b6 a0 a1=>spL Tryz.f282 [1,1,0,0,1,1,1,1,1,0,0] Z39 (((),((),())),((a0,()),((a1,()),())))
 | .b7 a0 a1 a2 a3=>spL Tryz.f282 [1,1,0,0,1,1,1,1,1,1,0] Z1q (((),((),((),((a0,()),())))),((a1,()),((a2,()),((a3,()),()))))
 | .b8 a0 a1 a2=>spL Tryz.f282 [1,1,0,0,1,1,1,1,1,1,1,0,0] Z9d (((),((),((a0,()),()))),((a1,()),((a2,()),())))
theorem Zi9:Z0g 282 Tryz.f282 (mc Z8v (mc ZcQ msN)) hsN Zlp 237 Z68 ZiW:=by intro p;cases p<;>kernel_rfl
theorem ZjE:Z0a Tryz.prog B0 282 ZlE:=okP Zi9 (fun x=>.b0 x.1 x.2.1 x.2.2.1) (by kernel_rfl) Tryz.func282 (by kernel_rfl) (by kernel_rfl) (fun _=>rfl) (fun _=>rfl)
inductive Z2i where
 | b0 (a0:Z7) (a1:Z4)
 | b1 (a0 a1:Z7)
 | b2 (a0:Z7) (a1:Z4) (a2:Z7)
 | b3 (a0:Z7) (a1:Z4) (a2:Z7)
noncomputable def Z5t:Z2i->Tr U ((Z7×(List Z4)×(List Z5))⊕Z2i)
 | .b0 a0 a1=>.br (a0.Own != a1.Z13) ( .leaf (.inr (.b1 a0 ZI))) ( .bind 4 (Z2y a0.Own) (fun(x1:Bool)=>.br x1 ( .leaf (.inr (.b1 a0 ZI))) ( .br (a0.Own==2) ( .leaf (.inr (.b1 a0 ZI))) ( .leaf (.inr (.b2 a0 a1 ZI))))))
 | .b1 a0 a1=>.chk (([]:List Z4).length==0) ( .chk (([]:List Z5).length==0) ( .leaf (.inl (a0,([]:List Z4),([]:List Z5)))))
 | .b2 a0 a1 a2=>.br (a0.Own==3) ( .leaf (.inr (.b3 ({ a0 with Z29:=0 }:Z7) a1 a2))) ( .leaf (.inr (.b3 a0 a1 a2)))
 | .b3 a0 a1 a2=>.bind 77 (Z2g (9:Int) (IntKind.wrap .u64 (a1.Z13))) (fun(x1:List Z5)=>.chk (([]:List Z4).length==0) ( .leaf (.inl (({ a0 with Own:=-1 }:Z7),([]:List Z4),x1))))
noncomputable def Z5e (a0:Z7) (a1:Z4):Option (Z7×(List Z4)×(List Z5)):=ZO Z5t (.b0 a0 a1)
noncomputable def Zj1:Mod U:=⟨[39,156],237,fun x=>Z5e x.1 x.2.1,by decide⟩
def Z7X:Lay:=⟨[2,4],[KP,KP],[.var k0,.var k0],⟨[PQ 0,PQ 1],[VA 39 20,VA 39 20]⟩⟩
def Z2G:Lay:=⟨[2,3,4],[KP,KP,KP],[.var k0,.var k1,.var k0],⟨[PQ 0,PQ 1,PQ 2],[VA 39 20,VA 156 15,VA 39 20]⟩⟩
def ZkA:Nat->Option Lay
 | 2=>some Z7X
 | 3=>some Z2G
 | 5=>some Z2G
 | _=>none
noncomputable def Zhp:Z2i->Z08 U
 | .b0 a0 a1=>Z0f Tryz.f283 [39,156] (a0,a1,())
 | .b1 a0 a1=>spL Tryz.f283 [1,0,1,0,0] Z7X (((),((),())),((a0,()),((a1,()),())))
 | .b2 a0 a1 a2=>spL Tryz.f283 [1,1,0,0] Z2G (((),((),((),()))),((a0,()),((a1,()),((a2,()),()))))
 | .b3 a0 a1 a2=>spL Tryz.f283 [1,1,1,0] Z2G (((),((),((),()))),((a0,()),((a1,()),((a2,()),()))))
theorem Zgl:Z0g 283 Tryz.f283 (mc Z4Q (mc ZcQ msN)) hsN ZkA 237 Z5t Zhp:=by intro p;cases p<;>kernel_rfl
theorem Zi8:Z0a Tryz.prog B0 283 Zj1:=okP Zgl (fun x=>.b0 x.1 x.2.1) (by kernel_rfl) Tryz.func283 (by kernel_rfl) (by kernel_rfl) (fun _=>rfl) (fun _=>rfl)
inductive Z2l where
 | b0 (a0:Z7) (a1:Z4) (a2:Int)
noncomputable def Z5E:Z2l->Tr U ((Z7×(List Z4)×(List Z5))⊕Z2l)
 | .b0 a0 a1 a2=>.br (a0.Z1z != 0) ( .chk (([]:List Z4).length==0) ( .chk (([]:List Z5).length==0) ( .leaf (.inl (a0,([]:List Z4),([]:List Z5)))))) ( .bind 4 (Z2y a0.Own) (fun(x1:Bool)=>.br x1 ( .bind 36 (Z3X (⟨13,Zr,0,0,42,15,0,0,0,0,0⟩:Z4)) (fun(x2:List Z4)=>.chk (([]:List Z5).length==0) ( .leaf (.inl (a0,x2,([]:List Z5)))))) ( .chk (([]:List Z4).length==0) ( .chk (([(⟨12,0,(⟨0,[]⟩:Zd),Z0A,0,a1.Zt⟩:Z5)]).length==1) ( .leaf (.inl (({ a0 with Other:=15,Z0C:=a2 }:Z7),([]:List Z4),[(⟨12,0,(⟨0,[]⟩:Zd),Z0A,0,a1.Zt⟩:Z5)])))))))
noncomputable def Z5D (a0:Z7) (a1:Z4) (a2:Int):Option (Z7×(List Z4)×(List Z5)):=ZO Z5E (.b0 a0 a1 a2)
noncomputable def Zkl:Mod U:=⟨[39,156,3],237,fun x=>Z5D x.1 x.2.1 x.2.2.1,by decide⟩
noncomputable def Zic:Z2l->Z08 U
 | .b0 a0 a1 a2=>Z0f Tryz.f284 [39,156,3] (a0,a1,a2,())
theorem Zgu:Z0g 284 Tryz.f284 (mc Z4Q (mc Z8v msN)) hsN AN 237 Z5E Zic
 | .b0 ..=>by kernel_rfl
theorem Zi2:Z0a Tryz.prog B0 284 Zkl:=okP Zgu (fun x=>.b0 x.1 x.2.1 x.2.2.1) (by kernel_rfl) Tryz.func284 (by kernel_rfl) (by kernel_rfl) (fun _=>rfl) (fun _=>rfl)
inductive Z2w where
 | b0 (a0:Z7) (a1:Z4)
 | b1 (a0 a1:Z7)
 | b2 (a0:Z7) (a1:Z4) (a2:Z7)
noncomputable def Z5H:Z2w->Tr U ((Z7×(List Z4)×(List Z5))⊕Z2w)
 | .b0 a0 a1=>.br (a1.Kind==21) ( .br (a0.Own != 20) ( .leaf (.inr (.b1 a0 ZI))) ( .leaf (.inr (.b2 a0 a1 ZI)))) ( .leaf (.inr (.b2 a0 a1 ZI)))
 | .b1 a0 a1=>.chk (([]:List Z4).length==0) ( .chk (([]:List Z5).length==0) ( .leaf (.inl (a0,([]:List Z4),([]:List Z5)))))
 | .b2 a0 a1 a2=>.br (a1.Kind==21) ( .bind 77 (Z2g (11:Int) (IntKind.wrap .u64 ((if a0.Limit<a1.Length then a0.Limit else a1.Length)))) (fun(x1:List Z5)=>.chk (([]:List Z4).length==0) ( .leaf (.inl (({ a0 with Own:=-1,Length:=(if a0.Limit<a1.Length then a0.Limit else a1.Length) }:Z7),([]:List Z4),x1))))) ( .bind 36 (Z3X (⟨21,Zr,0,0,0,0,0,0,0,0,a0.Limit⟩:Z4)) (fun(x2:List Z4)=>.bind 77 (Z2g (11:Int) (IntKind.wrap .u64 ((if a0.Limit<a1.Length then a0.Limit else a1.Length)))) (fun(x3:List Z5)=>.leaf (.inl (({ a0 with Length:=(if a0.Limit<a1.Length then a0.Limit else a1.Length) }:Z7),x2,x3)))))
noncomputable def Z5a (a0:Z7) (a1:Z4):Option (Z7×(List Z4)×(List Z5)):=ZO Z5H (.b0 a0 a1)
noncomputable def ZjN:Mod U:=⟨[39,156],237,fun x=>Z5a x.1 x.2.1,by decide⟩
def Z81:Lay:=⟨[2,4],[KP,KP],[.var k0,.var k0],⟨[PQ 0,PQ 1],[VA 39 20,VA 39 20]⟩⟩
def Z7P:Lay:=⟨[2,3,4],[KP,KP,KP],[.var k0,.var k1,.var k0],⟨[PQ 0,PQ 1,PQ 2],[VA 39 20,VA 156 15,VA 39 20]⟩⟩
def Zkq:Nat->Option Lay
 | 2=>some Z81
 | 3=>some Z7P
 | _=>none
noncomputable def ZhY:Z2w->Z08 U
 | .b0 a0 a1=>Z0f Tryz.f285 [39,156] (a0,a1,())
 | .b1 a0 a1=>spL Tryz.f285 [1,0,1,0,0] Z81 (((),((),())),((a0,()),((a1,()),())))
 | .b2 a0 a1 a2=>spL Tryz.f285 [1,1,0] Z7P (((),((),((),()))),((a0,()),((a1,()),((a2,()),()))))
theorem Zgk:Z0g 285 Tryz.f285 (mc Z8v (mc ZcQ msN)) hsN Zkq 237 Z5H ZhY:=by intro p;cases p<;>kernel_rfl
theorem Zia:Z0a Tryz.prog B0 285 ZjN:=okP Zgk (fun x=>.b0 x.1 x.2.1) (by kernel_rfl) Tryz.func285 (by kernel_rfl) (by kernel_rfl) (fun _=>rfl) (fun _=>rfl)
inductive Z3d where
 | b0 (a0:Z7) (a1:Z4)
 | b1 (a0:Z7) (a1:Z4) (a2:Z7)
 | b2 (a0:Z7) (a1:Z4) (a2:Z7)
 | b3 (a0 a1:Z7)
 | b4 (a0 a1:Z7)
noncomputable def Z7C:Z3d->Tr U ((Z7×(List Z4)×(List Z5))⊕Z3d)
 | .b0 a0 a1=>.br (a1.Kind==8) ( .bind 36 (Z3X (⟨9,Zr,0,0,0,0,0,0,a0.ZZ,0,0⟩:Z4)) (fun(x1:List Z4)=>.bind 77 (Z2g (5:Int) (bits .and .u64 a0.ZZ a1.ZZ)) (fun(x2:List Z5)=>.leaf (.inl (({ a0 with Z4Y:=(bits .and .u64 a0.ZZ a1.ZZ),Z74:=true }:Z7),x1,x2))))) ( .br (a1.Kind==9) ( .br (a0.Own==8) ( .leaf (.inr (.b1 a0 a1 ZI))) ( .leaf (.inr (.b2 a0 a1 ZI)))) ( .leaf (.inr (.b2 a0 a1 ZI))))
 | .b1 a0 a1 a2=>.bind 77 (Z2g (5:Int) (bits .and .u64 a0.ZZ a1.ZZ)) (fun(x1:List Z5)=>.chk (([]:List Z4).length==0) ( .leaf (.inl (({ a0 with Own:=-1,Z4Y:=(bits .and .u64 a0.ZZ a1.ZZ),Z74:=true }:Z7),([]:List Z4),x1))))
 | .b2 a0 a1 a2=>.br (a1.Kind==12) ( .bind 77 (Z2g (6:Int) (IntKind.wrap .u64 (a1.Version))) (fun(x1:List Z5)=>.br (a0.Own==12) ( .chk (([]:List Z4).length==0) ( .leaf (.inl (({ a0 with Own:=-1,Version:=a1.Version }:Z7),([]:List Z4),x1)))) ( .br a0.Z0q ( .chk (([]:List Z4).length==0) ( .leaf (.inl (({ a0 with Version:=a1.Version }:Z7),([]:List Z4),x1)))) ( .bind 36 (Z3X (⟨12,Zr,0,0,0,0,0,0,0,11,0⟩:Z4)) (fun(x2:List Z4)=>.leaf (.inl (({ a0 with Z0q:=true,Version:=a1.Version }:Z7),x2,x1))))))) ( .br (a1.Kind==18) ( .bind 36 (Z3X (⟨19,Zr,0,0,0,0,0,0,0,0,0⟩:Z4)) (fun(x3:List Z4)=>.chk (([]:List Z5).length==0) ( .leaf (.inl (a0,x3,([]:List Z5)))))) ( .br (a1.Kind==19) ( .br (a0.Own==18) ( .leaf (.inr (.b3 a0 a2))) ( .leaf (.inr (.b4 a0 a2)))) ( .leaf (.inr (.b4 a0 a2)))))
 | .b3 a0 a1=>.bind 77 (Z2g (7:Int) (0:Int)) (fun(x1:List Z5)=>.chk (([]:List Z4).length==0) ( .leaf (.inl (({ a0 with Own:=-1 }:Z7),([]:List Z4),x1))))
 | .b4 a0 a1=>.chk (([]:List Z4).length==0) ( .chk (([]:List Z5).length==0) ( .leaf (.inl (a0,([]:List Z4),([]:List Z5)))))
noncomputable def Z7K (a0:Z7) (a1:Z4):Option (Z7×(List Z4)×(List Z5)):=ZO Z7C (.b0 a0 a1)
noncomputable def ZnM:Mod U:=⟨[39,156],237,fun x=>Z7K x.1 x.2.1,by decide⟩
def Z3G:Lay:=⟨[2,3,4],[KP,KP,KP],[.var k0,.var k1,.var k0],⟨[PQ 0,PQ 1,PQ 2],[VA 39 20,VA 156 15,VA 39 20]⟩⟩
def Z3E:Lay:=⟨[2,4],[KP,KP],[.var k0,.var k0],⟨[PQ 0,PQ 1],[VA 39 20,VA 39 20]⟩⟩
def ZnE:Nat->Option Lay
 | 6=>some Z3G
 | 10=>some Z3G
 | 23=>some Z3E
 | 25=>some Z3E
 | _=>none
noncomputable def Zm5:Z3d->Z08 U
 | .b0 a0 a1=>Z0f Tryz.f286 [39,156] (a0,a1,())
 | .b1 a0 a1 a2=>spL Tryz.f286 [1,0,0,1,1,1,0,0] Z3G (((),((),((),()))),((a0,()),((a1,()),((a2,()),()))))
 | .b2 a0 a1 a2=>spL Tryz.f286 [1,0,0,1,1,1,1,0] Z3G (((),((),((),()))),((a0,()),((a1,()),((a2,()),()))))
 | .b3 a0 a1=>spL Tryz.f286 [1,0,0,1,1,1,1,1,1,1,1,1,0,0] Z3E (((),((),())),((a0,()),((a1,()),())))
 | .b4 a0 a1=>spL Tryz.f286 [1,1,0] Z3E (((),((),())),((a0,()),((a1,()),())))
theorem Zkp:Z0g 286 Tryz.f286 (mc Z8v (mc ZcQ msN)) hsN ZnE 237 Z7C Zm5:=by intro p;cases p<;>kernel_rfl
theorem ZlO:Z0a Tryz.prog B0 286 ZnM:=okP Zkp (fun x=>.b0 x.1 x.2.1) (by kernel_rfl) Tryz.func286 (by kernel_rfl) (by kernel_rfl) (fun _=>rfl) (fun _=>rfl)
inductive Z70 where
 | b0 (a0:Z7) (a1:Z4) (a2 a3:Int)
 | b1 (a0 a1:Int) (a2:Z7) (a3:Z4) (a4:Z7)
 | b2 (a0 a1:Int) (a2:Z7) (a3:Z4) (a4:Z7)
 | b3 (a0 a1:Z7)
 | b4 (a0:Int) (a1:Z7) (a2:Z4) (a3:Z7)
 | b5 (a0 a1:Int) (a2:Z7) (a3:Z4) (a4:Z7)
 | b6 (a0:Z7) (a1:Z4) (a2:Z7)
 | b7 (a0 a1:Int) (a2:Z7) (a3:Z4) (a4:Z7)
 | b8 (a0:Z7) (a1:Z4) (a2:Z7)
 | b9 (a0:Z7) (a1:Z4) (a2:Z7)
noncomputable def Zfy:Z70->Tr U ((Z7×(List Z4)×(List Z5))⊕Z70)
 | .b0 a0 a1 a2 a3=>.br (a0.Z1n != 0) ( .chk (([]:List Z4).length==0) ( .chk (([]:List Z5).length==0) ( .leaf (.inl (a0,([]:List Z4),([]:List Z5)))))) ( .bind 262 (Z0k a1.Kind) (fun(x1:Zg)=>.br (!x1.Z74) ( .bind 36 (Z3X (⟨7,Zr,0,0,0,(if (255:Int)<(if (0:Int)>a1.Kind then (0:Int) else a1.Kind) then (255:Int) else (if (0:Int)>a1.Kind then (0:Int) else a1.Kind)),0,0,0,0,0⟩:Z4)) (fun(x2:List Z4)=>.chk (([]:List Z5).length==0) ( .leaf (.inl (a0,x2,([]:List Z5)))))) ( .br (a1.Kind==0) ( .br (a1.Kind==0) ( .leaf (.inr (.b1 a2 a3 a0 a1 ZI))) ( .leaf (.inr (.b2 a3 a1.Kind a0 a1 ZI)))) ( .br (a1.Kind==1) ( .leaf (.inr (.b1 a2 a3 a0 a1 ZI))) ( .leaf (.inr (.b2 a3 a1.Kind a0 a1 ZI)))))))
 | .b1 a0 a1 a2 a3 a4=>.bind 39 (Z5Q a2 a3 a0 a1) (fun(x1:Z7)=>.chk (([]:List Z4).length==0) ( .chk (([]:List Z5).length==0) ( .leaf (.inl (x1,([]:List Z4),([]:List Z5))))))
 | .b2 a0 a1 a2 a3 a4=>.br (a1==2) ( .br (a3.Z05==0) ( .leaf (.inr (.b3 ({ a2 with Z1n:=19 }:Z7) a4))) ( .leaf (.inr (.b3 ({ a2 with Z1n:=a3.Z05 }:Z7) a4)))) ( .br (a1==3) ( .br (a1==3) ( .leaf (.inr (.b4 a0 a2 a3 a4))) ( .leaf (.inr (.b5 a0 a1 a2 a3 a4)))) ( .br (a1==4) ( .br (a1==4) ( .leaf (.inr (.b4 a0 a2 a3 a4))) ( .leaf (.inr (.b5 a0 a1 a2 a3 a4)))) ( .br (a1==5) ( .br (a1==5) ( .leaf (.inr (.b4 a0 a2 a3 a4))) ( .leaf (.inr (.b5 a0 a1 a2 a3 a4)))) ( .br (a1==6) ( .leaf (.inr (.b4 a0 a2 a3 a4))) ( .leaf (.inr (.b5 a0 a1 a2 a3 a4)))))))
 | .b3 a0 a1=>.chk (([]:List Z4).length==0) ( .chk (([]:List Z5).length==0) ( .leaf (.inl (a0,([]:List Z4),([]:List Z5)))))
 | .b4 a0 a1 a2 a3=>.bind 237 (Z6C a1 a2 a0) (fun(x1:Z7×(List Z4)×(List Z5))=>.leaf (.inl (x1.1,x1.2.1,x1.2.2)))
 | .b5 a0 a1 a2 a3 a4=>.br (a1==7) ( .br (a1==7) ( .leaf (.inr (.b6 a2 a3 a4))) ( .leaf (.inr (.b7 a0 a1 a2 a3 a4)))) ( .br (a1==13) ( .leaf (.inr (.b6 a2 a3 a4))) ( .leaf (.inr (.b7 a0 a1 a2 a3 a4))))
 | .b6 a0 a1 a2=>.bind 237 (Z5e a0 a1) (fun(x1:Z7×(List Z4)×(List Z5))=>.leaf (.inl (x1.1,x1.2.1,x1.2.2)))
 | .b7 a0 a1 a2 a3 a4=>.br (a1==15) ( .bind 237 (Z5D a2 a3 a0) (fun(x1:Z7×(List Z4)×(List Z5))=>.leaf (.inl (x1.1,x1.2.1,x1.2.2)))) ( .br (a1==20) ( .br (a1==20) ( .leaf (.inr (.b8 a2 a3 a4))) ( .leaf (.inr (.b9 a2 a3 a4)))) ( .br (a1==21) ( .leaf (.inr (.b8 a2 a3 a4))) ( .leaf (.inr (.b9 a2 a3 a4)))))
 | .b8 a0 a1 a2=>.bind 237 (Z5a a0 a1) (fun(x1:Z7×(List Z4)×(List Z5))=>.leaf (.inl (x1.1,x1.2.1,x1.2.2)))
 | .b9 a0 a1 a2=>.bind 237 (Z7K a0 a1) (fun(x1:Z7×(List Z4)×(List Z5))=>.leaf (.inl (x1.1,x1.2.1,x1.2.2)))
noncomputable def Ze7 (a0:Z7) (a1:Z4) (a2 a3:Int):Option (Z7×(List Z4)×(List Z5)):=ZO Zfy (.b0 a0 a1 a2 a3)
noncomputable def Zy4:Mod U:=⟨[39,156,30,3],237,fun x=>Ze7 x.1 x.2.1 x.2.2.1 x.2.2.2.1,by decide⟩
def ZgG:Lay:=⟨[2,3,4,5,8],[KP,KP,KP,KP,KP],[.var k0,.var k1,.var k0],⟨[OV 30,OV 3,PQ 0,PQ 1,PQ 2],[VA 39 20,VA 156 15,VA 39 20]⟩⟩
def Z3o:Lay:=⟨[3,4,5,8,28],[KP,KP,KP,KP,KP],[.var k0,.var k1,.var k0],⟨[OV 3,PQ 0,PQ 1,PQ 2,OV 3],[VA 39 20,VA 156 15,VA 39 20]⟩⟩
def Zh4:Lay:=⟨[4,8],[KP,KP],[.var k0,.var k0],⟨[PQ 0,PQ 1],[VA 39 20,VA 39 20]⟩⟩
def ZgI:Lay:=⟨[3,4,5,8],[KP,KP,KP,KP],[.var k0,.var k1,.var k0],⟨[OV 3,PQ 0,PQ 1,PQ 2],[VA 39 20,VA 156 15,VA 39 20]⟩⟩
def Z3s:Lay:=⟨[4,5,8],[KP,KP,KP],[.var k0,.var k1,.var k0],⟨[PQ 0,PQ 1,PQ 2],[VA 39 20,VA 156 15,VA 39 20]⟩⟩
def ZxY:Nat->Option Lay
 | 8=>some ZgG
 | 9=>some Z3o
 | 13=>some Zh4
 | 18=>some ZgI
 | 19=>some Z3o
 | 21=>some Z3s
 | 22=>some Z3o
 | 26=>some Z3s
 | 27=>some Z3s
 | _=>none
noncomputable def ZwC:Z70->Z08 U
 | .b0 a0 a1 a2 a3=>Z0f Tryz.f217 [39,156,30,3] (a0,a1,a2,a3,())
 | .b1 a0 a1 a2 a3 a4=>spL Tryz.f217 [1,1,1,0,1,0,1,0,0] ZgG (((a0,()),((a1,()),((),((),((),()))))),((a2,()),((a3,()),((a4,()),()))))
 | .b2 a0 a1 a2 a3 a4=>spL Tryz.f217 [1,1,1,0,1,0,1,1,0] Z3o (((a0,()),((),((),((),((a1,()),()))))),((a2,()),((a3,()),((a4,()),()))))
 | .b3 a0 a1=>spL Tryz.f217 [1,1,1,0,1,0,1,1,1,0,1,1,0] Zh4 (((),((),())),((a0,()),((a1,()),())))
 | .b4 a0 a1 a2 a3=>spL Tryz.f217 [1,1,1,0,1,0,1,1,1,1,1,0,0] ZgI (((a0,()),((),((),((),())))),((a1,()),((a2,()),((a3,()),()))))
 | .b5 a0 a1 a2 a3 a4=>spL Tryz.f217 [1,1,1,0,1,0,1,1,1,1,1,1,0,0] Z3o (((a0,()),((),((),((),((a1,()),()))))),((a2,()),((a3,()),((a4,()),()))))
 | .b6 a0 a1 a2=>spL Tryz.f217 [1,1,1,0,1,0,1,1,1,1,1,1,1,0,0] Z3s (((),((),((),()))),((a0,()),((a1,()),((a2,()),()))))
 | .b7 a0 a1 a2 a3 a4=>spL Tryz.f217 [1,1,1,0,1,0,1,1,1,1,1,1,1,1,0] Z3o (((a0,()),((),((),((),((a1,()),()))))),((a2,()),((a3,()),((a4,()),()))))
 | .b8 a0 a1 a2=>spL Tryz.f217 [1,1,1,0,1,0,1,1,1,1,1,1,1,1,1,1,1,0,0] Z3s (((),((),((),()))),((a0,()),((a1,()),((a2,()),()))))
 | .b9 a0 a1 a2=>spL Tryz.f217 [1,1,1,1,0] Z3s (((),((),((),()))),((a0,()),((a1,()),((a2,()),()))))
theorem Zst:Z0g 217 Tryz.f217 (mc Z2s (mc Z8v (mc Zi3 (mc ZjE (mc Zi8 (mc Zi2 (mc Zia (mc ZlO msN)))))))) hsN ZxY 237 Zfy ZwC:=by intro p;cases p<;>kernel_rfl
theorem ZvK:Z0a Tryz.prog B0 217 Zy4:=okP Zst (fun x=>.b0 x.1 x.2.1 x.2.2.1 x.2.2.2.1) (by kernel_rfl) Tryz.func217 (by kernel_rfl) (by kernel_rfl) (fun _=>rfl) (fun _=>rfl)
inductive Z5w where
 | b0 (a0:Z9) (a1:List Int) (a2:Int)
 | b1 (a0:List Z5) (a1 a2:Z9) (a3:Z7)
 | b2 (a0:List Z5) (a1 a2:Z9)
noncomputable def Zcv:Z5w->Tr U ((Z9×(List Z5))⊕Z5w)
 | .b0 a0 a1 a2=>.bind 231 (Zaf a1) (fun(x1:Z4×Int)=>.br (x1.2==12) ( .chk (([]:List Z4).length==0) ( .chk (decide ((0+a0.Zb.length)*120<=lim)&&decide (0+a0.Zb.length<=maxLen)) ( .chk (decide (0<=(0:Int)/\(0:Int)<(↑a1.length:Int))) ( .bind 5 (a1[(Int.toNat 0)]?) (fun(x2:Int)=>.chk (([(⟨7,Zr,0,0,0,(w64 (x2)),0,0,0,0,0⟩:Z4)]).length==1) ( .chk ((([]:List Z4)++a0.Zb).length==(([]:List Z4)++a0.Zb).length) ( .chk (decide (((([]:List Z4)++a0.Zb).length+([(⟨7,Zr,0,0,0,(w64 (x2)),0,0,0,0,0⟩:Z4)]).length)*120<=lim)&&decide ((([]:List Z4)++a0.Zb).length+([(⟨7,Zr,0,0,0,(w64 (x2)),0,0,0,0,0⟩:Z4)]).length<=maxLen)) ( .chk (((([]:List Z4)++a0.Zb)++[(⟨7,Zr,0,0,0,(w64 (x2)),0,0,0,0,0⟩:Z4)]).length==((([]:List Z4)++a0.Zb)++[(⟨7,Zr,0,0,0,(w64 (x2)),0,0,0,0,0⟩:Z4)]).length) ( .chk (([]:List Z5).length==0) ( .leaf (.inl (({ a0 with Zb:=((([]:List Z4)++a0.Zb)++[(⟨7,Zr,0,0,0,(w64 (x2)),0,0,0,0,0⟩:Z4)]) }:Z9),([]:List Z5))))))))))))) ( .br (x1.2 != 0) ( .chk (([]:List Z5).length==0) ( .leaf (.inl (a0,([]:List Z5))))) ( .bind 237 (Ze7 a0.Ze x1.1 a0.Event a2) (fun(x3:Z7×(List Z4)×(List Z5))=>.chk (([]:List Z4).length==0) ( .chk (decide ((0+a0.Zb.length)*120<=lim)&&decide (0+a0.Zb.length<=maxLen)) ( .chk ((([]:List Z4)++a0.Zb).length==(([]:List Z4)++a0.Zb).length) ( .chk (decide (((([]:List Z4)++a0.Zb).length+x3.2.1.length)*120<=lim)&&decide ((([]:List Z4)++a0.Zb).length+x3.2.1.length<=maxLen)) ( .br (a0.Z1z==0) ( .br (x1.1.Kind==5) ( .br (x3.1.Z29==3) ( .chk (((([]:List Z4)++a0.Zb)++x3.2.1).length==((([]:List Z4)++a0.Zb)++x3.2.1).length) ( .leaf (.inr (.b1 x3.2.2 ({ a0 with Ze:=x3.1,Zb:=((([]:List Z4)++a0.Zb)++x3.2.1) }:Z9) ZH x3.1)))) ( .chk (((([]:List Z4)++a0.Zb)++x3.2.1).length==((([]:List Z4)++a0.Zb)++x3.2.1).length) ( .leaf (.inr (.b2 x3.2.2 ({ a0 with Ze:=x3.1,Zb:=((([]:List Z4)++a0.Zb)++x3.2.1) }:Z9) ZH))))) ( .chk (((([]:List Z4)++a0.Zb)++x3.2.1).length==((([]:List Z4)++a0.Zb)++x3.2.1).length) ( .leaf (.inr (.b2 x3.2.2 ({ a0 with Ze:=x3.1,Zb:=((([]:List Z4)++a0.Zb)++x3.2.1) }:Z9) ZH))))) ( .chk (((([]:List Z4)++a0.Zb)++x3.2.1).length==((([]:List Z4)++a0.Zb)++x3.2.1).length) ( .leaf (.inr (.b2 x3.2.2 ({ a0 with Ze:=x3.1,Zb:=((([]:List Z4)++a0.Zb)++x3.2.1) }:Z9) ZH))))))))))))
 | .b1 a0 a1 a2 a3=>.bind 41 (Zl0 a1.Z1z a1.Key a3.Z5R a3.Zpv) (fun(x1:Zv)=>.bind 41 (Zbz x1 true true) (fun(x2:Zv)=>.chk (a1.Zb.length==a1.Zb.length) ( .leaf (.inr (.b2 a0 ({ a1 with Z0h:=x2 }:Z9) a2)))))
 | .b2 a0 a1 a2=>.bind 77 (ZcE a0 a1.Event) (fun(x1:List Z5)=>.chk (a1.Zb.length==a1.Zb.length) ( .leaf (.inl (a1,x1))))
noncomputable def Zcu (a0:Z9) (a1:List Int) (a2:Int):Option (Z9×(List Z5)):=ZO Zcv (.b0 a0 a1 a2)
noncomputable def Zv0:Mod U:=⟨[44,62,3],78,fun x=>Zcu x.1 x.2.1 x.2.2.1,by decide⟩
def ZfH:Lay:=⟨[3,6,10,12],[KP,KP,KP,[.s 148 18]],[.var k11,.var k2,.var k0,.row true],⟨[PQ 0,PQ 1,PQ 2,OV 77],[.var 44 66 (ag2 3),VA 44 66,VA 39 20,.row 156 true]⟩⟩
def ZeJ:Lay:=⟨[3,6,12],[KP,KP,[.s 148 18]],[.var k11,.var k2,.row true],⟨[PQ 0,PQ 1,OV 77],[.var 44 66 (ag2 2),VA 44 66,.row 156 true]⟩⟩
def Zuo:Nat->Option Lay
 | 11=>some ZfH
 | 12=>some ZeJ
 | _=>none
noncomputable def ZrK:Z5w->Z08 U
 | .b0 a0 a1 a2=>Z0f Tryz.f121 [44,62,3] (a0,a1,a2,())
 | .b1 a0 a1 a2 a3=>spL Tryz.f121 [1,1,1,1,1,1,1,0,1,0] ZfH (((),((),((),((a0,()),())))),((tu0 a1),((a2,()),((a3,()),(a1.Zb,())))))
 | .b2 a0 a1 a2=>spL Tryz.f121 [1,1,1,1,1,1,1,1,0] ZeJ (((),((),((a0,()),()))),((tu0 a1),((a2,()),(a1.Zb,()))))
theorem Zrq:Z0g 121 Tryz.f121 (mc ZiK (mc Zth (mc Zj6 (mc Zn1 (mc ZvK msN))))) hsN Zuo 78 Zcv ZrK:=by intro p;cases p<;>kernel_rfl
theorem Zso:Z0a Tryz.prog B0 121 Zv0:=okP Zrq (fun x=>.b0 x.1 x.2.1 x.2.2.1) (by kernel_rfl) Tryz.func121 (by kernel_rfl) (by kernel_rfl) (fun _=>rfl) (fun _=>rfl)
inductive Z5G where
 | b0 (a0:Z9) (a1:List Int) (a2:Bool) (a3:Int)
 | b1 (a0:List Int) (a1:Int) (a2 a3:Z9)
 | b2 (a0:List Int) (a1:Int) (a2 a3:Z9)
 | b3 (a0:Int) (a1:Bool) (a2 a3:Z9) (a4:Zn)
 | b4 (a0:Int) (a1:Bool) (a2 a3:Z9) (a4:Zn)
 | b5 (a0:Int) (a1:Bool) (a2 a3:Z9) (a4:Zn) (a5:Zd)
 | b6 (a0:Int) (a1:Bool) (a2 a3:Z9) (a4:Zn) (a5:Zd)
 | b7 (a0:Int) (a1:Bool) (a2 a3:Z9) (a4:Zn) (a5:Zd)
 | b8 (a0:Int) (a1:Bool) (a2 a3:Z9) (a4:Zn) (a5:Zd)
 | b9 (a0:Int) (a1 a2:Bool) (a3:List Z5) (a4 a5:Z9) (a6:Zn) (a7:Zd)
 | b10 (a0:Int) (a1:List Z5) (a2 a3:Z9) (a4:Zn) (a5:Zd)
 | b11 (a0:List Z5) (a1 a2:Z9) (a3:Zn)
noncomputable def Zd2:Z5G->Tr U ((Z9×(List Z5)×Bool)⊕Z5G)
 | .b0 a0 a1 a2 a3=>.br (a0.Z05 != 0) ( .chk (([]:List Z5).length==0) ( .leaf (.inl (a0,([]:List Z5),false)))) ( .br a2 ( .br (a0.Z1z==1) ( .leaf (.inr (.b1 a1 a3 ({ a0 with Got:=true }:Z9) ZH))) ( .leaf (.inr (.b2 a1 a3 ({ a0 with Got:=true }:Z9) ZH)))) ( .leaf (.inr (.b2 a1 a3 ({ a0 with Got:=true }:Z9) ZH))))
 | .b1 a0 a1 a2 a3=>.leaf (.inr (.b2 a0 a1 ({ a2 with Z19:=a1,Size:=0,Sync:=a1 }:Z9) a3))
 | .b2 a0 a1 a2 a3=>.bind 3 (Z8i a2) (fun(x1:Int)=>.bind 1348 (Zdg x1 a0) (fun(y2:Z3N)=>.chk (y2.q0.length==y2.q0.length) ( .bind 120 (Zho a2.ZN.ZOI y2.q0) (fun(x3:(List Int)×Int)=>.br (x3.2 != 0) ( .bind 42 (Z3Q a2.Zw x1 false) (fun(x4:List Zj)=>.chk (([]:List Z5).length==0) ( .leaf (.inl (({ a2 with Zw:=x4 }:Z9),([]:List Z5),false))))) ( .bind 71 (Zf9 x3.1) (fun(x5:Zn×Int)=>.br (x5.2 != 0) ( .chk (([]:List Z5).length==0) ( .leaf (.inl (a2,([]:List Z5),false)))) ( .bind 42 (Z3Q a2.Zw x1 true) (fun(x6:List Zj)=>.br (x5.1.SN==a2.Arq.Zda) ( .bind 4 (Z6G x5.1.ZF) (fun(x7:Bool)=>.br (!x7) ( .leaf (.inr (.b3 a1 a2.Z0h.ZOj ({ a2 with Z2W:=a1,Z2C:=true,Good:=true,Zw:=x6 }:Z9) a3 x5.1))) ( .leaf (.inr (.b3 a1 false ({ a2 with Z2W:=a1,Z2C:=true,Good:=true,Zw:=x6 }:Z9) a3 x5.1))))) ( .leaf (.inr (.b3 a1 false ({ a2 with Z2W:=a1,Z2C:=true,Good:=true,Zw:=x6 }:Z9) a3 x5.1)))))))))))
 | .b3 a0 a1 a2 a3 a4=>.br a1 ( .bind 71 (Zlf a2.Z0h a4) (fun(x1:Zn×Int)=>.br (x1.2 != 0) ( .bind 78 (Ze1 a2 (61:Int)) (fun(x2:Z9×(List Z5))=>.leaf (.inl (x2.1,x2.2,false)))) ( .leaf (.inr (.b4 a0 a1 a2 a3 x1.1))))) ( .leaf (.inr (.b4 a0 a1 a2 a3 a4)))
 | .b4 a0 a1 a2 a3 a4=>.br a2.Arq.Open ( .br (!a2.Arq.Empty) ( .leaf (.inr (.b5 a0 a1 a2 a3 a4 (⟨0,([]:List Int)⟩:Zd)))) ( .leaf (.inr (.b6 a0 a1 a2 a3 a4 (⟨0,([]:List Int)⟩:Zd))))) ( .leaf (.inr (.b6 a0 a1 a2 a3 a4 (⟨0,([]:List Int)⟩:Zd))))
 | .b5 a0 a1 a2 a3 a4 a5=>.chk (decide (0<=(0:Int)/\(0:Int)<(↑a2.Arq.Zu.length:Int))) ( .bind 68 (a2.Arq.Zu[(Int.toNat 0)]?) (fun(x1:Zd)=>.leaf (.inr (.b6 a0 a1 a2 a3 a4 x1))))
 | .b6 a0 a1 a2 a3 a4 a5=>.br a2.Arq.Open ( .br a2.Arq.Empty ( .leaf (.inr (.b7 a0 a1 a2 a3 a4 a5))) ( .leaf (.inr (.b8 a0 a1 a2 a3 a4 a5)))) ( .leaf (.inr (.b8 a0 a1 a2 a3 a4 a5)))
 | .b7 a0 a1 a2 a3 a4 a5=>.leaf (.inr (.b8 a0 a1 a2 a3 a4 (⟨1,([]:List Int)⟩:Zd)))
 | .b8 a0 a1 a2 a3 a4 a5=>.bind 163 (ZlN a2.Arq a4) (fun(x1:ZK×Zd×Bool×Bool)=>.br x1.2.2.2 ( .bind 78 (Zim ({ a2 with Z1U:=true,Arq:=x1.1 }:Z9) a5) (fun(x2:Z9×(List Z5))=>.chk (([]:List Z5).length==0) ( .chk (decide ((0+x2.2.length)*160<=lim)&&decide (0+x2.2.length<=maxLen)) ( .chk ((([]:List Z5)++x2.2).length==(([]:List Z5)++x2.2).length) ( .leaf (.inr (.b9 a0 a1 x1.2.2.1 (([]:List Z5)++x2.2) x2.1 a3 a4 x1.2.1))))))) ( .chk (([]:List Z5).length==0) ( .leaf (.inr (.b9 a0 a1 x1.2.2.1 ([]:List Z5) ({ a2 with Arq:=x1.1 }:Z9) a3 a4 x1.2.1)))))
 | .b9 a0 a1 a2 a3 a4 a5 a6 a7=>.br a2 ( .br a1 ( .bind 41 (Zg0 a4.Z0h false true) (fun(x1:Zv)=>.chk (a3.length==a3.length) ( .leaf (.inr (.b10 a0 a3 ({ a4 with Z0h:=x1 }:Z9) a5 a6 a7))))) ( .chk (a3.length==a3.length) ( .leaf (.inr (.b10 a0 a3 a4 a5 a6 a7))))) ( .chk (a3.length==a3.length) ( .leaf (.inr (.b11 a3 a4 a5 a6))))
 | .b10 a0 a1 a2 a3 a4 a5=>.br (a5.Z5f==3) ( .bind 78 (Zcu a2 a5.Payload a0) (fun(x1:Z9×(List Z5))=>.chk (a1.length==a1.length) ( .chk (decide ((a1.length+x1.2.length)*160<=lim)&&decide (a1.length+x1.2.length<=maxLen)) ( .chk ((a1++x1.2).length==(a1++x1.2).length) ( .leaf (.inr (.b11 (a1++x1.2) x1.1 a3 a4))))))) ( .chk (([]:List Int).length==0) ( .chk (decide ((0+a5.Payload.length)*1<=lim)&&decide (0+a5.Payload.length<=maxLen)) ( .chk ((([]:List Int)++a5.Payload).length==(([]:List Int)++a5.Payload).length) ( .chk (([(⟨1,a2.Event,(⟨a5.Z5f,(([]:List Int)++a5.Payload)⟩:Zd),Z0A,0,Zr⟩:Z5)]).length==1) ( .chk (a1.length==a1.length) ( .chk (decide ((a1.length+([(⟨1,a2.Event,(⟨a5.Z5f,(([]:List Int)++a5.Payload)⟩:Zd),Z0A,0,Zr⟩:Z5)]).length)*160<=lim)&&decide (a1.length+([(⟨1,a2.Event,(⟨a5.Z5f,(([]:List Int)++a5.Payload)⟩:Zd),Z0A,0,Zr⟩:Z5)]).length<=maxLen)) ( .chk ((a1++[(⟨1,a2.Event,(⟨a5.Z5f,(([]:List Int)++a5.Payload)⟩:Zd),Z0A,0,Zr⟩:Z5)]).length==(a1++[(⟨1,a2.Event,(⟨a5.Z5f,(([]:List Int)++a5.Payload)⟩:Zd),Z0A,0,Zr⟩:Z5)]).length) ( .leaf (.inr (.b11 (a1++[(⟨1,a2.Event,(⟨a5.Z5f,(([]:List Int)++a5.Payload)⟩:Zd),Z0A,0,Zr⟩:Z5)]) a2 a3 a4))))))))))
 | .b11 a0 a1 a2 a3=>.br (a3.MD==1) ( .chk (a0.length==a0.length) ( .leaf (.inl (a1,a0,true)))) ( .chk (a0.length==a0.length) ( .leaf (.inl (a1,a0,a1.More))))
noncomputable def Z89 (a0:Z9) (a1:List Int) (a2:Bool) (a3:Int):Option (Z9×(List Z5)×Bool):=ZO Zd2 (.b0 a0 a1 a2 a3)
noncomputable def ZuI:Mod U:=⟨[44,62,4,3],86,fun x=>Z89 x.1 x.2.1 x.2.2.1 x.2.2.2.1,by decide⟩
def Z5O:Lay:=⟨[1,3,4,8],[[.s 5 1],KP,KP,KP],[.var k2,.var k2],⟨[OV 62,OV 3,PQ 0,PQ 1],[VA 44 66,VA 44 66]⟩⟩
def Z5h:Lay:=⟨[3,4,8,14,15],[KP,KP,KP,KP,KP],[.var k2,.var k2,.var k5],⟨[OV 3,PQ 0,PQ 1,PQ 2,OV 4],[VA 44 66,VA 44 66,VA 70 5]⟩⟩
def Z1A:Lay:=⟨[3,4,8,14,15,20],[KP,KP,KP,KP,KP,KP],[.var k2,.var k2,.var k5,.var [.keep,.s 5 1]],⟨[OV 3,PQ 0,PQ 1,PQ 2,OV 4,PQ 3],[VA 44 66,VA 44 66,VA 70 5,VA 68 2]⟩⟩
def ZfA:Lay:=⟨[3,4,8,14,15,22,23,25],[KP,KP,KP,KP,KP,KP,KP,[.own 148 18]],[.var k2,.var k2,.var k5,.var [.keep,.s 5 1],.row true],⟨[OV 3,PQ 0,PQ 1,PQ 2,OV 4,PQ 3,OV 4,.one (.own 148 4)],[VA 44 66,VA 44 66,VA 70 5,VA 68 2,.row 148 true]⟩⟩
def ZdE:Lay:=⟨[3,4,8,14,22,25],[KP,KP,KP,KP,KP,[.own 148 18]],[.var k2,.var k2,.var k5,.var [.keep,.s 5 1],.row true],⟨[OV 3,PQ 0,PQ 1,PQ 2,PQ 3,.one (.own 148 4)],[VA 44 66,VA 44 66,VA 70 5,VA 68 2,.row 148 true]⟩⟩
def Zdq:Lay:=⟨[4,8,14,25],[KP,KP,KP,[.own 148 18]],[.var k2,.var k2,.var k5,.row true],⟨[PQ 0,PQ 1,PQ 2,.one (.own 148 3)],[VA 44 66,VA 44 66,VA 70 5,.row 148 true]⟩⟩
def Zu9:Nat->Option Lay
 | 5=>some Z5O
 | 6=>some Z5O
 | 17=>some Z5h
 | 23=>some Z5h
 | 25=>some Z1A
 | 26=>some Z1A
 | 27=>some Z1A
 | 28=>some Z1A
 | 36=>some ZfA
 | 39=>some ZdE
 | 44=>some Zdq
 | _=>none
noncomputable def ZrP:Z5G->Z08 U
 | .b0 a0 a1 a2 a3=>Z0f Tryz.f35 [44,62,4,3] (a0,a1,a2,a3,())
 | .b1 a0 a1 a2 a3=>spL Tryz.f35 [1,1,1,0,1,0] Z5O (((a0,()),((a1,()),((),((),())))),((a2,()),((a3,()),())))
 | .b2 a0 a1 a2 a3=>spL Tryz.f35 [1,1,1,1,0] Z5O (((a0,()),((a1,()),((),((),())))),((a2,()),((a3,()),())))
 | .b3 a0 a1 a2 a3 a4=>spL Tryz.f35 [1,1,1,1,1,1,1,1,1,1,1,1,0,0] Z5h (((a0,()),((),((),((),((a1,()),()))))),((a2,()),((a3,()),((a4,()),()))))
 | .b4 a0 a1 a2 a3 a4=>spL Tryz.f35 [1,1,1,1,1,1,1,1,1,1,1,1,1,0] Z5h (((a0,()),((),((),((),((a1,()),()))))),((a2,()),((a3,()),((a4,()),()))))
 | .b5 a0 a1 a2 a3 a4 a5=>spL Tryz.f35 [1,1,1,1,1,1,1,1,1,1,1,1,1,1,0,1,0] Z1A (((a0,()),((),((),((),((a1,()),((),())))))),((a2,()),((a3,()),((a4,()),((a5,()),())))))
 | .b6 a0 a1 a2 a3 a4 a5=>spL Tryz.f35 [1,1,1,1,1,1,1,1,1,1,1,1,1,1,1,0,0] Z1A (((a0,()),((),((),((),((a1,()),((),())))))),((a2,()),((a3,()),((a4,()),((a5,()),())))))
 | .b7 a0 a1 a2 a3 a4 a5=>spL Tryz.f35 [1,1,1,1,1,1,1,1,1,1,1,1,1,1,1,0,1,0] Z1A (((a0,()),((),((),((),((a1,()),((),())))))),((a2,()),((a3,()),((a4,()),((a5,()),())))))
 | .b8 a0 a1 a2 a3 a4 a5=>spL Tryz.f35 [1,1,1,1,1,1,1,1,1,1,1,1,1,1,1,1,0] Z1A (((a0,()),((),((),((),((a1,()),((),())))))),((a2,()),((a3,()),((a4,()),((a5,()),())))))
 | .b9 a0 a1 a2 a3 a4 a5 a6 a7=>spL Tryz.f35 [1,1,1,1,1,1,1,1,1,1,1,1,1,1,1,1,1,1,1,1,0,0] ZfA (((a0,()),((),((),((),((a1,()),((),((a2,()),((),())))))))),((a4,()),((a5,()),((a6,()),((a7,()),(a3,()))))))
 | .b10 a0 a1 a2 a3 a4 a5=>spL Tryz.f35 [1,1,1,1,1,1,1,1,1,1,1,1,1,1,1,1,1,1,1,1,0,1,0,1,0] ZdE (((a0,()),((),((),((),((),((),())))))),((a2,()),((a3,()),((a4,()),((a5,()),(a1,()))))))
 | .b11 a0 a1 a2 a3=>spL Tryz.f35 [1,1,1,1,1,1,1,1,1,1,1,1,1,1,1,1,1,1,1,1,1,0] Zdq (((),((),((),((),())))),((a1,()),((a2,()),((a3,()),(a0,())))))
theorem ZpK:Z0g 35 Tryz.f35 (mc ZgE (mc Zka (mc Zt9 (mc ZAg (mc Zwk (mc Zab (mc ZEF (mc ZEe (mc Zyq (mc ZoC (mc Zso msN))))))))))) (hc [] ZmT hsN) Zu9 86 Zd2 ZrP:=by intro p;cases p<;>kernel_rfl
theorem Zs2:Z0a Tryz.prog B0 35 ZuI:=okP ZpK (fun x=>.b0 x.1 x.2.1 x.2.2.1 x.2.2.2.1) (by kernel_rfl) Tryz.func35 (by kernel_rfl) (by kernel_rfl) (fun _=>rfl) (fun _=>rfl)
inductive Z2j where
 | b0 (a0:Zq) (a1:ZT) (a2:Int) (a3:Bool) (a4:Int)
 | b1 (a0:Int) (a1:Bool) (a2 a3:Int) (a4:Zq) (a5 a6:ZT)
 | b2 (a0:Int) (a1:Bool) (a2 a3:Int) (a4:Zq) (a5 a6:ZT)
 | b3 (a0:Int) (a1:Bool) (a2:Int) (a3:Zq) (a4 a5:ZT)
 | b4 (a0:Int) (a1:Bool) (a2 a3:Int) (a4:Zq) (a5 a6:ZT)
 | b5 (a0:Int) (a1:Bool) (a2 a3:Int) (a4:Zq) (a5 a6:ZT) (a7:Z22)
 | b6 (a0:Int) (a1:Bool) (a2 a3:Int) (a4:Bool) (a5:Int) (a6:Zq) (a7 a8:ZT)
 | b7 (a0:Int) (a1 a2:ZT)
 | b8 (a0:Int) (a1:Bool) (a2 a3:Int) (a4:Bool) (a5:Int) (a6:Zq) (a7 a8:ZT)
 | b9 (a0:Int) (a1:Bool) (a2:Int) (a3 a4:ZT)
 | b10 (a0:Int) (a1:Bool) (a2 a3:Int) (a4:Bool) (a5 a6:Int) (a7:List Int) (a8:Zq) (a9 a10:ZT)
 | b11 (a0:Int) (a1 a2:ZT)
 | b12 (a0:Int) (a1 a2:ZT)
 | b13 (a0:Int) (a1:Bool) (a2 a3:Int) (a4:Bool) (a5 a6:Int) (a7:List Z5) (a8:Bool) (a9:Int) (a10:Zq) (a11 a12:ZT)
 | b14 (a0 a1:Int) (a2 a3:ZT)
 | b15 (a0:Int) (a1:Bool) (a2 a3:Int) (a4:Bool) (a5 a6:Int) (a7:List Z5) (a8:Bool) (a9:Int) (a10:Zq) (a11 a12:ZT)
 | b16 (a0:Int) (a1:Bool) (a2 a3:Int) (a4:Bool) (a5 a6:Int) (a7:List Z5) (a8:Bool) (a9:Int) (a10:Zq) (a11 a12:ZT)
 | b17 (a0:Int) (a1:Bool) (a2 a3:Int) (a4:Bool) (a5:Int) (a6:Zq) (a7 a8:ZT)
noncomputable def Z56:Z2j->Tr U ((ZT×Int)⊕Z2j)
 | .b0 a0 a1 a2 a3 a4=>.leaf (.inr (.b1 a2 a3 a4 (0:Int) a0 a1 (⟨ZH,ZH⟩:ZT)))
 | .b1 a0 a1 a2 a3 a4 a5 a6=>.br (decide (a3<(↑a4.ZOg.length:Int))) ( .br (decide (a3<8)) ( .leaf (.inr (.b2 a0 a1 a2 a3 a4 a5 a6))) ( .leaf (.inr (.b3 a0 a1 a2 a4 a5 a6)))) ( .leaf (.inr (.b3 a0 a1 a2 a4 a5 a6)))
 | .b2 a0 a1 a2 a3 a4 a5 a6=>.chk (decide (0<=a3/\a3<(↑a4.ZOg.length:Int))) ( .bind 83 (a4.ZOg[(Int.toNat a3)]?) (fun(x1:Z22)=>.br (x1.Side != 0) ( .br (x1.Side != 1) ( .leaf (.inr (.b4 a0 a1 a2 a3 a4 a5 a6))) ( .br (decide ((↑x1.ZF.Payload.length:Int)>300)) ( .leaf (.inr (.b4 a0 a1 a2 a3 a4 a5 a6))) ( .leaf (.inr (.b5 a0 a1 a2 a3 a4 a5 a6 x1))))) ( .br (decide ((↑x1.ZF.Payload.length:Int)>300)) ( .leaf (.inr (.b4 a0 a1 a2 a3 a4 a5 a6))) ( .leaf (.inr (.b5 a0 a1 a2 a3 a4 a5 a6 x1))))))
 | .b3 a0 a1 a2 a3 a4 a5=>.bind 4 (Z9J a4.x1) (fun(x1:Bool)=>.leaf (.inr (.b6 a0 a1 a2 (if (if (6:Int)<a3.ZQB then (6:Int) else a3.ZQB)>1 then (if (6:Int)<a3.ZQB then (6:Int) else a3.ZQB) else (1:Int)) x1 (0:Int) a3 a4 a5)))
 | .b4 a0 a1 a2 a3 a4 a5 a6=>.leaf (.inr (.b1 a0 a1 a2 (w64 (a3+1)) a4 a5 a6))
 | .b5 a0 a1 a2 a3 a4 a5 a6 a7=>.br (a7.Side==0) ( .bind 46 (Zl3 a5.x0 a7 a0) (fun(x2:Z9×Int)=>.br (a7.Side==0) ( .leaf (.inr (.b4 a0 a1 a2 a3 a4 (⟨x2.1,a5.x1⟩:ZT) a6))) ( .br (a7.Side==1) ( .leaf (.inr (.b4 a0 a1 a2 a3 a4 (⟨a5.x0,x2.1⟩:ZT) a6))) ( .fail)))) ( .br (a7.Side==1) ( .bind 46 (Zl3 a5.x1 a7 a0) (fun(x1:Z9×Int)=>.br (a7.Side==0) ( .leaf (.inr (.b4 a0 a1 a2 a3 a4 (⟨x1.1,a5.x1⟩:ZT) a6))) ( .br (a7.Side==1) ( .leaf (.inr (.b4 a0 a1 a2 a3 a4 (⟨a5.x0,x1.1⟩:ZT) a6))) ( .fail)))) ( .fail))
 | .b6 a0 a1 a2 a3 a4 a5 a6 a7 a8=>.br (decide (a5<a3)) ( .br a1 ( .br (decide (a2>=0)) ( .br (decide (a5>=a2)) ( .leaf (.inr (.b7 a0 a7 a8))) ( .leaf (.inr (.b8 a0 a1 a2 a3 a4 a5 a6 a7 a8)))) ( .leaf (.inr (.b8 a0 a1 a2 a3 a4 a5 a6 a7 a8)))) ( .leaf (.inr (.b8 a0 a1 a2 a3 a4 a5 a6 a7 a8)))) ( .leaf (.inr (.b9 a0 a1 a2 a7 a8)))
 | .b7 a0 a1 a2=>.leaf (.inl (a1,a0))
 | .b8 a0 a1 a2 a3 a4 a5 a6 a7 a8=>.br ((Int.tmod a5 2)==0) ( .bind 63 (ZfI a7.x0) (fun(x2:Z9×(List Int))=>.br ((Int.tmod a5 2)==0) ( .br ((↑x2.2.length:Int)==0) ( .leaf (.inr (.b9 a0 a1 a2 (⟨x2.1,a7.x1⟩:ZT) a8))) ( .chk (decide (0<=(IntKind.wrap .u64 (a5)))) ( .br ((bits .and .i64 (Int.fdiv a6.ZQK (2 ^ (min (Int.toNat (IntKind.wrap .u64 (a5))) (IntKind.bits .i64)))) (1:Int))==1) ( .leaf (.inr (.b9 a0 a1 a2 (⟨x2.1,a7.x1⟩:ZT) a8))) ( .br a4 ( .leaf (.inr (.b9 a0 a1 a2 (⟨x2.1,a7.x1⟩:ZT) a8))) ( .leaf (.inr (.b10 a0 a1 a2 a3 a4 a5 (w64 ((1:Int) - (Int.tmod a5 2))) x2.2 a6 (⟨x2.1,a7.x1⟩:ZT) a8))))))) ( .br ((Int.tmod a5 2)==1) ( .br ((↑x2.2.length:Int)==0) ( .leaf (.inr (.b9 a0 a1 a2 (⟨a7.x0,x2.1⟩:ZT) a8))) ( .chk (decide (0<=(IntKind.wrap .u64 (a5)))) ( .br ((bits .and .i64 (Int.fdiv a6.ZQK (2 ^ (min (Int.toNat (IntKind.wrap .u64 (a5))) (IntKind.bits .i64)))) (1:Int))==1) ( .leaf (.inr (.b9 a0 a1 a2 (⟨a7.x0,x2.1⟩:ZT) a8))) ( .br a4 ( .leaf (.inr (.b9 a0 a1 a2 (⟨a7.x0,x2.1⟩:ZT) a8))) ( .leaf (.inr (.b10 a0 a1 a2 a3 a4 a5 (w64 ((1:Int) - (Int.tmod a5 2))) x2.2 a6 (⟨a7.x0,x2.1⟩:ZT) a8))))))) ( .fail)))) ( .br ((Int.tmod a5 2)==1) ( .bind 63 (ZfI a7.x1) (fun(x1:Z9×(List Int))=>.br ((Int.tmod a5 2)==0) ( .br ((↑x1.2.length:Int)==0) ( .leaf (.inr (.b9 a0 a1 a2 (⟨x1.1,a7.x1⟩:ZT) a8))) ( .chk (decide (0<=(IntKind.wrap .u64 (a5)))) ( .br ((bits .and .i64 (Int.fdiv a6.ZQK (2 ^ (min (Int.toNat (IntKind.wrap .u64 (a5))) (IntKind.bits .i64)))) (1:Int))==1) ( .leaf (.inr (.b9 a0 a1 a2 (⟨x1.1,a7.x1⟩:ZT) a8))) ( .br a4 ( .leaf (.inr (.b9 a0 a1 a2 (⟨x1.1,a7.x1⟩:ZT) a8))) ( .leaf (.inr (.b10 a0 a1 a2 a3 a4 a5 (w64 ((1:Int) - (Int.tmod a5 2))) x1.2 a6 (⟨x1.1,a7.x1⟩:ZT) a8))))))) ( .br ((Int.tmod a5 2)==1) ( .br ((↑x1.2.length:Int)==0) ( .leaf (.inr (.b9 a0 a1 a2 (⟨a7.x0,x1.1⟩:ZT) a8))) ( .chk (decide (0<=(IntKind.wrap .u64 (a5)))) ( .br ((bits .and .i64 (Int.fdiv a6.ZQK (2 ^ (min (Int.toNat (IntKind.wrap .u64 (a5))) (IntKind.bits .i64)))) (1:Int))==1) ( .leaf (.inr (.b9 a0 a1 a2 (⟨a7.x0,x1.1⟩:ZT) a8))) ( .br a4 ( .leaf (.inr (.b9 a0 a1 a2 (⟨a7.x0,x1.1⟩:ZT) a8))) ( .leaf (.inr (.b10 a0 a1 a2 a3 a4 a5 (w64 ((1:Int) - (Int.tmod a5 2))) x1.2 a6 (⟨a7.x0,x1.1⟩:ZT) a8))))))) ( .fail)))) ( .fail))
 | .b9 a0 a1 a2 a3 a4=>.br a1 ( .br (decide (a2>=0)) ( .leaf (.inr (.b11 a0 a3 a4))) ( .leaf (.inr (.b12 a0 a3 a4)))) ( .leaf (.inr (.b12 a0 a3 a4)))
 | .b10 a0 a1 a2 a3 a4 a5 a6 a7 a8 a9 a10=>.br (a6==0) ( .bind 86 (Z89 a9.x0 a7 (a5==0) a0) (fun(x2:Z9×(List Z5)×Bool)=>.br (a6==0) ( .leaf (.inr (.b13 a0 a1 a2 a3 a4 a5 a6 x2.2.1 x2.2.2 (0:Int) a8 (⟨x2.1,a9.x1⟩:ZT) a10))) ( .br (a6==1) ( .leaf (.inr (.b13 a0 a1 a2 a3 a4 a5 a6 x2.2.1 x2.2.2 (0:Int) a8 (⟨a9.x0,x2.1⟩:ZT) a10))) ( .fail)))) ( .br (a6==1) ( .bind 86 (Z89 a9.x1 a7 (a5==0) a0) (fun(x1:Z9×(List Z5)×Bool)=>.br (a6==0) ( .leaf (.inr (.b13 a0 a1 a2 a3 a4 a5 a6 x1.2.1 x1.2.2 (0:Int) a8 (⟨x1.1,a9.x1⟩:ZT) a10))) ( .br (a6==1) ( .leaf (.inr (.b13 a0 a1 a2 a3 a4 a5 a6 x1.2.1 x1.2.2 (0:Int) a8 (⟨a9.x0,x1.1⟩:ZT) a10))) ( .fail)))) ( .fail))
 | .b11 a0 a1 a2=>.leaf (.inl (a1,a0))
 | .b12 a0 a1 a2=>.leaf (.inr (.b14 a0 (0:Int) a1 a2))
 | .b13 a0 a1 a2 a3 a4 a5 a6 a7 a8 a9 a10 a11 a12=>.br (decide (a9<(↑a7.length:Int))) ( .chk (decide (0<=a9/\a9<(↑a7.length:Int))) ( .bind 148 (a7[(Int.toNat a9)]?) (fun(x1:Z5)=>.br (x1.Kind==8) ( .br (a6==1) ( .leaf (.inr (.b15 a0 a1 a2 a3 a4 a5 a6 a7 a8 a9 a10 a11 a12))) ( .leaf (.inr (.b16 a0 a1 a2 a3 a4 a5 a6 a7 a8 a9 a10 a11 a12)))) ( .leaf (.inr (.b16 a0 a1 a2 a3 a4 a5 a6 a7 a8 a9 a10 a11 a12)))))) ( .br (decide (a5>0)) ( .br (!a8) ( .leaf (.inr (.b9 (w64 (a0+500)) a1 a2 a11 a12))) ( .br (a5==0) ( .br (!a11.x1.Good) ( .leaf (.inr (.b9 (w64 (a0+500)) a1 a2 a11 a12))) ( .leaf (.inr (.b17 (w64 (a0+500)) a1 a2 a3 a4 a5 a10 a11 a12)))) ( .leaf (.inr (.b17 (w64 (a0+500)) a1 a2 a3 a4 a5 a10 a11 a12))))) ( .br (a5==0) ( .br (!a11.x1.Good) ( .leaf (.inr (.b9 (w64 (a0+500)) a1 a2 a11 a12))) ( .leaf (.inr (.b17 (w64 (a0+500)) a1 a2 a3 a4 a5 a10 a11 a12)))) ( .leaf (.inr (.b17 (w64 (a0+500)) a1 a2 a3 a4 a5 a10 a11 a12)))))
 | .b14 a0 a1 a2 a3=>.br (decide (a1<2)) ( .br (a1==0) ( .bind 78 (Z6b a2.x0 a0) (fun(x2:Z9×(List Z5))=>.br (a1==0) ( .leaf (.inr (.b14 a0 (w64 (a1+1)) (⟨x2.1,a2.x1⟩:ZT) a3))) ( .br (a1==1) ( .leaf (.inr (.b14 a0 (w64 (a1+1)) (⟨a2.x0,x2.1⟩:ZT) a3))) ( .fail)))) ( .br (a1==1) ( .bind 78 (Z6b a2.x1 a0) (fun(x1:Z9×(List Z5))=>.br (a1==0) ( .leaf (.inr (.b14 a0 (w64 (a1+1)) (⟨x1.1,a2.x1⟩:ZT) a3))) ( .br (a1==1) ( .leaf (.inr (.b14 a0 (w64 (a1+1)) (⟨a2.x0,x1.1⟩:ZT) a3))) ( .fail)))) ( .fail))) ( .leaf (.inl (a2,a0)))
 | .b15 a0 a1 a2 a3 a4 a5 a6 a7 a8 a9 a10 a11 a12=>.bind 46 (Zl3 a11.x1 (⟨0,10,(⟨0,[]⟩:Zd),Zr,0,0,a11.x1.Key⟩:Z22) a0) (fun(x1:Z9×Int)=>.leaf (.inr (.b16 a0 a1 a2 a3 a4 a5 a6 a7 a8 a9 a10 (⟨a11.x0,x1.1⟩:ZT) a12)))
 | .b16 a0 a1 a2 a3 a4 a5 a6 a7 a8 a9 a10 a11 a12=>.leaf (.inr (.b13 a0 a1 a2 a3 a4 a5 a6 a7 a8 (w64 (a9+1)) a10 a11 a12))
 | .b17 a0 a1 a2 a3 a4 a5 a6 a7 a8=>.leaf (.inr (.b6 a0 a1 a2 a3 a4 (w64 (a5+1)) a6 a7 a8))
noncomputable def Z5d (a0:Zq) (a1:ZT) (a2:Int) (a3:Bool) (a4:Int):Option (ZT×Int):=ZO Z56 (.b0 a0 a1 a2 a3 a4)
noncomputable def ZjA:Mod U:=⟨[113,109,3,4,3],110,fun x=>Z5d x.1 x.2.1 x.2.2.1 x.2.2.2.1 x.2.2.2.2.1,by decide⟩
def Z1i:Lay:=⟨[2,3,4,5,6,10,12],[KP,KP,KP,KP,KP,KP,KP],[.var [.s 83 12,.keep,.keep],.var k4,.var k4],⟨[OV 3,OV 4,OV 3,PQ 0,PQ 1,PQ 2,OV 3],[VA 113 3,VA 109 132,VA 109 132]⟩⟩
def Z7V:Lay:=⟨[2,3,4,5,6,10],[KP,KP,KP,KP,KP,KP],[.var [.s 83 12,.keep,.keep],.var k4,.var k4],⟨[OV 3,OV 4,OV 3,PQ 0,PQ 1,PQ 2],[VA 113 3,VA 109 132,VA 109 132]⟩⟩
def Z7T:Lay:=⟨[2,3,4,5,6,10,12,13],[KP,KP,KP,KP,KP,KP,KP,KP],[.var [.s 83 12,.keep,.keep],.var k4,.var k4,.var [.keep,.keep,.keep,.s 5 1,.keep,.keep,.keep,.keep,.keep,.keep,.keep,.keep]],⟨[OV 3,OV 4,OV 3,PQ 0,PQ 1,PQ 2,OV 3,PQ 3],[VA 113 3,VA 109 132,VA 109 132,VA 83 12]⟩⟩
def Z1l:Lay:=⟨[2,3,4,5,6,10,16,17,18],[KP,KP,KP,KP,KP,KP,KP,KP,KP],[.var [.s 83 12,.keep,.keep],.var k4,.var k4],⟨[OV 3,OV 4,OV 3,PQ 0,PQ 1,PQ 2,OV 3,OV 4,OV 3],[VA 113 3,VA 109 132,VA 109 132]⟩⟩
def Z1k:Lay:=⟨[2,6,10],[KP,KP,KP],[.var k4,.var k4],⟨[OV 3,PQ 0,PQ 1],[VA 109 132,VA 109 132]⟩⟩
def Z7N:Lay:=⟨[2,3,4,6,10],[KP,KP,KP,KP,KP],[.var k4,.var k4],⟨[OV 3,OV 4,OV 3,PQ 0,PQ 1],[VA 109 132,VA 109 132]⟩⟩
def Z7r:Lay:=⟨[2,3,4,5,6,10,16,17,18,20,22],[KP,KP,KP,KP,KP,KP,KP,KP,KP,KP,[.s 5 1]],[.var [.s 83 12,.keep,.keep],.var k4,.var k4],⟨[OV 3,OV 4,OV 3,PQ 0,PQ 1,PQ 2,OV 3,OV 4,OV 3,OV 3,OV 62],[VA 113 3,VA 109 132,VA 109 132]⟩⟩
def Z1a:Lay:=⟨[2,3,4,5,6,10,16,17,18,20,24,25,26],[KP,KP,KP,KP,KP,KP,KP,KP,KP,KP,[.s 148 18],KP,KP],[.var [.s 83 12,.keep,.keep],.var k4,.var k4],⟨[OV 3,OV 4,OV 3,PQ 0,PQ 1,PQ 2,OV 3,OV 4,OV 3,OV 3,OV 77,OV 4,OV 3],[VA 113 3,VA 109 132,VA 109 132]⟩⟩
def Z7v:Lay:=⟨[2,6,10,29],[KP,KP,KP,KP],[.var k4,.var k4],⟨[OV 3,PQ 0,PQ 1,OV 3],[VA 109 132,VA 109 132]⟩⟩
def ZkB:Nat->Option Lay
 | 2=>some Z1i
 | 4=>some Z1i
 | 8=>some Z7V
 | 3=>some Z1i
 | 6=>some Z7T
 | 11=>some Z1l
 | 14=>some Z1k
 | 15=>some Z1l
 | 29=>some Z7N
 | 19=>some Z7r
 | 30=>some Z1k
 | 31=>some Z1k
 | 22=>some Z1a
 | 32=>some Z7v
 | 25=>some Z1a
 | 23=>some Z1a
 | 12=>some Z1l
 | _=>none
noncomputable def Zhe:Z2j->Z08 U
 | .b0 a0 a1 a2 a3 a4=>Z0f Tryz.f61 [113,109,3,4,3] (a0,a1,a2,a3,a4,())
 | .b1 a0 a1 a2 a3 a4 a5 a6=>spL Tryz.f61 [1,0,1,0,0,0,0] Z1i (((a0,()),((a1,()),((a2,()),((),((),((),((a3,()),()))))))),((a4,()),((a5,()),((a6,()),()))))
 | .b2 a0 a1 a2 a3 a4 a5 a6=>spL Tryz.f61 [1,0,1,0,0,1,0,0,0] Z1i (((a0,()),((a1,()),((a2,()),((),((),((),((a3,()),()))))))),((a4,()),((a5,()),((a6,()),()))))
 | .b3 a0 a1 a2 a3 a4 a5=>spL Tryz.f61 [1,1,0] Z7V (((a0,()),((a1,()),((a2,()),((),((),((),())))))),((a3,()),((a4,()),((a5,()),()))))
 | .b4 a0 a1 a2 a3 a4 a5 a6=>spL Tryz.f61 [1,0,1,0,0,1,1] Z1i (((a0,()),((a1,()),((a2,()),((),((),((),((a3,()),()))))))),((a4,()),((a5,()),((a6,()),()))))
 | .b5 a0 a1 a2 a3 a4 a5 a6 a7=>spL Tryz.f61 [1,0,1,0,0,1,0,0,1,1,0] Z7T (((a0,()),((a1,()),((a2,()),((),((),((),((a3,()),((),())))))))),((a4,()),((a5,()),((a6,()),((a7,()),())))))
 | .b6 a0 a1 a2 a3 a4 a5 a6 a7 a8=>spL Tryz.f61 [1,1,1,1,0,1,0,0,0,0] Z1l (((a0,()),((a1,()),((a2,()),((),((),((),((a3,()),((a4,()),((a5,()),()))))))))),((a6,()),((a7,()),((a8,()),()))))
 | .b7 a0 a1 a2=>spL Tryz.f61 [1,1,1,1,0,1,0,0,1,0,0,0,1,0,0] Z1k (((a0,()),((),((),()))),((a1,()),((a2,()),())))
 | .b8 a0 a1 a2 a3 a4 a5 a6 a7 a8=>spL Tryz.f61 [1,1,1,1,0,1,0,0,1,0,0,1,0] Z1l (((a0,()),((a1,()),((a2,()),((),((),((),((a3,()),((a4,()),((a5,()),()))))))))),((a6,()),((a7,()),((a8,()),()))))
 | .b9 a0 a1 a2 a3 a4=>spL Tryz.f61 [1,1,1,1,1,0,0] Z7N (((a0,()),((a1,()),((a2,()),((),((),()))))),((a3,()),((a4,()),())))
 | .b10 a0 a1 a2 a3 a4 a5 a6 a7 a8 a9 a10=>spL Tryz.f61 [1,1,1,1,0,1,0,0,1,0,0,1,1,1,1,1,0] Z7r (((a0,()),((a1,()),((a2,()),((),((),((),((a3,()),((a4,()),((a5,()),((a6,()),((a7,()),()))))))))))),((a8,()),((a9,()),((a10,()),()))))
 | .b11 a0 a1 a2=>spL Tryz.f61 [1,1,1,1,1,0,1,0,0] Z1k (((a0,()),((),((),()))),((a1,()),((a2,()),())))
 | .b12 a0 a1 a2=>spL Tryz.f61 [1,1,1,1,1,1,0,0] Z1k (((a0,()),((),((),()))),((a1,()),((a2,()),())))
 | .b13 a0 a1 a2 a3 a4 a5 a6 a7 a8 a9 a10 a11 a12=>spL Tryz.f61 [1,1,1,1,0,1,0,0,1,0,0,1,1,1,1,1,1,1,0,1,0,0,0,0] Z1a (((a0,()),((a1,()),((a2,()),((),((),((),((a3,()),((a4,()),((a5,()),((a6,()),((a7,()),((a8,()),((a9,()),()))))))))))))),((a10,()),((a11,()),((a12,()),()))))
 | .b14 a0 a1 a2 a3=>spL Tryz.f61 [1,1,1,1,1,1,0,1,0,0,0,0] Z7v (((a0,()),((),((),((a1,()),())))),((a2,()),((a3,()),())))
 | .b15 a0 a1 a2 a3 a4 a5 a6 a7 a8 a9 a10 a11 a12=>spL Tryz.f61 [1,1,1,1,0,1,0,0,1,0,0,1,1,1,1,1,1,1,0,1,0,0,1,0,0,1,0,0] Z1a (((a0,()),((a1,()),((a2,()),((),((),((),((a3,()),((a4,()),((a5,()),((a6,()),((a7,()),((a8,()),((a9,()),()))))))))))))),((a10,()),((a11,()),((a12,()),()))))
 | .b16 a0 a1 a2 a3 a4 a5 a6 a7 a8 a9 a10 a11 a12=>spL Tryz.f61 [1,1,1,1,0,1,0,0,1,0,0,1,1,1,1,1,1,1,0,1,0,0,1,1] Z1a (((a0,()),((a1,()),((a2,()),((),((),((),((a3,()),((a4,()),((a5,()),((a6,()),((a7,()),((a8,()),((a9,()),()))))))))))))),((a10,()),((a11,()),((a12,()),()))))
 | .b17 a0 a1 a2 a3 a4 a5 a6 a7 a8=>spL Tryz.f61 [1,1,1,1,0,1,0,0,1,1] Z1l (((a0,()),((a1,()),((a2,()),((),((),((),((a3,()),((a4,()),((a5,()),()))))))))),((a6,()),((a7,()),((a8,()),()))))
theorem Zgt:Z0g 61 Tryz.f61 (mc Zn8 (mc ZDQ (mc Znx (mc ZLt (mc Zs2 msN))))) hsN ZkB 110 Z56 Zhe:=by intro p;cases p<;>kernel_rfl
theorem Ziz:Z0a Tryz.prog B0 61 ZjA:=okP Zgt (fun x=>.b0 x.1 x.2.1 x.2.2.1 x.2.2.2.1 x.2.2.2.2.1) (by kernel_rfl) Tryz.func61 (by kernel_rfl) (by kernel_rfl) (fun _=>rfl) (fun _=>rfl)
inductive Z3f where
 | b0 (a0:Z01)
 | b1 (a0:Z9)
 | b2 (a0:Z01) (a1:Z9)
 | b3 (a0:Int) (a1:Z01) (a2:Z9) (a3:ZT)
 | b4 (a0 a1:Int) (a2:Z01) (a3:Z9) (a4:ZT)
noncomputable def Z7L:Z3f->Tr U ((Z9×Int×Bool)⊕Z3f)
 | .b0 a0=>.br (decide ((↑a0.Events.length:Int)>60)) ( .leaf (.inr (.b1 ZH))) ( .br (a0.Z1z != 0) ( .br (a0.Z1z != 1) ( .leaf (.inr (.b1 ZH))) ( .leaf (.inr (.b2 a0 ZH)))) ( .leaf (.inr (.b2 a0 ZH))))
 | .b1 a0=>.leaf (.inl (ZH,0,false))
 | .b2 a0 a1=>.leaf (.inr (.b3 (0:Int) a0 a1 (⟨ZH,ZH⟩:ZT)))
 | .b3 a0 a1 a2 a3=>.br (decide (a0<2)) ( .br (a0==0) ( .bind 46 (Zl5 a0 a1.ZN (0:Int) a1.Keys.x0 (IntKind.wrap .u64 (a1.Zld+(IntKind.wrap .u64 (a0)))) (0:Int)) (fun(x2:Z9×Int)=>.br (x2.2 != 0) ( .leaf (.inl (ZH,0,false))) ( .br (a0==0) ( .leaf (.inr (.b3 (w64 (a0+1)) a1 a2 (⟨x2.1,a3.x1⟩:ZT)))) ( .br (a0==1) ( .leaf (.inr (.b3 (w64 (a0+1)) a1 a2 (⟨a3.x0,x2.1⟩:ZT)))) ( .fail))))) ( .br (a0==1) ( .bind 46 (Zl5 a0 a1.ZN (0:Int) a1.Keys.x1 (IntKind.wrap .u64 (a1.Zld+(IntKind.wrap .u64 (a0)))) (0:Int)) (fun(x1:Z9×Int)=>.br (x1.2 != 0) ( .leaf (.inl (ZH,0,false))) ( .br (a0==0) ( .leaf (.inr (.b3 (w64 (a0+1)) a1 a2 (⟨x1.1,a3.x1⟩:ZT)))) ( .br (a0==1) ( .leaf (.inr (.b3 (w64 (a0+1)) a1 a2 (⟨a3.x0,x1.1⟩:ZT)))) ( .fail))))) ( .fail))) ( .leaf (.inr (.b4 (0:Int) (0:Int) a1 a2 a3)))
 | .b4 a0 a1 a2 a3 a4=>.br (decide (a1<(↑a2.Events.length:Int))) ( .chk (decide (0<=a1/\a1<(↑a2.Events.length:Int))) ( .bind 113 (a2.Events[(Int.toNat a1)]?) (fun(x1:Zq)=>.bind 110 (Z5d x1 a4 (if a4.x0.Z19>a0 then a4.x0.Z19 else a0) (a1==(w64 ((↑a2.Events.length:Int) - 1))) a2.ZF) (fun(x2:ZT×Int)=>.leaf (.inr (.b4 x2.2 (w64 (a1+1)) a2 a3 (⟨x2.1.x0,x2.1.x1⟩:ZT))))))) ( .br (a2.Z1z==0) ( .leaf (.inl (a4.x0,a0,true))) ( .br (a2.Z1z==1) ( .leaf (.inl (a4.x1,a0,true))) ( .fail)))
noncomputable def Z7G (a0:Z01):Option (Z9×Int×Bool):=ZO Z7L (.b0 a0)
noncomputable def ZnV:Mod U:=⟨[59],60,fun x=>Z7G x.1,by decide⟩
def Zap:Lay:=⟨[2],[KP],[.var k2],⟨[PQ 0],[VA 44 66]⟩⟩
def Zac:Lay:=⟨[1,2],[KP,KP],[.var k14,.var k2],⟨[PQ 0,PQ 1],[VA 59 17,VA 44 66]⟩⟩
def Zan:Lay:=⟨[1,2,5,6],[KP,KP,KP,KP],[.var k14,.var k2,.var k4],⟨[PQ 0,PQ 1,PQ 2,OV 3],[VA 59 17,VA 44 66,VA 109 132]⟩⟩
def Zag:Lay:=⟨[1,2,5,9,10],[KP,KP,KP,KP,KP],[.var k14,.var k2,.var k4],⟨[PQ 0,PQ 1,PQ 2,OV 3,OV 3],[VA 59 17,VA 44 66,VA 109 132]⟩⟩
def Zoa:Nat->Option Lay
 | 2=>some Zap
 | 3=>some Zac
 | 5=>some Zan
 | 13=>some Zag
 | _=>none
noncomputable def ZlG:Z3f->Z08 U
 | .b0 a0=>Z0f Tryz.f21 [59] (a0,())
 | .b1 a0=>spL Tryz.f21 [1,0,1,0,0] Zap (((),()),((a0,()),()))
 | .b2 a0 a1=>spL Tryz.f21 [1,1,0] Zac (((),((),())),((a0,()),((a1,()),())))
 | .b3 a0 a1 a2 a3=>spL Tryz.f21 [1,1,1,0,1,0,0,0,0] Zan (((),((),((),((a0,()),())))),((a1,()),((a2,()),((a3,()),()))))
 | .b4 a0 a1 a2 a3 a4=>spL Tryz.f21 [1,1,1,1,1,0,1,0,0,0,0] Zag (((),((),((),((a0,()),((a1,()),()))))),((a2,()),((a3,()),((a4,()),()))))
theorem Zl9:Z0g 21 Tryz.f21 (mc ZGi (mc Ziz msN)) hsN Zoa 60 Z7L ZlG:=by intro p;cases p<;>kernel_rfl
theorem ZlH:Z0a Tryz.prog B0 21 ZnV:=okP Zl9 (fun x=>.b0 x.1) (by kernel_rfl) Tryz.func21 (by kernel_rfl) (by kernel_rfl) (fun _=>rfl) (fun _=>rfl)
inductive Z6a where
 | b0 (a0:List Zd)
 | b1 (a0 a1:List Zd) (a2:Int)
noncomputable def Z2L:Z6a->Tr U ((List Zd)⊕Z6a)
 | .b0 a0=>.chk (([]:List Zd).length==0) ( .leaf (.inr (.b1 a0 ([]:List Zd) (0:Int))))
 | .b1 a0 a1 a2=>.br (decide (a2<(↑a0.length:Int))) ( .chk (decide (0<=a2/\a2<(↑a0.length:Int))) ( .bind 68 (a0[(Int.toNat a2)]?) (fun(x1:Zd)=>.chk (decide (0<=a2/\a2<(↑a0.length:Int))) ( .bind 68 (a0[(Int.toNat a2)]?) (fun(x2:Zd)=>.chk (([]:List Int).length==0) ( .chk (decide ((0+x2.Payload.length)*1<=lim)&&decide (0+x2.Payload.length<=maxLen)) ( .chk ((([]:List Int)++x2.Payload).length==(([]:List Int)++x2.Payload).length) ( .chk (([(⟨x1.Z5f,(([]:List Int)++x2.Payload)⟩:Zd)]).length==1) ( .chk (a1.length==a1.length) ( .chk (decide ((a1.length+([(⟨x1.Z5f,(([]:List Int)++x2.Payload)⟩:Zd)]).length)*32<=lim)&&decide (a1.length+([(⟨x1.Z5f,(([]:List Int)++x2.Payload)⟩:Zd)]).length<=maxLen)) ( .chk ((a1++[(⟨x1.Z5f,(([]:List Int)++x2.Payload)⟩:Zd)]).length==(a1++[(⟨x1.Z5f,(([]:List Int)++x2.Payload)⟩:Zd)]).length) ( .leaf (.inr (.b1 a0 (a1++[(⟨x1.Z5f,(([]:List Int)++x2.Payload)⟩:Zd)]) (w64 (a2+1)))))))))))))))) ( .chk (a1.length==a1.length) ( .leaf (.inl a1)))
noncomputable def Z6d (a0:List Zd):Option (List Zd):=ZO Z2L (.b0 a0)
noncomputable def Zln:Mod U:=⟨[31],31,fun x=>Z6d x.1,by decide⟩
def Z9t:Lay:=⟨[0,3,4],[[.s 68 2],[.own 68 2],KP],[.row true],⟨[OV 31,.one (.own 68 0),OV 3],[.row 68 true]⟩⟩
def Zmo:Nat->Option Lay
 | 3=>some Z9t
 | _=>none
noncomputable def Zkt:Z6a->Z08 U
 | .b0 a0=>Z0f Tryz.f69 [31] (a0,())
 | .b1 a0 a1 a2=>spL Tryz.f69 [1,1,0,1,0,0,0,0] Z9t (((a0,()),((),((a2,()),()))),(a1,()))
theorem ZhP:Z0g 69 Tryz.f69 msN hsN Zmo 31 Z2L Zkt:=by intro p;cases p<;>kernel_rfl
theorem Zlb:Z0a Tryz.prog B0 69 Zln:=okP ZhP (fun x=>.b0 x.1) (by kernel_rfl) Tryz.func69 (by kernel_rfl) (by kernel_rfl) (fun _=>rfl) (fun _=>rfl)
inductive Zc4 where
 | b0 (a0:Z9)
noncomputable def ZfV:Zc4->Tr U (Z9⊕Zc4)
 | .b0 a0=>.bind 31 (Z6d a0.Arq.Zu) (fun(x1:List Zd)=>.chk (([]:List Z4).length==0) ( .chk (decide ((0+a0.Ze.Zf.length)*120<=lim)&&decide (0+a0.Ze.Zf.length<=maxLen)) ( .chk (([]:List Z8).length==0) ( .chk (decide ((0+a0.Ze.Zo.length)*64<=lim)&&decide (0+a0.Ze.Zo.length<=maxLen)) ( .chk (([]:List Zj).length==0) ( .chk (decide ((0+a0.Zw.length)*16<=lim)&&decide (0+a0.Zw.length<=maxLen)) ( .chk (([]:List Z4).length==0) ( .chk (decide ((0+a0.Zb.length)*120<=lim)&&decide (0+a0.Zb.length<=maxLen)) ( .chk ((([]:List Z4)++a0.Ze.Zf).length==(([]:List Z4)++a0.Ze.Zf).length) ( .chk ((([]:List Z8)++a0.Ze.Zo).length==(([]:List Z8)++a0.Ze.Zo).length) ( .chk ((([]:List Zj)++a0.Zw).length==(([]:List Zj)++a0.Zw).length) ( .chk ((([]:List Z4)++a0.Zb).length==(([]:List Z4)++a0.Zb).length) ( .leaf (.inl ({ a0 with Arq:=({ a0.Arq with Zu:=x1 }:ZK),Ze:=({ a0.Ze with Zf:=(([]:List Z4)++a0.Ze.Zf),Zo:=(([]:List Z8)++a0.Ze.Zo) }:Z7),Zw:=(([]:List Zj)++a0.Zw),Zb:=(([]:List Z4)++a0.Zb) }:Z9)))))))))))))))
noncomputable def Zlx (a0:Z9):Option Z9:=ZO ZfV (.b0 a0)
noncomputable def ZIS:Mod U:=⟨[44],44,fun x=>Zlx x.1,by decide⟩
noncomputable def ZCA:Zc4->Z08 U
 | .b0 a0=>Z0f Tryz.f23 [44] (a0,())
theorem ZAS:Z0g 23 Tryz.f23 (mc Zlb msN) hsN AN 44 ZfV ZCA
 | .b0 ..=>by kernel_rfl
theorem ZEQ:Z0a Tryz.prog B0 23 ZIS:=okP ZAS (fun x=>.b0 x.1) (by kernel_rfl) Tryz.func23 (by kernel_rfl) (by kernel_rfl) (fun _=>rfl) (fun _=>rfl)
inductive ZaQ where
 | b0 (a0:Zk) (a1:Bool)
noncomputable def Z6J:ZaQ->Tr U (Bool⊕ZaQ)
 | .b0 a0 a1=>.br a0.Full ( .leaf (.inl true)) ( .br a1 ( .leaf (.inl true)) ( .br (decide (a0.Z3y>=a0.Z0o)) ( .leaf (.inl true)) ( .leaf (.inl false))))
noncomputable def Z4v (a0:Zk) (a1:Bool):Option Bool:=ZO Z6J (.b0 a0 a1)
noncomputable def ZsQ:Mod U:=⟨[35,4],4,fun x=>Z4v x.1 x.2.1,by decide⟩
noncomputable def Zr9:ZaQ->Z08 U
 | .b0 a0 a1=>Z0f Tryz.f57 [35,4] (a0,a1,())
theorem Zoi:Z0g 57 Tryz.f57 msN hsN AN 4 Z6J Zr9
 | .b0 ..=>by kernel_rfl
theorem Zfa:Z0a Tryz.prog B0 57 ZsQ:=okP Zoi (fun x=>.b0 x.1 x.2.1) (by kernel_rfl) Tryz.func57 (by kernel_rfl) (by kernel_rfl) (fun _=>rfl) (fun _=>rfl)
inductive ZlW where
 | b0 (a0:ZK)
noncomputable def Zta:ZlW->Tr U (Bool⊕ZlW)
 | .b0 a0=>.leaf (.inl ((↑a0.Zu.length:Int)==0))
noncomputable def Zmq (a0:ZK):Option Bool:=ZO Zta (.b0 a0)
noncomputable def ZGg:Mod U:=⟨[33],4,fun x=>Zmq x.1,by decide⟩
noncomputable def ZDL:ZlW->Z08 U
 | .b0 a0=>Z0f Tryz.f58 [33] (a0,())
theorem ZA2:Z0g 58 Tryz.f58 msN hsN AN 4 Zta ZDL
 | .b0 ..=>by kernel_rfl
theorem ZEz:Z0a Tryz.prog B0 58 ZGg:=okP ZA2 (fun x=>.b0 x.1) (by kernel_rfl) Tryz.func58 (by kernel_rfl) (by kernel_rfl) (fun _=>rfl) (fun _=>rfl)
inductive Zfu where
 | b0 (a0:Z9)
 | b1 (a0:Z9)
noncomputable def Z71:Zfu->Tr U (Bool⊕Zfu)
 | .b0 a0=>.br (a0.Z05 != 0) ( .leaf (.inl false)) ( .br (a0.Z1z != 1) ( .leaf (.inl false)) ( .br (!a0.Z2C) ( .leaf (.inl false)) ( .leaf (.inr (.b1 a0)))))
 | .b1 a0=>.br ((↑a0.Zb.length:Int)==0) ( .br ((↑a0.Ze.Zo.length:Int)==0) ( .bind 4 (Zmq a0.Arq) (fun(x1:Bool)=>.bind 4 (Z4v a0.Z0y (!x1)) (fun(x2:Bool)=>.leaf (.inl (!x2))))) ( .leaf (.inl false))) ( .leaf (.inl false))
noncomputable def ZeF (a0:Z9):Option Bool:=ZO Z71 (.b0 a0)
noncomputable def ZAU:Mod U:=⟨[44],4,fun x=>ZeF x.1,by decide⟩
def ZgS:Lay:=⟨[1],[KP],[.var k2],⟨[PQ 0],[VA 44 66]⟩⟩
def Zxp:Nat->Option Lay
 | 3=>some ZgS
 | _=>none
noncomputable def Zu0:Zfu->Z08 U
 | .b0 a0=>Z0f Tryz.f19 [44] (a0,())
 | .b1 a0=>spL Tryz.f19 [1,1,0] ZgS (((),()),((a0,()),()))
theorem ZrD:Z0g 19 Tryz.f19 (mc Zfa (mc ZEz msN)) hsN Zxp 4 Z71 Zu0:=by intro p;cases p<;>kernel_rfl
theorem ZuQ:Z0a Tryz.prog B0 19 ZAU:=okP ZrD (fun x=>.b0 x.1) (by kernel_rfl) Tryz.func19 (by kernel_rfl) (by kernel_rfl) (fun _=>rfl) (fun _=>rfl)
inductive Zdf where
 | b0 (a0:Int)
 | b1 (a0 a1 a2:Int)
noncomputable def Z32:Zdf->Tr U (Int⊕Zdf)
 | .b0 a0=>.leaf (.inr (.b1 a0 (0:Int) (0:Int)))
 | .b1 a0 a1 a2=>.br (decide (a2<8)) ( .chk (decide (0<=a2)) ( .chk (decide (0<=(w64 ((7:Int) - a2)))) ( .leaf (.inr (.b1 a0 (bits .or .u16 a1 (IntKind.wrap .u16 ((bits .and .u16 (Int.fdiv a0 (2 ^ (min (Int.toNat a2) (IntKind.bits .u16)))) (257:Int))*2 ^ (min (Int.toNat (w64 ((7:Int) - a2))) (IntKind.bits .u16))))) (w64 (a2+1))))))) ( .leaf (.inl a1))
noncomputable def ZcG (a0:Int):Option Int:=ZO Z32 (.b0 a0)
noncomputable def Zw0:Mod U:=⟨[30],30,fun x=>ZcG x.1,by decide⟩
def ZfE:Lay:=⟨[0,3,5],[KP,KP,KP],[],⟨[OV 30,OV 30,OV 3],[]⟩⟩
def Zud:Nat->Option Lay
 | 3=>some ZfE
 | _=>none
noncomputable def ZsG:Zdf->Z08 U
 | .b0 a0=>Z0f Tryz.f222 [30] (a0,())
 | .b1 a0 a1 a2=>spL Tryz.f222 [1,1,0,1,0,0,0] ZfE (((a0,()),((a1,()),((a2,()),()))),())
theorem Zqo:Z0g 222 Tryz.f222 msN hsN Zud 30 Z32 ZsG:=by intro p;cases p<;>kernel_rfl
theorem ZrV:Z0a Tryz.prog B0 222 Zw0:=okP Zqo (fun x=>.b0 x.1) (by kernel_rfl) Tryz.func222 (by kernel_rfl) (by kernel_rfl) (fun _=>rfl) (fun _=>rfl)
inductive ZfF where
 | b0 (a0 a1:Int)
 | b1 (a0 a1 a2:Int)
noncomputable def Z4S:ZfF->Tr U (Int⊕ZfF)
 | .b0 a0 a1=>.leaf (.inr (.b1 a1 (bits .xor .u16 a0 a1) (0:Int)))
 | .b1 a0 a1 a2=>.br (decide (a2<3)) ( .bind 30 (ZcG a1) (fun(x1:Int)=>.leaf (.inr (.b1 a0 (IntKind.wrap .u16 ((IntKind.wrap .u16 (x1*17))+a0)) (w64 (a2+1)))))) ( .leaf (.inl (bits .xor .u16 a1 a0)))
noncomputable def Zav (a0 a1:Int):Option Int:=ZO Z4S (.b0 a0 a1)
noncomputable def ZAv:Mod U:=⟨[30,30],30,fun x=>Zav x.1 x.2.1,by decide⟩
def ZgH:Lay:=⟨[1,5,9],[KP,KP,KP],[],⟨[OV 30,OV 30,OV 3],[]⟩⟩
def Zyi:Nat->Option Lay
 | 3=>some ZgH
 | _=>none
noncomputable def Zv3:ZfF->Z08 U
 | .b0 a0 a1=>Z0f Tryz.f133 [30,30] (a0,a1,())
 | .b1 a0 a1 a2=>spL Tryz.f133 [1,1,0,1,0,0,0] ZgH (((a0,()),((a1,()),((a2,()),()))),())
theorem Zsb:Z0g 133 Tryz.f133 (mc ZrV msN) hsN Zyi 30 Z4S Zv3:=by intro p;cases p<;>kernel_rfl
theorem ZjU:Z0a Tryz.prog B0 133 ZAv:=okP Zsb (fun x=>.b0 x.1 x.2.1) (by kernel_rfl) Tryz.func133 (by kernel_rfl) (by kernel_rfl) (fun _=>rfl) (fun _=>rfl)
inductive ZiL where
 | b0 (a0:Int)
noncomputable def ZiD:ZiL->Tr U (Int⊕ZiL)
 | .b0 a0=>.leaf (.inl (bits .xor .u16 (IntKind.wrap .u16 ((Int.fdiv a0 (2 ^ (16:Nat))))) (IntKind.wrap .u16 (a0))))
noncomputable def Zck (a0:Int):Option Int:=ZO ZiD (.b0 a0)
noncomputable def ZBx:Mod U:=⟨[22],30,fun x=>Zck x.1,by decide⟩
noncomputable def ZxJ:ZiL->Z08 U
 | .b0 a0=>Z0f Tryz.f134 [22] (a0,())
theorem Zw5:Z0g 134 Tryz.f134 msN hsN AN 30 ZiD ZxJ
 | .b0 ..=>by kernel_rfl
theorem Zn4:Z0a Tryz.prog B0 134 ZBx:=okP Zw5 (fun x=>.b0 x.1) (by kernel_rfl) Tryz.func134 (by kernel_rfl) (by kernel_rfl) (fun _=>rfl) (fun _=>rfl)
inductive Z38 where
 | b0 (a0:Int)
noncomputable def Z55:Z38->Tr U (Int⊕Z38)
 | .b0 a0=>.leaf (.inl (bits .and .i64 (w64 ((IntKind.wrap .u64 ((IntKind.wrap .u64 ((IntKind.wrap .u64 ((bits .and .u64 (IntKind.wrap .u64 ((Int.fdiv (IntKind.wrap .u64 ((bits .and .u64 (Int.fdiv (IntKind.wrap .u64 ((bits .and .u64 (Int.fdiv a0 (2 ^ (1:Nat))) (6148914691236517205:Int))+(bits .and .u64 a0 (6148914691236517205:Int)))) (2 ^ (2:Nat))) (3689348814741910323:Int))+(bits .and .u64 (IntKind.wrap .u64 ((bits .and .u64 (Int.fdiv a0 (2 ^ (1:Nat))) (6148914691236517205:Int))+(bits .and .u64 a0 (6148914691236517205:Int)))) (3689348814741910323:Int)))) (2 ^ (4:Nat)))+(IntKind.wrap .u64 ((bits .and .u64 (Int.fdiv (IntKind.wrap .u64 ((bits .and .u64 (Int.fdiv a0 (2 ^ (1:Nat))) (6148914691236517205:Int))+(bits .and .u64 a0 (6148914691236517205:Int)))) (2 ^ (2:Nat))) (3689348814741910323:Int))+(bits .and .u64 (IntKind.wrap .u64 ((bits .and .u64 (Int.fdiv a0 (2 ^ (1:Nat))) (6148914691236517205:Int))+(bits .and .u64 a0 (6148914691236517205:Int)))) (3689348814741910323:Int)))))) (1085102592571150095:Int))+(Int.fdiv (bits .and .u64 (IntKind.wrap .u64 ((Int.fdiv (IntKind.wrap .u64 ((bits .and .u64 (Int.fdiv (IntKind.wrap .u64 ((bits .and .u64 (Int.fdiv a0 (2 ^ (1:Nat))) (6148914691236517205:Int))+(bits .and .u64 a0 (6148914691236517205:Int)))) (2 ^ (2:Nat))) (3689348814741910323:Int))+(bits .and .u64 (IntKind.wrap .u64 ((bits .and .u64 (Int.fdiv a0 (2 ^ (1:Nat))) (6148914691236517205:Int))+(bits .and .u64 a0 (6148914691236517205:Int)))) (3689348814741910323:Int)))) (2 ^ (4:Nat)))+(IntKind.wrap .u64 ((bits .and .u64 (Int.fdiv (IntKind.wrap .u64 ((bits .and .u64 (Int.fdiv a0 (2 ^ (1:Nat))) (6148914691236517205:Int))+(bits .and .u64 a0 (6148914691236517205:Int)))) (2 ^ (2:Nat))) (3689348814741910323:Int))+(bits .and .u64 (IntKind.wrap .u64 ((bits .and .u64 (Int.fdiv a0 (2 ^ (1:Nat))) (6148914691236517205:Int))+(bits .and .u64 a0 (6148914691236517205:Int)))) (3689348814741910323:Int)))))) (1085102592571150095:Int)) (2 ^ (8:Nat)))))+(Int.fdiv (IntKind.wrap .u64 ((bits .and .u64 (IntKind.wrap .u64 ((Int.fdiv (IntKind.wrap .u64 ((bits .and .u64 (Int.fdiv (IntKind.wrap .u64 ((bits .and .u64 (Int.fdiv a0 (2 ^ (1:Nat))) (6148914691236517205:Int))+(bits .and .u64 a0 (6148914691236517205:Int)))) (2 ^ (2:Nat))) (3689348814741910323:Int))+(bits .and .u64 (IntKind.wrap .u64 ((bits .and .u64 (Int.fdiv a0 (2 ^ (1:Nat))) (6148914691236517205:Int))+(bits .and .u64 a0 (6148914691236517205:Int)))) (3689348814741910323:Int)))) (2 ^ (4:Nat)))+(IntKind.wrap .u64 ((bits .and .u64 (Int.fdiv (IntKind.wrap .u64 ((bits .and .u64 (Int.fdiv a0 (2 ^ (1:Nat))) (6148914691236517205:Int))+(bits .and .u64 a0 (6148914691236517205:Int)))) (2 ^ (2:Nat))) (3689348814741910323:Int))+(bits .and .u64 (IntKind.wrap .u64 ((bits .and .u64 (Int.fdiv a0 (2 ^ (1:Nat))) (6148914691236517205:Int))+(bits .and .u64 a0 (6148914691236517205:Int)))) (3689348814741910323:Int)))))) (1085102592571150095:Int))+(Int.fdiv (bits .and .u64 (IntKind.wrap .u64 ((Int.fdiv (IntKind.wrap .u64 ((bits .and .u64 (Int.fdiv (IntKind.wrap .u64 ((bits .and .u64 (Int.fdiv a0 (2 ^ (1:Nat))) (6148914691236517205:Int))+(bits .and .u64 a0 (6148914691236517205:Int)))) (2 ^ (2:Nat))) (3689348814741910323:Int))+(bits .and .u64 (IntKind.wrap .u64 ((bits .and .u64 (Int.fdiv a0 (2 ^ (1:Nat))) (6148914691236517205:Int))+(bits .and .u64 a0 (6148914691236517205:Int)))) (3689348814741910323:Int)))) (2 ^ (4:Nat)))+(IntKind.wrap .u64 ((bits .and .u64 (Int.fdiv (IntKind.wrap .u64 ((bits .and .u64 (Int.fdiv a0 (2 ^ (1:Nat))) (6148914691236517205:Int))+(bits .and .u64 a0 (6148914691236517205:Int)))) (2 ^ (2:Nat))) (3689348814741910323:Int))+(bits .and .u64 (IntKind.wrap .u64 ((bits .and .u64 (Int.fdiv a0 (2 ^ (1:Nat))) (6148914691236517205:Int))+(bits .and .u64 a0 (6148914691236517205:Int)))) (3689348814741910323:Int)))))) (1085102592571150095:Int)) (2 ^ (8:Nat))))) (2 ^ (16:Nat)))))+(Int.fdiv (IntKind.wrap .u64 ((IntKind.wrap .u64 ((bits .and .u64 (IntKind.wrap .u64 ((Int.fdiv (IntKind.wrap .u64 ((bits .and .u64 (Int.fdiv (IntKind.wrap .u64 ((bits .and .u64 (Int.fdiv a0 (2 ^ (1:Nat))) (6148914691236517205:Int))+(bits .and .u64 a0 (6148914691236517205:Int)))) (2 ^ (2:Nat))) (3689348814741910323:Int))+(bits .and .u64 (IntKind.wrap .u64 ((bits .and .u64 (Int.fdiv a0 (2 ^ (1:Nat))) (6148914691236517205:Int))+(bits .and .u64 a0 (6148914691236517205:Int)))) (3689348814741910323:Int)))) (2 ^ (4:Nat)))+(IntKind.wrap .u64 ((bits .and .u64 (Int.fdiv (IntKind.wrap .u64 ((bits .and .u64 (Int.fdiv a0 (2 ^ (1:Nat))) (6148914691236517205:Int))+(bits .and .u64 a0 (6148914691236517205:Int)))) (2 ^ (2:Nat))) (3689348814741910323:Int))+(bits .and .u64 (IntKind.wrap .u64 ((bits .and .u64 (Int.fdiv a0 (2 ^ (1:Nat))) (6148914691236517205:Int))+(bits .and .u64 a0 (6148914691236517205:Int)))) (3689348814741910323:Int)))))) (1085102592571150095:Int))+(Int.fdiv (bits .and .u64 (IntKind.wrap .u64 ((Int.fdiv (IntKind.wrap .u64 ((bits .and .u64 (Int.fdiv (IntKind.wrap .u64 ((bits .and .u64 (Int.fdiv a0 (2 ^ (1:Nat))) (6148914691236517205:Int))+(bits .and .u64 a0 (6148914691236517205:Int)))) (2 ^ (2:Nat))) (3689348814741910323:Int))+(bits .and .u64 (IntKind.wrap .u64 ((bits .and .u64 (Int.fdiv a0 (2 ^ (1:Nat))) (6148914691236517205:Int))+(bits .and .u64 a0 (6148914691236517205:Int)))) (3689348814741910323:Int)))) (2 ^ (4:Nat)))+(IntKind.wrap .u64 ((bits .and .u64 (Int.fdiv (IntKind.wrap .u64 ((bits .and .u64 (Int.fdiv a0 (2 ^ (1:Nat))) (6148914691236517205:Int))+(bits .and .u64 a0 (6148914691236517205:Int)))) (2 ^ (2:Nat))) (3689348814741910323:Int))+(bits .and .u64 (IntKind.wrap .u64 ((bits .and .u64 (Int.fdiv a0 (2 ^ (1:Nat))) (6148914691236517205:Int))+(bits .and .u64 a0 (6148914691236517205:Int)))) (3689348814741910323:Int)))))) (1085102592571150095:Int)) (2 ^ (8:Nat)))))+(Int.fdiv (IntKind.wrap .u64 ((bits .and .u64 (IntKind.wrap .u64 ((Int.fdiv (IntKind.wrap .u64 ((bits .and .u64 (Int.fdiv (IntKind.wrap .u64 ((bits .and .u64 (Int.fdiv a0 (2 ^ (1:Nat))) (6148914691236517205:Int))+(bits .and .u64 a0 (6148914691236517205:Int)))) (2 ^ (2:Nat))) (3689348814741910323:Int))+(bits .and .u64 (IntKind.wrap .u64 ((bits .and .u64 (Int.fdiv a0 (2 ^ (1:Nat))) (6148914691236517205:Int))+(bits .and .u64 a0 (6148914691236517205:Int)))) (3689348814741910323:Int)))) (2 ^ (4:Nat)))+(IntKind.wrap .u64 ((bits .and .u64 (Int.fdiv (IntKind.wrap .u64 ((bits .and .u64 (Int.fdiv a0 (2 ^ (1:Nat))) (6148914691236517205:Int))+(bits .and .u64 a0 (6148914691236517205:Int)))) (2 ^ (2:Nat))) (3689348814741910323:Int))+(bits .and .u64 (IntKind.wrap .u64 ((bits .and .u64 (Int.fdiv a0 (2 ^ (1:Nat))) (6148914691236517205:Int))+(bits .and .u64 a0 (6148914691236517205:Int)))) (3689348814741910323:Int)))))) (1085102592571150095:Int))+(Int.fdiv (bits .and .u64 (IntKind.wrap .u64 ((Int.fdiv (IntKind.wrap .u64 ((bits .and .u64 (Int.fdiv (IntKind.wrap .u64 ((bits .and .u64 (Int.fdiv a0 (2 ^ (1:Nat))) (6148914691236517205:Int))+(bits .and .u64 a0 (6148914691236517205:Int)))) (2 ^ (2:Nat))) (3689348814741910323:Int))+(bits .and .u64 (IntKind.wrap .u64 ((bits .and .u64 (Int.fdiv a0 (2 ^ (1:Nat))) (6148914691236517205:Int))+(bits .and .u64 a0 (6148914691236517205:Int)))) (3689348814741910323:Int)))) (2 ^ (4:Nat)))+(IntKind.wrap .u64 ((bits .and .u64 (Int.fdiv (IntKind.wrap .u64 ((bits .and .u64 (Int.fdiv a0 (2 ^ (1:Nat))) (6148914691236517205:Int))+(bits .and .u64 a0 (6148914691236517205:Int)))) (2 ^ (2:Nat))) (3689348814741910323:Int))+(bits .and .u64 (IntKind.wrap .u64 ((bits .and .u64 (Int.fdiv a0 (2 ^ (1:Nat))) (6148914691236517205:Int))+(bits .and .u64 a0 (6148914691236517205:Int)))) (3689348814741910323:Int)))))) (1085102592571150095:Int)) (2 ^ (8:Nat))))) (2 ^ (16:Nat))))) (2 ^ (32:Nat))))))) (127:Int)))
noncomputable def Z1R (a0:Int):Option Int:=ZO Z55 (.b0 a0)
noncomputable def ZcU:Mod U:=⟨[25],3,fun x=>Z1R x.1,by decide⟩
noncomputable def Zbb:Z38->Z08 U
 | .b0 a0=>Z0f Tryz.f287 [25] (a0,())
theorem ZaX:Z0g 287 Tryz.f287 msN hsN AN 3 Z55 Zbb
 | .b0 ..=>by kernel_rfl
theorem Zbf:Z0a Tryz.prog B0 287 ZcU:=okP ZaX (fun x=>.b0 x.1) (by kernel_rfl) Tryz.func287 (by kernel_rfl) (by kernel_rfl) (fun _=>rfl) (fun _=>rfl)
inductive Z9n where
 | b0 (a0:Int)
noncomputable def Z9I:Z9n->Tr U (Int⊕Z9n)
 | .b0 a0=>.bind 3 (Z1R (bits .and .u64 a0 (137438953471:Int))) (fun(x1:Int)=>.leaf (.inl x1))
noncomputable def Z3Y (a0:Int):Option Int:=ZO Z9I (.b0 a0)
noncomputable def Zrr:Mod U:=⟨[26],3,fun x=>Z3Y x.1,by decide⟩
noncomputable def Zoh:Z9n->Z08 U
 | .b0 a0=>Z0f Tryz.f218 [26] (a0,())
theorem ZlB:Z0g 218 Tryz.f218 (mc Zbf msN) hsN AN 3 Z9I Zoh
 | .b0 ..=>by kernel_rfl
theorem Zdz:Z0a Tryz.prog B0 218 Zrr:=okP ZlB (fun x=>.b0 x.1) (by kernel_rfl) Tryz.func218 (by kernel_rfl) (by kernel_rfl) (fun _=>rfl) (fun _=>rfl)
inductive ZcP where
 | b0 (a0 a1:Int)
noncomputable def Zde:ZcP->Tr U (Bool⊕ZcP)
 | .b0 a0 a1=>.br (decide (a1>=0)) ( .br (decide (a1<37)) ( .chk (decide (0<=a1)) ( .leaf (.inl ((bits .and .u64 (Int.fdiv a0 (2 ^ (min (Int.toNat a1) (IntKind.bits .u64)))) (1:Int))==1)))) ( .leaf (.inl false))) ( .leaf (.inl false))
noncomputable def Z8k (a0 a1:Int):Option Bool:=ZO Zde (.b0 a0 a1)
noncomputable def ZvP:Mod U:=⟨[26,3],4,fun x=>Z8k x.1 x.2.1,by decide⟩
noncomputable def ZrB:ZcP->Z08 U
 | .b0 a0 a1=>Z0f Tryz.f223 [26,3] (a0,a1,())
theorem ZpU:Z0g 223 Tryz.f223 msN hsN AN 4 Zde ZrB
 | .b0 ..=>by kernel_rfl
theorem ZgY:Z0a Tryz.prog B0 223 ZvP:=okP ZpU (fun x=>.b0 x.1 x.2.1) (by kernel_rfl) Tryz.func223 (by kernel_rfl) (by kernel_rfl) (fun _=>rfl) (fun _=>rfl)
end Go.Proofs.YtjodhcdmhobmoaaGreatDoor
