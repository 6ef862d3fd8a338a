/-
  A part of the proof.
-/
import Derived.Test.YtjodhcdmhobmoaaGreatDoorF2
set_option linter.unusedVariables false
set_option linter.unusedSimpArgs false
namespace Go.Proofs.YtjodhcdmhobmoaaGreatDoor
open Go Go.Proofs.YtjodhcdmhobmoaaGreatDoor.Le
set_option maxRecDepth 100000
inductive Z1y where
 | b0 (a0:Z7) (a1:Z4)
 | b1 (a0 a1:Z7)
 | b2 (a0:Z7) (a1:Z4) (a2:Z7)
 | b3 (a0:Z7) (a1:Z4) (a2:Z7)
noncomputable def Z3u:Z1y->Tr U ((Z7×(List Z4)×(List Z5))⊕Z1y)
 | .b0 a0 a1=>.br (a0.Own != a1.Z0C) ( .leaf (.inr (.b1 a0 (⟨(0:Int),(0:Int),(0:Int),([]:List Z4),(0:Int),(0:Int),([]:List Z9),false,(0:Int),(0:Int),false,false,(0:Int),(0:Int),(0:Int),(0:Int),(0:Int),(0:Int),(0:Int),(0:Int)⟩:Z7)))) ( .bind 4 (Z2A a0.Own) (fun(x1:Bool)=>.br x1 ( .leaf (.inr (.b1 a0 (⟨(0:Int),(0:Int),(0:Int),([]:List Z4),(0:Int),(0:Int),([]:List Z9),false,(0:Int),(0:Int),false,false,(0:Int),(0:Int),(0:Int),(0:Int),(0:Int),(0:Int),(0:Int),(0:Int)⟩:Z7)))) ( .br (a0.Own==(2:Int)) ( .leaf (.inr (.b1 a0 (⟨(0:Int),(0:Int),(0:Int),([]:List Z4),(0:Int),(0:Int),([]:List Z9),false,(0:Int),(0:Int),false,false,(0:Int),(0:Int),(0:Int),(0:Int),(0:Int),(0:Int),(0:Int),(0:Int)⟩:Z7)))) ( .leaf (.inr (.b2 a0 a1 (⟨(0:Int),(0:Int),(0:Int),([]:List Z4),(0:Int),(0:Int),([]:List Z9),false,(0:Int),(0:Int),false,false,(0:Int),(0:Int),(0:Int),(0:Int),(0:Int),(0:Int),(0:Int),(0:Int)⟩:Z7)))))))
 | .b1 a0 a1=>.chk (([]:List Z4).length==0) ( .chk (([]:List Z5).length==0) ( .leaf (.inl (a0,([]:List Z4),([]:List Z5)))))
 | .b2 a0 a1 a2=>.br (a0.Own==(3:Int)) ( .leaf (.inr (.b3 ({ a0 with Z1W:=(0:Int) }:Z7) a1 a2))) ( .leaf (.inr (.b3 a0 a1 a2)))
 | .b3 a0 a1 a2=>.bind 77 (Z1q (9:Int) (IntKind.wrap .u64 (a1.Z0C))) (fun(x1:List Z5)=>.chk (([]:List Z4).length==0) ( .leaf (.inl (({ a0 with Own:=(-1:Int) }:Z7),([]:List Z4),x1))))
noncomputable def Z3y (a0:Z7) (a1:Z4):Option (Z7×(List Z4)×(List Z5)):=Z05 Z3u (.b0 a0 a1)
noncomputable def ZfV:Mod U:=⟨[39,156],237,fun x=>Z3y x.1 x.2.1,by decide⟩
def Z5m:Lay:=⟨[2,4],[[.keep],[.keep]],[.var k0,.var k0],⟨[.one (.ptr 0),.one (.ptr 1)],[.var 39 20 (.agg [.v 39 20 true]),.var 39 20 (.agg [.v 39 20 true])]⟩⟩
def Z5p:Lay:=⟨[2,3,4],[[.keep],[.keep],[.keep]],[.var k0,.var k2,.var k0],⟨[.one (.ptr 0),.one (.ptr 1),.one (.ptr 2)],[.var 39 20 (.agg [.v 39 20 true]),.var 156 15 (.agg [.v 156 15 true]),.var 39 20 (.agg [.v 39 20 true])]⟩⟩
def Z5y:Lay:=⟨[2,3,4],[[.keep],[.keep],[.keep]],[.var k0,.var k2,.var k0],⟨[.one (.ptr 0),.one (.ptr 1),.one (.ptr 2)],[.var 39 20 (.agg [.v 39 20 true]),.var 156 15 (.agg [.v 156 15 true]),.var 39 20 (.agg [.v 39 20 true])]⟩⟩
def ZfT:Nat->Option Lay
 | 2=>some Z5m
 | 3=>some Z5p
 | 5=>some Z5y
 | _=>none
noncomputable def Zen:Z1y->Z08 U
 | .b0 a0 a1=>Z0f Tryz.f283 [39,156] (a0,a1,())
 | .b1 a0 a1=>spL Tryz.f283 [1,0,1,0,0] Z5m (((),((),())),((a0,()),((a1,()),())))
 | .b2 a0 a1 a2=>spL Tryz.f283 [1,1,0,0] Z5p (((),((),((),()))),((a0,()),((a1,()),((a2,()),()))))
 | .b3 a0 a1 a2=>spL Tryz.f283 [1,1,1,0] Z5y (((),((),((),()))),((a0,()),((a1,()),((a2,()),()))))
theorem Zcd:Z0e 283 Tryz.f283 (mc Z3b (mc Z99 msN)) hsN ZfT 237 Z3u Zen
 | .b0 _ _=>by kernel_rfl
 | .b1 _ _=>by kernel_rfl
 | .b2 _ _ _=>by kernel_rfl
 | .b3 _ _ _=>by kernel_rfl
theorem Zdx:Z04 Tryz.prog B0 283 ZfV:=okP Zcd (fun x=>.b0 x.1 x.2.1) (by kernel_rfl) Tryz.func283 (by kernel_rfl) (by kernel_rfl) (fun _=>rfl) (fun _=>rfl)
inductive Z1C where
 | b0 (a0:Z7) (a1:Z4) (a2:Int)
noncomputable def Z3i:Z1C->Tr U ((Z7×(List Z4)×(List Z5))⊕Z1C)
 | .b0 a0 a1 a2=>.br (a0.Z1G != (0:Int)) ( .chk (([]:List Z4).length==0) ( .chk (([]:List Z5).length==0) ( .leaf (.inl (a0,([]:List Z4),([]:List Z5)))))) ( .bind 4 (Z2A a0.Own) (fun(x1:Bool)=>.br x1 ( .bind 36 (Z2w (⟨(13:Int),Zu,(0:Int),(0:Int),(42:Int),(15:Int),(0:Int),(0:Int),(0:Int),(0:Int),(0:Int)⟩:Z4)) (fun(x2:List Z4)=>.chk (([]:List Z5).length==0) ( .leaf (.inl (a0,x2,([]:List Z5)))))) ( .chk (([]:List Z4).length==0) ( .chk (([(⟨(12:Int),(0:Int),(⟨(0:Int),[]⟩:Zb),Z0I,(0:Int),a1.ZI⟩:Z5)]).length==1) ( .leaf (.inl (({ a0 with Other:=(15:Int),Z0i:=a2 }:Z7),([]:List Z4),[(⟨(12:Int),(0:Int),(⟨(0:Int),[]⟩:Zb),Z0I,(0:Int),a1.ZI⟩:Z5)])))))))
noncomputable def Z3K (a0:Z7) (a1:Z4) (a2:Int):Option (Z7×(List Z4)×(List Z5)):=Z05 Z3i (.b0 a0 a1 a2)
noncomputable def Zhc:Mod U:=⟨[39,156,3],237,fun x=>Z3K x.1 x.2.1 x.2.2.1,by decide⟩
noncomputable def Zeh:Z1C->Z08 U
 | .b0 a0 a1 a2=>Z0f Tryz.f284 [39,156,3] (a0,a1,a2,())
theorem Zcb:Z0e 284 Tryz.f284 (mc Z3b (mc Z5S msN)) hsN AN 237 Z3i Zeh
 | .b0 _ _ _=>by kernel_rfl
theorem Zdq:Z04 Tryz.prog B0 284 Zhc:=okP Zcb (fun x=>.b0 x.1 x.2.1 x.2.2.1) (by kernel_rfl) Tryz.func284 (by kernel_rfl) (by kernel_rfl) (fun _=>rfl) (fun _=>rfl)
inductive Z1E where
 | b0 (a0:Z7) (a1:Z4)
 | b1 (a0 a1:Z7)
 | b2 (a0:Z7) (a1:Z4) (a2:Z7)
noncomputable def Z3z:Z1E->Tr U ((Z7×(List Z4)×(List Z5))⊕Z1E)
 | .b0 a0 a1=>.br (a1.Kind==(21:Int)) ( .br (a0.Own != (20:Int)) ( .leaf (.inr (.b1 a0 (⟨(0:Int),(0:Int),(0:Int),([]:List Z4),(0:Int),(0:Int),([]:List Z9),false,(0:Int),(0:Int),false,false,(0:Int),(0:Int),(0:Int),(0:Int),(0:Int),(0:Int),(0:Int),(0:Int)⟩:Z7)))) ( .leaf (.inr (.b2 a0 a1 (⟨(0:Int),(0:Int),(0:Int),([]:List Z4),(0:Int),(0:Int),([]:List Z9),false,(0:Int),(0:Int),false,false,(0:Int),(0:Int),(0:Int),(0:Int),(0:Int),(0:Int),(0:Int),(0:Int)⟩:Z7))))) ( .leaf (.inr (.b2 a0 a1 (⟨(0:Int),(0:Int),(0:Int),([]:List Z4),(0:Int),(0:Int),([]:List Z9),false,(0:Int),(0:Int),false,false,(0:Int),(0:Int),(0:Int),(0:Int),(0:Int),(0:Int),(0:Int),(0:Int)⟩:Z7))))
 | .b1 a0 a1=>.chk (([]:List Z4).length==0) ( .chk (([]:List Z5).length==0) ( .leaf (.inl (a0,([]:List Z4),([]:List Z5)))))
 | .b2 a0 a1 a2=>.br (a1.Kind==(21:Int)) ( .bind 77 (Z1q (11:Int) (IntKind.wrap .u64 ((if a0.Limit<a1.Length then a0.Limit else a1.Length)))) (fun(x1:List Z5)=>.chk (([]:List Z4).length==0) ( .leaf (.inl (({ a0 with Own:=(-1:Int),Length:=(if a0.Limit<a1.Length then a0.Limit else a1.Length) }:Z7),([]:List Z4),x1))))) ( .bind 36 (Z2w (⟨(21:Int),Zu,(0:Int),(0:Int),(0:Int),(0:Int),(0:Int),(0:Int),(0:Int),(0:Int),a0.Limit⟩:Z4)) (fun(x2:List Z4)=>.bind 77 (Z1q (11:Int) (IntKind.wrap .u64 ((if a0.Limit<a1.Length then a0.Limit else a1.Length)))) (fun(x3:List Z5)=>.leaf (.inl (({ a0 with Length:=(if a0.Limit<a1.Length then a0.Limit else a1.Length) }:Z7),x2,x3)))))
noncomputable def Z3e (a0:Z7) (a1:Z4):Option (Z7×(List Z4)×(List Z5)):=Z05 Z3z (.b0 a0 a1)
noncomputable def ZfL:Mod U:=⟨[39,156],237,fun x=>Z3e x.1 x.2.1,by decide⟩
def Z5x:Lay:=⟨[2,4],[[.keep],[.keep]],[.var k0,.var k0],⟨[.one (.ptr 0),.one (.ptr 1)],[.var 39 20 (.agg [.v 39 20 true]),.var 39 20 (.agg [.v 39 20 true])]⟩⟩
def Z5B:Lay:=⟨[2,3,4],[[.keep],[.keep],[.keep]],[.var k0,.var k2,.var k0],⟨[.one (.ptr 0),.one (.ptr 1),.one (.ptr 2)],[.var 39 20 (.agg [.v 39 20 true]),.var 156 15 (.agg [.v 156 15 true]),.var 39 20 (.agg [.v 39 20 true])]⟩⟩
def Zf6:Nat->Option Lay
 | 2=>some Z5x
 | 3=>some Z5B
 | _=>none
noncomputable def Zdh:Z1E->Z08 U
 | .b0 a0 a1=>Z0f Tryz.f285 [39,156] (a0,a1,())
 | .b1 a0 a1=>spL Tryz.f285 [1,0,1,0,0] Z5x (((),((),())),((a0,()),((a1,()),())))
 | .b2 a0 a1 a2=>spL Tryz.f285 [1,1,0] Z5B (((),((),((),()))),((a0,()),((a1,()),((a2,()),()))))
theorem Zcj:Z0e 285 Tryz.f285 (mc Z5S (mc Z99 msN)) hsN Zf6 237 Z3z Zdh
 | .b0 _ _=>by kernel_rfl
 | .b1 _ _=>by kernel_rfl
 | .b2 _ _ _=>by kernel_rfl
theorem ZdH:Z04 Tryz.prog B0 285 ZfL:=okP Zcj (fun x=>.b0 x.1 x.2.1) (by kernel_rfl) Tryz.func285 (by kernel_rfl) (by kernel_rfl) (fun _=>rfl) (fun _=>rfl)
inductive Z2d where
 | b0 (a0:Z7) (a1:Z4)
 | b1 (a0:Z7) (a1:Z4) (a2:Z7)
 | b2 (a0:Z7) (a1:Z4) (a2:Z7)
 | b3 (a0 a1:Z7)
 | b4 (a0 a1:Z7)
noncomputable def Z5d:Z2d->Tr U ((Z7×(List Z4)×(List Z5))⊕Z2d)
 | .b0 a0 a1=>.br (a1.Kind==(8:Int)) ( .bind 36 (Z2w (⟨(9:Int),Zu,(0:Int),(0:Int),(0:Int),(0:Int),(0:Int),(0:Int),a0.ZQ,(0:Int),(0:Int)⟩:Z4)) (fun(x1:List Z4)=>.bind 77 (Z1q (5:Int) (bits .and .u64 a0.ZQ a1.ZQ)) (fun(x2:List Z5)=>.leaf (.inl (({ a0 with Z2Z:=(bits .and .u64 a0.ZQ a1.ZQ),Z40:=true }:Z7),x1,x2))))) ( .br (a1.Kind==(9:Int)) ( .br (a0.Own==(8:Int)) ( .leaf (.inr (.b1 a0 a1 (⟨(0:Int),(0:Int),(0:Int),([]:List Z4),(0:Int),(0:Int),([]:List Z9),false,(0:Int),(0:Int),false,false,(0:Int),(0:Int),(0:Int),(0:Int),(0:Int),(0:Int),(0:Int),(0:Int)⟩:Z7)))) ( .leaf (.inr (.b2 a0 a1 (⟨(0:Int),(0:Int),(0:Int),([]:List Z4),(0:Int),(0:Int),([]:List Z9),false,(0:Int),(0:Int),false,false,(0:Int),(0:Int),(0:Int),(0:Int),(0:Int),(0:Int),(0:Int),(0:Int)⟩:Z7))))) ( .leaf (.inr (.b2 a0 a1 (⟨(0:Int),(0:Int),(0:Int),([]:List Z4),(0:Int),(0:Int),([]:List Z9),false,(0:Int),(0:Int),false,false,(0:Int),(0:Int),(0:Int),(0:Int),(0:Int),(0:Int),(0:Int),(0:Int)⟩:Z7)))))
 | .b1 a0 a1 a2=>.bind 77 (Z1q (5:Int) (bits .and .u64 a0.ZQ a1.ZQ)) (fun(x1:List Z5)=>.chk (([]:List Z4).length==0) ( .leaf (.inl (({ a0 with Own:=(-1:Int),Z2Z:=(bits .and .u64 a0.ZQ a1.ZQ),Z40:=true }:Z7),([]:List Z4),x1))))
 | .b2 a0 a1 a2=>.br (a1.Kind==(12:Int)) ( .bind 77 (Z1q (6:Int) (IntKind.wrap .u64 (a1.Version))) (fun(x1:List Z5)=>.br (a0.Own==(12:Int)) ( .chk (([]:List Z4).length==0) ( .leaf (.inl (({ a0 with Own:=(-1:Int),Version:=a1.Version }:Z7),([]:List Z4),x1)))) ( .br a0.Z0q ( .chk (([]:List Z4).length==0) ( .leaf (.inl (({ a0 with Version:=a1.Version }:Z7),([]:List Z4),x1)))) ( .bind 36 (Z2w (⟨(12:Int),Zu,(0:Int),(0:Int),(0:Int),(0:Int),(0:Int),(0:Int),(0:Int),(11:Int),(0:Int)⟩:Z4)) (fun(x2:List Z4)=>.leaf (.inl (({ a0 with Z0q:=true,Version:=a1.Version }:Z7),x2,x1))))))) ( .br (a1.Kind==(18:Int)) ( .bind 36 (Z2w (⟨(19:Int),Zu,(0:Int),(0:Int),(0:Int),(0:Int),(0:Int),(0:Int),(0:Int),(0:Int),(0:Int)⟩:Z4)) (fun(x3:List Z4)=>.chk (([]:List Z5).length==0) ( .leaf (.inl (a0,x3,([]:List Z5)))))) ( .br (a1.Kind==(19:Int)) ( .br (a0.Own==(18:Int)) ( .leaf (.inr (.b3 a0 a2))) ( .leaf (.inr (.b4 a0 a2)))) ( .leaf (.inr (.b4 a0 a2)))))
 | .b3 a0 a1=>.bind 77 (Z1q (7:Int) (0:Int)) (fun(x1:List Z5)=>.chk (([]:List Z4).length==0) ( .leaf (.inl (({ a0 with Own:=(-1:Int) }:Z7),([]:List Z4),x1))))
 | .b4 a0 a1=>.chk (([]:List Z4).length==0) ( .chk (([]:List Z5).length==0) ( .leaf (.inl (a0,([]:List Z4),([]:List Z5)))))
noncomputable def Z5f (a0:Z7) (a1:Z4):Option (Z7×(List Z4)×(List Z5)):=Z05 Z5d (.b0 a0 a1)
noncomputable def Zkm:Mod U:=⟨[39,156],237,fun x=>Z5f x.1 x.2.1,by decide⟩
def Z7t:Lay:=⟨[2,3,4],[[.keep],[.keep],[.keep]],[.var k0,.var k2,.var k0],⟨[.one (.ptr 0),.one (.ptr 1),.one (.ptr 2)],[.var 39 20 (.agg [.v 39 20 true]),.var 156 15 (.agg [.v 156 15 true]),.var 39 20 (.agg [.v 39 20 true])]⟩⟩
def Z7z:Lay:=⟨[2,3,4],[[.keep],[.keep],[.keep]],[.var k0,.var k2,.var k0],⟨[.one (.ptr 0),.one (.ptr 1),.one (.ptr 2)],[.var 39 20 (.agg [.v 39 20 true]),.var 156 15 (.agg [.v 156 15 true]),.var 39 20 (.agg [.v 39 20 true])]⟩⟩
def Z7h:Lay:=⟨[2,4],[[.keep],[.keep]],[.var k0,.var k0],⟨[.one (.ptr 0),.one (.ptr 1)],[.var 39 20 (.agg [.v 39 20 true]),.var 39 20 (.agg [.v 39 20 true])]⟩⟩
def Z7o:Lay:=⟨[2,4],[[.keep],[.keep]],[.var k0,.var k0],⟨[.one (.ptr 0),.one (.ptr 1)],[.var 39 20 (.agg [.v 39 20 true]),.var 39 20 (.agg [.v 39 20 true])]⟩⟩
def Zkb:Nat->Option Lay
 | 6=>some Z7t
 | 10=>some Z7z
 | 23=>some Z7h
 | 25=>some Z7o
 | _=>none
noncomputable def Ziy:Z2d->Z08 U
 | .b0 a0 a1=>Z0f Tryz.f286 [39,156] (a0,a1,())
 | .b1 a0 a1 a2=>spL Tryz.f286 [1,0,0,1,1,1,0,0] Z7t (((),((),((),()))),((a0,()),((a1,()),((a2,()),()))))
 | .b2 a0 a1 a2=>spL Tryz.f286 [1,0,0,1,1,1,1,0] Z7z (((),((),((),()))),((a0,()),((a1,()),((a2,()),()))))
 | .b3 a0 a1=>spL Tryz.f286 [1,0,0,1,1,1,1,1,1,1,1,1,0,0] Z7h (((),((),())),((a0,()),((a1,()),())))
 | .b4 a0 a1=>spL Tryz.f286 [1,1,0] Z7o (((),((),())),((a0,()),((a1,()),())))
theorem ZfI:Z0e 286 Tryz.f286 (mc Z5S (mc Z99 msN)) hsN Zkb 237 Z5d Ziy
 | .b0 _ _=>by kernel_rfl
 | .b1 _ _ _=>by kernel_rfl
 | .b2 _ _ _=>by kernel_rfl
 | .b3 _ _=>by kernel_rfl
 | .b4 _ _=>by kernel_rfl
theorem ZhM:Z04 Tryz.prog B0 286 Zkm:=okP ZfI (fun x=>.b0 x.1 x.2.1) (by kernel_rfl) Tryz.func286 (by kernel_rfl) (by kernel_rfl) (fun _=>rfl) (fun _=>rfl)
inductive Z4S where
 | b0 (a0:Z7) (a1:Z4) (a2 a3:Int)
 | b1 (a0 a1:Int) (a2:Z7) (a3:Z4) (a4:Z7)
 | b2 (a0 a1:Int) (a2:Z7) (a3:Z4) (a4:Z7)
 | b3 (a0 a1:Z7)
 | b4 (a0:Int) (a1:Z7) (a2:Z4) (a3:Z7)
 | b5 (a0 a1:Int) (a2:Z7) (a3:Z4) (a4:Z7)
 | b6 (a0:Z7) (a1:Z4) (a2:Z7)
 | b7 (a0 a1:Int) (a2:Z7) (a3:Z4) (a4:Z7)
 | b8 (a0:Z7) (a1:Z4) (a2:Z7)
 | b9 (a0:Z7) (a1:Z4) (a2:Z7)
noncomputable def Zbb:Z4S->Tr U ((Z7×(List Z4)×(List Z5))⊕Z4S)
 | .b0 a0 a1 a2 a3=>.br (a0.Z2R != (0:Int)) ( .chk (([]:List Z4).length==0) ( .chk (([]:List Z5).length==0) ( .leaf (.inl (a0,([]:List Z4),([]:List Z5)))))) ( .bind 262 (Z06 a1.Kind) (fun(x1:Zd)=>.br (!x1.Z40) ( .bind 36 (Z2w (⟨(7:Int),Zu,(0:Int),(0:Int),(0:Int),(if (255:Int)<(if (0:Int)>a1.Kind then (0:Int) else a1.Kind) then (255:Int) else (if (0:Int)>a1.Kind then (0:Int) else a1.Kind)),(0:Int),(0:Int),(0:Int),(0:Int),(0:Int)⟩:Z4)) (fun(x2:List Z4)=>.chk (([]:List Z5).length==0) ( .leaf (.inl (a0,x2,([]:List Z5)))))) ( .br (a1.Kind==(0:Int)) ( .br (a1.Kind==(0:Int)) ( .leaf (.inr (.b1 a2 a3 a0 a1 (⟨(0:Int),(0:Int),(0:Int),([]:List Z4),(0:Int),(0:Int),([]:List Z9),false,(0:Int),(0:Int),false,false,(0:Int),(0:Int),(0:Int),(0:Int),(0:Int),(0:Int),(0:Int),(0:Int)⟩:Z7)))) ( .leaf (.inr (.b2 a3 a1.Kind a0 a1 (⟨(0:Int),(0:Int),(0:Int),([]:List Z4),(0:Int),(0:Int),([]:List Z9),false,(0:Int),(0:Int),false,false,(0:Int),(0:Int),(0:Int),(0:Int),(0:Int),(0:Int),(0:Int),(0:Int)⟩:Z7))))) ( .br (a1.Kind==(1:Int)) ( .leaf (.inr (.b1 a2 a3 a0 a1 (⟨(0:Int),(0:Int),(0:Int),([]:List Z4),(0:Int),(0:Int),([]:List Z9),false,(0:Int),(0:Int),false,false,(0:Int),(0:Int),(0:Int),(0:Int),(0:Int),(0:Int),(0:Int),(0:Int)⟩:Z7)))) ( .leaf (.inr (.b2 a3 a1.Kind a0 a1 (⟨(0:Int),(0:Int),(0:Int),([]:List Z4),(0:Int),(0:Int),([]:List Z9),false,(0:Int),(0:Int),false,false,(0:Int),(0:Int),(0:Int),(0:Int),(0:Int),(0:Int),(0:Int),(0:Int)⟩:Z7))))))))
 | .b1 a0 a1 a2 a3 a4=>.bind 39 (Z3h a2 a3 a0 a1) (fun(x1:Z7)=>.chk (([]:List Z4).length==0) ( .chk (([]:List Z5).length==0) ( .leaf (.inl (x1,([]:List Z4),([]:List Z5))))))
 | .b2 a0 a1 a2 a3 a4=>.br (a1==(2:Int)) ( .br (a3.ZL==(0:Int)) ( .leaf (.inr (.b3 ({ a2 with Z2R:=(19:Int) }:Z7) a4))) ( .leaf (.inr (.b3 ({ a2 with Z2R:=a3.ZL }:Z7) a4)))) ( .br (a1==(3:Int)) ( .br (a1==(3:Int)) ( .leaf (.inr (.b4 a0 a2 a3 a4))) ( .leaf (.inr (.b5 a0 a1 a2 a3 a4)))) ( .br (a1==(4:Int)) ( .br (a1==(4:Int)) ( .leaf (.inr (.b4 a0 a2 a3 a4))) ( .leaf (.inr (.b5 a0 a1 a2 a3 a4)))) ( .br (a1==(5:Int)) ( .br (a1==(5:Int)) ( .leaf (.inr (.b4 a0 a2 a3 a4))) ( .leaf (.inr (.b5 a0 a1 a2 a3 a4)))) ( .br (a1==(6:Int)) ( .leaf (.inr (.b4 a0 a2 a3 a4))) ( .leaf (.inr (.b5 a0 a1 a2 a3 a4)))))))
 | .b3 a0 a1=>.chk (([]:List Z4).length==0) ( .chk (([]:List Z5).length==0) ( .leaf (.inl (a0,([]:List Z4),([]:List Z5)))))
 | .b4 a0 a1 a2 a3=>.bind 237 (Z42 a1 a2 a0) (fun(x1:Z7×(List Z4)×(List Z5))=>.leaf (.inl (x1.1,x1.2.1,x1.2.2)))
 | .b5 a0 a1 a2 a3 a4=>.br (a1==(7:Int)) ( .br (a1==(7:Int)) ( .leaf (.inr (.b6 a2 a3 a4))) ( .leaf (.inr (.b7 a0 a1 a2 a3 a4)))) ( .br (a1==(13:Int)) ( .leaf (.inr (.b6 a2 a3 a4))) ( .leaf (.inr (.b7 a0 a1 a2 a3 a4))))
 | .b6 a0 a1 a2=>.bind 237 (Z3y a0 a1) (fun(x1:Z7×(List Z4)×(List Z5))=>.leaf (.inl (x1.1,x1.2.1,x1.2.2)))
 | .b7 a0 a1 a2 a3 a4=>.br (a1==(15:Int)) ( .bind 237 (Z3K a2 a3 a0) (fun(x1:Z7×(List Z4)×(List Z5))=>.leaf (.inl (x1.1,x1.2.1,x1.2.2)))) ( .br (a1==(20:Int)) ( .br (a1==(20:Int)) ( .leaf (.inr (.b8 a2 a3 a4))) ( .leaf (.inr (.b9 a2 a3 a4)))) ( .br (a1==(21:Int)) ( .leaf (.inr (.b8 a2 a3 a4))) ( .leaf (.inr (.b9 a2 a3 a4)))))
 | .b8 a0 a1 a2=>.bind 237 (Z3e a0 a1) (fun(x1:Z7×(List Z4)×(List Z5))=>.leaf (.inl (x1.1,x1.2.1,x1.2.2)))
 | .b9 a0 a1 a2=>.bind 237 (Z5f a0 a1) (fun(x1:Z7×(List Z4)×(List Z5))=>.leaf (.inl (x1.1,x1.2.1,x1.2.2)))
noncomputable def ZbB (a0:Z7) (a1:Z4) (a2 a3:Int):Option (Z7×(List Z4)×(List Z5)):=Z05 Zbb (.b0 a0 a1 a2 a3)
noncomputable def Zss:Mod U:=⟨[39,156,30,3],237,fun x=>ZbB x.1 x.2.1 x.2.2.1 x.2.2.2.1,by decide⟩
def Zd4:Lay:=⟨[2,3,4,5,8],[[.keep],[.keep],[.keep],[.keep],[.keep]],[.var k0,.var k2,.var k0],⟨[.one (.v 30 1 false),.one (.v 3 1 false),.one (.ptr 0),.one (.ptr 1),.one (.ptr 2)],[.var 39 20 (.agg [.v 39 20 true]),.var 156 15 (.agg [.v 156 15 true]),.var 39 20 (.agg [.v 39 20 true])]⟩⟩
def Zcp:Lay:=⟨[3,4,5,8,28],[[.keep],[.keep],[.keep],[.keep],[.keep]],[.var k0,.var k2,.var k0],⟨[.one (.v 3 1 false),.one (.ptr 0),.one (.ptr 1),.one (.ptr 2),.one (.v 3 1 false)],[.var 39 20 (.agg [.v 39 20 true]),.var 156 15 (.agg [.v 156 15 true]),.var 39 20 (.agg [.v 39 20 true])]⟩⟩
def ZcT:Lay:=⟨[4,8],[[.keep],[.keep]],[.var k0,.var k0],⟨[.one (.ptr 0),.one (.ptr 1)],[.var 39 20 (.agg [.v 39 20 true]),.var 39 20 (.agg [.v 39 20 true])]⟩⟩
def ZcL:Lay:=⟨[3,4,5,8],[[.keep],[.keep],[.keep],[.keep]],[.var k0,.var k2,.var k0],⟨[.one (.v 3 1 false),.one (.ptr 0),.one (.ptr 1),.one (.ptr 2)],[.var 39 20 (.agg [.v 39 20 true]),.var 156 15 (.agg [.v 156 15 true]),.var 39 20 (.agg [.v 39 20 true])]⟩⟩
def ZcH:Lay:=⟨[3,4,5,8,28],[[.keep],[.keep],[.keep],[.keep],[.keep]],[.var k0,.var k2,.var k0],⟨[.one (.v 3 1 false),.one (.ptr 0),.one (.ptr 1),.one (.ptr 2),.one (.v 3 1 false)],[.var 39 20 (.agg [.v 39 20 true]),.var 156 15 (.agg [.v 156 15 true]),.var 39 20 (.agg [.v 39 20 true])]⟩⟩
def ZcN:Lay:=⟨[4,5,8],[[.keep],[.keep],[.keep]],[.var k0,.var k2,.var k0],⟨[.one (.ptr 0),.one (.ptr 1),.one (.ptr 2)],[.var 39 20 (.agg [.v 39 20 true]),.var 156 15 (.agg [.v 156 15 true]),.var 39 20 (.agg [.v 39 20 true])]⟩⟩
def Zd6:Lay:=⟨[3,4,5,8,28],[[.keep],[.keep],[.keep],[.keep],[.keep]],[.var k0,.var k2,.var k0],⟨[.one (.v 3 1 false),.one (.ptr 0),.one (.ptr 1),.one (.ptr 2),.one (.v 3 1 false)],[.var 39 20 (.agg [.v 39 20 true]),.var 156 15 (.agg [.v 156 15 true]),.var 39 20 (.agg [.v 39 20 true])]⟩⟩
def ZcV:Lay:=⟨[4,5,8],[[.keep],[.keep],[.keep]],[.var k0,.var k2,.var k0],⟨[.one (.ptr 0),.one (.ptr 1),.one (.ptr 2)],[.var 39 20 (.agg [.v 39 20 true]),.var 156 15 (.agg [.v 156 15 true]),.var 39 20 (.agg [.v 39 20 true])]⟩⟩
def Zd7:Lay:=⟨[4,5,8],[[.keep],[.keep],[.keep]],[.var k0,.var k2,.var k0],⟨[.one (.ptr 0),.one (.ptr 1),.one (.ptr 2)],[.var 39 20 (.agg [.v 39 20 true]),.var 156 15 (.agg [.v 156 15 true]),.var 39 20 (.agg [.v 39 20 true])]⟩⟩
def ZvX:Nat->Option Lay
 | 8=>some Zd4
 | 9=>some Zcp
 | 13=>some ZcT
 | 18=>some ZcL
 | 19=>some ZcH
 | 21=>some ZcN
 | 22=>some Zd6
 | 26=>some ZcV
 | 27=>some Zd7
 | _=>none
noncomputable def Zrd:Z4S->Z08 U
 | .b0 a0 a1 a2 a3=>Z0f Tryz.f217 [39,156,30,3] (a0,a1,a2,a3,())
 | .b1 a0 a1 a2 a3 a4=>spL Tryz.f217 [1,1,1,0,1,0,1,0,0] Zd4 (((a0,()),((a1,()),((),((),((),()))))),((a2,()),((a3,()),((a4,()),()))))
 | .b2 a0 a1 a2 a3 a4=>spL Tryz.f217 [1,1,1,0,1,0,1,1,0] Zcp (((a0,()),((),((),((),((a1,()),()))))),((a2,()),((a3,()),((a4,()),()))))
 | .b3 a0 a1=>spL Tryz.f217 [1,1,1,0,1,0,1,1,1,0,1,1,0] ZcT (((),((),())),((a0,()),((a1,()),())))
 | .b4 a0 a1 a2 a3=>spL Tryz.f217 [1,1,1,0,1,0,1,1,1,1,1,0,0] ZcL (((a0,()),((),((),((),())))),((a1,()),((a2,()),((a3,()),()))))
 | .b5 a0 a1 a2 a3 a4=>spL Tryz.f217 [1,1,1,0,1,0,1,1,1,1,1,1,0,0] ZcH (((a0,()),((),((),((),((a1,()),()))))),((a2,()),((a3,()),((a4,()),()))))
 | .b6 a0 a1 a2=>spL Tryz.f217 [1,1,1,0,1,0,1,1,1,1,1,1,1,0,0] ZcN (((),((),((),()))),((a0,()),((a1,()),((a2,()),()))))
 | .b7 a0 a1 a2 a3 a4=>spL Tryz.f217 [1,1,1,0,1,0,1,1,1,1,1,1,1,1,0] Zd6 (((a0,()),((),((),((),((a1,()),()))))),((a2,()),((a3,()),((a4,()),()))))
 | .b8 a0 a1 a2=>spL Tryz.f217 [1,1,1,0,1,0,1,1,1,1,1,1,1,1,1,1,1,0,0] ZcV (((),((),((),()))),((a0,()),((a1,()),((a2,()),()))))
 | .b9 a0 a1 a2=>spL Tryz.f217 [1,1,1,1,0] Zd7 (((),((),((),()))),((a0,()),((a1,()),((a2,()),()))))
theorem Zoe:Z0e 217 Tryz.f217 (mc Z1v (mc Z5S (mc Zep (mc Zfl (mc Zdx (mc Zdq (mc ZdH (mc ZhM msN)))))))) hsN ZvX 237 Zbb Zrd
 | .b0 _ _ _ _=>by kernel_rfl
 | .b1 _ _ _ _ _=>by kernel_rfl
 | .b2 _ _ _ _ _=>by kernel_rfl
 | .b3 _ _=>by kernel_rfl
 | .b4 _ _ _ _=>by kernel_rfl
 | .b5 _ _ _ _ _=>by kernel_rfl
 | .b6 _ _ _=>by kernel_rfl
 | .b7 _ _ _ _ _=>by kernel_rfl
 | .b8 _ _ _=>by kernel_rfl
 | .b9 _ _ _=>by kernel_rfl
theorem ZrT:Z04 Tryz.prog B0 217 Zss:=okP Zoe (fun x=>.b0 x.1 x.2.1 x.2.2.1 x.2.2.2.1) (by kernel_rfl) Tryz.func217 (by kernel_rfl) (by kernel_rfl) (fun _=>rfl) (fun _=>rfl)
inductive Z3t where
 | b0 (a0:Z8) (a1:List Int) (a2:Int)
 | b1 (a0:List Z5) (a1 a2:Z8) (a3:Z7)
 | b2 (a0:List Z5) (a1 a2:Z8)
noncomputable def Z8S:Z3t->Tr U ((Z8×(List Z5))⊕Z3t)
 | .b0 a0 a1 a2=>.bind 231 (Z7E a1) (fun(x1:Z4×Int)=>.br (x1.2==(12:Int)) ( .chk (([]:List Z4).length==0) ( .chk (decide ((0+a0.Zf.length)*120<=lim)&&decide (0+a0.Zf.length<=maxLen)) ( .chk (decide (0<=(0:Int)/\(0:Int)<(↑a1.length:Int))) ( .bind 5 (a1[(Int.toNat (0:Int))]?) (fun(x2:Int)=>.chk (([(⟨(7:Int),Zu,(0:Int),(0:Int),(0:Int),(w64 (x2)),(0:Int),(0:Int),(0:Int),(0:Int),(0:Int)⟩:Z4)]).length==1) ( .chk ((([]:List Z4)++a0.Zf).length==(([]:List Z4)++a0.Zf).length) ( .chk (decide (((([]:List Z4)++a0.Zf).length+([(⟨(7:Int),Zu,(0:Int),(0:Int),(0:Int),(w64 (x2)),(0:Int),(0:Int),(0:Int),(0:Int),(0:Int)⟩:Z4)]).length)*120<=lim)&&decide ((([]:List Z4)++a0.Zf).length+([(⟨(7:Int),Zu,(0:Int),(0:Int),(0:Int),(w64 (x2)),(0:Int),(0:Int),(0:Int),(0:Int),(0:Int)⟩:Z4)]).length<=maxLen)) ( .chk (((([]:List Z4)++a0.Zf)++[(⟨(7:Int),Zu,(0:Int),(0:Int),(0:Int),(w64 (x2)),(0:Int),(0:Int),(0:Int),(0:Int),(0:Int)⟩:Z4)]).length==((([]:List Z4)++a0.Zf)++[(⟨(7:Int),Zu,(0:Int),(0:Int),(0:Int),(w64 (x2)),(0:Int),(0:Int),(0:Int),(0:Int),(0:Int)⟩:Z4)]).length) ( .chk (([]:List Z5).length==0) ( .leaf (.inl (({ a0 with Zf:=((([]:List Z4)++a0.Zf)++[(⟨(7:Int),Zu,(0:Int),(0:Int),(0:Int),(w64 (x2)),(0:Int),(0:Int),(0:Int),(0:Int),(0:Int)⟩:Z4)]) }:Z8),([]:List Z5))))))))))))) ( .br (x1.2 != (0:Int)) ( .chk (([]:List Z5).length==0) ( .leaf (.inl (a0,([]:List Z5))))) ( .bind 237 (ZbB a0.Zi x1.1 a0.Event a2) (fun(x3:Z7×(List Z4)×(List Z5))=>.chk (([]:List Z4).length==0) ( .chk (decide ((0+a0.Zf.length)*120<=lim)&&decide (0+a0.Zf.length<=maxLen)) ( .chk ((([]:List Z4)++a0.Zf).length==(([]:List Z4)++a0.Zf).length) ( .chk (decide (((([]:List Z4)++a0.Zf).length+x3.2.1.length)*120<=lim)&&decide ((([]:List Z4)++a0.Zf).length+x3.2.1.length<=maxLen)) ( .br (a0.Z1G==(0:Int)) ( .br (x1.1.Kind==(5:Int)) ( .br (x3.1.Z1W==(3:Int)) ( .chk (((([]:List Z4)++a0.Zf)++x3.2.1).length==((([]:List Z4)++a0.Zf)++x3.2.1).length) ( .leaf (.inr (.b1 x3.2.2 ({ a0 with Zi:=x3.1,Zf:=((([]:List Z4)++a0.Zf)++x3.2.1) }:Z8) (⟨(0:Int),Zm,(0:Int),(0:Int),(0:Int),(0:Int),(0:Int),(0:Int),(0:Int),false,false,false,false,false,(⟨(0:Int),(0:Int),([]:List Zb),false,false,(0:Int),(0:Int)⟩:Zr),Zq,(⟨(0:Int),(0:Int),(0:Int),([]:List Z4),(0:Int),(0:Int),([]:List Z9),false,(0:Int),(0:Int),false,false,(0:Int),(0:Int),(0:Int),(0:Int),(0:Int),(0:Int),(0:Int),(0:Int)⟩:Z7),Zt,(0:Int),([]:List Zg),([]:List Z4),(0:Int),(0:Int)⟩:Z8) x3.1)))) ( .chk (((([]:List Z4)++a0.Zf)++x3.2.1).length==((([]:List Z4)++a0.Zf)++x3.2.1).length) ( .leaf (.inr (.b2 x3.2.2 ({ a0 with Zi:=x3.1,Zf:=((([]:List Z4)++a0.Zf)++x3.2.1) }:Z8) (⟨(0:Int),Zm,(0:Int),(0:Int),(0:Int),(0:Int),(0:Int),(0:Int),(0:Int),false,false,false,false,false,(⟨(0:Int),(0:Int),([]:List Zb),false,false,(0:Int),(0:Int)⟩:Zr),Zq,(⟨(0:Int),(0:Int),(0:Int),([]:List Z4),(0:Int),(0:Int),([]:List Z9),false,(0:Int),(0:Int),false,false,(0:Int),(0:Int),(0:Int),(0:Int),(0:Int),(0:Int),(0:Int),(0:Int)⟩:Z7),Zt,(0:Int),([]:List Zg),([]:List Z4),(0:Int),(0:Int)⟩:Z8)))))) ( .chk (((([]:List Z4)++a0.Zf)++x3.2.1).length==((([]:List Z4)++a0.Zf)++x3.2.1).length) ( .leaf (.inr (.b2 x3.2.2 ({ a0 with Zi:=x3.1,Zf:=((([]:List Z4)++a0.Zf)++x3.2.1) }:Z8) (⟨(0:Int),Zm,(0:Int),(0:Int),(0:Int),(0:Int),(0:Int),(0:Int),(0:Int),false,false,false,false,false,(⟨(0:Int),(0:Int),([]:List Zb),false,false,(0:Int),(0:Int)⟩:Zr),Zq,(⟨(0:Int),(0:Int),(0:Int),([]:List Z4),(0:Int),(0:Int),([]:List Z9),false,(0:Int),(0:Int),false,false,(0:Int),(0:Int),(0:Int),(0:Int),(0:Int),(0:Int),(0:Int),(0:Int)⟩:Z7),Zt,(0:Int),([]:List Zg),([]:List Z4),(0:Int),(0:Int)⟩:Z8)))))) ( .chk (((([]:List Z4)++a0.Zf)++x3.2.1).length==((([]:List Z4)++a0.Zf)++x3.2.1).length) ( .leaf (.inr (.b2 x3.2.2 ({ a0 with Zi:=x3.1,Zf:=((([]:List Z4)++a0.Zf)++x3.2.1) }:Z8) (⟨(0:Int),Zm,(0:Int),(0:Int),(0:Int),(0:Int),(0:Int),(0:Int),(0:Int),false,false,false,false,false,(⟨(0:Int),(0:Int),([]:List Zb),false,false,(0:Int),(0:Int)⟩:Zr),Zq,(⟨(0:Int),(0:Int),(0:Int),([]:List Z4),(0:Int),(0:Int),([]:List Z9),false,(0:Int),(0:Int),false,false,(0:Int),(0:Int),(0:Int),(0:Int),(0:Int),(0:Int),(0:Int),(0:Int)⟩:Z7),Zt,(0:Int),([]:List Zg),([]:List Z4),(0:Int),(0:Int)⟩:Z8)))))))))))))
 | .b1 a0 a1 a2 a3=>.bind 41 (Zfg a1.Z1G a1.Key a3.Z4h a3.ZkQ) (fun(x1:Zv)=>.bind 41 (Z7X x1 true true) (fun(x2:Zv)=>.chk (a1.Zf.length==a1.Zf.length) ( .leaf (.inr (.b2 a0 ({ a1 with ZZ:=x2 }:Z8) a2)))))
 | .b2 a0 a1 a2=>.bind 77 (Z92 a0 a1.Event) (fun(x1:List Z5)=>.chk (a1.Zf.length==a1.Zf.length) ( .leaf (.inl (a1,x1))))
noncomputable def Z96 (a0:Z8) (a1:List Int) (a2:Int):Option (Z8×(List Z5)):=Z05 Z8S (.b0 a0 a1 a2)
noncomputable def Zrq:Mod U:=⟨[44,62,3],78,fun x=>Z96 x.1 x.2.1 x.2.2.1,by decide⟩
def ZaQ:Lay:=⟨[3,6,10,12],[[.keep],[.keep],[.keep],[.s 148 18]],[.var k9,.var k1,.var k0,.row true],⟨[.one (.ptr 0),.one (.ptr 1),.one (.ptr 2),.one (.v 77 1 false)],[.var 44 66 (.agg [.v 3 1 false,.v 28 11 true,.v 3 1 false,.v 30 1 false,.v 3 1 false,.v 3 1 false,.v 3 1 false,.v 3 1 false,.v 3 1 false,.v 4 1 false,.v 4 1 false,.v 4 1 false,.v 4 1 false,.v 4 1 false,.v 33 7 true,.v 35 3 true,.v 39 20 true,.v 41 7 true,.v 29 1 false,.v 42 1 false,.own 156 3,.v 3 1 false,.v 25 1 false]),.var 44 66 (.agg [.v 44 66 true]),.var 39 20 (.agg [.v 39 20 true]),.row 156 true]⟩⟩
def Zag:Lay:=⟨[3,6,12],[[.keep],[.keep],[.s 148 18]],[.var k9,.var k1,.row true],⟨[.one (.ptr 0),.one (.ptr 1),.one (.v 77 1 false)],[.var 44 66 (.agg [.v 3 1 false,.v 28 11 true,.v 3 1 false,.v 30 1 false,.v 3 1 false,.v 3 1 false,.v 3 1 false,.v 3 1 false,.v 3 1 false,.v 4 1 false,.v 4 1 false,.v 4 1 false,.v 4 1 false,.v 4 1 false,.v 33 7 true,.v 35 3 true,.v 39 20 true,.v 41 7 true,.v 29 1 false,.v 42 1 false,.own 156 2,.v 3 1 false,.v 25 1 false]),.var 44 66 (.agg [.v 44 66 true]),.row 156 true]⟩⟩
def Zqx:Nat->Option Lay
 | 11=>some ZaQ
 | 12=>some Zag
 | _=>none
noncomputable def Zoz:Z3t->Z08 U
 | .b0 a0 a1 a2=>Z0f Tryz.f121 [44,62,3] (a0,a1,a2,())
 | .b1 a0 a1 a2 a3=>spL Tryz.f121 [1,1,1,1,1,1,1,0,1,0] ZaQ (((),((),((),((a0,()),())))),((a1.Z1G,(a1.ZX,(a1.Clock,(a1.Event,(a1.Last,(a1.Z0P,(a1.Size,(a1.Sync,(a1.Z3c,(a1.Z2W,(a1.Got,(a1.Good,(a1.Z0Z,(a1.More,(a1.Arq,(a1.Z0H,(a1.Zi,(a1.ZZ,(a1.Key,(a1.Zx,(a1.ZL,(a1.Zc9,())))))))))))))))))))))),((a2,()),((a3,()),(a1.Zf,())))))
 | .b2 a0 a1 a2=>spL Tryz.f121 [1,1,1,1,1,1,1,1,0] Zag (((),((),((a0,()),()))),((a1.Z1G,(a1.ZX,(a1.Clock,(a1.Event,(a1.Last,(a1.Z0P,(a1.Size,(a1.Sync,(a1.Z3c,(a1.Z2W,(a1.Got,(a1.Good,(a1.Z0Z,(a1.More,(a1.Arq,(a1.Z0H,(a1.Zi,(a1.ZZ,(a1.Key,(a1.Zx,(a1.ZL,(a1.Zc9,())))))))))))))))))))))),((a2,()),(a1.Zf,()))))
theorem ZlF:Z0e 121 Tryz.f121 (mc Zdm (mc ZoZ (mc ZfX (mc ZjC (mc ZrT msN))))) hsN Zqx 78 Z8S Zoz
 | .b0 _ _ _=>by kernel_rfl
 | .b1 _ _ _ _=>by kernel_rfl
 | .b2 _ _ _=>by kernel_rfl
theorem ZoQ:Z04 Tryz.prog B0 121 Zrq:=okP ZlF (fun x=>.b0 x.1 x.2.1 x.2.2.1) (by kernel_rfl) Tryz.func121 (by kernel_rfl) (by kernel_rfl) (fun _=>rfl) (fun _=>rfl)
inductive Z3w where
 | b0 (a0:Z8) (a1:List Int) (a2:Bool) (a3:Int)
 | b1 (a0:List Int) (a1:Int) (a2 a3:Z8)
 | b2 (a0:List Int) (a1:Int) (a2 a3:Z8)
 | b3 (a0:Int) (a1:Bool) (a2 a3:Z8) (a4:Zk)
 | b4 (a0:Int) (a1:Bool) (a2 a3:Z8) (a4:Zk)
 | b5 (a0:Int) (a1:Bool) (a2 a3:Z8) (a4:Zk) (a5:Zb)
 | b6 (a0:Int) (a1:Bool) (a2 a3:Z8) (a4:Zk) (a5:Zb)
 | b7 (a0:Int) (a1:Bool) (a2 a3:Z8) (a4:Zk) (a5:Zb)
 | b8 (a0:Int) (a1:Bool) (a2 a3:Z8) (a4:Zk) (a5:Zb)
 | b9 (a0:Int) (a1 a2:Bool) (a3:List Z5) (a4 a5:Z8) (a6:Zk) (a7:Zb)
 | b10 (a0:Int) (a1:List Z5) (a2 a3:Z8) (a4:Zk) (a5:Zb)
 | b11 (a0:List Z5) (a1 a2:Z8) (a3:Zk)
noncomputable def Z9u:Z3w->Tr U ((Z8×(List Z5)×Bool)⊕Z3w)
 | .b0 a0 a1 a2 a3=>.br (a0.ZL != (0:Int)) ( .chk (([]:List Z5).length==0) ( .leaf (.inl (a0,([]:List Z5),false)))) ( .br a2 ( .br (a0.Z1G==(1:Int)) ( .leaf (.inr (.b1 a1 a3 ({ a0 with Got:=true }:Z8) (⟨(0:Int),Zm,(0:Int),(0:Int),(0:Int),(0:Int),(0:Int),(0:Int),(0:Int),false,false,false,false,false,(⟨(0:Int),(0:Int),([]:List Zb),false,false,(0:Int),(0:Int)⟩:Zr),Zq,(⟨(0:Int),(0:Int),(0:Int),([]:List Z4),(0:Int),(0:Int),([]:List Z9),false,(0:Int),(0:Int),false,false,(0:Int),(0:Int),(0:Int),(0:Int),(0:Int),(0:Int),(0:Int),(0:Int)⟩:Z7),Zt,(0:Int),([]:List Zg),([]:List Z4),(0:Int),(0:Int)⟩:Z8)))) ( .leaf (.inr (.b2 a1 a3 ({ a0 with Got:=true }:Z8) (⟨(0:Int),Zm,(0:Int),(0:Int),(0:Int),(0:Int),(0:Int),(0:Int),(0:Int),false,false,false,false,false,(⟨(0:Int),(0:Int),([]:List Zb),false,false,(0:Int),(0:Int)⟩:Zr),Zq,(⟨(0:Int),(0:Int),(0:Int),([]:List Z4),(0:Int),(0:Int),([]:List Z9),false,(0:Int),(0:Int),false,false,(0:Int),(0:Int),(0:Int),(0:Int),(0:Int),(0:Int),(0:Int),(0:Int)⟩:Z7),Zt,(0:Int),([]:List Zg),([]:List Z4),(0:Int),(0:Int)⟩:Z8))))) ( .leaf (.inr (.b2 a1 a3 ({ a0 with Got:=true }:Z8) (⟨(0:Int),Zm,(0:Int),(0:Int),(0:Int),(0:Int),(0:Int),(0:Int),(0:Int),false,false,false,false,false,(⟨(0:Int),(0:Int),([]:List Zb),false,false,(0:Int),(0:Int)⟩:Zr),Zq,(⟨(0:Int),(0:Int),(0:Int),([]:List Z4),(0:Int),(0:Int),([]:List Z9),false,(0:Int),(0:Int),false,false,(0:Int),(0:Int),(0:Int),(0:Int),(0:Int),(0:Int),(0:Int),(0:Int)⟩:Z7),Zt,(0:Int),([]:List Zg),([]:List Z4),(0:Int),(0:Int)⟩:Z8)))))
 | .b1 a0 a1 a2 a3=>.leaf (.inr (.b2 a0 a1 ({ a2 with Z0P:=a1,Size:=(0:Int),Sync:=a1 }:Z8) a3))
 | .b2 a0 a1 a2 a3=>.bind 3 (Z5L a2) (fun(x1:Int)=>.bind 1348 (Z8R x1 a0) (fun(y2:Z2s)=>.chk (y2.q0.length==y2.q0.length) ( .bind 120 (ZeO a2.ZX.ZJ3 y2.q0) (fun(x3:(List Int)×Int)=>.br (x3.2 != (0:Int)) ( .bind 42 (Z4B a2.Zx x1 false) (fun(x4:List Zg)=>.chk (([]:List Z5).length==0) ( .leaf (.inl (({ a2 with Zx:=x4 }:Z8),([]:List Z5),false))))) ( .bind 71 (Zac x3.1) (fun(x5:Zk×Int)=>.br (x5.2 != (0:Int)) ( .chk (([]:List Z5).length==0) ( .leaf (.inl (a2,([]:List Z5),false)))) ( .bind 42 (Z4B a2.Zx x1 true) (fun(x6:List Zg)=>.br (x5.1.SN==a2.Arq.Z8Y) ( .bind 4 (Z4g x5.1.ZH) (fun(x7:Bool)=>.br (!x7) ( .leaf (.inr (.b3 a1 a2.ZZ.ZJd ({ a2 with Z3c:=a1,Z2W:=true,Good:=true,Zx:=x6 }:Z8) a3 x5.1))) ( .leaf (.inr (.b3 a1 false ({ a2 with Z3c:=a1,Z2W:=true,Good:=true,Zx:=x6 }:Z8) a3 x5.1))))) ( .leaf (.inr (.b3 a1 false ({ a2 with Z3c:=a1,Z2W:=true,Good:=true,Zx:=x6 }:Z8) a3 x5.1)))))))))))
 | .b3 a0 a1 a2 a3 a4=>.br a1 ( .bind 71 (ZiO a2.ZZ a4) (fun(x1:Zk×Int)=>.br (x1.2 != (0:Int)) ( .bind 78 (ZfE a2 (61:Int)) (fun(x2:Z8×(List Z5))=>.leaf (.inl (x2.1,x2.2,false)))) ( .leaf (.inr (.b4 a0 a1 a2 a3 x1.1))))) ( .leaf (.inr (.b4 a0 a1 a2 a3 a4)))
 | .b4 a0 a1 a2 a3 a4=>.br a2.Arq.Open ( .br (!a2.Arq.Empty) ( .leaf (.inr (.b5 a0 a1 a2 a3 a4 (⟨(0:Int),([]:List Int)⟩:Zb)))) ( .leaf (.inr (.b6 a0 a1 a2 a3 a4 (⟨(0:Int),([]:List Int)⟩:Zb))))) ( .leaf (.inr (.b6 a0 a1 a2 a3 a4 (⟨(0:Int),([]:List Int)⟩:Zb))))
 | .b5 a0 a1 a2 a3 a4 a5=>.chk (decide (0<=(0:Int)/\(0:Int)<(↑a2.Arq.ZP.length:Int))) ( .bind 68 (a2.Arq.ZP[(Int.toNat (0:Int))]?) (fun(x1:Zb)=>.leaf (.inr (.b6 a0 a1 a2 a3 a4 x1))))
 | .b6 a0 a1 a2 a3 a4 a5=>.br a2.Arq.Open ( .br a2.Arq.Empty ( .leaf (.inr (.b7 a0 a1 a2 a3 a4 a5))) ( .leaf (.inr (.b8 a0 a1 a2 a3 a4 a5)))) ( .leaf (.inr (.b8 a0 a1 a2 a3 a4 a5)))
 | .b7 a0 a1 a2 a3 a4 a5=>.leaf (.inr (.b8 a0 a1 a2 a3 a4 (⟨(1:Int),([]:List Int)⟩:Zb)))
 | .b8 a0 a1 a2 a3 a4 a5=>.bind 163 (ZhF a2.Arq a4) (fun(x1:Zr×Zb×Bool×Bool)=>.br x1.2.2.2 ( .bind 78 (Ze2 ({ a2 with Z0Z:=true,Arq:=x1.1 }:Z8) a5) (fun(x2:Z8×(List Z5))=>.chk (([]:List Z5).length==0) ( .chk (decide ((0+x2.2.length)*160<=lim)&&decide (0+x2.2.length<=maxLen)) ( .chk ((([]:List Z5)++x2.2).length==(([]:List Z5)++x2.2).length) ( .leaf (.inr (.b9 a0 a1 x1.2.2.1 (([]:List Z5)++x2.2) x2.1 a3 a4 x1.2.1))))))) ( .chk (([]:List Z5).length==0) ( .leaf (.inr (.b9 a0 a1 x1.2.2.1 ([]:List Z5) ({ a2 with Arq:=x1.1 }:Z8) a3 a4 x1.2.1)))))
 | .b9 a0 a1 a2 a3 a4 a5 a6 a7=>.br a2 ( .br a1 ( .bind 41 (Zc7 a4.ZZ false true) (fun(x1:Zv)=>.chk (a3.length==a3.length) ( .leaf (.inr (.b10 a0 a3 ({ a4 with ZZ:=x1 }:Z8) a5 a6 a7))))) ( .chk (a3.length==a3.length) ( .leaf (.inr (.b10 a0 a3 a4 a5 a6 a7))))) ( .chk (a3.length==a3.length) ( .leaf (.inr (.b11 a3 a4 a5 a6))))
 | .b10 a0 a1 a2 a3 a4 a5=>.br (a5.Z5c==(3:Int)) ( .bind 78 (Z96 a2 a5.Payload a0) (fun(x1:Z8×(List Z5))=>.chk (a1.length==a1.length) ( .chk (decide ((a1.length+x1.2.length)*160<=lim)&&decide (a1.length+x1.2.length<=maxLen)) ( .chk ((a1++x1.2).length==(a1++x1.2).length) ( .leaf (.inr (.b11 (a1++x1.2) x1.1 a3 a4))))))) ( .chk (([]:List Int).length==0) ( .chk (decide ((0+a5.Payload.length)*1<=lim)&&decide (0+a5.Payload.length<=maxLen)) ( .chk ((([]:List Int)++a5.Payload).length==(([]:List Int)++a5.Payload).length) ( .chk (([(⟨(1:Int),a2.Event,(⟨a5.Z5c,(([]:List Int)++a5.Payload)⟩:Zb),Z0I,(0:Int),Zu⟩:Z5)]).length==1) ( .chk (a1.length==a1.length) ( .chk (decide ((a1.length+([(⟨(1:Int),a2.Event,(⟨a5.Z5c,(([]:List Int)++a5.Payload)⟩:Zb),Z0I,(0:Int),Zu⟩:Z5)]).length)*160<=lim)&&decide (a1.length+([(⟨(1:Int),a2.Event,(⟨a5.Z5c,(([]:List Int)++a5.Payload)⟩:Zb),Z0I,(0:Int),Zu⟩:Z5)]).length<=maxLen)) ( .chk ((a1++[(⟨(1:Int),a2.Event,(⟨a5.Z5c,(([]:List Int)++a5.Payload)⟩:Zb),Z0I,(0:Int),Zu⟩:Z5)]).length==(a1++[(⟨(1:Int),a2.Event,(⟨a5.Z5c,(([]:List Int)++a5.Payload)⟩:Zb),Z0I,(0:Int),Zu⟩:Z5)]).length) ( .leaf (.inr (.b11 (a1++[(⟨(1:Int),a2.Event,(⟨a5.Z5c,(([]:List Int)++a5.Payload)⟩:Zb),Z0I,(0:Int),Zu⟩:Z5)]) a2 a3 a4))))))))))
 | .b11 a0 a1 a2 a3=>.br (a3.MD==(1:Int)) ( .chk (a0.length==a0.length) ( .leaf (.inl (a1,a0,true)))) ( .chk (a0.length==a0.length) ( .leaf (.inl (a1,a0,a1.More))))
noncomputable def Z5H (a0:Z8) (a1:List Int) (a2:Bool) (a3:Int):Option (Z8×(List Z5)×Bool):=Z05 Z9u (.b0 a0 a1 a2 a3)
noncomputable def ZqX:Mod U:=⟨[44,62,4,3],86,fun x=>Z5H x.1 x.2.1 x.2.2.1 x.2.2.2.1,by decide⟩
def Zbp:Lay:=⟨[1,3,4,8],[[.s 5 1],[.keep],[.keep],[.keep]],[.var k1,.var k1],⟨[.one (.v 62 1 false),.one (.v 3 1 false),.one (.ptr 0),.one (.ptr 1)],[.var 44 66 (.agg [.v 44 66 true]),.var 44 66 (.agg [.v 44 66 true])]⟩⟩
def Zbz:Lay:=⟨[1,3,4,8],[[.s 5 1],[.keep],[.keep],[.keep]],[.var k1,.var k1],⟨[.one (.v 62 1 false),.one (.v 3 1 false),.one (.ptr 0),.one (.ptr 1)],[.var 44 66 (.agg [.v 44 66 true]),.var 44 66 (.agg [.v 44 66 true])]⟩⟩
def Zb5:Lay:=⟨[3,4,8,14,15],[[.keep],[.keep],[.keep],[.keep],[.keep]],[.var k1,.var k1,.var k5],⟨[.one (.v 3 1 false),.one (.ptr 0),.one (.ptr 1),.one (.ptr 2),.one (.v 4 1 false)],[.var 44 66 (.agg [.v 44 66 true]),.var 44 66 (.agg [.v 44 66 true]),.var 70 5 (.agg [.v 70 5 true])]⟩⟩
def ZaC:Lay:=⟨[3,4,8,14,15],[[.keep],[.keep],[.keep],[.keep],[.keep]],[.var k1,.var k1,.var k5],⟨[.one (.v 3 1 false),.one (.ptr 0),.one (.ptr 1),.one (.ptr 2),.one (.v 4 1 false)],[.var 44 66 (.agg [.v 44 66 true]),.var 44 66 (.agg [.v 44 66 true]),.var 70 5 (.agg [.v 70 5 true])]⟩⟩
def Zba:Lay:=⟨[3,4,8,14,15,20],[[.keep],[.keep],[.keep],[.keep],[.keep],[.keep]],[.var k1,.var k1,.var k5,.var [.keep,.s 5 1]],⟨[.one (.v 3 1 false),.one (.ptr 0),.one (.ptr 1),.one (.ptr 2),.one (.v 4 1 false),.one (.ptr 3)],[.var 44 66 (.agg [.v 44 66 true]),.var 44 66 (.agg [.v 44 66 true]),.var 70 5 (.agg [.v 70 5 true]),.var 68 2 (.agg [.v 68 2 true])]⟩⟩
def Zab:Lay:=⟨[3,4,8,14,15,20],[[.keep],[.keep],[.keep],[.keep],[.keep],[.keep]],[.var k1,.var k1,.var k5,.var [.keep,.s 5 1]],⟨[.one (.v 3 1 false),.one (.ptr 0),.one (.ptr 1),.one (.ptr 2),.one (.v 4 1 false),.one (.ptr 3)],[.var 44 66 (.agg [.v 44 66 true]),.var 44 66 (.agg [.v 44 66 true]),.var 70 5 (.agg [.v 70 5 true]),.var 68 2 (.agg [.v 68 2 true])]⟩⟩
def ZaX:Lay:=⟨[3,4,8,14,15,20],[[.keep],[.keep],[.keep],[.keep],[.keep],[.keep]],[.var k1,.var k1,.var k5,.var [.keep,.s 5 1]],⟨[.one (.v 3 1 false),.one (.ptr 0),.one (.ptr 1),.one (.ptr 2),.one (.v 4 1 false),.one (.ptr 3)],[.var 44 66 (.agg [.v 44 66 true]),.var 44 66 (.agg [.v 44 66 true]),.var 70 5 (.agg [.v 70 5 true]),.var 68 2 (.agg [.v 68 2 true])]⟩⟩
def Zbr:Lay:=⟨[3,4,8,14,15,20],[[.keep],[.keep],[.keep],[.keep],[.keep],[.keep]],[.var k1,.var k1,.var k5,.var [.keep,.s 5 1]],⟨[.one (.v 3 1 false),.one (.ptr 0),.one (.ptr 1),.one (.ptr 2),.one (.v 4 1 false),.one (.ptr 3)],[.var 44 66 (.agg [.v 44 66 true]),.var 44 66 (.agg [.v 44 66 true]),.var 70 5 (.agg [.v 70 5 true]),.var 68 2 (.agg [.v 68 2 true])]⟩⟩
def Zao:Lay:=⟨[3,4,8,14,15,22,23,25],[[.keep],[.keep],[.keep],[.keep],[.keep],[.keep],[.keep],[.own 148 18]],[.var k1,.var k1,.var k5,.var [.keep,.s 5 1],.row true],⟨[.one (.v 3 1 false),.one (.ptr 0),.one (.ptr 1),.one (.ptr 2),.one (.v 4 1 false),.one (.ptr 3),.one (.v 4 1 false),.one (.own 148 4)],[.var 44 66 (.agg [.v 44 66 true]),.var 44 66 (.agg [.v 44 66 true]),.var 70 5 (.agg [.v 70 5 true]),.var 68 2 (.agg [.v 68 2 true]),.row 148 true]⟩⟩
def Z9K:Lay:=⟨[3,4,8,14,22,25],[[.keep],[.keep],[.keep],[.keep],[.keep],[.own 148 18]],[.var k1,.var k1,.var k5,.var [.keep,.s 5 1],.row true],⟨[.one (.v 3 1 false),.one (.ptr 0),.one (.ptr 1),.one (.ptr 2),.one (.ptr 3),.one (.own 148 4)],[.var 44 66 (.agg [.v 44 66 true]),.var 44 66 (.agg [.v 44 66 true]),.var 70 5 (.agg [.v 70 5 true]),.var 68 2 (.agg [.v 68 2 true]),.row 148 true]⟩⟩
def Z9C:Lay:=⟨[4,8,14,25],[[.keep],[.keep],[.keep],[.own 148 18]],[.var k1,.var k1,.var k5,.row true],⟨[.one (.ptr 0),.one (.ptr 1),.one (.ptr 2),.one (.own 148 3)],[.var 44 66 (.agg [.v 44 66 true]),.var 44 66 (.agg [.v 44 66 true]),.var 70 5 (.agg [.v 70 5 true]),.row 148 true]⟩⟩
def Zr6:Nat->Option Lay
 | 5=>some Zbp
 | 6=>some Zbz
 | 17=>some Zb5
 | 23=>some ZaC
 | 25=>some Zba
 | 26=>some Zab
 | 27=>some ZaX
 | 28=>some Zbr
 | 36=>some Zao
 | 39=>some Z9K
 | 44=>some Z9C
 | _=>none
noncomputable def Zo8:Z3w->Z08 U
 | .b0 a0 a1 a2 a3=>Z0f Tryz.f35 [44,62,4,3] (a0,a1,a2,a3,())
 | .b1 a0 a1 a2 a3=>spL Tryz.f35 [1,1,1,0,1,0] Zbp (((a0,()),((a1,()),((),((),())))),((a2,()),((a3,()),())))
 | .b2 a0 a1 a2 a3=>spL Tryz.f35 [1,1,1,1,0] Zbz (((a0,()),((a1,()),((),((),())))),((a2,()),((a3,()),())))
 | .b3 a0 a1 a2 a3 a4=>spL Tryz.f35 [1,1,1,1,1,1,1,1,1,1,1,1,0,0] Zb5 (((a0,()),((),((),((),((a1,()),()))))),((a2,()),((a3,()),((a4,()),()))))
 | .b4 a0 a1 a2 a3 a4=>spL Tryz.f35 [1,1,1,1,1,1,1,1,1,1,1,1,1,0] ZaC (((a0,()),((),((),((),((a1,()),()))))),((a2,()),((a3,()),((a4,()),()))))
 | .b5 a0 a1 a2 a3 a4 a5=>spL Tryz.f35 [1,1,1,1,1,1,1,1,1,1,1,1,1,1,0,1,0] Zba (((a0,()),((),((),((),((a1,()),((),())))))),((a2,()),((a3,()),((a4,()),((a5,()),())))))
 | .b6 a0 a1 a2 a3 a4 a5=>spL Tryz.f35 [1,1,1,1,1,1,1,1,1,1,1,1,1,1,1,0,0] Zab (((a0,()),((),((),((),((a1,()),((),())))))),((a2,()),((a3,()),((a4,()),((a5,()),())))))
 | .b7 a0 a1 a2 a3 a4 a5=>spL Tryz.f35 [1,1,1,1,1,1,1,1,1,1,1,1,1,1,1,0,1,0] ZaX (((a0,()),((),((),((),((a1,()),((),())))))),((a2,()),((a3,()),((a4,()),((a5,()),())))))
 | .b8 a0 a1 a2 a3 a4 a5=>spL Tryz.f35 [1,1,1,1,1,1,1,1,1,1,1,1,1,1,1,1,0] Zbr (((a0,()),((),((),((),((a1,()),((),())))))),((a2,()),((a3,()),((a4,()),((a5,()),())))))
 | .b9 a0 a1 a2 a3 a4 a5 a6 a7=>spL Tryz.f35 [1,1,1,1,1,1,1,1,1,1,1,1,1,1,1,1,1,1,1,1,0,0] Zao (((a0,()),((),((),((),((a1,()),((),((a2,()),((),())))))))),((a4,()),((a5,()),((a6,()),((a7,()),(a3,()))))))
 | .b10 a0 a1 a2 a3 a4 a5=>spL Tryz.f35 [1,1,1,1,1,1,1,1,1,1,1,1,1,1,1,1,1,1,1,1,0,1,0,1,0] Z9K (((a0,()),((),((),((),((),((),())))))),((a2,()),((a3,()),((a4,()),((a5,()),(a1,()))))))
 | .b11 a0 a1 a2 a3=>spL Tryz.f35 [1,1,1,1,1,1,1,1,1,1,1,1,1,1,1,1,1,1,1,1,1,0] Z9C (((),((),((),((),())))),((a1,()),((a2,()),((a3,()),(a0,())))))
theorem ZlQ:Z0e 35 Tryz.f35 (mc Zcy (mc ZgE (mc ZoX (mc Zut (mc ZqU (mc Z7l (mc Zwo (mc Zxu (mc Zw0 (mc Zne (mc ZoQ msN))))))))))) (hc [] ZjL hsN) Zr6 86 Z9u Zo8
 | .b0 _ _ _ _=>by kernel_rfl
 | .b1 _ _ _ _=>by kernel_rfl
 | .b2 _ _ _ _=>by kernel_rfl
 | .b3 _ _ _ _ _=>by kernel_rfl
 | .b4 _ _ _ _ _=>by kernel_rfl
 | .b5 _ _ _ _ _ _=>by kernel_rfl
 | .b6 _ _ _ _ _ _=>by kernel_rfl
 | .b7 _ _ _ _ _ _=>by kernel_rfl
 | .b8 _ _ _ _ _ _=>by kernel_rfl
 | .b9 _ _ _ _ _ _ _ _=>by kernel_rfl
 | .b10 _ _ _ _ _ _=>by kernel_rfl
 | .b11 _ _ _ _=>by kernel_rfl
theorem ZnZ:Z04 Tryz.prog B0 35 ZqX:=okP ZlQ (fun x=>.b0 x.1 x.2.1 x.2.2.1 x.2.2.2.1) (by kernel_rfl) Tryz.func35 (by kernel_rfl) (by kernel_rfl) (fun _=>rfl) (fun _=>rfl)
end Go.Proofs.YtjodhcdmhobmoaaGreatDoor
namespace Go.Proofs.YtjodhcdmhobmoaaGreatDoor
open Go Go.Proofs.YtjodhcdmhobmoaaGreatDoor.Le
set_option maxRecDepth 100000
inductive Z1D where
 | b0 (a0:Zn) (a1:ZJ) (a2:Int) (a3:Bool) (a4:Int)
 | b1 (a0:Int) (a1:Bool) (a2 a3:Int) (a4:Zn) (a5 a6:ZJ)
 | b2 (a0:Int) (a1:Bool) (a2 a3:Int) (a4:Zn) (a5 a6:ZJ)
 | b3 (a0:Int) (a1:Bool) (a2:Int) (a3:Zn) (a4 a5:ZJ)
 | b4 (a0:Int) (a1:Bool) (a2 a3:Int) (a4:Zn) (a5 a6:ZJ)
 | b5 (a0:Int) (a1:Bool) (a2 a3:Int) (a4:Zn) (a5 a6:ZJ) (a7:Z0K)
 | b6 (a0:Int) (a1:Bool) (a2 a3:Int) (a4:Bool) (a5:Int) (a6:Zn) (a7 a8:ZJ)
 | b7 (a0:Int) (a1 a2:ZJ)
 | b8 (a0:Int) (a1:Bool) (a2 a3:Int) (a4:Bool) (a5:Int) (a6:Zn) (a7 a8:ZJ)
 | b9 (a0:Int) (a1:Bool) (a2:Int) (a3 a4:ZJ)
 | b10 (a0:Int) (a1:Bool) (a2 a3:Int) (a4:Bool) (a5 a6:Int) (a7:List Int) (a8:Zn) (a9 a10:ZJ)
 | b11 (a0:Int) (a1 a2:ZJ)
 | b12 (a0:Int) (a1 a2:ZJ)
 | b13 (a0:Int) (a1:Bool) (a2 a3:Int) (a4:Bool) (a5 a6:Int) (a7:List Z5) (a8:Bool) (a9:Int) (a10:Zn) (a11 a12:ZJ)
 | b14 (a0 a1:Int) (a2 a3:ZJ)
 | b15 (a0:Int) (a1:Bool) (a2 a3:Int) (a4:Bool) (a5 a6:Int) (a7:List Z5) (a8:Bool) (a9:Int) (a10:Zn) (a11 a12:ZJ)
 | b16 (a0:Int) (a1:Bool) (a2 a3:Int) (a4:Bool) (a5 a6:Int) (a7:List Z5) (a8:Bool) (a9:Int) (a10:Zn) (a11 a12:ZJ)
 | b17 (a0:Int) (a1:Bool) (a2 a3:Int) (a4:Bool) (a5:Int) (a6:Zn) (a7 a8:ZJ)
noncomputable def Z3I:Z1D->Tr U ((ZJ×Int)⊕Z1D)
 | .b0 a0 a1 a2 a3 a4=>.leaf (.inr (.b1 a2 a3 a4 (0:Int) a0 a1 (⟨(⟨(0:Int),Zm,(0:Int),(0:Int),(0:Int),(0:Int),(0:Int),(0:Int),(0:Int),false,false,false,false,false,(⟨(0:Int),(0:Int),([]:List Zb),false,false,(0:Int),(0:Int)⟩:Zr),Zq,(⟨(0:Int),(0:Int),(0:Int),([]:List Z4),(0:Int),(0:Int),([]:List Z9),false,(0:Int),(0:Int),false,false,(0:Int),(0:Int),(0:Int),(0:Int),(0:Int),(0:Int),(0:Int),(0:Int)⟩:Z7),Zt,(0:Int),([]:List Zg),([]:List Z4),(0:Int),(0:Int)⟩:Z8),(⟨(0:Int),Zm,(0:Int),(0:Int),(0:Int),(0:Int),(0:Int),(0:Int),(0:Int),false,false,false,false,false,(⟨(0:Int),(0:Int),([]:List Zb),false,false,(0:Int),(0:Int)⟩:Zr),Zq,(⟨(0:Int),(0:Int),(0:Int),([]:List Z4),(0:Int),(0:Int),([]:List Z9),false,(0:Int),(0:Int),false,false,(0:Int),(0:Int),(0:Int),(0:Int),(0:Int),(0:Int),(0:Int),(0:Int)⟩:Z7),Zt,(0:Int),([]:List Zg),([]:List Z4),(0:Int),(0:Int)⟩:Z8)⟩:ZJ)))
 | .b1 a0 a1 a2 a3 a4 a5 a6=>.br (decide (a3<(↑a4.ZJ7.length:Int))) ( .br (decide (a3<(8:Int))) ( .leaf (.inr (.b2 a0 a1 a2 a3 a4 a5 a6))) ( .leaf (.inr (.b3 a0 a1 a2 a4 a5 a6)))) ( .leaf (.inr (.b3 a0 a1 a2 a4 a5 a6)))
 | .b2 a0 a1 a2 a3 a4 a5 a6=>.chk (decide (0<=a3/\a3<(↑a4.ZJ7.length:Int))) ( .bind 83 (a4.ZJ7[(Int.toNat a3)]?) (fun(x1:Z0K)=>.br (x1.Side != (0:Int)) ( .br (x1.Side != (1:Int)) ( .leaf (.inr (.b4 a0 a1 a2 a3 a4 a5 a6))) ( .br (decide ((↑x1.ZH.Payload.length:Int)>(300:Int))) ( .leaf (.inr (.b4 a0 a1 a2 a3 a4 a5 a6))) ( .leaf (.inr (.b5 a0 a1 a2 a3 a4 a5 a6 x1))))) ( .br (decide ((↑x1.ZH.Payload.length:Int)>(300:Int))) ( .leaf (.inr (.b4 a0 a1 a2 a3 a4 a5 a6))) ( .leaf (.inr (.b5 a0 a1 a2 a3 a4 a5 a6 x1))))))
 | .b3 a0 a1 a2 a3 a4 a5=>.bind 4 (Z9r a4.x1) (fun(x1:Bool)=>.leaf (.inr (.b6 a0 a1 a2 (if (if (6:Int)<a3.ZKG then (6:Int) else a3.ZKG)>(1:Int) then (if (6:Int)<a3.ZKG then (6:Int) else a3.ZKG) else (1:Int)) x1 (0:Int) a3 a4 a5)))
 | .b4 a0 a1 a2 a3 a4 a5 a6=>.leaf (.inr (.b1 a0 a1 a2 (w64 (a3+(1:Int))) a4 a5 a6))
 | .b5 a0 a1 a2 a3 a4 a5 a6 a7=>.br (a7.Side==(0:Int)) ( .bind 46 (Zfu a5.x0 a7 a0) (fun(x2:Z8×Int)=>.br (a7.Side==(0:Int)) ( .leaf (.inr (.b4 a0 a1 a2 a3 a4 (⟨x2.1,a5.x1⟩:ZJ) a6))) ( .br (a7.Side==(1:Int)) ( .leaf (.inr (.b4 a0 a1 a2 a3 a4 (⟨a5.x0,x2.1⟩:ZJ) a6))) ( .fail)))) ( .br (a7.Side==(1:Int)) ( .bind 46 (Zfu a5.x1 a7 a0) (fun(x1:Z8×Int)=>.br (a7.Side==(0:Int)) ( .leaf (.inr (.b4 a0 a1 a2 a3 a4 (⟨x1.1,a5.x1⟩:ZJ) a6))) ( .br (a7.Side==(1:Int)) ( .leaf (.inr (.b4 a0 a1 a2 a3 a4 (⟨a5.x0,x1.1⟩:ZJ) a6))) ( .fail)))) ( .fail))
 | .b6 a0 a1 a2 a3 a4 a5 a6 a7 a8=>.br (decide (a5<a3)) ( .br a1 ( .br (decide (a2>=(0:Int))) ( .br (decide (a5>=a2)) ( .leaf (.inr (.b7 a0 a7 a8))) ( .leaf (.inr (.b8 a0 a1 a2 a3 a4 a5 a6 a7 a8)))) ( .leaf (.inr (.b8 a0 a1 a2 a3 a4 a5 a6 a7 a8)))) ( .leaf (.inr (.b8 a0 a1 a2 a3 a4 a5 a6 a7 a8)))) ( .leaf (.inr (.b9 a0 a1 a2 a7 a8)))
 | .b7 a0 a1 a2=>.leaf (.inl (a1,a0))
 | .b8 a0 a1 a2 a3 a4 a5 a6 a7 a8=>.br ((Int.tmod a5 (2:Int))==(0:Int)) ( .bind 63 (ZbW a7.x0) (fun(x2:Z8×(List Int))=>.br ((Int.tmod a5 (2:Int))==(0:Int)) ( .br ((↑x2.2.length:Int)==(0:Int)) ( .leaf (.inr (.b9 a0 a1 a2 (⟨x2.1,a7.x1⟩:ZJ) a8))) ( .chk (decide (0<=(IntKind.wrap .u64 (a5)))) ( .br ((bits .and .i64 (Int.fdiv a6.ZKJ (2 ^ (min (Int.toNat (IntKind.wrap .u64 (a5))) (IntKind.bits .i64)))) (1:Int))==(1:Int)) ( .leaf (.inr (.b9 a0 a1 a2 (⟨x2.1,a7.x1⟩:ZJ) a8))) ( .br a4 ( .leaf (.inr (.b9 a0 a1 a2 (⟨x2.1,a7.x1⟩:ZJ) a8))) ( .leaf (.inr (.b10 a0 a1 a2 a3 a4 a5 (w64 ((1:Int) - (Int.tmod a5 (2:Int)))) x2.2 a6 (⟨x2.1,a7.x1⟩:ZJ) a8))))))) ( .br ((Int.tmod a5 (2:Int))==(1:Int)) ( .br ((↑x2.2.length:Int)==(0:Int)) ( .leaf (.inr (.b9 a0 a1 a2 (⟨a7.x0,x2.1⟩:ZJ) a8))) ( .chk (decide (0<=(IntKind.wrap .u64 (a5)))) ( .br ((bits .and .i64 (Int.fdiv a6.ZKJ (2 ^ (min (Int.toNat (IntKind.wrap .u64 (a5))) (IntKind.bits .i64)))) (1:Int))==(1:Int)) ( .leaf (.inr (.b9 a0 a1 a2 (⟨a7.x0,x2.1⟩:ZJ) a8))) ( .br a4 ( .leaf (.inr (.b9 a0 a1 a2 (⟨a7.x0,x2.1⟩:ZJ) a8))) ( .leaf (.inr (.b10 a0 a1 a2 a3 a4 a5 (w64 ((1:Int) - (Int.tmod a5 (2:Int)))) x2.2 a6 (⟨a7.x0,x2.1⟩:ZJ) a8))))))) ( .fail)))) ( .br ((Int.tmod a5 (2:Int))==(1:Int)) ( .bind 63 (ZbW a7.x1) (fun(x1:Z8×(List Int))=>.br ((Int.tmod a5 (2:Int))==(0:Int)) ( .br ((↑x1.2.length:Int)==(0:Int)) ( .leaf (.inr (.b9 a0 a1 a2 (⟨x1.1,a7.x1⟩:ZJ) a8))) ( .chk (decide (0<=(IntKind.wrap .u64 (a5)))) ( .br ((bits .and .i64 (Int.fdiv a6.ZKJ (2 ^ (min (Int.toNat (IntKind.wrap .u64 (a5))) (IntKind.bits .i64)))) (1:Int))==(1:Int)) ( .leaf (.inr (.b9 a0 a1 a2 (⟨x1.1,a7.x1⟩:ZJ) a8))) ( .br a4 ( .leaf (.inr (.b9 a0 a1 a2 (⟨x1.1,a7.x1⟩:ZJ) a8))) ( .leaf (.inr (.b10 a0 a1 a2 a3 a4 a5 (w64 ((1:Int) - (Int.tmod a5 (2:Int)))) x1.2 a6 (⟨x1.1,a7.x1⟩:ZJ) a8))))))) ( .br ((Int.tmod a5 (2:Int))==(1:Int)) ( .br ((↑x1.2.length:Int)==(0:Int)) ( .leaf (.inr (.b9 a0 a1 a2 (⟨a7.x0,x1.1⟩:ZJ) a8))) ( .chk (decide (0<=(IntKind.wrap .u64 (a5)))) ( .br ((bits .and .i64 (Int.fdiv a6.ZKJ (2 ^ (min (Int.toNat (IntKind.wrap .u64 (a5))) (IntKind.bits .i64)))) (1:Int))==(1:Int)) ( .leaf (.inr (.b9 a0 a1 a2 (⟨a7.x0,x1.1⟩:ZJ) a8))) ( .br a4 ( .leaf (.inr (.b9 a0 a1 a2 (⟨a7.x0,x1.1⟩:ZJ) a8))) ( .leaf (.inr (.b10 a0 a1 a2 a3 a4 a5 (w64 ((1:Int) - (Int.tmod a5 (2:Int)))) x1.2 a6 (⟨a7.x0,x1.1⟩:ZJ) a8))))))) ( .fail)))) ( .fail))
 | .b9 a0 a1 a2 a3 a4=>.br a1 ( .br (decide (a2>=(0:Int))) ( .leaf (.inr (.b11 a0 a3 a4))) ( .leaf (.inr (.b12 a0 a3 a4)))) ( .leaf (.inr (.b12 a0 a3 a4)))
 | .b10 a0 a1 a2 a3 a4 a5 a6 a7 a8 a9 a10=>.br (a6==(0:Int)) ( .bind 86 (Z5H a9.x0 a7 (a5==(0:Int)) a0) (fun(x2:Z8×(List Z5)×Bool)=>.br (a6==(0:Int)) ( .leaf (.inr (.b13 a0 a1 a2 a3 a4 a5 a6 x2.2.1 x2.2.2 (0:Int) a8 (⟨x2.1,a9.x1⟩:ZJ) a10))) ( .br (a6==(1:Int)) ( .leaf (.inr (.b13 a0 a1 a2 a3 a4 a5 a6 x2.2.1 x2.2.2 (0:Int) a8 (⟨a9.x0,x2.1⟩:ZJ) a10))) ( .fail)))) ( .br (a6==(1:Int)) ( .bind 86 (Z5H a9.x1 a7 (a5==(0:Int)) a0) (fun(x1:Z8×(List Z5)×Bool)=>.br (a6==(0:Int)) ( .leaf (.inr (.b13 a0 a1 a2 a3 a4 a5 a6 x1.2.1 x1.2.2 (0:Int) a8 (⟨x1.1,a9.x1⟩:ZJ) a10))) ( .br (a6==(1:Int)) ( .leaf (.inr (.b13 a0 a1 a2 a3 a4 a5 a6 x1.2.1 x1.2.2 (0:Int) a8 (⟨a9.x0,x1.1⟩:ZJ) a10))) ( .fail)))) ( .fail))
 | .b11 a0 a1 a2=>.leaf (.inl (a1,a0))
 | .b12 a0 a1 a2=>.leaf (.inr (.b14 a0 (0:Int) a1 a2))
 | .b13 a0 a1 a2 a3 a4 a5 a6 a7 a8 a9 a10 a11 a12=>.br (decide (a9<(↑a7.length:Int))) ( .chk (decide (0<=a9/\a9<(↑a7.length:Int))) ( .bind 148 (a7[(Int.toNat a9)]?) (fun(x1:Z5)=>.br (x1.Kind==(8:Int)) ( .br (a6==(1:Int)) ( .leaf (.inr (.b15 a0 a1 a2 a3 a4 a5 a6 a7 a8 a9 a10 a11 a12))) ( .leaf (.inr (.b16 a0 a1 a2 a3 a4 a5 a6 a7 a8 a9 a10 a11 a12)))) ( .leaf (.inr (.b16 a0 a1 a2 a3 a4 a5 a6 a7 a8 a9 a10 a11 a12)))))) ( .br (decide (a5>(0:Int))) ( .br (!a8) ( .leaf (.inr (.b9 (w64 (a0+(500:Int))) a1 a2 a11 a12))) ( .br (a5==(0:Int)) ( .br (!a11.x1.Good) ( .leaf (.inr (.b9 (w64 (a0+(500:Int))) a1 a2 a11 a12))) ( .leaf (.inr (.b17 (w64 (a0+(500:Int))) a1 a2 a3 a4 a5 a10 a11 a12)))) ( .leaf (.inr (.b17 (w64 (a0+(500:Int))) a1 a2 a3 a4 a5 a10 a11 a12))))) ( .br (a5==(0:Int)) ( .br (!a11.x1.Good) ( .leaf (.inr (.b9 (w64 (a0+(500:Int))) a1 a2 a11 a12))) ( .leaf (.inr (.b17 (w64 (a0+(500:Int))) a1 a2 a3 a4 a5 a10 a11 a12)))) ( .leaf (.inr (.b17 (w64 (a0+(500:Int))) a1 a2 a3 a4 a5 a10 a11 a12)))))
 | .b14 a0 a1 a2 a3=>.br (decide (a1<(2:Int))) ( .br (a1==(0:Int)) ( .bind 78 (Z8Z a2.x0 a0) (fun(x2:Z8×(List Z5))=>.br (a1==(0:Int)) ( .leaf (.inr (.b14 a0 (w64 (a1+(1:Int))) (⟨x2.1,a2.x1⟩:ZJ) a3))) ( .br (a1==(1:Int)) ( .leaf (.inr (.b14 a0 (w64 (a1+(1:Int))) (⟨a2.x0,x2.1⟩:ZJ) a3))) ( .fail)))) ( .br (a1==(1:Int)) ( .bind 78 (Z8Z a2.x1 a0) (fun(x1:Z8×(List Z5))=>.br (a1==(0:Int)) ( .leaf (.inr (.b14 a0 (w64 (a1+(1:Int))) (⟨x1.1,a2.x1⟩:ZJ) a3))) ( .br (a1==(1:Int)) ( .leaf (.inr (.b14 a0 (w64 (a1+(1:Int))) (⟨a2.x0,x1.1⟩:ZJ) a3))) ( .fail)))) ( .fail))) ( .leaf (.inl (a2,a0)))
 | .b15 a0 a1 a2 a3 a4 a5 a6 a7 a8 a9 a10 a11 a12=>.bind 46 (Zfu a11.x1 (⟨(0:Int),(10:Int),(⟨(0:Int),[]⟩:Zb),Zu,(0:Int),(0:Int),a11.x1.Key⟩:Z0K) a0) (fun(x1:Z8×Int)=>.leaf (.inr (.b16 a0 a1 a2 a3 a4 a5 a6 a7 a8 a9 a10 (⟨a11.x0,x1.1⟩:ZJ) a12)))
 | .b16 a0 a1 a2 a3 a4 a5 a6 a7 a8 a9 a10 a11 a12=>.leaf (.inr (.b13 a0 a1 a2 a3 a4 a5 a6 a7 a8 (w64 (a9+(1:Int))) a10 a11 a12))
 | .b17 a0 a1 a2 a3 a4 a5 a6 a7 a8=>.leaf (.inr (.b6 a0 a1 a2 a3 a4 (w64 (a5+(1:Int))) a6 a7 a8))
noncomputable def Z3H (a0:Zn) (a1:ZJ) (a2:Int) (a3:Bool) (a4:Int):Option (ZJ×Int):=Z05 Z3I (.b0 a0 a1 a2 a3 a4)
noncomputable def Zhd:Mod U:=⟨[113,109,3,4,3],110,fun x=>Z3H x.1 x.2.1 x.2.2.1 x.2.2.2.1 x.2.2.2.2.1,by decide⟩
def Z5A:Lay:=⟨[2,3,4,5,6,10,12],[[.keep],[.keep],[.keep],[.keep],[.keep],[.keep],[.keep]],[.var [.s 83 12,.keep,.keep],.var k4,.var k4],⟨[.one (.v 3 1 false),.one (.v 4 1 false),.one (.v 3 1 false),.one (.ptr 0),.one (.ptr 1),.one (.ptr 2),.one (.v 3 1 false)],[.var 113 3 (.agg [.v 113 3 true]),.var 109 132 (.agg [.v 109 132 true]),.var 109 132 (.agg [.v 109 132 true])]⟩⟩
def Z5o:Lay:=⟨[2,3,4,5,6,10,12],[[.keep],[.keep],[.keep],[.keep],[.keep],[.keep],[.keep]],[.var [.s 83 12,.keep,.keep],.var k4,.var k4],⟨[.one (.v 3 1 false),.one (.v 4 1 false),.one (.v 3 1 false),.one (.ptr 0),.one (.ptr 1),.one (.ptr 2),.one (.v 3 1 false)],[.var 113 3 (.agg [.v 113 3 true]),.var 109 132 (.agg [.v 109 132 true]),.var 109 132 (.agg [.v 109 132 true])]⟩⟩
def Z5u:Lay:=⟨[2,3,4,5,6,10],[[.keep],[.keep],[.keep],[.keep],[.keep],[.keep]],[.var [.s 83 12,.keep,.keep],.var k4,.var k4],⟨[.one (.v 3 1 false),.one (.v 4 1 false),.one (.v 3 1 false),.one (.ptr 0),.one (.ptr 1),.one (.ptr 2)],[.var 113 3 (.agg [.v 113 3 true]),.var 109 132 (.agg [.v 109 132 true]),.var 109 132 (.agg [.v 109 132 true])]⟩⟩
def Z5E:Lay:=⟨[2,3,4,5,6,10,12],[[.keep],[.keep],[.keep],[.keep],[.keep],[.keep],[.keep]],[.var [.s 83 12,.keep,.keep],.var k4,.var k4],⟨[.one (.v 3 1 false),.one (.v 4 1 false),.one (.v 3 1 false),.one (.ptr 0),.one (.ptr 1),.one (.ptr 2),.one (.v 3 1 false)],[.var 113 3 (.agg [.v 113 3 true]),.var 109 132 (.agg [.v 109 132 true]),.var 109 132 (.agg [.v 109 132 true])]⟩⟩
def Z5q:Lay:=⟨[2,3,4,5,6,10,12,13],[[.keep],[.keep],[.keep],[.keep],[.keep],[.keep],[.keep],[.keep]],[.var [.s 83 12,.keep,.keep],.var k4,.var k4,.var k12],⟨[.one (.v 3 1 false),.one (.v 4 1 false),.one (.v 3 1 false),.one (.ptr 0),.one (.ptr 1),.one (.ptr 2),.one (.v 3 1 false),.one (.ptr 3)],[.var 113 3 (.agg [.v 113 3 true]),.var 109 132 (.agg [.v 109 132 true]),.var 109 132 (.agg [.v 109 132 true]),.var 83 12 (.agg [.v 83 12 true])]⟩⟩
def Z5l:Lay:=⟨[2,3,4,5,6,10,16,17,18],[[.keep],[.keep],[.keep],[.keep],[.keep],[.keep],[.keep],[.keep],[.keep]],[.var [.s 83 12,.keep,.keep],.var k4,.var k4],⟨[.one (.v 3 1 false),.one (.v 4 1 false),.one (.v 3 1 false),.one (.ptr 0),.one (.ptr 1),.one (.ptr 2),.one (.v 3 1 false),.one (.v 4 1 false),.one (.v 3 1 false)],[.var 113 3 (.agg [.v 113 3 true]),.var 109 132 (.agg [.v 109 132 true]),.var 109 132 (.agg [.v 109 132 true])]⟩⟩
def Z5v:Lay:=⟨[2,6,10],[[.keep],[.keep],[.keep]],[.var k4,.var k4],⟨[.one (.v 3 1 false),.one (.ptr 0),.one (.ptr 1)],[.var 109 132 (.agg [.v 109 132 true]),.var 109 132 (.agg [.v 109 132 true])]⟩⟩
def Z5t:Lay:=⟨[2,3,4,5,6,10,16,17,18],[[.keep],[.keep],[.keep],[.keep],[.keep],[.keep],[.keep],[.keep],[.keep]],[.var [.s 83 12,.keep,.keep],.var k4,.var k4],⟨[.one (.v 3 1 false),.one (.v 4 1 false),.one (.v 3 1 false),.one (.ptr 0),.one (.ptr 1),.one (.ptr 2),.one (.v 3 1 false),.one (.v 4 1 false),.one (.v 3 1 false)],[.var 113 3 (.agg [.v 113 3 true]),.var 109 132 (.agg [.v 109 132 true]),.var 109 132 (.agg [.v 109 132 true])]⟩⟩
def Z5z:Lay:=⟨[2,3,4,6,10],[[.keep],[.keep],[.keep],[.keep],[.keep]],[.var k4,.var k4],⟨[.one (.v 3 1 false),.one (.v 4 1 false),.one (.v 3 1 false),.one (.ptr 0),.one (.ptr 1)],[.var 109 132 (.agg [.v 109 132 true]),.var 109 132 (.agg [.v 109 132 true])]⟩⟩
def Z4r:Lay:=⟨[2,3,4,5,6,10,16,17,18,20,22],[[.keep],[.keep],[.keep],[.keep],[.keep],[.keep],[.keep],[.keep],[.keep],[.keep],[.s 5 1]],[.var [.s 83 12,.keep,.keep],.var k4,.var k4],⟨[.one (.v 3 1 false),.one (.v 4 1 false),.one (.v 3 1 false),.one (.ptr 0),.one (.ptr 1),.one (.ptr 2),.one (.v 3 1 false),.one (.v 4 1 false),.one (.v 3 1 false),.one (.v 3 1 false),.one (.v 62 1 false)],[.var 113 3 (.agg [.v 113 3 true]),.var 109 132 (.agg [.v 109 132 true]),.var 109 132 (.agg [.v 109 132 true])]⟩⟩
def Z54:Lay:=⟨[2,6,10],[[.keep],[.keep],[.keep]],[.var k4,.var k4],⟨[.one (.v 3 1 false),.one (.ptr 0),.one (.ptr 1)],[.var 109 132 (.agg [.v 109 132 true]),.var 109 132 (.agg [.v 109 132 true])]⟩⟩
def Z4L:Lay:=⟨[2,6,10],[[.keep],[.keep],[.keep]],[.var k4,.var k4],⟨[.one (.v 3 1 false),.one (.ptr 0),.one (.ptr 1)],[.var 109 132 (.agg [.v 109 132 true]),.var 109 132 (.agg [.v 109 132 true])]⟩⟩
def Z53:Lay:=⟨[2,3,4,5,6,10,16,17,18,20,24,25,26],[[.keep],[.keep],[.keep],[.keep],[.keep],[.keep],[.keep],[.keep],[.keep],[.keep],[.s 148 18],[.keep],[.keep]],[.var [.s 83 12,.keep,.keep],.var k4,.var k4],⟨[.one (.v 3 1 false),.one (.v 4 1 false),.one (.v 3 1 false),.one (.ptr 0),.one (.ptr 1),.one (.ptr 2),.one (.v 3 1 false),.one (.v 4 1 false),.one (.v 3 1 false),.one (.v 3 1 false),.one (.v 77 1 false),.one (.v 4 1 false),.one (.v 3 1 false)],[.var 113 3 (.agg [.v 113 3 true]),.var 109 132 (.agg [.v 109 132 true]),.var 109 132 (.agg [.v 109 132 true])]⟩⟩
def Z4R:Lay:=⟨[2,6,10,29],[[.keep],[.keep],[.keep],[.keep]],[.var k4,.var k4],⟨[.one (.v 3 1 false),.one (.ptr 0),.one (.ptr 1),.one (.v 3 1 false)],[.var 109 132 (.agg [.v 109 132 true]),.var 109 132 (.agg [.v 109 132 true])]⟩⟩
def Z4t:Lay:=⟨[2,3,4,5,6,10,16,17,18,20,24,25,26],[[.keep],[.keep],[.keep],[.keep],[.keep],[.keep],[.keep],[.keep],[.keep],[.keep],[.s 148 18],[.keep],[.keep]],[.var [.s 83 12,.keep,.keep],.var k4,.var k4],⟨[.one (.v 3 1 false),.one (.v 4 1 false),.one (.v 3 1 false),.one (.ptr 0),.one (.ptr 1),.one (.ptr 2),.one (.v 3 1 false),.one (.v 4 1 false),.one (.v 3 1 false),.one (.v 3 1 false),.one (.v 77 1 false),.one (.v 4 1 false),.one (.v 3 1 false)],[.var 113 3 (.agg [.v 113 3 true]),.var 109 132 (.agg [.v 109 132 true]),.var 109 132 (.agg [.v 109 132 true])]⟩⟩
def Z4G:Lay:=⟨[2,3,4,5,6,10,16,17,18,20,24,25,26],[[.keep],[.keep],[.keep],[.keep],[.keep],[.keep],[.keep],[.keep],[.keep],[.keep],[.s 148 18],[.keep],[.keep]],[.var [.s 83 12,.keep,.keep],.var k4,.var k4],⟨[.one (.v 3 1 false),.one (.v 4 1 false),.one (.v 3 1 false),.one (.ptr 0),.one (.ptr 1),.one (.ptr 2),.one (.v 3 1 false),.one (.v 4 1 false),.one (.v 3 1 false),.one (.v 3 1 false),.one (.v 77 1 false),.one (.v 4 1 false),.one (.v 3 1 false)],[.var 113 3 (.agg [.v 113 3 true]),.var 109 132 (.agg [.v 109 132 true]),.var 109 132 (.agg [.v 109 132 true])]⟩⟩
def Z4O:Lay:=⟨[2,3,4,5,6,10,16,17,18],[[.keep],[.keep],[.keep],[.keep],[.keep],[.keep],[.keep],[.keep],[.keep]],[.var [.s 83 12,.keep,.keep],.var k4,.var k4],⟨[.one (.v 3 1 false),.one (.v 4 1 false),.one (.v 3 1 false),.one (.ptr 0),.one (.ptr 1),.one (.ptr 2),.one (.v 3 1 false),.one (.v 4 1 false),.one (.v 3 1 false)],[.var 113 3 (.agg [.v 113 3 true]),.var 109 132 (.agg [.v 109 132 true]),.var 109 132 (.agg [.v 109 132 true])]⟩⟩
def ZgX:Nat->Option Lay
 | 2=>some Z5A
 | 4=>some Z5o
 | 8=>some Z5u
 | 3=>some Z5E
 | 6=>some Z5q
 | 11=>some Z5l
 | 14=>some Z5v
 | 15=>some Z5t
 | 29=>some Z5z
 | 19=>some Z4r
 | 30=>some Z54
 | 31=>some Z4L
 | 22=>some Z53
 | 32=>some Z4R
 | 25=>some Z4t
 | 23=>some Z4G
 | 12=>some Z4O
 | _=>none
noncomputable def Zdo:Z1D->Z08 U
 | .b0 a0 a1 a2 a3 a4=>Z0f Tryz.f61 [113,109,3,4,3] (a0,a1,a2,a3,a4,())
 | .b1 a0 a1 a2 a3 a4 a5 a6=>spL Tryz.f61 [1,0,1,0,0,0,0] Z5A (((a0,()),((a1,()),((a2,()),((),((),((),((a3,()),()))))))),((a4,()),((a5,()),((a6,()),()))))
 | .b2 a0 a1 a2 a3 a4 a5 a6=>spL Tryz.f61 [1,0,1,0,0,1,0,0,0] Z5o (((a0,()),((a1,()),((a2,()),((),((),((),((a3,()),()))))))),((a4,()),((a5,()),((a6,()),()))))
 | .b3 a0 a1 a2 a3 a4 a5=>spL Tryz.f61 [1,1,0] Z5u (((a0,()),((a1,()),((a2,()),((),((),((),())))))),((a3,()),((a4,()),((a5,()),()))))
 | .b4 a0 a1 a2 a3 a4 a5 a6=>spL Tryz.f61 [1,0,1,0,0,1,1] Z5E (((a0,()),((a1,()),((a2,()),((),((),((),((a3,()),()))))))),((a4,()),((a5,()),((a6,()),()))))
 | .b5 a0 a1 a2 a3 a4 a5 a6 a7=>spL Tryz.f61 [1,0,1,0,0,1,0,0,1,1,0] Z5q (((a0,()),((a1,()),((a2,()),((),((),((),((a3,()),((),())))))))),((a4,()),((a5,()),((a6,()),((a7,()),())))))
 | .b6 a0 a1 a2 a3 a4 a5 a6 a7 a8=>spL Tryz.f61 [1,1,1,1,0,1,0,0,0,0] Z5l (((a0,()),((a1,()),((a2,()),((),((),((),((a3,()),((a4,()),((a5,()),()))))))))),((a6,()),((a7,()),((a8,()),()))))
 | .b7 a0 a1 a2=>spL Tryz.f61 [1,1,1,1,0,1,0,0,1,0,0,0,1,0,0] Z5v (((a0,()),((),((),()))),((a1,()),((a2,()),())))
 | .b8 a0 a1 a2 a3 a4 a5 a6 a7 a8=>spL Tryz.f61 [1,1,1,1,0,1,0,0,1,0,0,1,0] Z5t (((a0,()),((a1,()),((a2,()),((),((),((),((a3,()),((a4,()),((a5,()),()))))))))),((a6,()),((a7,()),((a8,()),()))))
 | .b9 a0 a1 a2 a3 a4=>spL Tryz.f61 [1,1,1,1,1,0,0] Z5z (((a0,()),((a1,()),((a2,()),((),((),()))))),((a3,()),((a4,()),())))
 | .b10 a0 a1 a2 a3 a4 a5 a6 a7 a8 a9 a10=>spL Tryz.f61 [1,1,1,1,0,1,0,0,1,0,0,1,1,1,1,1,0] Z4r (((a0,()),((a1,()),((a2,()),((),((),((),((a3,()),((a4,()),((a5,()),((a6,()),((a7,()),()))))))))))),((a8,()),((a9,()),((a10,()),()))))
 | .b11 a0 a1 a2=>spL Tryz.f61 [1,1,1,1,1,0,1,0,0] Z54 (((a0,()),((),((),()))),((a1,()),((a2,()),())))
 | .b12 a0 a1 a2=>spL Tryz.f61 [1,1,1,1,1,1,0,0] Z4L (((a0,()),((),((),()))),((a1,()),((a2,()),())))
 | .b13 a0 a1 a2 a3 a4 a5 a6 a7 a8 a9 a10 a11 a12=>spL Tryz.f61 [1,1,1,1,0,1,0,0,1,0,0,1,1,1,1,1,1,1,0,1,0,0,0,0] Z53 (((a0,()),((a1,()),((a2,()),((),((),((),((a3,()),((a4,()),((a5,()),((a6,()),((a7,()),((a8,()),((a9,()),()))))))))))))),((a10,()),((a11,()),((a12,()),()))))
 | .b14 a0 a1 a2 a3=>spL Tryz.f61 [1,1,1,1,1,1,0,1,0,0,0,0] Z4R (((a0,()),((),((),((a1,()),())))),((a2,()),((a3,()),())))
 | .b15 a0 a1 a2 a3 a4 a5 a6 a7 a8 a9 a10 a11 a12=>spL Tryz.f61 [1,1,1,1,0,1,0,0,1,0,0,1,1,1,1,1,1,1,0,1,0,0,1,0,0,1,0,0] Z4t (((a0,()),((a1,()),((a2,()),((),((),((),((a3,()),((a4,()),((a5,()),((a6,()),((a7,()),((a8,()),((a9,()),()))))))))))))),((a10,()),((a11,()),((a12,()),()))))
 | .b16 a0 a1 a2 a3 a4 a5 a6 a7 a8 a9 a10 a11 a12=>spL Tryz.f61 [1,1,1,1,0,1,0,0,1,0,0,1,1,1,1,1,1,1,0,1,0,0,1,1] Z4G (((a0,()),((a1,()),((a2,()),((),((),((),((a3,()),((a4,()),((a5,()),((a6,()),((a7,()),((a8,()),((a9,()),()))))))))))))),((a10,()),((a11,()),((a12,()),()))))
 | .b17 a0 a1 a2 a3 a4 a5 a6 a7 a8=>spL Tryz.f61 [1,1,1,1,0,1,0,0,1,1] Z4O (((a0,()),((a1,()),((a2,()),((),((),((),((a3,()),((a4,()),((a5,()),()))))))))),((a6,()),((a7,()),((a8,()),()))))
theorem Zch:Z0e 61 Tryz.f61 (mc Zjl (mc Zwu (mc Zv0 (mc ZEe (mc ZnZ msN))))) hsN ZgX 110 Z3I Zdo
 | .b0 _ _ _ _ _=>by kernel_rfl
 | .b1 _ _ _ _ _ _ _=>by kernel_rfl
 | .b2 _ _ _ _ _ _ _=>by kernel_rfl
 | .b3 _ _ _ _ _ _=>by kernel_rfl
 | .b4 _ _ _ _ _ _ _=>by kernel_rfl
 | .b5 _ _ _ _ _ _ _ _=>by kernel_rfl
 | .b6 _ _ _ _ _ _ _ _ _=>by kernel_rfl
 | .b7 _ _ _=>by kernel_rfl
 | .b8 _ _ _ _ _ _ _ _ _=>by kernel_rfl
 | .b9 _ _ _ _ _=>by kernel_rfl
 | .b10 _ _ _ _ _ _ _ _ _ _ _=>by kernel_rfl
 | .b11 _ _ _=>by kernel_rfl
 | .b12 _ _ _=>by kernel_rfl
 | .b13 _ _ _ _ _ _ _ _ _ _ _ _ _=>by kernel_rfl
 | .b14 _ _ _ _=>by kernel_rfl
 | .b15 _ _ _ _ _ _ _ _ _ _ _ _ _=>by kernel_rfl
 | .b16 _ _ _ _ _ _ _ _ _ _ _ _ _=>by kernel_rfl
 | .b17 _ _ _ _ _ _ _ _ _=>by kernel_rfl
theorem ZeL:Z04 Tryz.prog B0 61 Zhd:=okP Zch (fun x=>.b0 x.1 x.2.1 x.2.2.1 x.2.2.2.1 x.2.2.2.2.1) (by kernel_rfl) Tryz.func61 (by kernel_rfl) (by kernel_rfl) (fun _=>rfl) (fun _=>rfl)
inductive Z2h where
 | b0 (a0:ZT)
 | b1 (a0:Z8)
 | b2 (a0:ZT) (a1:Z8)
 | b3 (a0:Int) (a1:ZT) (a2:Z8) (a3:ZJ)
 | b4 (a0 a1:Int) (a2:ZT) (a3:Z8) (a4:ZJ)
noncomputable def Z56:Z2h->Tr U ((Z8×Int×Bool)⊕Z2h)
 | .b0 a0=>.br (decide ((↑a0.Events.length:Int)>(60:Int))) ( .leaf (.inr (.b1 (⟨(0:Int),Zm,(0:Int),(0:Int),(0:Int),(0:Int),(0:Int),(0:Int),(0:Int),false,false,false,false,false,(⟨(0:Int),(0:Int),([]:List Zb),false,false,(0:Int),(0:Int)⟩:Zr),Zq,(⟨(0:Int),(0:Int),(0:Int),([]:List Z4),(0:Int),(0:Int),([]:List Z9),false,(0:Int),(0:Int),false,false,(0:Int),(0:Int),(0:Int),(0:Int),(0:Int),(0:Int),(0:Int),(0:Int)⟩:Z7),Zt,(0:Int),([]:List Zg),([]:List Z4),(0:Int),(0:Int)⟩:Z8)))) ( .br (a0.Z1G != (0:Int)) ( .br (a0.Z1G != (1:Int)) ( .leaf (.inr (.b1 (⟨(0:Int),Zm,(0:Int),(0:Int),(0:Int),(0:Int),(0:Int),(0:Int),(0:Int),false,false,false,false,false,(⟨(0:Int),(0:Int),([]:List Zb),false,false,(0:Int),(0:Int)⟩:Zr),Zq,(⟨(0:Int),(0:Int),(0:Int),([]:List Z4),(0:Int),(0:Int),([]:List Z9),false,(0:Int),(0:Int),false,false,(0:Int),(0:Int),(0:Int),(0:Int),(0:Int),(0:Int),(0:Int),(0:Int)⟩:Z7),Zt,(0:Int),([]:List Zg),([]:List Z4),(0:Int),(0:Int)⟩:Z8)))) ( .leaf (.inr (.b2 a0 (⟨(0:Int),Zm,(0:Int),(0:Int),(0:Int),(0:Int),(0:Int),(0:Int),(0:Int),false,false,false,false,false,(⟨(0:Int),(0:Int),([]:List Zb),false,false,(0:Int),(0:Int)⟩:Zr),Zq,(⟨(0:Int),(0:Int),(0:Int),([]:List Z4),(0:Int),(0:Int),([]:List Z9),false,(0:Int),(0:Int),false,false,(0:Int),(0:Int),(0:Int),(0:Int),(0:Int),(0:Int),(0:Int),(0:Int)⟩:Z7),Zt,(0:Int),([]:List Zg),([]:List Z4),(0:Int),(0:Int)⟩:Z8))))) ( .leaf (.inr (.b2 a0 (⟨(0:Int),Zm,(0:Int),(0:Int),(0:Int),(0:Int),(0:Int),(0:Int),(0:Int),false,false,false,false,false,(⟨(0:Int),(0:Int),([]:List Zb),false,false,(0:Int),(0:Int)⟩:Zr),Zq,(⟨(0:Int),(0:Int),(0:Int),([]:List Z4),(0:Int),(0:Int),([]:List Z9),false,(0:Int),(0:Int),false,false,(0:Int),(0:Int),(0:Int),(0:Int),(0:Int),(0:Int),(0:Int),(0:Int)⟩:Z7),Zt,(0:Int),([]:List Zg),([]:List Z4),(0:Int),(0:Int)⟩:Z8)))))
 | .b1 a0=>.leaf (.inl (Z4e,(0:Int),false))
 | .b2 a0 a1=>.leaf (.inr (.b3 (0:Int) a0 a1 (⟨(⟨(0:Int),Zm,(0:Int),(0:Int),(0:Int),(0:Int),(0:Int),(0:Int),(0:Int),false,false,false,false,false,(⟨(0:Int),(0:Int),([]:List Zb),false,false,(0:Int),(0:Int)⟩:Zr),Zq,(⟨(0:Int),(0:Int),(0:Int),([]:List Z4),(0:Int),(0:Int),([]:List Z9),false,(0:Int),(0:Int),false,false,(0:Int),(0:Int),(0:Int),(0:Int),(0:Int),(0:Int),(0:Int),(0:Int)⟩:Z7),Zt,(0:Int),([]:List Zg),([]:List Z4),(0:Int),(0:Int)⟩:Z8),(⟨(0:Int),Zm,(0:Int),(0:Int),(0:Int),(0:Int),(0:Int),(0:Int),(0:Int),false,false,false,false,false,(⟨(0:Int),(0:Int),([]:List Zb),false,false,(0:Int),(0:Int)⟩:Zr),Zq,(⟨(0:Int),(0:Int),(0:Int),([]:List Z4),(0:Int),(0:Int),([]:List Z9),false,(0:Int),(0:Int),false,false,(0:Int),(0:Int),(0:Int),(0:Int),(0:Int),(0:Int),(0:Int),(0:Int)⟩:Z7),Zt,(0:Int),([]:List Zg),([]:List Z4),(0:Int),(0:Int)⟩:Z8)⟩:ZJ)))
 | .b3 a0 a1 a2 a3=>.br (decide (a0<(2:Int))) ( .br (a0==(0:Int)) ( .bind 46 (ZgB a0 a1.ZX (0:Int) a1.Keys.x0 (IntKind.wrap .u64 (a1.Zc9+(IntKind.wrap .u64 (a0)))) (0:Int)) (fun(x2:Z8×Int)=>.br (x2.2 != (0:Int)) ( .leaf (.inl (Z4e,(0:Int),false))) ( .br (a0==(0:Int)) ( .leaf (.inr (.b3 (w64 (a0+(1:Int))) a1 a2 (⟨x2.1,a3.x1⟩:ZJ)))) ( .br (a0==(1:Int)) ( .leaf (.inr (.b3 (w64 (a0+(1:Int))) a1 a2 (⟨a3.x0,x2.1⟩:ZJ)))) ( .fail))))) ( .br (a0==(1:Int)) ( .bind 46 (ZgB a0 a1.ZX (0:Int) a1.Keys.x1 (IntKind.wrap .u64 (a1.Zc9+(IntKind.wrap .u64 (a0)))) (0:Int)) (fun(x1:Z8×Int)=>.br (x1.2 != (0:Int)) ( .leaf (.inl (Z4e,(0:Int),false))) ( .br (a0==(0:Int)) ( .leaf (.inr (.b3 (w64 (a0+(1:Int))) a1 a2 (⟨x1.1,a3.x1⟩:ZJ)))) ( .br (a0==(1:Int)) ( .leaf (.inr (.b3 (w64 (a0+(1:Int))) a1 a2 (⟨a3.x0,x1.1⟩:ZJ)))) ( .fail))))) ( .fail))) ( .leaf (.inr (.b4 (0:Int) (0:Int) a1 a2 a3)))
 | .b4 a0 a1 a2 a3 a4=>.br (decide (a1<(↑a2.Events.length:Int))) ( .chk (decide (0<=a1/\a1<(↑a2.Events.length:Int))) ( .bind 113 (a2.Events[(Int.toNat a1)]?) (fun(x1:Zn)=>.bind 110 (Z3H x1 a4 (if a4.x0.Z0P>a0 then a4.x0.Z0P else a0) (a1==(w64 ((↑a2.Events.length:Int) - (1:Int)))) a2.ZH) (fun(x2:ZJ×Int)=>.leaf (.inr (.b4 x2.2 (w64 (a1+(1:Int))) a2 a3 (⟨x2.1.x0,x2.1.x1⟩:ZJ))))))) ( .br (a2.Z1G==(0:Int)) ( .leaf (.inl (a4.x0,a0,true))) ( .br (a2.Z1G==(1:Int)) ( .leaf (.inl (a4.x1,a0,true))) ( .fail)))
noncomputable def Z5a (a0:ZT):Option (Z8×Int×Bool):=Z05 Z56 (.b0 a0)
noncomputable def Zkd:Mod U:=⟨[59],60,fun x=>Z5a x.1,by decide⟩
def Z7i:Lay:=⟨[2],[[.keep]],[.var k1],⟨[.one (.ptr 0)],[.var 44 66 (.agg [.v 44 66 true])]⟩⟩
def Z7e:Lay:=⟨[1,2],[[.keep],[.keep]],[.var k10,.var k1],⟨[.one (.ptr 0),.one (.ptr 1)],[.var 59 17 (.agg [.v 59 17 true]),.var 44 66 (.agg [.v 44 66 true])]⟩⟩
def Z7f:Lay:=⟨[1,2,5,6],[[.keep],[.keep],[.keep],[.keep]],[.var k10,.var k1,.var k4],⟨[.one (.ptr 0),.one (.ptr 1),.one (.ptr 2),.one (.v 3 1 false)],[.var 59 17 (.agg [.v 59 17 true]),.var 44 66 (.agg [.v 44 66 true]),.var 109 132 (.agg [.v 109 132 true])]⟩⟩
def Z7r:Lay:=⟨[1,2,5,9,10],[[.keep],[.keep],[.keep],[.keep],[.keep]],[.var k10,.var k1,.var k4],⟨[.one (.ptr 0),.one (.ptr 1),.one (.ptr 2),.one (.v 3 1 false),.one (.v 3 1 false)],[.var 59 17 (.agg [.v 59 17 true]),.var 44 66 (.agg [.v 44 66 true]),.var 109 132 (.agg [.v 109 132 true])]⟩⟩
def ZkC:Nat->Option Lay
 | 2=>some Z7i
 | 3=>some Z7e
 | 5=>some Z7f
 | 13=>some Z7r
 | _=>none
noncomputable def Zj1:Z2h->Z08 U
 | .b0 a0=>Z0f Tryz.f21 [59] (a0,())
 | .b1 a0=>spL Tryz.f21 [1,0,1,0,0] Z7i (((),()),((a0,()),()))
 | .b2 a0 a1=>spL Tryz.f21 [1,1,0] Z7e (((),((),())),((a0,()),((a1,()),())))
 | .b3 a0 a1 a2 a3=>spL Tryz.f21 [1,1,1,0,1,0,0,0,0] Z7f (((),((),((),((a0,()),())))),((a1,()),((a2,()),((a3,()),()))))
 | .b4 a0 a1 a2 a3 a4=>spL Tryz.f21 [1,1,1,1,1,0,1,0,0,0,0] Z7r (((),((),((),((a0,()),((a1,()),()))))),((a2,()),((a3,()),((a4,()),()))))
theorem Zhn:Z0e 21 Tryz.f21 (mc ZAY (mc ZeL msN)) hsN ZkC 60 Z56 Zj1
 | .b0 _=>by kernel_rfl
 | .b1 _=>by kernel_rfl
 | .b2 _ _=>by kernel_rfl
 | .b3 _ _ _ _=>by kernel_rfl
 | .b4 _ _ _ _ _=>by kernel_rfl
theorem ZiV:Z04 Tryz.prog B0 21 Zkd:=okP Zhn (fun x=>.b0 x.1) (by kernel_rfl) Tryz.func21 (by kernel_rfl) (by kernel_rfl) (fun _=>rfl) (fun _=>rfl)
noncomputable def ZoF (_:Z8):Option Int:=none
noncomputable def Zow:Mod U:=⟨[44],3,fun x=>ZoF x.1,by decide⟩
theorem ZlU:Z04 Tryz.prog B0 15 Zow:=⟨⟨_,Tryz.func15,rfl,by kernel_rfl⟩,fun _ _ h=>nomatch h⟩
inductive Z1w where
 | b0 (a0:Z0v)
noncomputable def Z3m:Z1w->Tr U (Bool⊕Z1w)
 | .b0 a0=>.leaf (.inl (a0.Link.ZL==(0:Int)))
noncomputable def Z14 (a0:Z0v):Option Bool:=Z05 Z3m (.b0 a0)
noncomputable def Zh6:Mod U:=⟨[115],4,fun x=>Z14 x.1,by decide⟩
noncomputable def ZdJ:Z1w->Z08 U
 | .b0 a0=>Z0f Tryz.f63 [115] (a0,())
theorem Zck:Z0e 63 Tryz.f63 msN hsN AN 4 Z3m ZdJ
 | .b0 _=>by kernel_rfl
theorem Z23:Z04 Tryz.prog B0 63 Zh6:=okP Zck (fun x=>.b0 x.1) (by kernel_rfl) Tryz.func63 (by kernel_rfl) (by kernel_rfl) (fun _=>rfl) (fun _=>rfl)
noncomputable def ZnQ (_:Zv) (_:Zk):Option (Zk×Int):=none
noncomputable def Zo5:Mod U:=⟨[41,70],71,fun x=>ZnQ x.1 x.2.1,by decide⟩
theorem ZlC:Z04 Tryz.prog B0 65 Zo5:=⟨⟨_,Tryz.func65,rfl,by kernel_rfl⟩,fun _ _ h=>nomatch h⟩
noncomputable def Zot (_:Int) (_:List Int):Option (List Int):=none
noncomputable def Zoy:Mod U:=⟨[3,62],62,fun x=>Zot x.1 x.2.1,by decide⟩
theorem Znc:Z04 Tryz.prog B0 67 Zoy:=⟨⟨_,Tryz.func67,rfl,by kernel_rfl⟩,fun _ _ h=>nomatch h⟩
noncomputable def Zv2 (_:Int) (_:List Int):Option (List Int):=none
noncomputable def Zu0:Mod U:=⟨[22,62],62,fun x=>Zv2 x.1 x.2.1,by decide⟩
theorem Zsn:Z04 Tryz.prog B0 68 Zu0:=⟨⟨_,Tryz.func68,rfl,by kernel_rfl⟩,fun _ _ h=>nomatch h⟩
inductive ZeS where
 | b0 (a0:Z8)
 | b1 (a0 a1:List Zb) (a2 a3:Int) (a4:Z8)
noncomputable def Z6m:ZeS->Tr U (Z1J⊕ZeS)
 | .b0 a0=>.chk (decide (0<=(↑a0.Arq.ZP.length:Int)/\(↑a0.Arq.ZP.length:Int)<=(↑a0.Arq.ZP.length:Int)/\Int.toNat (↑a0.Arq.ZP.length:Int)*32<=lim/\(↑a0.Arq.ZP.length:Int)<=(↑maxLen:Int))) ( .chk ((List.replicate (Int.toNat (↑a0.Arq.ZP.length:Int)) ((⟨(0:Int),[]⟩:Zb):Zb)).length==(List.replicate (Int.toNat (↑a0.Arq.ZP.length:Int)) ((⟨(0:Int),[]⟩:Zb):Zb)).length) ( .leaf (.inr (.b1 (List.replicate (Int.toNat (↑a0.Arq.ZP.length:Int)) ((⟨(0:Int),[]⟩:Zb):Zb)) a0.Arq.ZP (↑a0.Arq.ZP.length:Int) (0:Int) a0))))
 | .b1 a0 a1 a2 a3 a4=>.br (decide (a3<a2)) ( .chk (decide (0<=a3/\a3<(↑a1.length:Int))) ( .bind 68 (a1[(Int.toNat a3)]?) (fun(x1:Zb)=>.bind 1344 (Z20 x1.Payload) (fun(y2:Z1g)=>.chk (a0.length==a0.length) ( .chk (decide (0<=a3/\a3<(↑a0.length:Int))) ( .chk (a0.length==a0.length&&decide (0<=(Int.toNat a3))) ( .bind 68 (a0[(Int.toNat a3)]?) (fun(x3:Zb)=>.chk (y2.q0.length==y2.q0.length) ( .chk ((a0.set (Int.toNat a3) (⟨x1.Z5c,y2.q0⟩:Zb)).length==a0.length) ( .leaf (.inr (.b1 (a0.set (Int.toNat a3) (⟨x1.Z5c,y2.q0⟩:Zb)) a1 a2 (w64 (a3+(1:Int))) a4)))))))))))) ( .bind 1345 (Z0O a4.Zi.Zl) (fun(y4:Z0n)=>.bind 1346 (Z1B a4.Zi.Zy) (fun(y5:Z0U)=>.bind 1347 (Z1K a4.Zx) (fun(y6:Z17)=>.bind 1345 (Z0O a4.Zf) (fun(y7:Z0n)=>.chk ((a0.length==a0.length)&&((y4.q0.length==y4.q0.length)&&((y5.q0.length==y5.q0.length)&&((y6.q0.length==y6.q0.length)&&((y7.q0.length==y7.q0.length)&&(([]:List Z5).length==0)))))) ( .leaf (.inl (⟨(⟨({ a4 with Arq:=({ a4.Arq with ZP:=a0 }:Zr),Zi:=({ a4.Zi with Zl:=y4.q0,Zy:=y5.q0 }:Z7),Zx:=y6.q0,Zf:=y7.q0 }:Z8),([]:List Z5)⟩:Z16)⟩:Z1J))))))))
noncomputable def Z43 (a0:Z8):Option Z1J:=Z05 Z6m (.b0 a0)
def Zg1:Shape:=⟨[.agg [.v 44 66 true]],[]⟩
noncomputable def ZlM:HMod U:=⟨[k1],[],Zg1,⟨[.one (.ptr 0)],[.var 118 67 (.agg [.v 3 1 false,.v 28 11 true,.v 3 1 false,.v 30 1 false,.v 3 1 false,.v 3 1 false,.v 3 1 false,.v 3 1 false,.v 3 1 false,.v 4 1 false,.v 4 1 false,.v 4 1 false,.v 4 1 false,.v 4 1 false,.v 3 1 false,.v 3 1 false,.own 68 1,.v 4 1 false,.v 4 1 false,.v 3 1 false,.v 3 1 false,.v 35 3 true,.v 3 1 false,.v 3 1 false,.v 3 1 false,.own 156 2,.v 3 1 false,.v 3 1 false,.own 138 3,.v 4 1 false,.v 25 1 false,.v 25 1 false,.v 4 1 false,.v 4 1 false,.v 3 1 false,.v 3 1 false,.v 3 1 false,.v 25 1 false,.v 25 1 false,.v 25 1 false,.v 3 1 false,.v 3 1 false,.v 41 7 true,.v 29 1 false,.own 99 4,.own 156 5,.v 3 1 false,.v 25 1 false,.own 148 6]),.row 68 true,.row 156 true,.row 138 true,.row 99 true,.row 156 true,.row 148 true]⟩,true,1353,fun(y:Z1J)=>(((),()),((y.q0.Link.Z1G,(y.q0.Link.ZX,(y.q0.Link.Clock,(y.q0.Link.Event,(y.q0.Link.Last,(y.q0.Link.Z0P,(y.q0.Link.Size,(y.q0.Link.Sync,(y.q0.Link.Z3c,(y.q0.Link.Z2W,(y.q0.Link.Got,(y.q0.Link.Good,(y.q0.Link.Z0Z,(y.q0.Link.More,(y.q0.Link.Arq.SN,(y.q0.Link.Arq.Z8Y,(y.q0.Link.Arq.Open,(y.q0.Link.Arq.Empty,(y.q0.Link.Arq.Z0Z,(y.q0.Link.Arq.Taken,(y.q0.Link.Z0H,(y.q0.Link.Zi.Z1G,(y.q0.Link.Zi.Own,(y.q0.Link.Zi.Since,(y.q0.Link.Zi.Other,(y.q0.Link.Zi.Z0i,(y.q0.Link.Zi.Told,(y.q0.Link.Zi.ZQ,(y.q0.Link.Zi.Z2Z,(y.q0.Link.Zi.Z40,(y.q0.Link.Zi.Z0q,(y.q0.Link.Zi.Version,(y.q0.Link.Zi.Length,(y.q0.Link.Zi.Limit,(y.q0.Link.Zi.Z4h,(y.q0.Link.Zi.ZkQ,(y.q0.Link.Zi.Mark,(y.q0.Link.Zi.Z1W,(y.q0.Link.Zi.Z2R,(y.q0.Link.ZZ,(y.q0.Link.Key,(y.q0.Link.ZL,(y.q0.Link.Zc9,()))))))))))))))))))))))))))))))))))))))))))),(y.q0.Link.Arq.ZP,(y.q0.Link.Zi.Zl,(y.q0.Link.Zi.Zy,(y.q0.Link.Zx,(y.q0.Link.Zf,(y.q0.Z0G,())))))))),fun x=>Z43 x.1.1.1,⟨⟨⟨⟨by decide,fun _=>⟨_,rfl,rfl⟩⟩,trivial⟩,trivial⟩,trivial⟩⟩
def Zhj:Lay:=⟨[1,3,13,14,15],[[.keep],[.own 68 2],[.s 68 2],[.keep],[.keep]],[.var k1,.row true],⟨[.one (.ptr 0),.one (.own 68 1),.one (.v 31 1 false),.one (.v 3 1 false),.one (.v 3 1 false)],[.var 44 66 (.agg [.v 44 66 true]),.row 68 true]⟩⟩
def Zzu:Nat->Option Lay
 | 3=>some Zhj
 | _=>none
noncomputable def Zwi:ZeS->Z08 U
 | .b0 a0=>ZJp Tryz.f62 Zg1 (((a0,()),()),())
 | .b1 a0 a1 a2 a3 a4=>spL Tryz.f62 [1,1,0,1,0,0,0] Zhj (((),((),((a1,()),((a2,()),((a3,()),()))))),((a4,()),(a0,())))
theorem ZrR:ZK4 62 Tryz.f62 msN (hc [] Zca (hc [] Z8Q (hc [] Z9R (hc [] Zav hsN)))) Zzu [[.keep]] [.var k8,.row true,.row true,.row true,.row true,.row true,.row true] 0 ZlM Z6m Zwi
 | .b0 _=>by kernel_rfl
 | .b1 _ _ _ _ _=>by kernel_rfl
theorem Z7m:Z5J Tryz.prog B0 62 ZlM:=okH ZrR (fun x=>.b0 x.1.1.1) (fun x=>by kernel_rfl) (by kernel_rfl) Tryz.func62 (by kernel_rfl) (by kernel_rfl) (fun x=>by kernel_rfl) (fun x=>by kernel_rfl)
end Go.Proofs.YtjodhcdmhobmoaaGreatDoor
namespace Go.Proofs.YtjodhcdmhobmoaaGreatDoor
open Go Go.Proofs.YtjodhcdmhobmoaaGreatDoor.Le
set_option maxRecDepth 100000
inductive Z6T where
 | b0 (a0:Z8)
noncomputable def Zee:Z6T->Tr U ((Z8×(List Int))⊕Z6T)
 | .b0 a0=>.bind 1353 (Z43 a0) (fun(y1:Z1J)=>.bind 4 (Z14 (⟨(⟨y1.q0.Link.Z1G,y1.q0.Link.ZX,y1.q0.Link.Clock,y1.q0.Link.Event,y1.q0.Link.Last,y1.q0.Link.Z0P,y1.q0.Link.Size,y1.q0.Link.Sync,y1.q0.Link.Z3c,y1.q0.Link.Z2W,y1.q0.Link.Got,y1.q0.Link.Good,y1.q0.Link.Z0Z,y1.q0.Link.More,(⟨y1.q0.Link.Arq.SN,y1.q0.Link.Arq.Z8Y,y1.q0.Link.Arq.Open,y1.q0.Link.Arq.Empty,y1.q0.Link.Arq.Z0Z,y1.q0.Link.Arq.Taken⟩:Z4K),y1.q0.Link.Z0H,(⟨y1.q0.Link.Zi.Z1G,y1.q0.Link.Zi.Own,y1.q0.Link.Zi.Since,y1.q0.Link.Zi.Other,y1.q0.Link.Zi.Z0i,y1.q0.Link.Zi.Told,y1.q0.Link.Zi.ZQ,y1.q0.Link.Zi.Z2Z,y1.q0.Link.Zi.Z40,y1.q0.Link.Zi.Z0q,y1.q0.Link.Zi.Version,y1.q0.Link.Zi.Length,y1.q0.Link.Zi.Limit,y1.q0.Link.Zi.Z4h,y1.q0.Link.Zi.ZkQ,y1.q0.Link.Zi.Mark,y1.q0.Link.Zi.Z1W,y1.q0.Link.Zi.Z2R⟩:Z2C),y1.q0.Link.ZZ,y1.q0.Link.Key,y1.q0.Link.ZL,y1.q0.Link.Zc9⟩:Z39)⟩:Z0v)) (fun(x2:Bool)=>.br (!x2) ( .chk (y1.q0.Link.Arq.ZP.length==y1.q0.Link.Arq.ZP.length) ( .chk (y1.q0.Link.Zi.Zl.length==y1.q0.Link.Zi.Zl.length) ( .chk (y1.q0.Link.Zi.Zy.length==y1.q0.Link.Zi.Zy.length) ( .chk (y1.q0.Link.Zx.length==y1.q0.Link.Zx.length) ( .chk (y1.q0.Link.Zf.length==y1.q0.Link.Zf.length) ( .chk (([]:List Int).length==0) ( .leaf (.inl (y1.q0.Link,([]:List Int)))))))))) ( .fail)))
noncomputable def ZdT (a0:Z8):Option (Z8×(List Int)):=Z05 Zee (.b0 a0)
noncomputable def Zxl:Mod U:=⟨[44],63,fun x=>ZdT x.1,by decide⟩
noncomputable def ZuZ:Z6T->Z08 U
 | .b0 a0=>Z0f Tryz.f22 [44] (a0,())
theorem Zqq:Z0e 22 Tryz.f22 (mc ZlU (mc Z23 (mc ZlC (mc Znc (mc Zsn msN))))) (hc [] Z7m hsN) AN 63 Zee ZuZ
 | .b0 _=>by kernel_rfl
theorem Zus:Z04 Tryz.prog B0 22 Zxl:=okP Zqq (fun x=>.b0 x.1) (by kernel_rfl) Tryz.func22 (by kernel_rfl) (by kernel_rfl) (fun _=>rfl) (fun _=>rfl)
inductive Z3X where
 | b0 (a0:List Zb)
 | b1 (a0 a1:List Zb) (a2:Int)
noncomputable def Z1Q:Z3X->Tr U ((List Zb)⊕Z3X)
 | .b0 a0=>.chk (([]:List Zb).length==0) ( .leaf (.inr (.b1 a0 ([]:List Zb) (0:Int))))
 | .b1 a0 a1 a2=>.br (decide (a2<(↑a0.length:Int))) ( .chk (decide (0<=a2/\a2<(↑a0.length:Int))) ( .bind 68 (a0[(Int.toNat a2)]?) (fun(x1:Zb)=>.chk (decide (0<=a2/\a2<(↑a0.length:Int))) ( .bind 68 (a0[(Int.toNat a2)]?) (fun(x2:Zb)=>.chk (([]:List Int).length==0) ( .chk (decide ((0+x2.Payload.length)*1<=lim)&&decide (0+x2.Payload.length<=maxLen)) ( .chk ((([]:List Int)++x2.Payload).length==(([]:List Int)++x2.Payload).length) ( .chk (([(⟨x1.Z5c,(([]:List Int)++x2.Payload)⟩:Zb)]).length==1) ( .chk (a1.length==a1.length) ( .chk (decide ((a1.length+([(⟨x1.Z5c,(([]:List Int)++x2.Payload)⟩:Zb)]).length)*32<=lim)&&decide (a1.length+([(⟨x1.Z5c,(([]:List Int)++x2.Payload)⟩:Zb)]).length<=maxLen)) ( .chk ((a1++[(⟨x1.Z5c,(([]:List Int)++x2.Payload)⟩:Zb)]).length==(a1++[(⟨x1.Z5c,(([]:List Int)++x2.Payload)⟩:Zb)]).length) ( .leaf (.inr (.b1 a0 (a1++[(⟨x1.Z5c,(([]:List Int)++x2.Payload)⟩:Zb)]) (w64 (a2+(1:Int))))))))))))))))) ( .chk (a1.length==a1.length) ( .leaf (.inl a1)))
noncomputable def Z48 (a0:List Zb):Option (List Zb):=Z05 Z1Q (.b0 a0)
noncomputable def ZiU:Mod U:=⟨[31],31,fun x=>Z48 x.1,by decide⟩
def Z6b:Lay:=⟨[0,3,4],[[.s 68 2],[.own 68 2],[.keep]],[.row true],⟨[.one (.v 31 1 false),.one (.own 68 0),.one (.v 3 1 false)],[.row 68 true]⟩⟩
def Zi6:Nat->Option Lay
 | 3=>some Z6b
 | _=>none
noncomputable def ZgM:Z3X->Z08 U
 | .b0 a0=>Z0f Tryz.f69 [31] (a0,())
 | .b1 a0 a1 a2=>spL Tryz.f69 [1,1,0,1,0,0,0,0] Z6b (((a0,()),((),((a2,()),()))),(a1,()))
theorem ZdM:Z0e 69 Tryz.f69 msN hsN Zi6 31 Z1Q ZgM
 | .b0 _=>by kernel_rfl
 | .b1 _ _ _=>by kernel_rfl
theorem ZeZ:Z04 Tryz.prog B0 69 ZiU:=okP ZdM (fun x=>.b0 x.1) (by kernel_rfl) Tryz.func69 (by kernel_rfl) (by kernel_rfl) (fun _=>rfl) (fun _=>rfl)
inductive Z8m where
 | b0 (a0:Z8)
noncomputable def Zc3:Z8m->Tr U (Z8⊕Z8m)
 | .b0 a0=>.bind 31 (Z48 a0.Arq.ZP) (fun(x1:List Zb)=>.chk (([]:List Z4).length==0) ( .chk (decide ((0+a0.Zi.Zl.length)*120<=lim)&&decide (0+a0.Zi.Zl.length<=maxLen)) ( .chk (([]:List Z9).length==0) ( .chk (decide ((0+a0.Zi.Zy.length)*64<=lim)&&decide (0+a0.Zi.Zy.length<=maxLen)) ( .chk (([]:List Zg).length==0) ( .chk (decide ((0+a0.Zx.length)*16<=lim)&&decide (0+a0.Zx.length<=maxLen)) ( .chk (([]:List Z4).length==0) ( .chk (decide ((0+a0.Zf.length)*120<=lim)&&decide (0+a0.Zf.length<=maxLen)) ( .chk ((([]:List Z4)++a0.Zi.Zl).length==(([]:List Z4)++a0.Zi.Zl).length) ( .chk ((([]:List Z9)++a0.Zi.Zy).length==(([]:List Z9)++a0.Zi.Zy).length) ( .chk ((([]:List Zg)++a0.Zx).length==(([]:List Zg)++a0.Zx).length) ( .chk ((([]:List Z4)++a0.Zf).length==(([]:List Z4)++a0.Zf).length) ( .leaf (.inl ({ a0 with Arq:=({ a0.Arq with ZP:=x1 }:Zr),Zi:=({ a0.Zi with Zl:=(([]:List Z4)++a0.Zi.Zl),Zy:=(([]:List Z9)++a0.Zi.Zy) }:Z7),Zx:=(([]:List Zg)++a0.Zx),Zf:=(([]:List Z4)++a0.Zf) }:Z8)))))))))))))))
noncomputable def Z41 (a0:Z8):Option Z8:=Z05 Zc3 (.b0 a0)
noncomputable def ZCK:Mod U:=⟨[44],44,fun x=>Z41 x.1,by decide⟩
noncomputable def Zy2:Z8m->Z08 U
 | .b0 a0=>Z0f Tryz.f23 [44] (a0,())
theorem ZsR:Z0e 23 Tryz.f23 (mc ZeZ msN) hsN AN 44 Zc3 Zy2
 | .b0 _=>by kernel_rfl
theorem ZyN:Z04 Tryz.prog B0 23 ZCK:=okP ZsR (fun x=>.b0 x.1) (by kernel_rfl) Tryz.func23 (by kernel_rfl) (by kernel_rfl) (fun _=>rfl) (fun _=>rfl)
noncomputable def ZpD (_:ZG) (_:Int) (_:Int):Option (Int×Int):=none
noncomputable def ZCy:Mod U:=⟨[28,30,3],104,fun x=>ZpD x.1 x.2.1 x.2.2.1,by decide⟩
theorem ZyH:Z04 Tryz.prog B0 53 ZCy:=⟨⟨_,Tryz.func53,rfl,by kernel_rfl⟩,fun _ _ h=>nomatch h⟩
noncomputable def ZcU (_:Zo):Option (Zo×Int):=none
noncomputable def ZnX:Mod U:=⟨[35],129,fun x=>ZcU x.1,by decide⟩
theorem ZmE:Z04 Tryz.prog B0 80 ZnX:=⟨⟨_,Tryz.func80,rfl,by kernel_rfl⟩,fun _ _ h=>nomatch h⟩
noncomputable def Z9E (_:Zo) (_:Bool):Option Zo:=none
noncomputable def Zkg:Mod U:=⟨[35,4],35,fun x=>Z9E x.1 x.2.1,by decide⟩
theorem ZhO:Z04 Tryz.prog B0 81 Zkg:=⟨⟨_,Tryz.func81,rfl,by kernel_rfl⟩,fun _ _ h=>nomatch h⟩
noncomputable def ZbC (_:Int) (_:Int):Option Int:=none
noncomputable def ZtL:Mod U:=⟨[30,3],30,fun x=>ZbC x.1 x.2.1,by decide⟩
theorem Zhr:Z04 Tryz.prog B0 83 ZtL:=⟨⟨_,Tryz.func83,rfl,by kernel_rfl⟩,fun _ _ h=>nomatch h⟩
inductive Z2U where
 | b0 (a0:Z0v)
noncomputable def Z5r:Z2U->Tr U (Int⊕Z2U)
 | .b0 a0=>.leaf (.inl (w64 (a0.Link.ZX.ZI.Z1z*(1250:Int))))
noncomputable def Z5k (a0:Z0v):Option Int:=Z05 Z5r (.b0 a0)
noncomputable def Zcl:Mod U:=⟨[115],3,fun x=>Z5k x.1,by decide⟩
noncomputable def Zbt:Z2U->Z08 U
 | .b0 a0=>Z0f Tryz.f84 [115] (a0,())
theorem Z9V:Z0e 84 Tryz.f84 msN hsN AN 3 Z5r Zbt
 | .b0 _=>by kernel_rfl
theorem Zaj:Z04 Tryz.prog B0 84 Zcl:=okP Z9V (fun x=>.b0 x.1) (by kernel_rfl) Tryz.func84 (by kernel_rfl) (by kernel_rfl) (fun _=>rfl) (fun _=>rfl)
noncomputable def Zbf (_:Z7) (_:Int):Option (Z7×(List Z9)):=none
noncomputable def ZkY:Mod U:=⟨[39,30],135,fun x=>Zbf x.1 x.2.1,by decide⟩
theorem Zki:Z04 Tryz.prog B0 85 ZkY:=⟨⟨_,Tryz.func85,rfl,by kernel_rfl⟩,fun _ _ h=>nomatch h⟩
noncomputable def Z8f (_:Z7) (_:Int) (_:Int):Option (Z7×(List Z4)):=none
noncomputable def ZhE:Mod U:=⟨[39,30,3],140,fun x=>Z8f x.1 x.2.1 x.2.2.1,by decide⟩
theorem Zhh:Z04 Tryz.prog B0 87 ZhE:=⟨⟨_,Tryz.func87,rfl,by kernel_rfl⟩,fun _ _ h=>nomatch h⟩
inductive Z2T where
 | b0 (a0:Z0v)
noncomputable def Z5F:Z2T->Tr U (Int⊕Z2T)
 | .b0 a0=>.bind 30 (ZbC a0.Link.Event a0.Link.ZX.ZI.Z1o) (fun(x1:Int)=>.leaf (.inl x1))
noncomputable def Z5n (a0:Z0v):Option Int:=Z05 Z5F (.b0 a0)
noncomputable def Zci:Mod U:=⟨[115],30,fun x=>Z5n x.1,by decide⟩
noncomputable def Zb9:Z2T->Z08 U
 | .b0 a0=>Z0f Tryz.f88 [115] (a0,())
theorem Z9O:Z0e 88 Tryz.f88 (mc Zhr msN) hsN AN 30 Z5F Zb9
 | .b0 _=>by kernel_rfl
theorem ZbD:Z04 Tryz.prog B0 88 Zci:=okP Z9O (fun x=>.b0 x.1) (by kernel_rfl) Tryz.func88 (by kernel_rfl) (by kernel_rfl) (fun _=>rfl) (fun _=>rfl)
inductive Z52 where
 | b0 (a0:Z8) (a1:Int)
 | b1 (a0:Int) (a1:Bool) (a2:Z8) (a3:Z16)
 | b2 (a0:Int) (a1:Bool) (a2:Z8) (a3:Z16)
 | b3 (a0:Int) (a1:Z8) (a2:Z16)
 | b4 (a0:Int) (a1:Z8) (a2:Z16)
 | b5 (a0:Int) (a1:List Z9) (a2 a3:Int) (a4:Z8) (a5:Z16) (a6:Z7)
noncomputable def Zb6:Z52->Tr U ((Z8×(List Z5))⊕Z52)
 | .b0 a0 a1=>.bind 1353 (Z43 a0) (fun(y1:Z1J)=>.bind 4 (Z14 (⟨(⟨y1.q0.Link.Z1G,y1.q0.Link.ZX,y1.q0.Link.Clock,y1.q0.Link.Event,y1.q0.Link.Last,y1.q0.Link.Z0P,y1.q0.Link.Size,y1.q0.Link.Sync,y1.q0.Link.Z3c,y1.q0.Link.Z2W,y1.q0.Link.Got,y1.q0.Link.Good,y1.q0.Link.Z0Z,y1.q0.Link.More,(⟨y1.q0.Link.Arq.SN,y1.q0.Link.Arq.Z8Y,y1.q0.Link.Arq.Open,y1.q0.Link.Arq.Empty,y1.q0.Link.Arq.Z0Z,y1.q0.Link.Arq.Taken⟩:Z4K),y1.q0.Link.Z0H,(⟨y1.q0.Link.Zi.Z1G,y1.q0.Link.Zi.Own,y1.q0.Link.Zi.Since,y1.q0.Link.Zi.Other,y1.q0.Link.Zi.Z0i,y1.q0.Link.Zi.Told,y1.q0.Link.Zi.ZQ,y1.q0.Link.Zi.Z2Z,y1.q0.Link.Zi.Z40,y1.q0.Link.Zi.Z0q,y1.q0.Link.Zi.Version,y1.q0.Link.Zi.Length,y1.q0.Link.Zi.Limit,y1.q0.Link.Zi.Z4h,y1.q0.Link.Zi.ZkQ,y1.q0.Link.Zi.Mark,y1.q0.Link.Zi.Z1W,y1.q0.Link.Zi.Z2R⟩:Z2C),y1.q0.Link.ZZ,y1.q0.Link.Key,y1.q0.Link.ZL,y1.q0.Link.Zc9⟩:Z39)⟩:Z0v)) (fun(x2:Bool)=>.br (!x2) ( .chk (y1.q0.Link.Arq.ZP.length==y1.q0.Link.Arq.ZP.length) ( .chk (y1.q0.Link.Zi.Zl.length==y1.q0.Link.Zi.Zl.length) ( .chk (y1.q0.Link.Zi.Zy.length==y1.q0.Link.Zi.Zy.length) ( .chk (y1.q0.Link.Zx.length==y1.q0.Link.Zx.length) ( .chk (y1.q0.Link.Zf.length==y1.q0.Link.Zf.length) ( .chk (([]:List Z5).length==0) ( .leaf (.inl (y1.q0.Link,([]:List Z5)))))))))) ( .br (!y1.q0.Link.Got) ( .chk (y1.q0.Link.Arq.ZP.length==y1.q0.Link.Arq.ZP.length) ( .chk (y1.q0.Link.Zi.Zl.length==y1.q0.Link.Zi.Zl.length) ( .chk (y1.q0.Link.Zi.Zy.length==y1.q0.Link.Zi.Zy.length) ( .chk (y1.q0.Link.Zx.length==y1.q0.Link.Zx.length) ( .chk (y1.q0.Link.Zf.length==y1.q0.Link.Zf.length) ( .bind 4 (Z7x y1.q0.Link) (fun(x3:Bool)=>.chk ((y1.q0.Link.Arq.ZP.length==y1.q0.Link.Arq.ZP.length)&&((y1.q0.Link.Zi.Zl.length==y1.q0.Link.Zi.Zl.length)&&((y1.q0.Link.Zi.Zy.length==y1.q0.Link.Zi.Zy.length)&&((y1.q0.Link.Zx.length==y1.q0.Link.Zx.length)&&((y1.q0.Link.Zf.length==y1.q0.Link.Zf.length)&&((y1.q0.Z0G.length==y1.q0.Z0G.length)&&((y1.q0.Link.Arq.ZP.length==y1.q0.Link.Arq.ZP.length)&&((y1.q0.Link.Zi.Zl.length==y1.q0.Link.Zi.Zl.length)&&((y1.q0.Link.Zi.Zy.length==y1.q0.Link.Zi.Zy.length)&&((y1.q0.Link.Zx.length==y1.q0.Link.Zx.length)&&(y1.q0.Link.Zf.length==y1.q0.Link.Zf.length))))))))))) ( .leaf (.inr (.b1 a1 x3 (⟨(0:Int),Zm,(0:Int),(0:Int),(0:Int),(0:Int),(0:Int),(0:Int),(0:Int),false,false,false,false,false,(⟨(0:Int),(0:Int),([]:List Zb),false,false,(0:Int),(0:Int)⟩:Zr),Zq,(⟨(0:Int),(0:Int),(0:Int),([]:List Z4),(0:Int),(0:Int),([]:List Z9),false,(0:Int),(0:Int),false,false,(0:Int),(0:Int),(0:Int),(0:Int),(0:Int),(0:Int),(0:Int),(0:Int)⟩:Z7),Zt,(0:Int),([]:List Zg),([]:List Z4),(0:Int),(0:Int)⟩:Z8) y1.q0)))))))))) ( .chk ((y1.q0.Link.Arq.ZP.length==y1.q0.Link.Arq.ZP.length)&&((y1.q0.Link.Zi.Zl.length==y1.q0.Link.Zi.Zl.length)&&((y1.q0.Link.Zi.Zy.length==y1.q0.Link.Zi.Zy.length)&&((y1.q0.Link.Zx.length==y1.q0.Link.Zx.length)&&((y1.q0.Link.Zf.length==y1.q0.Link.Zf.length)&&((y1.q0.Z0G.length==y1.q0.Z0G.length)&&((y1.q0.Link.Arq.ZP.length==y1.q0.Link.Arq.ZP.length)&&((y1.q0.Link.Zi.Zl.length==y1.q0.Link.Zi.Zl.length)&&((y1.q0.Link.Zi.Zy.length==y1.q0.Link.Zi.Zy.length)&&((y1.q0.Link.Zx.length==y1.q0.Link.Zx.length)&&(y1.q0.Link.Zf.length==y1.q0.Link.Zf.length))))))))))) ( .leaf (.inr (.b1 a1 false (⟨(0:Int),Zm,(0:Int),(0:Int),(0:Int),(0:Int),(0:Int),(0:Int),(0:Int),false,false,false,false,false,(⟨(0:Int),(0:Int),([]:List Zb),false,false,(0:Int),(0:Int)⟩:Zr),Zq,(⟨(0:Int),(0:Int),(0:Int),([]:List Z4),(0:Int),(0:Int),([]:List Z9),false,(0:Int),(0:Int),false,false,(0:Int),(0:Int),(0:Int),(0:Int),(0:Int),(0:Int),(0:Int),(0:Int)⟩:Z7),Zt,(0:Int),([]:List Zg),([]:List Z4),(0:Int),(0:Int)⟩:Z8) y1.q0)))))))
 | .b1 a0 a1 a2 a3=>.br a1 ( .bind 129 (ZcU a3.Link.Z0H) (fun(x1:Zo×Int)=>.chk ((a3.Link.Arq.ZP.length==a3.Link.Arq.ZP.length)&&((a3.Link.Zi.Zl.length==a3.Link.Zi.Zl.length)&&((a3.Link.Zi.Zy.length==a3.Link.Zi.Zy.length)&&((a3.Link.Zx.length==a3.Link.Zx.length)&&((a3.Link.Zf.length==a3.Link.Zf.length)&&((a3.Z0G.length==a3.Z0G.length)&&((a3.Link.Arq.ZP.length==a3.Link.Arq.ZP.length)&&((a3.Link.Zi.Zl.length==a3.Link.Zi.Zl.length)&&((a3.Link.Zi.Zy.length==a3.Link.Zi.Zy.length)&&((a3.Link.Zx.length==a3.Link.Zx.length)&&(a3.Link.Zf.length==a3.Link.Zf.length))))))))))) ( .leaf (.inr (.b2 a0 a1 a2 (⟨({ a3.Link with Z0H:=x1.1 }:Z8),a3.Z0G⟩:Z16)))))) ( .br (a3.Link.Z1G==(1:Int)) ( .bind 35 (Z9E a3.Link.Z0H a3.Link.Z0Z) (fun(x2:Zo)=>.chk ((a3.Link.Arq.ZP.length==a3.Link.Arq.ZP.length)&&((a3.Link.Zi.Zl.length==a3.Link.Zi.Zl.length)&&((a3.Link.Zi.Zy.length==a3.Link.Zi.Zy.length)&&((a3.Link.Zx.length==a3.Link.Zx.length)&&((a3.Link.Zf.length==a3.Link.Zf.length)&&((a3.Z0G.length==a3.Z0G.length)&&((a3.Link.Arq.ZP.length==a3.Link.Arq.ZP.length)&&((a3.Link.Zi.Zl.length==a3.Link.Zi.Zl.length)&&((a3.Link.Zi.Zy.length==a3.Link.Zi.Zy.length)&&((a3.Link.Zx.length==a3.Link.Zx.length)&&(a3.Link.Zf.length==a3.Link.Zf.length))))))))))) ( .leaf (.inr (.b2 a0 a1 a2 (⟨({ a3.Link with Z0H:=x2 }:Z8),a3.Z0G⟩:Z16)))))) ( .chk ((a3.Link.Arq.ZP.length==a3.Link.Arq.ZP.length)&&((a3.Link.Zi.Zl.length==a3.Link.Zi.Zl.length)&&((a3.Link.Zi.Zy.length==a3.Link.Zi.Zy.length)&&((a3.Link.Zx.length==a3.Link.Zx.length)&&((a3.Link.Zf.length==a3.Link.Zf.length)&&((a3.Z0G.length==a3.Z0G.length)&&((a3.Link.Arq.ZP.length==a3.Link.Arq.ZP.length)&&((a3.Link.Zi.Zl.length==a3.Link.Zi.Zl.length)&&((a3.Link.Zi.Zy.length==a3.Link.Zi.Zy.length)&&((a3.Link.Zx.length==a3.Link.Zx.length)&&(a3.Link.Zf.length==a3.Link.Zf.length))))))))))) ( .leaf (.inr (.b2 a0 a1 a2 a3)))))
 | .b2 a0 a1 a2 a3=>.br (!a3.Link.Good) ( .br (!a1) ( .chk ((a3.Link.Arq.ZP.length==a3.Link.Arq.ZP.length)&&((a3.Link.Zi.Zl.length==a3.Link.Zi.Zl.length)&&((a3.Link.Zi.Zy.length==a3.Link.Zi.Zy.length)&&((a3.Link.Zx.length==a3.Link.Zx.length)&&((a3.Link.Zf.length==a3.Link.Zf.length)&&((a3.Z0G.length==a3.Z0G.length)&&((a3.Link.Arq.ZP.length==a3.Link.Arq.ZP.length)&&((a3.Link.Zi.Zl.length==a3.Link.Zi.Zl.length)&&((a3.Link.Zi.Zy.length==a3.Link.Zi.Zy.length)&&((a3.Link.Zx.length==a3.Link.Zx.length)&&(a3.Link.Zf.length==a3.Link.Zf.length))))))))))) ( .leaf (.inr (.b3 a0 a2 a3)))) ( .chk ((a3.Link.Arq.ZP.length==a3.Link.Arq.ZP.length)&&((a3.Link.Zi.Zl.length==a3.Link.Zi.Zl.length)&&((a3.Link.Zi.Zy.length==a3.Link.Zi.Zy.length)&&((a3.Link.Zx.length==a3.Link.Zx.length)&&((a3.Link.Zf.length==a3.Link.Zf.length)&&((a3.Z0G.length==a3.Z0G.length)&&((a3.Link.Arq.ZP.length==a3.Link.Arq.ZP.length)&&((a3.Link.Zi.Zl.length==a3.Link.Zi.Zl.length)&&((a3.Link.Zi.Zy.length==a3.Link.Zi.Zy.length)&&((a3.Link.Zx.length==a3.Link.Zx.length)&&(a3.Link.Zf.length==a3.Link.Zf.length))))))))))) ( .leaf (.inr (.b4 a0 a2 a3))))) ( .chk ((a3.Link.Arq.ZP.length==a3.Link.Arq.ZP.length)&&((a3.Link.Zi.Zl.length==a3.Link.Zi.Zl.length)&&((a3.Link.Zi.Zy.length==a3.Link.Zi.Zy.length)&&((a3.Link.Zx.length==a3.Link.Zx.length)&&((a3.Link.Zf.length==a3.Link.Zf.length)&&((a3.Z0G.length==a3.Z0G.length)&&((a3.Link.Arq.ZP.length==a3.Link.Arq.ZP.length)&&((a3.Link.Zi.Zl.length==a3.Link.Zi.Zl.length)&&((a3.Link.Zi.Zy.length==a3.Link.Zi.Zy.length)&&((a3.Link.Zx.length==a3.Link.Zx.length)&&(a3.Link.Zf.length==a3.Link.Zf.length))))))))))) ( .leaf (.inr (.b4 a0 a2 a3))))
 | .b3 a0 a1 a2=>.fail
 | .b4 a0 a1 a2=>.bind 104 (ZpD a2.Link.ZX a2.Link.Event a2.Link.Last) (fun(x1:Int×Int)=>.bind 30 (ZbC a2.Link.Event (1:Int)) (fun(x2:Int)=>.bind 3 (Z5k (⟨(⟨a2.Link.Z1G,a2.Link.ZX,a2.Link.Clock,x2,x1.2,a2.Link.Z0P,a2.Link.Size,a2.Link.Sync,a2.Link.Z3c,a2.Link.Z2W,a2.Link.Got,a2.Link.Good,a2.Link.Z0Z,a2.Link.More,(⟨a2.Link.Arq.SN,a2.Link.Arq.Z8Y,a2.Link.Arq.Open,a2.Link.Arq.Empty,a2.Link.Arq.Z0Z,a2.Link.Arq.Taken⟩:Z4K),a2.Link.Z0H,(⟨a2.Link.Zi.Z1G,a2.Link.Zi.Own,a2.Link.Zi.Since,a2.Link.Zi.Other,a2.Link.Zi.Z0i,a2.Link.Zi.Told,a2.Link.Zi.ZQ,a2.Link.Zi.Z2Z,a2.Link.Zi.Z40,a2.Link.Zi.Z0q,a2.Link.Zi.Version,a2.Link.Zi.Length,a2.Link.Zi.Limit,a2.Link.Zi.Z4h,a2.Link.Zi.ZkQ,a2.Link.Zi.Mark,a2.Link.Zi.Z1W,a2.Link.Zi.Z2R⟩:Z2C),a2.Link.ZZ,a2.Link.Key,a2.Link.ZL,a2.Link.Zc9⟩:Z39)⟩:Z0v)) (fun(x3:Int)=>.chk (a2.Link.Zi.Zl.length==a2.Link.Zi.Zl.length) ( .chk (a2.Link.Zi.Zy.length==a2.Link.Zi.Zy.length) ( .bind 135 (Zbf a2.Link.Zi x2) (fun(x4:Z7×(List Z9))=>.chk ((a2.Link.Arq.ZP.length==a2.Link.Arq.ZP.length)&&((a2.Link.Zx.length==a2.Link.Zx.length)&&((a2.Link.Zf.length==a2.Link.Zf.length)&&((a2.Z0G.length==a2.Z0G.length)&&((a2.Link.Arq.ZP.length==a2.Link.Arq.ZP.length)&&((a2.Link.Zx.length==a2.Link.Zx.length)&&(a2.Link.Zf.length==a2.Link.Zf.length))))))) ( .leaf (.inr (.b5 a0 x4.2 (↑x4.2.length:Int) (0:Int) a1 (⟨({ a2.Link with Event:=x2,Last:=x1.2,Z0P:=(w64 (a2.Link.Z0P+x3)),Got:=false,Good:=false,Z0Z:=false,More:=false,Zi:=x4.1 }:Z8),a2.Z0G⟩:Z16) x4.1)))))))))
 | .b5 a0 a1 a2 a3 a4 a5 a6=>.br (decide (a3<a2)) ( .chk (decide (0<=a3/\a3<(↑a1.length:Int))) ( .bind 138 (a1[(Int.toNat a3)]?) (fun(x1:Z9)=>.fail))) ( .bind 30 (Z5n (⟨(⟨a5.Link.Z1G,a5.Link.ZX,a5.Link.Clock,a5.Link.Event,a5.Link.Last,a5.Link.Z0P,a5.Link.Size,a5.Link.Sync,a5.Link.Z3c,a5.Link.Z2W,a5.Link.Got,a5.Link.Good,a5.Link.Z0Z,a5.Link.More,(⟨a5.Link.Arq.SN,a5.Link.Arq.Z8Y,a5.Link.Arq.Open,a5.Link.Arq.Empty,a5.Link.Arq.Z0Z,a5.Link.Arq.Taken⟩:Z4K),a5.Link.Z0H,(⟨a5.Link.Zi.Z1G,a5.Link.Zi.Own,a5.Link.Zi.Since,a5.Link.Zi.Other,a5.Link.Zi.Z0i,a5.Link.Zi.Told,a5.Link.Zi.ZQ,a5.Link.Zi.Z2Z,a5.Link.Zi.Z40,a5.Link.Zi.Z0q,a5.Link.Zi.Version,a5.Link.Zi.Length,a5.Link.Zi.Limit,a5.Link.Zi.Z4h,a5.Link.Zi.ZkQ,a5.Link.Zi.Mark,a5.Link.Zi.Z1W,a5.Link.Zi.Z2R⟩:Z2C),a5.Link.ZZ,a5.Link.Key,a5.Link.ZL,a5.Link.Zc9⟩:Z39)⟩:Z0v)) (fun(x2:Int)=>.bind 140 (Z8f a5.Link.Zi x2 a0) (fun(x3:Z7×(List Z4))=>.chk (a5.Link.Zf.length==a5.Link.Zf.length) ( .chk (decide ((a5.Link.Zf.length+x3.2.length)*120<=lim)&&decide (a5.Link.Zf.length+x3.2.length<=maxLen)) ( .fail)))))
noncomputable def Zau (a0:Z8) (a1:Int):Option (Z8×(List Z5)):=Z05 Zb6 (.b0 a0 a1)
noncomputable def ZtF:Mod U:=⟨[44,3],78,fun x=>Zau x.1 x.2.1,by decide⟩
def Zcs:Lay:=⟨[1,4,6,7],[[.keep],[.keep],[.keep],[.keep]],[.var k1,.var k8,.row false,.row false,.row false,.row false,.row false,.row true],⟨[.one (.v 3 1 false),.one (.ptr 0),.one (.ptr 1),.one (.v 4 1 false)],[.var 44 66 (.agg [.v 44 66 true]),.var 118 67 (.agg [.v 3 1 false,.v 28 11 true,.v 3 1 false,.v 30 1 false,.v 3 1 false,.v 3 1 false,.v 3 1 false,.v 3 1 false,.v 3 1 false,.v 4 1 false,.v 4 1 false,.v 4 1 false,.v 4 1 false,.v 4 1 false,.v 3 1 false,.v 3 1 false,.own 68 2,.v 4 1 false,.v 4 1 false,.v 3 1 false,.v 3 1 false,.v 35 3 true,.v 3 1 false,.v 3 1 false,.v 3 1 false,.own 156 3,.v 3 1 false,.v 3 1 false,.own 138 4,.v 4 1 false,.v 25 1 false,.v 25 1 false,.v 4 1 false,.v 4 1 false,.v 3 1 false,.v 3 1 false,.v 3 1 false,.v 25 1 false,.v 25 1 false,.v 25 1 false,.v 3 1 false,.v 3 1 false,.v 41 7 true,.v 29 1 false,.own 99 5,.own 156 6,.v 3 1 false,.v 25 1 false,.own 148 7]),.row 68 false,.row 156 false,.row 138 false,.row 99 false,.row 156 false,.row 148 true]⟩⟩
def Zcz:Lay:=⟨[1,4,6,7],[[.keep],[.keep],[.keep],[.keep]],[.var k1,.var k8,.row false,.row false,.row false,.row false,.row false,.row true],⟨[.one (.v 3 1 false),.one (.ptr 0),.one (.ptr 1),.one (.v 4 1 false)],[.var 44 66 (.agg [.v 44 66 true]),.var 118 67 (.agg [.v 3 1 false,.v 28 11 true,.v 3 1 false,.v 30 1 false,.v 3 1 false,.v 3 1 false,.v 3 1 false,.v 3 1 false,.v 3 1 false,.v 4 1 false,.v 4 1 false,.v 4 1 false,.v 4 1 false,.v 4 1 false,.v 3 1 false,.v 3 1 false,.own 68 2,.v 4 1 false,.v 4 1 false,.v 3 1 false,.v 3 1 false,.v 35 3 true,.v 3 1 false,.v 3 1 false,.v 3 1 false,.own 156 3,.v 3 1 false,.v 3 1 false,.own 138 4,.v 4 1 false,.v 25 1 false,.v 25 1 false,.v 4 1 false,.v 4 1 false,.v 3 1 false,.v 3 1 false,.v 3 1 false,.v 25 1 false,.v 25 1 false,.v 25 1 false,.v 3 1 false,.v 3 1 false,.v 41 7 true,.v 29 1 false,.own 99 5,.own 156 6,.v 3 1 false,.v 25 1 false,.own 148 7]),.row 68 false,.row 156 false,.row 138 false,.row 99 false,.row 156 false,.row 148 true]⟩⟩
def ZcS:Lay:=⟨[1,4,6],[[.keep],[.keep],[.keep]],[.var k1,.var k8,.row false,.row false,.row false,.row false,.row false,.row true],⟨[.one (.v 3 1 false),.one (.ptr 0),.one (.ptr 1)],[.var 44 66 (.agg [.v 44 66 true]),.var 118 67 (.agg [.v 3 1 false,.v 28 11 true,.v 3 1 false,.v 30 1 false,.v 3 1 false,.v 3 1 false,.v 3 1 false,.v 3 1 false,.v 3 1 false,.v 4 1 false,.v 4 1 false,.v 4 1 false,.v 4 1 false,.v 4 1 false,.v 3 1 false,.v 3 1 false,.own 68 2,.v 4 1 false,.v 4 1 false,.v 3 1 false,.v 3 1 false,.v 35 3 true,.v 3 1 false,.v 3 1 false,.v 3 1 false,.own 156 3,.v 3 1 false,.v 3 1 false,.own 138 4,.v 4 1 false,.v 25 1 false,.v 25 1 false,.v 4 1 false,.v 4 1 false,.v 3 1 false,.v 3 1 false,.v 3 1 false,.v 25 1 false,.v 25 1 false,.v 25 1 false,.v 3 1 false,.v 3 1 false,.v 41 7 true,.v 29 1 false,.own 99 5,.own 156 6,.v 3 1 false,.v 25 1 false,.own 148 7]),.row 68 false,.row 156 false,.row 138 false,.row 99 false,.row 156 false,.row 148 true]⟩⟩
def Zdf:Lay:=⟨[1,4,6],[[.keep],[.keep],[.keep]],[.var k1,.var k8,.row false,.row false,.row false,.row false,.row false,.row true],⟨[.one (.v 3 1 false),.one (.ptr 0),.one (.ptr 1)],[.var 44 66 (.agg [.v 44 66 true]),.var 118 67 (.agg [.v 3 1 false,.v 28 11 true,.v 3 1 false,.v 30 1 false,.v 3 1 false,.v 3 1 false,.v 3 1 false,.v 3 1 false,.v 3 1 false,.v 4 1 false,.v 4 1 false,.v 4 1 false,.v 4 1 false,.v 4 1 false,.v 3 1 false,.v 3 1 false,.own 68 2,.v 4 1 false,.v 4 1 false,.v 3 1 false,.v 3 1 false,.v 35 3 true,.v 3 1 false,.v 3 1 false,.v 3 1 false,.own 156 3,.v 3 1 false,.v 3 1 false,.own 138 4,.v 4 1 false,.v 25 1 false,.v 25 1 false,.v 4 1 false,.v 4 1 false,.v 3 1 false,.v 3 1 false,.v 3 1 false,.v 25 1 false,.v 25 1 false,.v 25 1 false,.v 3 1 false,.v 3 1 false,.v 41 7 true,.v 29 1 false,.own 99 5,.own 156 6,.v 3 1 false,.v 25 1 false,.own 148 7]),.row 68 false,.row 156 false,.row 138 false,.row 99 false,.row 156 false,.row 148 true]⟩⟩
def Zde:Lay:=⟨[1,4,6,8,162,163,164],[[.keep],[.keep],[.keep],[.keep],[.s 138 8],[.keep],[.keep]],[.var k1,.var [.keep,.keep,.keep,.keep,.keep,.keep,.keep,.keep,.keep,.keep,.keep,.keep,.keep,.keep,.keep,.keep,.keep,.keep,.keep,.keep,.keep,.keep,.keep,.keep,.keep,.keep,.own 68 2,.keep,.keep,.keep,.keep,.keep,.keep,.keep,.keep,.keep,.keep,.s 156 15,.keep,.keep,.s 138 8,.keep,.keep,.keep,.keep,.keep,.keep,.keep,.keep,.keep,.keep,.keep,.keep,.keep,.keep,.keep,.keep,.keep,.keep,.keep,.keep,.keep,.own 99 2,.own 156 15,.keep,.keep,.own 148 18],.var k0,.row false,.row false,.row false,.row true],⟨[.one (.v 3 1 false),.one (.ptr 0),.one (.ptr 1),.one (.ptr 2),.one (.v 37 1 false),.one (.v 3 1 false),.one (.v 3 1 false)],[.var 44 66 (.agg [.v 44 66 true]),.var 118 67 (.agg [.v 3 1 false,.v 28 11 true,.v 3 1 false,.v 30 1 false,.v 3 1 false,.v 3 1 false,.v 3 1 false,.v 3 1 false,.v 3 1 false,.v 4 1 false,.v 4 1 false,.v 4 1 false,.v 4 1 false,.v 4 1 false,.v 3 1 false,.v 3 1 false,.own 68 3,.v 4 1 false,.v 4 1 false,.v 3 1 false,.v 3 1 false,.v 35 3 true,.v 39 20 true,.v 41 7 true,.v 29 1 false,.own 99 4,.own 156 5,.v 3 1 false,.v 25 1 false,.own 148 6]),.var 39 20 (.agg [.v 39 20 true]),.row 68 false,.row 99 false,.row 156 false,.row 148 true]⟩⟩
def ZtI:Nat->Option Lay
 | 5=>some Zcs
 | 9=>some Zcz
 | 10=>some ZcS
 | 11=>some Zdf
 | 18=>some Zde
 | _=>none
noncomputable def Zqk:Z52->Z08 U
 | .b0 a0 a1=>Z0f Tryz.f29 [44,3] (a0,a1,())
 | .b1 a0 a1 a2 a3=>spL Tryz.f29 [1,1,1,1,0,0] Zcs (((a0,()),((),((),((a1,()),())))),((a2,()),((a3.Link.Z1G,(a3.Link.ZX,(a3.Link.Clock,(a3.Link.Event,(a3.Link.Last,(a3.Link.Z0P,(a3.Link.Size,(a3.Link.Sync,(a3.Link.Z3c,(a3.Link.Z2W,(a3.Link.Got,(a3.Link.Good,(a3.Link.Z0Z,(a3.Link.More,(a3.Link.Arq.SN,(a3.Link.Arq.Z8Y,(a3.Link.Arq.Open,(a3.Link.Arq.Empty,(a3.Link.Arq.Z0Z,(a3.Link.Arq.Taken,(a3.Link.Z0H,(a3.Link.Zi.Z1G,(a3.Link.Zi.Own,(a3.Link.Zi.Since,(a3.Link.Zi.Other,(a3.Link.Zi.Z0i,(a3.Link.Zi.Told,(a3.Link.Zi.ZQ,(a3.Link.Zi.Z2Z,(a3.Link.Zi.Z40,(a3.Link.Zi.Z0q,(a3.Link.Zi.Version,(a3.Link.Zi.Length,(a3.Link.Zi.Limit,(a3.Link.Zi.Z4h,(a3.Link.Zi.ZkQ,(a3.Link.Zi.Mark,(a3.Link.Zi.Z1W,(a3.Link.Zi.Z2R,(a3.Link.ZZ,(a3.Link.Key,(a3.Link.ZL,(a3.Link.Zc9,()))))))))))))))))))))))))))))))))))))))))))),(a3.Link.Arq.ZP,(a3.Link.Zi.Zl,(a3.Link.Zi.Zy,(a3.Link.Zx,(a3.Link.Zf,(a3.Z0G,())))))))))
 | .b2 a0 a1 a2 a3=>spL Tryz.f29 [1,1,1,1,1,0,0] Zcz (((a0,()),((),((),((a1,()),())))),((a2,()),((a3.Link.Z1G,(a3.Link.ZX,(a3.Link.Clock,(a3.Link.Event,(a3.Link.Last,(a3.Link.Z0P,(a3.Link.Size,(a3.Link.Sync,(a3.Link.Z3c,(a3.Link.Z2W,(a3.Link.Got,(a3.Link.Good,(a3.Link.Z0Z,(a3.Link.More,(a3.Link.Arq.SN,(a3.Link.Arq.Z8Y,(a3.Link.Arq.Open,(a3.Link.Arq.Empty,(a3.Link.Arq.Z0Z,(a3.Link.Arq.Taken,(a3.Link.Z0H,(a3.Link.Zi.Z1G,(a3.Link.Zi.Own,(a3.Link.Zi.Since,(a3.Link.Zi.Other,(a3.Link.Zi.Z0i,(a3.Link.Zi.Told,(a3.Link.Zi.ZQ,(a3.Link.Zi.Z2Z,(a3.Link.Zi.Z40,(a3.Link.Zi.Z0q,(a3.Link.Zi.Version,(a3.Link.Zi.Length,(a3.Link.Zi.Limit,(a3.Link.Zi.Z4h,(a3.Link.Zi.ZkQ,(a3.Link.Zi.Mark,(a3.Link.Zi.Z1W,(a3.Link.Zi.Z2R,(a3.Link.ZZ,(a3.Link.Key,(a3.Link.ZL,(a3.Link.Zc9,()))))))))))))))))))))))))))))))))))))))))))),(a3.Link.Arq.ZP,(a3.Link.Zi.Zl,(a3.Link.Zi.Zy,(a3.Link.Zx,(a3.Link.Zf,(a3.Z0G,())))))))))
 | .b3 a0 a1 a2=>spL Tryz.f29 [1,1,1,1,1,0,1,0] ZcS (((a0,()),((),((),()))),((a1,()),((a2.Link.Z1G,(a2.Link.ZX,(a2.Link.Clock,(a2.Link.Event,(a2.Link.Last,(a2.Link.Z0P,(a2.Link.Size,(a2.Link.Sync,(a2.Link.Z3c,(a2.Link.Z2W,(a2.Link.Got,(a2.Link.Good,(a2.Link.Z0Z,(a2.Link.More,(a2.Link.Arq.SN,(a2.Link.Arq.Z8Y,(a2.Link.Arq.Open,(a2.Link.Arq.Empty,(a2.Link.Arq.Z0Z,(a2.Link.Arq.Taken,(a2.Link.Z0H,(a2.Link.Zi.Z1G,(a2.Link.Zi.Own,(a2.Link.Zi.Since,(a2.Link.Zi.Other,(a2.Link.Zi.Z0i,(a2.Link.Zi.Told,(a2.Link.Zi.ZQ,(a2.Link.Zi.Z2Z,(a2.Link.Zi.Z40,(a2.Link.Zi.Z0q,(a2.Link.Zi.Version,(a2.Link.Zi.Length,(a2.Link.Zi.Limit,(a2.Link.Zi.Z4h,(a2.Link.Zi.ZkQ,(a2.Link.Zi.Mark,(a2.Link.Zi.Z1W,(a2.Link.Zi.Z2R,(a2.Link.ZZ,(a2.Link.Key,(a2.Link.ZL,(a2.Link.Zc9,()))))))))))))))))))))))))))))))))))))))))))),(a2.Link.Arq.ZP,(a2.Link.Zi.Zl,(a2.Link.Zi.Zy,(a2.Link.Zx,(a2.Link.Zf,(a2.Z0G,())))))))))
 | .b4 a0 a1 a2=>spL Tryz.f29 [1,1,1,1,1,1,0] Zdf (((a0,()),((),((),()))),((a1,()),((a2.Link.Z1G,(a2.Link.ZX,(a2.Link.Clock,(a2.Link.Event,(a2.Link.Last,(a2.Link.Z0P,(a2.Link.Size,(a2.Link.Sync,(a2.Link.Z3c,(a2.Link.Z2W,(a2.Link.Got,(a2.Link.Good,(a2.Link.Z0Z,(a2.Link.More,(a2.Link.Arq.SN,(a2.Link.Arq.Z8Y,(a2.Link.Arq.Open,(a2.Link.Arq.Empty,(a2.Link.Arq.Z0Z,(a2.Link.Arq.Taken,(a2.Link.Z0H,(a2.Link.Zi.Z1G,(a2.Link.Zi.Own,(a2.Link.Zi.Since,(a2.Link.Zi.Other,(a2.Link.Zi.Z0i,(a2.Link.Zi.Told,(a2.Link.Zi.ZQ,(a2.Link.Zi.Z2Z,(a2.Link.Zi.Z40,(a2.Link.Zi.Z0q,(a2.Link.Zi.Version,(a2.Link.Zi.Length,(a2.Link.Zi.Limit,(a2.Link.Zi.Z4h,(a2.Link.Zi.ZkQ,(a2.Link.Zi.Mark,(a2.Link.Zi.Z1W,(a2.Link.Zi.Z2R,(a2.Link.ZZ,(a2.Link.Key,(a2.Link.ZL,(a2.Link.Zc9,()))))))))))))))))))))))))))))))))))))))))))),(a2.Link.Arq.ZP,(a2.Link.Zi.Zl,(a2.Link.Zi.Zy,(a2.Link.Zx,(a2.Link.Zf,(a2.Z0G,())))))))))
 | .b5 a0 a1 a2 a3 a4 a5 a6=>spL Tryz.f29 [1,1,1,1,1,1,1,1,1,1,1,1,0,1,0,0,0] Zde (((a0,()),((),((),((),((a1,()),((a2,()),((a3,()),()))))))),((a4,()),((a5.Link.Z1G,(a5.Link.ZX,(a5.Link.Clock,(a5.Link.Event,(a5.Link.Last,(a5.Link.Z0P,(a5.Link.Size,(a5.Link.Sync,(a5.Link.Z3c,(a5.Link.Z2W,(a5.Link.Got,(a5.Link.Good,(a5.Link.Z0Z,(a5.Link.More,(a5.Link.Arq.SN,(a5.Link.Arq.Z8Y,(a5.Link.Arq.Open,(a5.Link.Arq.Empty,(a5.Link.Arq.Z0Z,(a5.Link.Arq.Taken,(a5.Link.Z0H,(a5.Link.Zi,(a5.Link.ZZ,(a5.Link.Key,(a5.Link.ZL,(a5.Link.Zc9,())))))))))))))))))))))))))),((a6,()),(a5.Link.Arq.ZP,(a5.Link.Zx,(a5.Link.Zf,(a5.Z0G,()))))))))
theorem ZoG:Z0e 29 Tryz.f29 (mc Zf4 (mc ZyH (mc Z23 (mc ZmE (mc ZhO (mc Zhr (mc Zaj (mc Zki (mc Zhh (mc ZbD msN)))))))))) (hc [] Z7m hsN) ZtI 78 Zb6 Zqk
 | .b0 _ _=>by kernel_rfl
 | .b1 _ _ _ _=>by kernel_rfl
 | .b2 _ _ _ _=>by kernel_rfl
 | .b3 _ _ _=>by kernel_rfl
 | .b4 _ _ _=>by kernel_rfl
 | .b5 _ _ _ _ _ _ _=>by kernel_rfl
theorem ZqH:Z04 Tryz.prog B0 29 ZtF:=okP ZoG (fun x=>.b0 x.1 x.2.1) (by kernel_rfl) Tryz.func29 (by kernel_rfl) (by kernel_rfl) (fun _=>rfl) (fun _=>rfl)
inductive Zaw where
 | b0 (a0:Z8) (a1:Z0K) (a2:Int)
noncomputable def Zn2:Zaw->Tr U ((Z8×Int)⊕Zaw)
 | .b0 a0 a1 a2=>.bind 1353 (Z43 a0) (fun(y1:Z1J)=>.bind 4 (Z14 (⟨(⟨y1.q0.Link.Z1G,y1.q0.Link.ZX,y1.q0.Link.Clock,y1.q0.Link.Event,y1.q0.Link.Last,y1.q0.Link.Z0P,y1.q0.Link.Size,y1.q0.Link.Sync,y1.q0.Link.Z3c,y1.q0.Link.Z2W,y1.q0.Link.Got,y1.q0.Link.Good,y1.q0.Link.Z0Z,y1.q0.Link.More,(⟨y1.q0.Link.Arq.SN,y1.q0.Link.Arq.Z8Y,y1.q0.Link.Arq.Open,y1.q0.Link.Arq.Empty,y1.q0.Link.Arq.Z0Z,y1.q0.Link.Arq.Taken⟩:Z4K),y1.q0.Link.Z0H,(⟨y1.q0.Link.Zi.Z1G,y1.q0.Link.Zi.Own,y1.q0.Link.Zi.Since,y1.q0.Link.Zi.Other,y1.q0.Link.Zi.Z0i,y1.q0.Link.Zi.Told,y1.q0.Link.Zi.ZQ,y1.q0.Link.Zi.Z2Z,y1.q0.Link.Zi.Z40,y1.q0.Link.Zi.Z0q,y1.q0.Link.Zi.Version,y1.q0.Link.Zi.Length,y1.q0.Link.Zi.Limit,y1.q0.Link.Zi.Z4h,y1.q0.Link.Zi.ZkQ,y1.q0.Link.Zi.Mark,y1.q0.Link.Zi.Z1W,y1.q0.Link.Zi.Z2R⟩:Z2C),y1.q0.Link.ZZ,y1.q0.Link.Key,y1.q0.Link.ZL,y1.q0.Link.Zc9⟩:Z39)⟩:Z0v)) (fun(x2:Bool)=>.br (!x2) ( .chk (y1.q0.Link.Arq.ZP.length==y1.q0.Link.Arq.ZP.length) ( .chk (y1.q0.Link.Zi.Zl.length==y1.q0.Link.Zi.Zl.length) ( .chk (y1.q0.Link.Zi.Zy.length==y1.q0.Link.Zi.Zy.length) ( .chk (y1.q0.Link.Zx.length==y1.q0.Link.Zx.length) ( .chk (y1.q0.Link.Zf.length==y1.q0.Link.Zf.length) ( .leaf (.inl (y1.q0.Link,(9:Int))))))))) ( .fail)))
noncomputable def ZmZ (a0:Z8) (a1:Z0K) (a2:Int):Option (Z8×Int):=Z05 Zn2 (.b0 a0 a1 a2)
noncomputable def ZEl:Mod U:=⟨[44,83,3],46,fun x=>ZmZ x.1 x.2.1 x.2.2.1,by decide⟩
noncomputable def ZC1:Zaw->Z08 U
 | .b0 a0 a1 a2=>Z0f Tryz.f32 [44,83,3] (a0,a1,a2,())
theorem Zyi:Z0e 32 Tryz.f32 (mc Z23 msN) (hc [] Z7m hsN) AN 46 Zn2 ZC1
 | .b0 _ _ _=>by kernel_rfl
theorem ZAX:Z04 Tryz.prog B0 32 ZEl:=okP Zyi (fun x=>.b0 x.1 x.2.1 x.2.2.1) (by kernel_rfl) Tryz.func32 (by kernel_rfl) (by kernel_rfl) (fun _=>rfl) (fun _=>rfl)
end Go.Proofs.YtjodhcdmhobmoaaGreatDoor
namespace Go.Proofs.YtjodhcdmhobmoaaGreatDoor
open Go Go.Proofs.YtjodhcdmhobmoaaGreatDoor.Le
set_option maxRecDepth 100000
noncomputable def ZoH (_:Zv) (_:Zk):Option (Zk×Int):=none
noncomputable def ZoB:Mod U:=⟨[41,70],71,fun x=>ZoH x.1 x.2.1,by decide⟩
theorem Znr:Z04 Tryz.prog B0 109 ZoB:=⟨⟨_,Tryz.func109,rfl,by kernel_rfl⟩,fun _ _ h=>nomatch h⟩
noncomputable def ZCL (_:Zr) (_:Zk):Option (Zr×Zb×Bool×Bool):=none
noncomputable def ZDM:Mod U:=⟨[33,70],163,fun x=>ZCL x.1 x.2.1,by decide⟩
theorem ZyD:Z04 Tryz.prog B0 110 ZDM:=⟨⟨_,Tryz.func110,rfl,by kernel_rfl⟩,fun _ _ h=>nomatch h⟩
inductive Z31 where
 | b0 (a0:Z8) (a1:List Int) (a2:Bool) (a3:Int)
 | b1 (a0:List Int) (a1:Int) (a2:Z8) (a3:Z16)
 | b2 (a0:List Int) (a1:Int) (a2:Z8) (a3:Z16)
noncomputable def Z7I:Z31->Tr U ((Z8×(List Z5)×Bool)⊕Z31)
 | .b0 a0 a1 a2 a3=>.bind 1353 (Z43 a0) (fun(y1:Z1J)=>.bind 4 (Z14 (⟨(⟨y1.q0.Link.Z1G,y1.q0.Link.ZX,y1.q0.Link.Clock,y1.q0.Link.Event,y1.q0.Link.Last,y1.q0.Link.Z0P,y1.q0.Link.Size,y1.q0.Link.Sync,y1.q0.Link.Z3c,y1.q0.Link.Z2W,y1.q0.Link.Got,y1.q0.Link.Good,y1.q0.Link.Z0Z,y1.q0.Link.More,(⟨y1.q0.Link.Arq.SN,y1.q0.Link.Arq.Z8Y,y1.q0.Link.Arq.Open,y1.q0.Link.Arq.Empty,y1.q0.Link.Arq.Z0Z,y1.q0.Link.Arq.Taken⟩:Z4K),y1.q0.Link.Z0H,(⟨y1.q0.Link.Zi.Z1G,y1.q0.Link.Zi.Own,y1.q0.Link.Zi.Since,y1.q0.Link.Zi.Other,y1.q0.Link.Zi.Z0i,y1.q0.Link.Zi.Told,y1.q0.Link.Zi.ZQ,y1.q0.Link.Zi.Z2Z,y1.q0.Link.Zi.Z40,y1.q0.Link.Zi.Z0q,y1.q0.Link.Zi.Version,y1.q0.Link.Zi.Length,y1.q0.Link.Zi.Limit,y1.q0.Link.Zi.Z4h,y1.q0.Link.Zi.ZkQ,y1.q0.Link.Zi.Mark,y1.q0.Link.Zi.Z1W,y1.q0.Link.Zi.Z2R⟩:Z2C),y1.q0.Link.ZZ,y1.q0.Link.Key,y1.q0.Link.ZL,y1.q0.Link.Zc9⟩:Z39)⟩:Z0v)) (fun(x2:Bool)=>.br (!x2) ( .chk (y1.q0.Link.Arq.ZP.length==y1.q0.Link.Arq.ZP.length) ( .chk (y1.q0.Link.Zi.Zl.length==y1.q0.Link.Zi.Zl.length) ( .chk (y1.q0.Link.Zi.Zy.length==y1.q0.Link.Zi.Zy.length) ( .chk (y1.q0.Link.Zx.length==y1.q0.Link.Zx.length) ( .chk (y1.q0.Link.Zf.length==y1.q0.Link.Zf.length) ( .chk (([]:List Z5).length==0) ( .leaf (.inl (y1.q0.Link,([]:List Z5),false))))))))) ( .br a2 ( .br (y1.q0.Link.Z1G==(1:Int)) ( .chk ((y1.q0.Link.Arq.ZP.length==y1.q0.Link.Arq.ZP.length)&&((y1.q0.Link.Zi.Zl.length==y1.q0.Link.Zi.Zl.length)&&((y1.q0.Link.Zi.Zy.length==y1.q0.Link.Zi.Zy.length)&&((y1.q0.Link.Zx.length==y1.q0.Link.Zx.length)&&((y1.q0.Link.Zf.length==y1.q0.Link.Zf.length)&&(y1.q0.Z0G.length==y1.q0.Z0G.length)))))) ( .leaf (.inr (.b1 a1 a3 (⟨(0:Int),Zm,(0:Int),(0:Int),(0:Int),(0:Int),(0:Int),(0:Int),(0:Int),false,false,false,false,false,(⟨(0:Int),(0:Int),([]:List Zb),false,false,(0:Int),(0:Int)⟩:Zr),Zq,(⟨(0:Int),(0:Int),(0:Int),([]:List Z4),(0:Int),(0:Int),([]:List Z9),false,(0:Int),(0:Int),false,false,(0:Int),(0:Int),(0:Int),(0:Int),(0:Int),(0:Int),(0:Int),(0:Int)⟩:Z7),Zt,(0:Int),([]:List Zg),([]:List Z4),(0:Int),(0:Int)⟩:Z8) (⟨({ y1.q0.Link with Got:=true }:Z8),y1.q0.Z0G⟩:Z16))))) ( .chk ((y1.q0.Link.Arq.ZP.length==y1.q0.Link.Arq.ZP.length)&&((y1.q0.Link.Zi.Zl.length==y1.q0.Link.Zi.Zl.length)&&((y1.q0.Link.Zi.Zy.length==y1.q0.Link.Zi.Zy.length)&&((y1.q0.Link.Zx.length==y1.q0.Link.Zx.length)&&((y1.q0.Link.Zf.length==y1.q0.Link.Zf.length)&&(y1.q0.Z0G.length==y1.q0.Z0G.length)))))) ( .leaf (.inr (.b2 a1 a3 (⟨(0:Int),Zm,(0:Int),(0:Int),(0:Int),(0:Int),(0:Int),(0:Int),(0:Int),false,false,false,false,false,(⟨(0:Int),(0:Int),([]:List Zb),false,false,(0:Int),(0:Int)⟩:Zr),Zq,(⟨(0:Int),(0:Int),(0:Int),([]:List Z4),(0:Int),(0:Int),([]:List Z9),false,(0:Int),(0:Int),false,false,(0:Int),(0:Int),(0:Int),(0:Int),(0:Int),(0:Int),(0:Int),(0:Int)⟩:Z7),Zt,(0:Int),([]:List Zg),([]:List Z4),(0:Int),(0:Int)⟩:Z8) (⟨({ y1.q0.Link with Got:=true }:Z8),y1.q0.Z0G⟩:Z16)))))) ( .chk ((y1.q0.Link.Arq.ZP.length==y1.q0.Link.Arq.ZP.length)&&((y1.q0.Link.Zi.Zl.length==y1.q0.Link.Zi.Zl.length)&&((y1.q0.Link.Zi.Zy.length==y1.q0.Link.Zi.Zy.length)&&((y1.q0.Link.Zx.length==y1.q0.Link.Zx.length)&&((y1.q0.Link.Zf.length==y1.q0.Link.Zf.length)&&(y1.q0.Z0G.length==y1.q0.Z0G.length)))))) ( .leaf (.inr (.b2 a1 a3 (⟨(0:Int),Zm,(0:Int),(0:Int),(0:Int),(0:Int),(0:Int),(0:Int),(0:Int),false,false,false,false,false,(⟨(0:Int),(0:Int),([]:List Zb),false,false,(0:Int),(0:Int)⟩:Zr),Zq,(⟨(0:Int),(0:Int),(0:Int),([]:List Z4),(0:Int),(0:Int),([]:List Z9),false,(0:Int),(0:Int),false,false,(0:Int),(0:Int),(0:Int),(0:Int),(0:Int),(0:Int),(0:Int),(0:Int)⟩:Z7),Zt,(0:Int),([]:List Zg),([]:List Z4),(0:Int),(0:Int)⟩:Z8) (⟨({ y1.q0.Link with Got:=true }:Z8),y1.q0.Z0G⟩:Z16))))))))
 | .b1 a0 a1 a2 a3=>.chk ((a3.Link.Arq.ZP.length==a3.Link.Arq.ZP.length)&&((a3.Link.Zi.Zl.length==a3.Link.Zi.Zl.length)&&((a3.Link.Zi.Zy.length==a3.Link.Zi.Zy.length)&&((a3.Link.Zx.length==a3.Link.Zx.length)&&((a3.Link.Zf.length==a3.Link.Zf.length)&&(a3.Z0G.length==a3.Z0G.length)))))) ( .leaf (.inr (.b2 a0 a1 a2 (⟨({ a3.Link with Z0P:=a1,Size:=(0:Int),Sync:=a1 }:Z8),a3.Z0G⟩:Z16))))
 | .b2 a0 a1 a2 a3=>.fail
noncomputable def Z7T (a0:Z8) (a1:List Int) (a2:Bool) (a3:Int):Option (Z8×(List Z5)×Bool):=Z05 Z7I (.b0 a0 a1 a2 a3)
noncomputable def ZoP:Mod U:=⟨[44,62,4,3],86,fun x=>Z7T x.1 x.2.1 x.2.2.1 x.2.2.2.1,by decide⟩
def Z9J:Lay:=⟨[1,3,8,11],[[.s 5 1],[.keep],[.keep],[.keep]],[.var k1,.var k8,.row true,.row true,.row true,.row true,.row true,.row true],⟨[.one (.v 62 1 false),.one (.v 3 1 false),.one (.ptr 0),.one (.ptr 1)],[.var 44 66 (.agg [.v 44 66 true]),.var 118 67 (.agg [.v 3 1 false,.v 28 11 true,.v 3 1 false,.v 30 1 false,.v 3 1 false,.v 3 1 false,.v 3 1 false,.v 3 1 false,.v 3 1 false,.v 4 1 false,.v 4 1 false,.v 4 1 false,.v 4 1 false,.v 4 1 false,.v 3 1 false,.v 3 1 false,.own 68 2,.v 4 1 false,.v 4 1 false,.v 3 1 false,.v 3 1 false,.v 35 3 true,.v 3 1 false,.v 3 1 false,.v 3 1 false,.own 156 3,.v 3 1 false,.v 3 1 false,.own 138 4,.v 4 1 false,.v 25 1 false,.v 25 1 false,.v 4 1 false,.v 4 1 false,.v 3 1 false,.v 3 1 false,.v 3 1 false,.v 25 1 false,.v 25 1 false,.v 25 1 false,.v 3 1 false,.v 3 1 false,.v 41 7 true,.v 29 1 false,.own 99 5,.own 156 6,.v 3 1 false,.v 25 1 false,.own 148 7]),.row 68 true,.row 156 true,.row 138 true,.row 99 true,.row 156 true,.row 148 true]⟩⟩
def Z9L:Lay:=⟨[1,3,8,11],[[.s 5 1],[.keep],[.keep],[.keep]],[.var k1,.var k8,.row true,.row true,.row true,.row true,.row true,.row true],⟨[.one (.v 62 1 false),.one (.v 3 1 false),.one (.ptr 0),.one (.ptr 1)],[.var 44 66 (.agg [.v 44 66 true]),.var 118 67 (.agg [.v 3 1 false,.v 28 11 true,.v 3 1 false,.v 30 1 false,.v 3 1 false,.v 3 1 false,.v 3 1 false,.v 3 1 false,.v 3 1 false,.v 4 1 false,.v 4 1 false,.v 4 1 false,.v 4 1 false,.v 4 1 false,.v 3 1 false,.v 3 1 false,.own 68 2,.v 4 1 false,.v 4 1 false,.v 3 1 false,.v 3 1 false,.v 35 3 true,.v 3 1 false,.v 3 1 false,.v 3 1 false,.own 156 3,.v 3 1 false,.v 3 1 false,.own 138 4,.v 4 1 false,.v 25 1 false,.v 25 1 false,.v 4 1 false,.v 4 1 false,.v 3 1 false,.v 3 1 false,.v 3 1 false,.v 25 1 false,.v 25 1 false,.v 25 1 false,.v 3 1 false,.v 3 1 false,.v 41 7 true,.v 29 1 false,.own 99 5,.own 156 6,.v 3 1 false,.v 25 1 false,.own 148 7]),.row 68 true,.row 156 true,.row 138 true,.row 99 true,.row 156 true,.row 148 true]⟩⟩
def Zo3:Nat->Option Lay
 | 6=>some Z9J
 | 7=>some Z9L
 | _=>none
noncomputable def ZlG:Z31->Z08 U
 | .b0 a0 a1 a2 a3=>Z0f Tryz.f34 [44,62,4,3] (a0,a1,a2,a3,())
 | .b1 a0 a1 a2 a3=>spL Tryz.f34 [1,1,1,1,0,1,0] Z9J (((a0,()),((a1,()),((),((),())))),((a2,()),((a3.Link.Z1G,(a3.Link.ZX,(a3.Link.Clock,(a3.Link.Event,(a3.Link.Last,(a3.Link.Z0P,(a3.Link.Size,(a3.Link.Sync,(a3.Link.Z3c,(a3.Link.Z2W,(a3.Link.Got,(a3.Link.Good,(a3.Link.Z0Z,(a3.Link.More,(a3.Link.Arq.SN,(a3.Link.Arq.Z8Y,(a3.Link.Arq.Open,(a3.Link.Arq.Empty,(a3.Link.Arq.Z0Z,(a3.Link.Arq.Taken,(a3.Link.Z0H,(a3.Link.Zi.Z1G,(a3.Link.Zi.Own,(a3.Link.Zi.Since,(a3.Link.Zi.Other,(a3.Link.Zi.Z0i,(a3.Link.Zi.Told,(a3.Link.Zi.ZQ,(a3.Link.Zi.Z2Z,(a3.Link.Zi.Z40,(a3.Link.Zi.Z0q,(a3.Link.Zi.Version,(a3.Link.Zi.Length,(a3.Link.Zi.Limit,(a3.Link.Zi.Z4h,(a3.Link.Zi.ZkQ,(a3.Link.Zi.Mark,(a3.Link.Zi.Z1W,(a3.Link.Zi.Z2R,(a3.Link.ZZ,(a3.Link.Key,(a3.Link.ZL,(a3.Link.Zc9,()))))))))))))))))))))))))))))))))))))))))))),(a3.Link.Arq.ZP,(a3.Link.Zi.Zl,(a3.Link.Zi.Zy,(a3.Link.Zx,(a3.Link.Zf,(a3.Z0G,())))))))))
 | .b2 a0 a1 a2 a3=>spL Tryz.f34 [1,1,1,1,1,0] Z9L (((a0,()),((a1,()),((),((),())))),((a2,()),((a3.Link.Z1G,(a3.Link.ZX,(a3.Link.Clock,(a3.Link.Event,(a3.Link.Last,(a3.Link.Z0P,(a3.Link.Size,(a3.Link.Sync,(a3.Link.Z3c,(a3.Link.Z2W,(a3.Link.Got,(a3.Link.Good,(a3.Link.Z0Z,(a3.Link.More,(a3.Link.Arq.SN,(a3.Link.Arq.Z8Y,(a3.Link.Arq.Open,(a3.Link.Arq.Empty,(a3.Link.Arq.Z0Z,(a3.Link.Arq.Taken,(a3.Link.Z0H,(a3.Link.Zi.Z1G,(a3.Link.Zi.Own,(a3.Link.Zi.Since,(a3.Link.Zi.Other,(a3.Link.Zi.Z0i,(a3.Link.Zi.Told,(a3.Link.Zi.ZQ,(a3.Link.Zi.Z2Z,(a3.Link.Zi.Z40,(a3.Link.Zi.Z0q,(a3.Link.Zi.Version,(a3.Link.Zi.Length,(a3.Link.Zi.Limit,(a3.Link.Zi.Z4h,(a3.Link.Zi.ZkQ,(a3.Link.Zi.Mark,(a3.Link.Zi.Z1W,(a3.Link.Zi.Z2R,(a3.Link.ZZ,(a3.Link.Key,(a3.Link.ZL,(a3.Link.Zc9,()))))))))))))))))))))))))))))))))))))))))))),(a3.Link.Arq.ZP,(a3.Link.Zi.Zl,(a3.Link.Zi.Zy,(a3.Link.Zx,(a3.Link.Zf,(a3.Z0G,())))))))))
theorem Zkh:Z0e 34 Tryz.f34 (mc Z23 (mc Znr (mc ZyD msN))) (hc [] Z7m hsN) Zo3 86 Z7I ZlG
 | .b0 _ _ _ _=>by kernel_rfl
 | .b1 _ _ _ _=>by kernel_rfl
 | .b2 _ _ _ _=>by kernel_rfl
theorem Zld:Z04 Tryz.prog B0 34 ZoP:=okP Zkh (fun x=>.b0 x.1 x.2.1 x.2.2.1 x.2.2.2.1) (by kernel_rfl) Tryz.func34 (by kernel_rfl) (by kernel_rfl) (fun _=>rfl) (fun _=>rfl)
inductive Z2f where
 | b0 (a0:ZT) (a1:Int) (a2:Z0K) (a3:List Int)
 | b1 (a0:Int) (a1:List Int) (a2:Int) (a3:Z0K) (a4:Z8)
noncomputable def Z34:Z2f->Tr U (Bool⊕Z2f)
 | .b0 a0 a1 a2 a3=>.bind 4 (Zg7) (fun(x1:Bool)=>.br (!x1) ( .leaf (.inl false)) ( .bind 60 (Z5a a0) (fun(x2:Z8×Int×Bool)=>.br (!x2.2.2) ( .leaf (.inl true)) ( .br (a1 != (8:Int)) ( .br (a1 != (34:Int)) ( .br (a1 != (61:Int)) ( .br (a1 != (62:Int)) ( .leaf (.inl true)) ( .br (decide ((↑a2.ZH.Payload.length:Int)>(4096:Int))) ( .leaf (.inl true)) ( .br (decide ((↑a3.length:Int)>(4096:Int))) ( .leaf (.inl true)) ( .leaf (.inr (.b1 a1 a3 x2.2.1 a2 x2.1)))))) ( .br (decide ((↑a2.ZH.Payload.length:Int)>(4096:Int))) ( .leaf (.inl true)) ( .br (decide ((↑a3.length:Int)>(4096:Int))) ( .leaf (.inl true)) ( .leaf (.inr (.b1 a1 a3 x2.2.1 a2 x2.1)))))) ( .br (decide ((↑a2.ZH.Payload.length:Int)>(4096:Int))) ( .leaf (.inl true)) ( .br (decide ((↑a3.length:Int)>(4096:Int))) ( .leaf (.inl true)) ( .leaf (.inr (.b1 a1 a3 x2.2.1 a2 x2.1)))))) ( .br (decide ((↑a2.ZH.Payload.length:Int)>(4096:Int))) ( .leaf (.inl true)) ( .br (decide ((↑a3.length:Int)>(4096:Int))) ( .leaf (.inl true)) ( .leaf (.inr (.b1 a1 a3 x2.2.1 a2 x2.1)))))))))
 | .b1 a0 a1 a2 a3 a4=>.bind 44 (Z41 ({ a4 with ZL:=a0 }:Z8)) (fun(x1:Z8)=>.bind 46 (ZmZ x1 a3 a2) (fun(x2:Z8×Int)=>.bind 44 (Z41 ({ a4 with ZL:=a0 }:Z8)) (fun(x3:Z8)=>.bind 63 (ZdT x3) (fun(x4:Z8×(List Int))=>.bind 44 (Z41 ({ a4 with ZL:=a0 }:Z8)) (fun(x5:Z8)=>.chk (([]:List Int).length==0) ( .chk (decide ((0+a1.length)*1<=lim)&&decide (0+a1.length<=maxLen)) ( .chk ((([]:List Int)++a1).length==(([]:List Int)++a1).length) ( .bind 86 (Z7T x5 (([]:List Int)++a1) true a2) (fun(x6:Z8×(List Z5)×Bool)=>.bind 44 (Z41 ({ a4 with ZL:=a0 }:Z8)) (fun(x7:Z8)=>.bind 78 (Zau x7 a2) (fun(x8:Z8×(List Z5))=>.br (x2.2==(9:Int)) ( .bind 4 (Z4j x2.1 ({ a4 with ZL:=a0 }:Z8)) (fun(x9:Bool)=>.br x9 ( .bind 4 (Z4j x4.1 ({ a4 with ZL:=a0 }:Z8)) (fun(x10:Bool)=>.br x10 ( .br ((↑x4.2.length:Int)==(0:Int)) ( .bind 4 (Z4j x6.1 ({ a4 with ZL:=a0 }:Z8)) (fun(x11:Bool)=>.br x11 ( .br ((↑x6.2.1.length:Int)==(0:Int)) ( .br (!x6.2.2) ( .bind 4 (Z4j x8.1 ({ a4 with ZL:=a0 }:Z8)) (fun(x12:Bool)=>.br x12 ( .br ((↑x8.2.length:Int)==(0:Int)) ( .bind 44 (Z41 ({ a4 with ZL:=a0 }:Z8)) (fun(x13:Z8)=>.bind 4 (Z7x x13) (fun(x14:Bool)=>.leaf (.inl (!x14))))) ( .leaf (.inl false))) ( .leaf (.inl false)))) ( .leaf (.inl false))) ( .leaf (.inl false))) ( .leaf (.inl false)))) ( .leaf (.inl false))) ( .leaf (.inl false)))) ( .leaf (.inl false)))) ( .leaf (.inl false)))))))))))))
noncomputable def Z9z (a0:ZT) (a1:Int) (a2:Z0K) (a3:List Int):Option Bool:=Z05 Z34 (.b0 a0 a1 a2 a3)
noncomputable def Z28:Mod U:=⟨[59,3,83,62],4,fun x=>Z9z x.1 x.2.1 x.2.2.1 x.2.2.2.1,by decide⟩
def Z7w:Lay:=⟨[1,3,6,9,10],[[.keep],[.s 5 1],[.keep],[.keep],[.keep]],[.var k12,.var k1],⟨[.one (.v 3 1 false),.one (.v 62 1 false),.one (.ptr 0),.one (.ptr 1),.one (.v 3 1 false)],[.var 83 12 (.agg [.v 83 12 true]),.var 44 66 (.agg [.v 44 66 true])]⟩⟩
def Zky:Nat->Option Lay
 | 6=>some Z7w
 | _=>none
noncomputable def ZiL:Z2f->Z08 U
 | .b0 a0 a1 a2 a3=>Z0f Tryz.f10 [59,3,83,62] (a0,a1,a2,a3,())
 | .b1 a0 a1 a2 a3 a4=>spL Tryz.f10 [1,1,1,1,0] Z7w (((a0,()),((a1,()),((),((),((a2,()),()))))),((a3,()),((a4,()),())))
theorem Zgq:Z0e 10 Tryz.f10 (mc ZwZ (mc ZnW (mc Zf4 (mc ZiV (mc Zus (mc ZyN (mc ZqH (mc ZAX (mc Zld msN))))))))) hsN Zky 4 Z34 ZiL
 | .b0 _ _ _ _=>by kernel_rfl
 | .b1 _ _ _ _ _=>by kernel_rfl
theorem ZiR:Z04 Tryz.prog B0 10 Z28:=okP Zgq (fun x=>.b0 x.1 x.2.1 x.2.2.1 x.2.2.2.1) (by kernel_rfl) Tryz.func10 (by kernel_rfl) (by kernel_rfl) (fun _=>rfl) (fun _=>rfl)
end Go.Proofs.YtjodhcdmhobmoaaGreatDoor
