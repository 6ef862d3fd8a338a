/-
  A part of the proof.
-/
import Derived.Test.YtjodhcdmhobmoaaGreatDoorEUn
set_option linter.unusedVariables false
set_option linter.unusedSimpArgs false
namespace Go.Proofs.YtjodhcdmhobmoaaGreatDoor
open Go Go.Proofs.YtjodhcdmhobmoaaGreatDoor.Le
set_option maxRecDepth 100000
inductive Z5h where
 | b0 (a0 a1:Zb)
noncomputable def Z59:Z5h->Tr U (Bool⊕Z5h)
 | .b0 a0 a1=>.br (a0.Z5c==a1.Z5c) ( .chk (Z55 U 5 a0.Payload) ( .chk (Z55 U 5 a1.Payload) ( .leaf (.inl ((strOf U 5 a0.Payload).toList==(strOf U 5 a1.Payload).toList))))) ( .leaf (.inl false))
noncomputable def Z5b (a0 a1:Zb):Option Bool:=Z05 Z59 (.b0 a0 a1)
noncomputable def Zke:Mod U:=⟨[68,68],4,fun x=>Z5b x.1 x.2.1,by decide⟩
noncomputable def ZhW:Z5h->Z08 U
 | .b0 a0 a1=>Z0f Tryz.f26 [68,68] (a0,a1,())
theorem ZgT:Z0e 26 Tryz.f26 msN hsN AN 4 Z59 ZhW
 | .b0 _ _=>by kernel_rfl
theorem ZhB:Z04 Tryz.prog B0 26 Zke:=okP ZgT (fun x=>.b0 x.1 x.2.1) (by kernel_rfl) Tryz.func26 (by kernel_rfl) (by kernel_rfl) (fun _=>rfl) (fun _=>rfl)
inductive Z49 where
 | b0 (a0 a1:List Zb)
 | b1 (a0 a1:List Zb) (a2:Int)
noncomputable def Z1e:Z49->Tr U (Bool⊕Z49)
 | .b0 a0 a1=>.br ((↑a0.length:Int) != (↑a1.length:Int)) ( .leaf (.inl false)) ( .leaf (.inr (.b1 a0 a1 (0:Int))))
 | .b1 a0 a1 a2=>.br (decide (a2<(↑a0.length:Int))) ( .chk (decide (0<=a2/\a2<(↑a0.length:Int))) ( .bind 68 (a0[(Int.toNat a2)]?) (fun(x1:Zb)=>.chk (decide (0<=a2/\a2<(↑a1.length:Int))) ( .bind 68 (a1[(Int.toNat a2)]?) (fun(x2:Zb)=>.bind 4 (Z5b x1 x2) (fun(x3:Bool)=>.br (!x3) ( .leaf (.inl false)) ( .leaf (.inr (.b1 a0 a1 (w64 (a2+(1:Int)))))))))))) ( .leaf (.inl true))
noncomputable def Z4c (a0 a1:List Zb):Option Bool:=Z05 Z1e (.b0 a0 a1)
noncomputable def Ziv:Mod U:=⟨[31,31],4,fun x=>Z4c x.1 x.2.1,by decide⟩
def Z6H:Lay:=⟨[0,1,5],[[.s 68 2],[.s 68 2],[.keep]],[],⟨[.one (.v 31 1 false),.one (.v 31 1 false),.one (.v 3 1 false)],[]⟩⟩
def ZhX:Nat->Option Lay
 | 4=>some Z6H
 | _=>none
noncomputable def ZgG:Z49->Z08 U
 | .b0 a0 a1=>Z0f Tryz.f49 [31,31] (a0,a1,())
 | .b1 a0 a1 a2=>spL Tryz.f49 [1,1,0,1,0,0,0,0] Z6H (((a0,()),((a1,()),((a2,()),()))),())
theorem Ze6:Z0e 49 Tryz.f49 (mc ZhB msN) hsN ZhX 4 Z1e ZgG
 | .b0 _ _=>by kernel_rfl
 | .b1 _ _ _=>by kernel_rfl
theorem ZeX:Z04 Tryz.prog B0 49 Ziv:=okP Ze6 (fun x=>.b0 x.1 x.2.1) (by kernel_rfl) Tryz.func49 (by kernel_rfl) (by kernel_rfl) (fun _=>rfl) (fun _=>rfl)
inductive Z3x where
 | b0 (a0 a1:List Z4)
 | b1 (a0 a1:List Z4) (a2:Int)
noncomputable def Z13:Z3x->Tr U (Bool⊕Z3x)
 | .b0 a0 a1=>.br ((↑a0.length:Int) != (↑a1.length:Int)) ( .leaf (.inl false)) ( .leaf (.inr (.b1 a0 a1 (0:Int))))
 | .b1 a0 a1 a2=>.br (decide (a2<(↑a0.length:Int))) ( .chk (decide (0<=a2/\a2<(↑a0.length:Int))) ( .bind 156 (a0[(Int.toNat a2)]?) (fun(x1:Z4)=>.chk (decide (0<=a2/\a2<(↑a1.length:Int))) ( .bind 156 (a1[(Int.toNat a2)]?) (fun(x2:Z4)=>.br (!((x1.Kind==x2.Kind)&&((x1.ZI.Z3B==x2.ZI.Z3B)&&((x1.ZI.Z1h==x2.ZI.Z1h)&&((x1.ZI.Z1z==x2.ZI.Z1z)&&((x1.ZI.Z1o==x2.ZI.Z1o)&&((x1.ZI.Z4b==x2.ZI.Z4b)&&((x1.Map==x2.Map)&&((x1.Z0u==x2.Z0u)&&((x1.ZL==x2.ZL)&&((x1.Z0C==x2.Z0C)&&((x1.Z4h==x2.Z4h)&&((x1.Mark==x2.Mark)&&((x1.ZQ==x2.ZQ)&&((x1.Version==x2.Version)&&((x1.Length==x2.Length)&&true)))))))))))))))) ( .leaf (.inl false)) ( .leaf (.inr (.b1 a0 a1 (w64 (a2+(1:Int))))))))))) ( .leaf (.inl true))
noncomputable def Z2o (a0 a1:List Z4):Option Bool:=Z05 Z13 (.b0 a0 a1)
noncomputable def Zgj:Mod U:=⟨[36,36],4,fun x=>Z2o x.1 x.2.1,by decide⟩
def Z5D:Lay:=⟨[0,1,5],[[.s 156 15],[.s 156 15],[.keep]],[],⟨[.one (.v 36 1 false),.one (.v 36 1 false),.one (.v 3 1 false)],[]⟩⟩
def Zgy:Nat->Option Lay
 | 4=>some Z5D
 | _=>none
noncomputable def Zek:Z3x->Z08 U
 | .b0 a0 a1=>Z0f Tryz.f51 [36,36] (a0,a1,())
 | .b1 a0 a1 a2=>spL Tryz.f51 [1,1,0,1,0,0,0,0] Z5D (((a0,()),((a1,()),((a2,()),()))),())
theorem Zcg:Z0e 51 Tryz.f51 msN hsN Zgy 4 Z13 Zek
 | .b0 _ _=>by kernel_rfl
 | .b1 _ _ _=>by kernel_rfl
theorem Z6c:Z04 Tryz.prog B0 51 Zgj:=okP Zcg (fun x=>.b0 x.1 x.2.1) (by kernel_rfl) Tryz.func51 (by kernel_rfl) (by kernel_rfl) (fun _=>rfl) (fun _=>rfl)
inductive Z6X where
 | b0 (a0 a1:Z7)
 | b1 (a0 a1:Z7)
 | b2 (a0:Int) (a1 a2:Z7)
noncomputable def Z1O:Z6X->Tr U (Bool⊕Z6X)
 | .b0 a0 a1=>.bind 4 (Z2o a0.Zl a1.Zl) (fun(x1:Bool)=>.br (!x1) ( .leaf (.inl false)) ( .br ((↑a0.Zy.length:Int) != (↑a1.Zy.length:Int)) ( .leaf (.inl false)) ( .leaf (.inr (.b1 a0 a1)))))
 | .b1 a0 a1=>.leaf (.inr (.b2 (0:Int) a0 a1))
 | .b2 a0 a1 a2=>.br (decide (a0<(↑a1.Zy.length:Int))) ( .chk (decide (0<=a0/\a0<(↑a1.Zy.length:Int))) ( .bind 138 (a1.Zy[(Int.toNat a0)]?) (fun(x1:Z9)=>.chk (decide (0<=a0/\a0<(↑a2.Zy.length:Int))) ( .bind 138 (a2.Zy[(Int.toNat a0)]?) (fun(x2:Z9)=>.br (!((x1.Kind==x2.Kind)&&((x1.Z0u==x2.Z0u)&&((x1.ZI.Z3B==x2.ZI.Z3B)&&((x1.ZI.Z1h==x2.ZI.Z1h)&&((x1.ZI.Z1z==x2.ZI.Z1z)&&((x1.ZI.Z1o==x2.ZI.Z1o)&&((x1.ZI.Z4b==x2.ZI.Z4b)&&((x1.Map==x2.Map)&&true))))))))) ( .leaf (.inl false)) ( .leaf (.inr (.b2 (w64 (a0+(1:Int))) a1 a2)))))))) ( .br (a1.Z1G==a2.Z1G) ( .br (a1.Own==a2.Own) ( .br (a1.Since==a2.Since) ( .br (a1.Other==a2.Other) ( .br (a1.Z0i==a2.Z0i) ( .br (a1.ZQ==a2.ZQ) ( .br (a1.Z2Z==a2.Z2Z) ( .br (a1.Z40==a2.Z40) ( .br (a1.Told==a2.Told) ( .br (a1.Z0q==a2.Z0q) ( .br (a1.Version==a2.Version) ( .br (a1.Length==a2.Length) ( .br (a1.Limit==a2.Limit) ( .br (a1.Z4h==a2.Z4h) ( .br (a1.ZkQ==a2.ZkQ) ( .br (a1.Mark==a2.Mark) ( .br (a1.Z1W==a2.Z1W) ( .leaf (.inl (a1.Z2R==a2.Z2R))) ( .leaf (.inl false))) ( .leaf (.inl false))) ( .leaf (.inl false))) ( .leaf (.inl false))) ( .leaf (.inl false))) ( .leaf (.inl false))) ( .leaf (.inl false))) ( .leaf (.inl false))) ( .leaf (.inl false))) ( .leaf (.inl false))) ( .leaf (.inl false))) ( .leaf (.inl false))) ( .leaf (.inl false))) ( .leaf (.inl false))) ( .leaf (.inl false))) ( .leaf (.inl false))) ( .leaf (.inl false)))
noncomputable def Z69 (a0 a1:Z7):Option Bool:=Z05 Z1O (.b0 a0 a1)
noncomputable def ZnC:Mod U:=⟨[39,39],4,fun x=>Z69 x.1 x.2.1,by decide⟩
def Z8v:Lay:=⟨[2,3],[[.keep],[.keep]],[.var k0,.var k0],⟨[.one (.ptr 0),.one (.ptr 1)],[.var 39 20 (.agg [.v 39 20 true]),.var 39 20 (.agg [.v 39 20 true])]⟩⟩
def Z8M:Lay:=⟨[2,3,5],[[.keep],[.keep],[.keep]],[.var k0,.var k0],⟨[.one (.ptr 0),.one (.ptr 1),.one (.v 3 1 false)],[.var 39 20 (.agg [.v 39 20 true]),.var 39 20 (.agg [.v 39 20 true])]⟩⟩
def ZmD:Nat->Option Lay
 | 3=>some Z8v
 | 4=>some Z8M
 | _=>none
noncomputable def Zkv:Z6X->Z08 U
 | .b0 a0 a1=>Z0f Tryz.f50 [39,39] (a0,a1,())
 | .b1 a0 a1=>spL Tryz.f50 [1,1,0,0] Z8v (((),((),())),((a0,()),((a1,()),())))
 | .b2 a0 a1 a2=>spL Tryz.f50 [1,1,0,1,0,0,0,0] Z8M (((),((),((a0,()),()))),((a1,()),((a2,()),())))
theorem Zit:Z0e 50 Tryz.f50 (mc Z6c msN) hsN ZmD 4 Z1O Zkv
 | .b0 _ _=>by kernel_rfl
 | .b1 _ _=>by kernel_rfl
 | .b2 _ _ _=>by kernel_rfl
theorem Zkr:Z04 Tryz.prog B0 50 ZnC:=okP Zit (fun x=>.b0 x.1 x.2.1) (by kernel_rfl) Tryz.func50 (by kernel_rfl) (by kernel_rfl) (fun _=>rfl) (fun _=>rfl)
inductive Zhy where
 | b0 (a0 a1:Z8)
 | b1 (a0:Int) (a1 a2:Z8)
 | b2 (a0 a1:Z8)
 | b3 (a0 a1:Z8)
 | b4 (a0 a1:Z8)
noncomputable def Z1r:Zhy->Tr U (Bool⊕Zhy)
 | .b0 a0 a1=>.br ((↑a0.Zx.length:Int) != (↑a1.Zx.length:Int)) ( .leaf (.inl false)) ( .leaf (.inr (.b1 (0:Int) a0 a1)))
 | .b1 a0 a1 a2=>.br (decide (a0<(↑a1.Zx.length:Int))) ( .chk (decide (0<=a0/\a0<(↑a1.Zx.length:Int))) ( .bind 99 (a1.Zx[(Int.toNat a0)]?) (fun(x1:Zg)=>.chk (decide (0<=a0/\a0<(↑a2.Zx.length:Int))) ( .bind 99 (a2.Zx[(Int.toNat a0)]?) (fun(x2:Zg)=>.br (!((x1.Good==x2.Good)&&((x1.Bad==x2.Bad)&&true))) ( .leaf (.inl false)) ( .leaf (.inr (.b1 (w64 (a0+(1:Int))) a1 a2)))))))) ( .br (a1.Arq.SN != a2.Arq.SN) ( .leaf (.inl false)) ( .br (a1.Arq.Z8Y != a2.Arq.Z8Y) ( .leaf (.inl false)) ( .bind 4 (Z4c a1.Arq.ZP a2.Arq.ZP) (fun(x3:Bool)=>.br (!x3) ( .leaf (.inl false)) ( .br (!(a1.Arq.Open==a2.Arq.Open)) ( .leaf (.inl false)) ( .br (!(a1.Arq.Empty==a2.Arq.Empty)) ( .leaf (.inl false)) ( .br (a1.Arq.Z0Z != a2.Arq.Z0Z) ( .leaf (.inl false)) ( .br (a1.Arq.Taken != a2.Arq.Taken) ( .leaf (.inl false)) ( .leaf (.inr (.b2 a1 a2)))))))))))
 | .b2 a0 a1=>.br (a0.Z1G != a1.Z1G) ( .leaf (.inl false)) ( .br (!((a0.ZX.ZfK==a1.ZX.ZfK)&&((a0.ZX.ZJ3==a1.ZX.ZJ3)&&((a0.ZX.ZI.Z3B==a1.ZX.ZI.Z3B)&&((a0.ZX.ZI.Z1h==a1.ZX.ZI.Z1h)&&((a0.ZX.ZI.Z1z==a1.ZX.ZI.Z1z)&&((a0.ZX.ZI.Z1o==a1.ZX.ZI.Z1o)&&((a0.ZX.ZI.Z4b==a1.ZX.ZI.Z4b)&&((a0.ZX.Map==a1.ZX.Map)&&((a0.ZX.Hop==a1.ZX.Hop)&&((a0.ZX.PPM==a1.ZX.PPM)&&((a0.ZX.Z73==a1.ZX.Z73)&&true)))))))))))) ( .leaf (.inl false)) ( .br (a0.Clock != a1.Clock) ( .leaf (.inl false)) ( .br (a0.Event != a1.Event) ( .leaf (.inl false)) ( .br (a0.Last != a1.Last) ( .leaf (.inl false)) ( .br (a0.Z0P != a1.Z0P) ( .leaf (.inl false)) ( .br (a0.Size != a1.Size) ( .leaf (.inl false)) ( .br (a0.Sync != a1.Sync) ( .leaf (.inl false)) ( .br (a0.Z3c != a1.Z3c) ( .leaf (.inl false)) ( .leaf (.inr (.b3 a0 a1)))))))))))
 | .b3 a0 a1=>.br (!(a0.Z2W==a1.Z2W)) ( .leaf (.inl false)) ( .br (!(a0.Got==a1.Got)) ( .leaf (.inl false)) ( .br (!(a0.Good==a1.Good)) ( .leaf (.inl false)) ( .br (!(a0.Z0Z==a1.Z0Z)) ( .leaf (.inl false)) ( .br (!(a0.More==a1.More)) ( .leaf (.inl false)) ( .br (!((a0.Z0H.Z1o==a1.Z0H.Z1o)&&((a0.Z0H.Ze7==a1.Z0H.Ze7)&&((a0.Z0H.Full==a1.Z0H.Full)&&true)))) ( .leaf (.inl false)) ( .br (!((a0.ZZ.Z1G==a1.ZZ.Z1G)&&((a0.ZZ.Key==a1.ZZ.Key)&&((a0.ZZ.Z4h==a1.ZZ.Z4h)&&((a0.ZZ.ZJn==a1.ZZ.ZJn)&&((a0.ZZ.ZJd==a1.ZZ.ZJd)&&((a0.ZZ.Tx==a1.ZZ.Tx)&&((a0.ZZ.Rx==a1.ZZ.Rx)&&true)))))))) ( .leaf (.inl false)) ( .leaf (.inr (.b4 a0 a1)))))))))
 | .b4 a0 a1=>.bind 4 (Z69 a0.Zi a1.Zi) (fun(x1:Bool)=>.br x1 ( .br (a0.Key==a1.Key) ( .bind 4 (Z2o a0.Zf a1.Zf) (fun(x2:Bool)=>.br x2 ( .br (a0.ZL==a1.ZL) ( .leaf (.inl (a0.Zc9==a1.Zc9))) ( .leaf (.inl false))) ( .leaf (.inl false)))) ( .leaf (.inl false))) ( .leaf (.inl false)))
noncomputable def Z4j (a0 a1:Z8):Option Bool:=Z05 Z1r (.b0 a0 a1)
noncomputable def ZBu:Mod U:=⟨[44,44],4,fun x=>Z4j x.1 x.2.1,by decide⟩
def Zjn:Lay:=⟨[2,3,5],[[.keep],[.keep],[.keep]],[.var k1,.var k1],⟨[.one (.ptr 0),.one (.ptr 1),.one (.v 3 1 false)],[.var 44 66 (.agg [.v 44 66 true]),.var 44 66 (.agg [.v 44 66 true])]⟩⟩
def Zjw:Lay:=⟨[2,3],[[.keep],[.keep]],[.var k1,.var k1],⟨[.one (.ptr 0),.one (.ptr 1)],[.var 44 66 (.agg [.v 44 66 true]),.var 44 66 (.agg [.v 44 66 true])]⟩⟩
def ZjR:Lay:=⟨[2,3],[[.keep],[.keep]],[.var k1,.var k1],⟨[.one (.ptr 0),.one (.ptr 1)],[.var 44 66 (.agg [.v 44 66 true]),.var 44 66 (.agg [.v 44 66 true])]⟩⟩
def ZjY:Lay:=⟨[2,3],[[.keep],[.keep]],[.var k1,.var k1],⟨[.one (.ptr 0),.one (.ptr 1)],[.var 44 66 (.agg [.v 44 66 true]),.var 44 66 (.agg [.v 44 66 true])]⟩⟩
def ZAU:Nat->Option Lay
 | 4=>some Zjn
 | 11=>some Zjw
 | 13=>some ZjR
 | 15=>some ZjY
 | _=>none
noncomputable def Zzi:Zhy->Z08 U
 | .b0 a0 a1=>Z0f Tryz.f13 [44,44] (a0,a1,())
 | .b1 a0 a1 a2=>spL Tryz.f13 [1,1,0,1,0,0,0,0] Zjn (((),((),((a0,()),()))),((a1,()),((a2,()),())))
 | .b2 a0 a1=>spL Tryz.f13 [1,1,1,1,1,0,0] Zjw (((),((),())),((a0,()),((a1,()),())))
 | .b3 a0 a1=>spL Tryz.f13 [1,1,1,1,1,1,0,0] ZjR (((),((),())),((a0,()),((a1,()),())))
 | .b4 a0 a1=>spL Tryz.f13 [1,1,1,1,1,1,1,0] ZjY (((),((),())),((a0,()),((a1,()),())))
theorem Zwg:Z0e 13 Tryz.f13 (mc ZeX (mc Zkr (mc Z6c msN))) hsN ZAU 4 Z1r Zzi
 | .b0 _ _=>by kernel_rfl
 | .b1 _ _ _=>by kernel_rfl
 | .b2 _ _=>by kernel_rfl
 | .b3 _ _=>by kernel_rfl
 | .b4 _ _=>by kernel_rfl
theorem ZwZ:Z04 Tryz.prog B0 13 ZBu:=okP Zwg (fun x=>.b0 x.1 x.2.1) (by kernel_rfl) Tryz.func13 (by kernel_rfl) (by kernel_rfl) (fun _=>rfl) (fun _=>rfl)
theorem Z3n:Zby Tryz.prog 145 1 1 5:=ZkJ Zm1 (t:=62) (tb:=4) (e:=5) Tryz.func145 (by kernel_rfl) (by kernel_rfl) (by kernel_rfl) (by kernel_rfl) (by kernel_rfl) (by kernel_rfl) (by kernel_rfl) (by decide)
noncomputable def Z20 (a0:List Int):Option Z1g:=if a0.length*1<=lim/\a0.length<=maxLen then some ⟨a0⟩ else none
def Zbx:Shape:=⟨[.one (.v 62 1 false)],[]⟩
def Z2l:Shape:=⟨[.one (.own 5 0)],[.row 5 true]⟩
noncomputable def Z26:HMod U:={ fa:=[[.s 5 1]],fb:=[],sin:=Zbx,ZH9:=Z2l,one:=true,ky:=1344,toX:=fun(y:Z1g)=>(((),()),(y.q0,())),fn:=fun x=>Z20 x.1.1.1,ok:=⟨⟨⟨by decide,fun _=>rfl⟩,trivial⟩,trivial⟩ }
theorem Zca:Z5J Tryz.prog B0 145 Z26:=Zf7 Z3n fun x y hx=>by
 simp only [Z26,Z20] at hx
 split at hx
 ·rename_i h
  cases hx
  exact⟨_,rfl,rfl,by simp [Z26,HMod.out,Z2l,Shape.enc,Zcf,ZzS,Z9P,Z9d,Zs6,toV],by simp [Z26,HMod.out,Z2l,Shape.enc,Zcf,ZzS,Z9P,Z9d,Zs6,toH,Z0w,ZN],by simpa using h.1,by simpa using h.2⟩
 ·cases hx
theorem Z2O:Zby Tryz.prog 146 15 120 156:=ZkJ Zm1 (t:=36) (tb:=4) (e:=156) Tryz.func146 (by kernel_rfl) (by kernel_rfl) (by kernel_rfl) (by kernel_rfl) (by kernel_rfl) (by kernel_rfl) (by kernel_rfl) (by decide)
noncomputable def Z0O (a0:List Z4):Option Z0n:=if a0.length*120<=lim/\a0.length<=maxLen then some ⟨a0⟩ else none
def Z8h:Shape:=⟨[.one (.v 36 1 false)],[]⟩
def Z1H:Shape:=⟨[.one (.own 156 0)],[.row 156 true]⟩
noncomputable def Z1l:HMod U:={ fa:=[[.s 156 15]],fb:=[],sin:=Z8h,ZH9:=Z1H,one:=true,ky:=1345,toX:=fun(y:Z0n)=>(((),()),(y.q0,())),fn:=fun x=>Z0O x.1.1.1,ok:=⟨⟨⟨by decide,fun _=>rfl⟩,trivial⟩,trivial⟩ }
theorem Z8Q:Z5J Tryz.prog B0 146 Z1l:=Zf7 Z2O fun x y hx=>by
 simp only [Z1l,Z0O] at hx
 split at hx
 ·rename_i h
  cases hx
  exact⟨_,rfl,rfl,by simp [Z1l,HMod.out,Z1H,Shape.enc,Zcf,ZzS,Z9P,Z9d,Zs6,toV],by simp [Z1l,HMod.out,Z1H,Shape.enc,Zcf,ZzS,Z9P,Z9d,Zs6,toH,Z0w,ZN],by simpa using h.1,by simpa using h.2⟩
 ·cases hx
theorem Z2V:Zby Tryz.prog 147 8 64 138:=ZkJ Zm1 (t:=37) (tb:=4) (e:=138) Tryz.func147 (by kernel_rfl) (by kernel_rfl) (by kernel_rfl) (by kernel_rfl) (by kernel_rfl) (by kernel_rfl) (by kernel_rfl) (by decide)
noncomputable def Z1B (a0:List Z9):Option Z0U:=if a0.length*64<=lim/\a0.length<=maxLen then some ⟨a0⟩ else none
def Z94:Shape:=⟨[.one (.v 37 1 false)],[]⟩
def Z1P:Shape:=⟨[.one (.own 138 0)],[.row 138 true]⟩
noncomputable def Z1u:HMod U:={ fa:=[[.s 138 8]],fb:=[],sin:=Z94,ZH9:=Z1P,one:=true,ky:=1346,toX:=fun(y:Z0U)=>(((),()),(y.q0,())),fn:=fun x=>Z1B x.1.1.1,ok:=⟨⟨⟨by decide,fun _=>rfl⟩,trivial⟩,trivial⟩ }
theorem Z9R:Z5J Tryz.prog B0 147 Z1u:=Zf7 Z2V fun x y hx=>by
 simp only [Z1u,Z1B] at hx
 split at hx
 ·rename_i h
  cases hx
  exact⟨_,rfl,rfl,by simp [Z1u,HMod.out,Z1P,Shape.enc,Zcf,ZzS,Z9P,Z9d,Zs6,toV],by simp [Z1u,HMod.out,Z1P,Shape.enc,Zcf,ZzS,Z9P,Z9d,Zs6,toH,Z0w,ZN],by simpa using h.1,by simpa using h.2⟩
 ·cases hx
theorem Z3a:Zby Tryz.prog 148 2 16 99:=ZkJ Zm1 (t:=42) (tb:=4) (e:=99) Tryz.func148 (by kernel_rfl) (by kernel_rfl) (by kernel_rfl) (by kernel_rfl) (by kernel_rfl) (by kernel_rfl) (by kernel_rfl) (by decide)
noncomputable def Z1K (a0:List Zg):Option Z17:=if a0.length*16<=lim/\a0.length<=maxLen then some ⟨a0⟩ else none
def Z9U:Shape:=⟨[.one (.v 42 1 false)],[]⟩
def Z22:Shape:=⟨[.one (.own 99 0)],[.row 99 true]⟩
noncomputable def Z1L:HMod U:={ fa:=[[.s 99 2]],fb:=[],sin:=Z9U,ZH9:=Z22,one:=true,ky:=1347,toX:=fun(y:Z17)=>(((),()),(y.q0,())),fn:=fun x=>Z1K x.1.1.1,ok:=⟨⟨⟨by decide,fun _=>rfl⟩,trivial⟩,trivial⟩ }
theorem Zav:Z5J Tryz.prog B0 148 Z1L:=Zf7 Z3a fun x y hx=>by
 simp only [Z1L,Z1K] at hx
 split at hx
 ·rename_i h
  cases hx
  exact⟨_,rfl,rfl,by simp [Z1L,HMod.out,Z22,Shape.enc,Zcf,ZzS,Z9P,Z9d,Zs6,toV],by simp [Z1L,HMod.out,Z22,Shape.enc,Zcf,ZzS,Z9P,Z9d,Zs6,toH,Z0w,ZN],by simpa using h.1,by simpa using h.2⟩
 ·cases hx
end Go.Proofs.YtjodhcdmhobmoaaGreatDoor
namespace Go.Proofs.YtjodhcdmhobmoaaGreatDoor
open Go Go.Proofs.YtjodhcdmhobmoaaGreatDoor.Le
set_option maxRecDepth 100000
noncomputable def Zg7:Option Bool:=some true
noncomputable def ZgF:Mod U:={ ts:=[],rt:=4,fn:=fun _=>Zg7,ok:=by decide }
theorem Zoh:Zr5 Tryz.prog gl [11,14,15,17,19,22,27,28,37,38,39,40,41,42,52,53,55,57,58,62,63,64,65,66,67,68,78,79,122,123,124,125,126,133,134,135,136,137,143,149,150,152,153,154,155,156,158,159,160,161,218,219,222,223,230,231,232,235,236,237,238,287,321,379,380,381] (fun g=>!([62,63,64,158,159,160,235].contains g)) [(65,9),(62,5)] [(145,1,1,5),(146,15,120,156),(147,8,64,138),(148,2,16,99)]=true:=by kernel_rfl
theorem ZnW:Z04 Tryz.prog B0 14 ZgF:=ZEk rfl Zm1 Zoh (fun p hp=>by simp only [List.mem_cons,List.not_mem_nil,or_false] at hp;rcases hp with rfl|rfl|rfl|rfl<;>first|exact Z3n|exact Z2O|exact Z2V|exact Z3a) (by rfl) (by decide) rfl Tryz.func14 (by kernel_rfl) (n:=60) (m:=ZgF) rfl (a:=true) (fun _=>rfl) (by kernel_rfl)
end Go.Proofs.YtjodhcdmhobmoaaGreatDoor
namespace Go.Proofs.YtjodhcdmhobmoaaGreatDoor
open Go Go.Proofs.YtjodhcdmhobmoaaGreatDoor.Le
set_option maxRecDepth 100000
noncomputable def ZcO (_:Zo) (_:Bool):Option Bool:=none
noncomputable def ZoI:Mod U:=⟨[35,4],4,fun x=>ZcO x.1 x.2.1,by decide⟩
theorem Znw:Z04 Tryz.prog B0 57 ZoI:=⟨⟨_,Tryz.func57,rfl,by kernel_rfl⟩,fun _ _ h=>nomatch h⟩
noncomputable def ZpQ (_:Zr):Option Bool:=none
noncomputable def ZDb:Mod U:=⟨[33],4,fun x=>ZpQ x.1,by decide⟩
theorem Zzb:Z04 Tryz.prog B0 58 ZDb:=⟨⟨_,Tryz.func58,rfl,by kernel_rfl⟩,fun _ _ h=>nomatch h⟩
inductive Z4H where
 | b0 (a0:Z8)
 | b1 (a0:Z8)
noncomputable def ZaL:Z4H->Tr U (Bool⊕Z4H)
 | .b0 a0=>.br (a0.ZL != (0:Int)) ( .leaf (.inl false)) ( .br (a0.Z1G != (1:Int)) ( .leaf (.inl false)) ( .br (!a0.Z2W) ( .leaf (.inl false)) ( .leaf (.inr (.b1 a0)))))
 | .b1 a0=>.br ((↑a0.Zf.length:Int)==(0:Int)) ( .br ((↑a0.Zi.Zy.length:Int)==(0:Int)) ( .bind 4 (ZpQ a0.Arq) (fun(x1:Bool)=>.bind 4 (ZcO a0.Z0H (!x1)) (fun(x2:Bool)=>.leaf (.inl (!x2))))) ( .leaf (.inl false))) ( .leaf (.inl false))
noncomputable def Z7x (a0:Z8):Option Bool:=Z05 ZaL (.b0 a0)
noncomputable def Zwj:Mod U:=⟨[44],4,fun x=>Z7x x.1,by decide⟩
def ZcK:Lay:=⟨[1],[[.keep]],[.var k1],⟨[.one (.ptr 0)],[.var 44 66 (.agg [.v 44 66 true])]⟩⟩
def ZtB:Nat->Option Lay
 | 3=>some ZcK
 | _=>none
noncomputable def Zso:Z4H->Z08 U
 | .b0 a0=>Z0f Tryz.f19 [44] (a0,())
 | .b1 a0=>spL Tryz.f19 [1,1,0] ZcK (((),()),((a0,()),()))
theorem ZnT:Z0e 19 Tryz.f19 (mc Znw (mc Zzb msN)) hsN ZtB 4 ZaL Zso
 | .b0 _=>by kernel_rfl
 | .b1 _=>by kernel_rfl
theorem Zf4:Z04 Tryz.prog B0 19 Zwj:=okP ZnT (fun x=>.b0 x.1) (by kernel_rfl) Tryz.func19 (by kernel_rfl) (by kernel_rfl) (fun _=>rfl) (fun _=>rfl)
inductive Z4A where
 | b0 (a0 a1 a2:Int)
noncomputable def Zb0:Z4A->Tr U (Bool⊕Z4A)
 | .b0 a0 a1 a2=>.br (decide (a0>=a1)) ( .leaf (.inl (decide (a0<=a2)))) ( .leaf (.inl false))
noncomputable def Z1A (a0 a1 a2:Int):Option Bool:=Z05 Zb0 (.b0 a0 a1 a2)
noncomputable def Ztg:Mod U:=⟨[3,3,3],4,fun x=>Z1A x.1 x.2.1 x.2.2.1,by decide⟩
noncomputable def ZqV:Z4A->Z08 U
 | .b0 a0 a1 a2=>Z0f Tryz.f129 [3,3,3] (a0,a1,a2,())
theorem Zox:Z0e 129 Tryz.f129 msN hsN AN 4 Zb0 ZqV
 | .b0 _ _ _=>by kernel_rfl
theorem Zh1:Z04 Tryz.prog B0 129 Ztg:=okP Zox (fun x=>.b0 x.1 x.2.1 x.2.2.1) (by kernel_rfl) Tryz.func129 (by kernel_rfl) (by kernel_rfl) (fun _=>rfl) (fun _=>rfl)
inductive Z1T where
 | b0 (a0:ZO)
 | b1 (a0:ZO)
noncomputable def Z3Z:Z1T->Tr U (Int⊕Z1T)
 | .b0 a0=>.bind 4 (Z1A a0.Z3B (1:Int) (8:Int)) (fun(x1:Bool)=>.br (!x1) ( .leaf (.inl (5:Int))) ( .bind 4 (Z1A a0.Z1h (0:Int) (3200:Int)) (fun(x2:Bool)=>.br (!x2) ( .leaf (.inl (5:Int))) ( .bind 4 (Z1A a0.Z1z (6:Int) (3200:Int)) (fun(x3:Bool)=>.br (!x3) ( .leaf (.inl (5:Int))) ( .bind 4 (Z1A a0.Z1o (0:Int) (499:Int)) (fun(x4:Bool)=>.br (!x4) ( .leaf (.inl (5:Int))) ( .bind 4 (Z1A a0.Z4b (10:Int) (3200:Int)) (fun(x5:Bool)=>.br (!x5) ( .leaf (.inl (5:Int))) ( .leaf (.inr (.b1 a0))))))))))))
 | .b1 a0=>.br (decide (a0.Z3B>=a0.Z1z)) ( .leaf (.inl (11:Int))) ( .br (decide (a0.Z1h>a0.Z1z)) ( .leaf (.inl (11:Int))) ( .br (decide ((w64 (a0.Z4b*(10000:Int)))<=(w64 ((w64 ((w64 ((2:Int)*(w64 (a0.Z1o+(1:Int)))))*a0.Z1z))*(1250:Int))))) ( .leaf (.inl (11:Int))) ( .leaf (.inl (0:Int)))))
noncomputable def Z2N (a0:ZO):Option Int:=Z05 Z3Z (.b0 a0)
noncomputable def ZiH:Mod U:=⟨[24],45,fun x=>Z2N x.1,by decide⟩
def Z7b:Lay:=⟨[1],[[.keep]],[.var [.keep,.keep,.keep,.keep,.keep]],⟨[.one (.ptr 0)],[.var 24 5 (.agg [.v 24 5 true])]⟩⟩
def Ziq:Nat->Option Lay
 | 3=>some Z7b
 | _=>none
noncomputable def Zgn:Z1T->Z08 U
 | .b0 a0=>Z0f Tryz.f127 [24] (a0,())
 | .b1 a0=>spL Tryz.f127 [1,1,0,0] Z7b (((),()),((a0,()),()))
theorem ZdV:Z0e 127 Tryz.f127 (mc Zh1 msN) hsN Ziq 45 Z3Z Zgn
 | .b0 _=>by kernel_rfl
 | .b1 _=>by kernel_rfl
theorem Z7D:Z04 Tryz.prog B0 127 ZiH:=okP ZdV (fun x=>.b0 x.1) (by kernel_rfl) Tryz.func127 (by kernel_rfl) (by kernel_rfl) (fun _=>rfl) (fun _=>rfl)
inductive Z6A where
 | b0 (a0:Int)
 | b1 (a0 a1 a2:Int)
noncomputable def Z93:Z6A->Tr U (Int⊕Z6A)
 | .b0 a0=>.leaf (.inr (.b1 a0 (1:Int) (0:Int)))
 | .b1 a0 a1 a2=>.br (decide (a2<a0)) ( .leaf (.inr (.b1 a0 (IntKind.wrap .u64 (a1*(2:Int))) (w64 (a2+(1:Int)))))) ( .leaf (.inl a1))
noncomputable def Z6C (a0:Int):Option Int:=Z05 Z93 (.b0 a0)
noncomputable def Zyl:Mod U:=⟨[3],25,fun x=>Z6C x.1,by decide⟩
def Zfo:Lay:=⟨[0,3,4],[[.keep],[.keep],[.keep]],[],⟨[.one (.v 3 1 false),.one (.v 25 1 false),.one (.v 3 1 false)],[]⟩⟩
def Zxf:Nat->Option Lay
 | 3=>some Zfo
 | _=>none
noncomputable def ZtN:Z6A->Z08 U
 | .b0 a0=>Z0f Tryz.f220 [3] (a0,())
 | .b1 a0 a1 a2=>spL Tryz.f220 [1,1,0,1,0,0,0,0] Zfo (((a0,()),((a1,()),((a2,()),()))),())
theorem Zrt:Z0e 220 Tryz.f220 msN hsN Zxf 25 Z93 ZtN
 | .b0 _=>by kernel_rfl
 | .b1 _ _ _=>by kernel_rfl
theorem ZaJ:Z04 Tryz.prog B0 220 Zyl:=okP Zrt (fun x=>.b0 x.1) (by kernel_rfl) Tryz.func220 (by kernel_rfl) (by kernel_rfl) (fun _=>rfl) (fun _=>rfl)
inductive ZaE where
 | b0 (a0 a1:Int)
noncomputable def ZmJ:ZaE->Tr U (Bool⊕ZaE)
 | .b0 a0 a1=>.br (decide (a1>=(0:Int))) ( .br (decide (a1<=(36:Int))) ( .bind 25 (Z6C a1) (fun(x1:Int)=>.chk (x1 != 0) ( .leaf (.inl ((Int.tmod (IntKind.wrap .u64 (Int.tdiv a0 x1)) (2:Int))==(1:Int)))))) ( .leaf (.inl false))) ( .leaf (.inl false))
noncomputable def Zbq (a0 a1:Int):Option Bool:=Z05 ZmJ (.b0 a0 a1)
noncomputable def ZEq:Mod U:=⟨[26,3],4,fun x=>Zbq x.1 x.2.1,by decide⟩
noncomputable def ZDA:ZaE->Z08 U
 | .b0 a0 a1=>Z0f Tryz.f225 [26,3] (a0,a1,())
theorem ZwN:Z0e 225 Tryz.f225 (mc ZaJ msN) hsN AN 4 ZmJ ZDA
 | .b0 _ _=>by kernel_rfl
theorem ZhJ:Z04 Tryz.prog B0 225 ZEq:=okP ZwN (fun x=>.b0 x.1 x.2.1) (by kernel_rfl) Tryz.func225 (by kernel_rfl) (by kernel_rfl) (fun _=>rfl) (fun _=>rfl)
inductive Z8o where
 | b0 (a0:Int)
 | b1 (a0:Int) (a1:List Int) (a2:Int)
 | b2 (a0:Int) (a1:List Int) (a2:Int)
noncomputable def ZhP:Z8o->Tr U ((List Int)⊕Z8o)
 | .b0 a0=>.chk (([]:List Int).length==0) ( .leaf (.inr (.b1 a0 ([]:List Int) (0:Int))))
 | .b1 a0 a1 a2=>.br (decide (a2<=(36:Int))) ( .bind 4 (Zbq a0 a2) (fun(x1:Bool)=>.br x1 ( .chk (([a2]).length==1) ( .chk (a1.length==a1.length) ( .chk (decide ((a1.length+([a2]).length)*8<=lim)&&decide (a1.length+([a2]).length<=maxLen)) ( .chk ((a1++[a2]).length==(a1++[a2]).length) ( .leaf (.inr (.b2 a0 (a1++[a2]) a2))))))) ( .chk (a1.length==a1.length) ( .leaf (.inr (.b2 a0 a1 a2)))))) ( .chk (a1.length==a1.length) ( .leaf (.inl a1)))
 | .b2 a0 a1 a2=>.chk (a1.length==a1.length) ( .leaf (.inr (.b1 a0 a1 (w64 (a2+(1:Int))))))
noncomputable def Z7Z (a0:Int):Option (List Int):=Z05 ZhP (.b0 a0)
noncomputable def ZBX:Mod U:=⟨[26],226,fun x=>Z7Z x.1,by decide⟩
def Zk0:Lay:=⟨[0,3,4],[[.keep],[.own 3 1],[.keep]],[.row true],⟨[.one (.v 26 1 false),.one (.own 3 0),.one (.v 3 1 false)],[.row 3 true]⟩⟩
def Zja:Lay:=⟨[0,3,4],[[.keep],[.own 3 1],[.keep]],[.row true],⟨[.one (.v 26 1 false),.one (.own 3 0),.one (.v 3 1 false)],[.row 3 true]⟩⟩
def ZBg:Nat->Option Lay
 | 3=>some Zk0
 | 4=>some Zja
 | _=>none
noncomputable def Zzz:Z8o->Z08 U
 | .b0 a0=>Z0f Tryz.f202 [26] (a0,())
 | .b1 a0 a1 a2=>spL Tryz.f202 [1,1,0,1,0,0,0,0] Zk0 (((a0,()),((),((a2,()),()))),(a1,()))
 | .b2 a0 a1 a2=>spL Tryz.f202 [1,1,0,1,0,0,1,1] Zja (((a0,()),((),((a2,()),()))),(a1,()))
theorem Zts:Z0e 202 Tryz.f202 (mc ZhJ msN) hsN ZBg 226 ZhP Zzz
 | .b0 _=>by kernel_rfl
 | .b1 _ _ _=>by kernel_rfl
 | .b2 _ _ _=>by kernel_rfl
theorem ZeR:Z04 Tryz.prog B0 202 ZBX:=okP Zts (fun x=>.b0 x.1) (by kernel_rfl) Tryz.func202 (by kernel_rfl) (by kernel_rfl) (fun _=>rfl) (fun _=>rfl)
inductive Z78 where
 | b0 (a0:Int)
noncomputable def ZdS:Z78->Tr U (Int⊕Z78)
 | .b0 a0=>.bind 226 (Z7Z a0) (fun(x1:List Int)=>.leaf (.inl (↑x1.length:Int)))
noncomputable def Z6O (a0:Int):Option Int:=Z05 ZdS (.b0 a0)
noncomputable def ZxA:Mod U:=⟨[26],3,fun x=>Z6O x.1,by decide⟩
noncomputable def Zsx:Z78->Z08 U
 | .b0 a0=>Z0f Tryz.f221 [26] (a0,())
theorem ZrF:Z0e 221 Tryz.f221 (mc ZeR msN) hsN AN 3 ZdS Zsx
 | .b0 _=>by kernel_rfl
theorem Zbd:Z04 Tryz.prog B0 221 ZxA:=okP ZrF (fun x=>.b0 x.1) (by kernel_rfl) Tryz.func221 (by kernel_rfl) (by kernel_rfl) (fun _=>rfl) (fun _=>rfl)
inductive Z68 where
 | b0 (a0:Int)
noncomputable def ZdX:Z68->Tr U (Int⊕Z68)
 | .b0 a0=>.bind 25 (Z6C (37:Int)) (fun(x1:Int)=>.br (decide (a0>=x1)) ( .leaf (.inl (5:Int))) ( .bind 3 (Z6O a0) (fun(x2:Int)=>.br (decide (x2<(2:Int))) ( .leaf (.inl (1:Int))) ( .leaf (.inl (0:Int))))))
noncomputable def Z9n (a0:Int):Option Int:=Z05 ZdX (.b0 a0)
noncomputable def Zxc:Mod U:=⟨[26],45,fun x=>Z9n x.1,by decide⟩
noncomputable def Zvc:Z68->Z08 U
 | .b0 a0=>Z0f Tryz.f128 [26] (a0,())
theorem Zqw:Z0e 128 Tryz.f128 (mc ZaJ (mc Zbd msN)) hsN AN 45 ZdX Zvc
 | .b0 _=>by kernel_rfl
theorem Zju:Z04 Tryz.prog B0 128 Zxc:=okP Zqw (fun x=>.b0 x.1) (by kernel_rfl) Tryz.func128 (by kernel_rfl) (by kernel_rfl) (fun _=>rfl) (fun _=>rfl)
inductive Z6Y where
 | b0 (a0:ZG)
 | b1 (a0:ZG)
 | b2 (a0:ZG)
noncomputable def Zdp:Z6Y->Tr U (Int⊕Z6Y)
 | .b0 a0=>.br (a0.ZfK==(0:Int)) ( .leaf (.inl (1:Int))) ( .br (a0.ZfK==(2391391958:Int)) ( .leaf (.inl (1:Int))) ( .leaf (.inr (.b1 a0))))
 | .b1 a0=>.br (decide (a0.ZJ3>=(16777216:Int))) ( .leaf (.inl (5:Int))) ( .bind 45 (Z2N a0.ZI) (fun(x1:Int)=>.br (x1 != (0:Int)) ( .leaf (.inl x1)) ( .bind 45 (Z9n a0.Map) (fun(x2:Int)=>.br (x2 != (0:Int)) ( .leaf (.inl x2)) ( .bind 4 (Z1A a0.Hop (5:Int) (16:Int)) (fun(x3:Bool)=>.br (!x3) ( .leaf (.inl (5:Int))) ( .bind 4 (Z1A a0.PPM (0:Int) (500:Int)) (fun(x4:Bool)=>.br (!x4) ( .leaf (.inl (5:Int))) ( .leaf (.inr (.b2 a0)))))))))))
 | .b2 a0=>.br (a0.Z73 != (1:Int)) ( .br (a0.Z73 != (2:Int)) ( .leaf (.inl (12:Int))) ( .leaf (.inl (0:Int)))) ( .leaf (.inl (0:Int)))
noncomputable def Ze3 (a0:ZG):Option Int:=Z05 Zdp (.b0 a0)
noncomputable def Zze:Mod U:=⟨[28],45,fun x=>Ze3 x.1,by decide⟩
def ZeY:Lay:=⟨[1],[[.keep]],[.var k3],⟨[.one (.ptr 0)],[.var 28 11 (.agg [.v 28 11 true])]⟩⟩
def Zge:Lay:=⟨[1],[[.keep]],[.var k3],⟨[.one (.ptr 0)],[.var 28 11 (.agg [.v 28 11 true])]⟩⟩
def Zyh:Nat->Option Lay
 | 3=>some ZeY
 | 13=>some Zge
 | _=>none
noncomputable def ZuV:Z6Y->Z08 U
 | .b0 a0=>Z0f Tryz.f43 [28] (a0,())
 | .b1 a0=>spL Tryz.f43 [1,1,0,0] ZeY (((),()),((a0,()),()))
 | .b2 a0=>spL Tryz.f43 [1,1,1,1,1,1,0,0] Zge (((),()),((a0,()),()))
theorem Zr7:Z0e 43 Tryz.f43 (mc Z7D (mc Zju (mc Zh1 msN))) hsN Zyh 45 Zdp ZuV
 | .b0 _=>by kernel_rfl
 | .b1 _=>by kernel_rfl
 | .b2 _=>by kernel_rfl
theorem ZuL:Z04 Tryz.prog B0 43 Zze:=okP Zr7 (fun x=>.b0 x.1) (by kernel_rfl) Tryz.func43 (by kernel_rfl) (by kernel_rfl) (fun _=>rfl) (fun _=>rfl)
inductive Z3s where
 | b0 (a0 a1 a2:Int)
noncomputable def Z9b:Z3s->Tr U (Int⊕Z3s)
 | .b0 a0 a1 a2=>.leaf (.inl (if (if a2<a0 then a2 else a0)>a1 then (if a2<a0 then a2 else a0) else a1))
noncomputable def Z2E (a0 a1 a2:Int):Option Int:=Z05 Z9b (.b0 a0 a1 a2)
noncomputable def Zrg:Mod U:=⟨[3,3,3],3,fun x=>Z2E x.1 x.2.1 x.2.2.1,by decide⟩
noncomputable def ZnH:Z3s->Z08 U
 | .b0 a0 a1 a2=>Z0f Tryz.f192 [3,3,3] (a0,a1,a2,())
theorem ZmQ:Z0e 192 Tryz.f192 msN hsN AN 3 Z9b ZnH
 | .b0 _ _ _=>by kernel_rfl
theorem Z4l:Z04 Tryz.prog B0 192 Zrg:=okP ZmQ (fun x=>.b0 x.1 x.2.1 x.2.2.1) (by kernel_rfl) Tryz.func192 (by kernel_rfl) (by kernel_rfl) (fun _=>rfl) (fun _=>rfl)
inductive Z5Y where
 | b0 (a0:Int)
noncomputable def ZeP:Z5Y->Tr U (Int⊕Z5Y)
 | .b0 a0=>.bind 3 (Z2E a0 (0:Int) (4398046511104:Int)) (fun(x1:Int)=>.leaf (.inl x1))
noncomputable def Zeb (a0:Int):Option Int:=Z05 ZeP (.b0 a0)
noncomputable def Zz4:Mod U:=⟨[3],3,fun x=>Zeb x.1,by decide⟩
noncomputable def ZuD:Z5Y->Z08 U
 | .b0 a0=>Z0f Tryz.f130 [3] (a0,())
theorem Zqf:Z0e 130 Tryz.f130 (mc Z4l msN) hsN AN 3 ZeP ZuD
 | .b0 _=>by kernel_rfl
theorem ZuB:Z04 Tryz.prog B0 130 Zz4:=okP Zqf (fun x=>.b0 x.1) (by kernel_rfl) Tryz.func130 (by kernel_rfl) (by kernel_rfl) (fun _=>rfl) (fun _=>rfl)
inductive Z4v where
 | b0 (a0:ZO)
noncomputable def ZbA:Z4v->Tr U (Int⊕Z4v)
 | .b0 a0=>.bind 3 (Z2E a0.Z1h (0:Int) (3200:Int)) (fun(x1:Int)=>.leaf (.inl (w64 (x1*(1250:Int)))))
noncomputable def Za7 (a0:ZO):Option Int:=Z05 ZbA (.b0 a0)
noncomputable def ZtM:Mod U:=⟨[24],3,fun x=>Za7 x.1,by decide⟩
noncomputable def ZrP:Z4v->Z08 U
 | .b0 a0=>Z0f Tryz.f131 [24] (a0,())
theorem ZoC:Z0e 131 Tryz.f131 (mc Z4l msN) hsN AN 3 ZbA ZrP
 | .b0 _=>by kernel_rfl
theorem ZrJ:Z04 Tryz.prog B0 131 ZtM:=okP ZoC (fun x=>.b0 x.1) (by kernel_rfl) Tryz.func131 (by kernel_rfl) (by kernel_rfl) (fun _=>rfl) (fun _=>rfl)
inductive Z7W where
 | b0 (a0:ZO)
noncomputable def Zil:Z7W->Tr U (Int⊕Z7W)
 | .b0 a0=>.bind 3 (Z2E a0.Z3B (1:Int) (8:Int)) (fun(x1:Int)=>.leaf (.inl (w64 (x1*(1250:Int)))))
noncomputable def Ziu (a0:ZO):Option Int:=Z05 Zil (.b0 a0)
noncomputable def ZC9:Mod U:=⟨[24],3,fun x=>Ziu x.1,by decide⟩
noncomputable def ZzU:Z7W->Z08 U
 | .b0 a0=>Z0f Tryz.f132 [24] (a0,())
theorem Zv5:Z0e 132 Tryz.f132 (mc Z4l msN) hsN AN 3 Zil ZzU
 | .b0 _=>by kernel_rfl
theorem Zyo:Z04 Tryz.prog B0 132 ZC9:=okP Zv5 (fun x=>.b0 x.1) (by kernel_rfl) Tryz.func132 (by kernel_rfl) (by kernel_rfl) (fun _=>rfl) (fun _=>rfl)
inductive Z7c where
 | b0 (a0:Int) (a1:ZO)
noncomputable def Zdk:Z7c->Tr U (Z2G⊕Z7c)
 | .b0 a0 a1=>.bind 3 (Zeb a0) (fun(x1:Int)=>.bind 3 (Za7 a1) (fun(x2:Int)=>.bind 3 (Ziu a1) (fun(x3:Int)=>.leaf (.inl (⟨(w64 ((w64 (x1+(1250:Int)))+x2)),(w64 ((w64 ((w64 (x1+(1250:Int)))+x2))+x3))⟩:Z2G)))))
noncomputable def Ze8 (a0:Int) (a1:ZO):Option Z2G:=Z05 Zdk (.b0 a0 a1)
noncomputable def ZwA:Mod U:=⟨[3,24],52,fun x=>Ze8 x.1 x.2.1,by decide⟩
noncomputable def ZtA:Z7c->Z08 U
 | .b0 a0 a1=>Z0f Tryz.f44 [3,24] (a0,a1,())
theorem Zqt:Z0e 44 Tryz.f44 (mc ZuB (mc ZrJ (mc Zyo msN))) hsN AN 52 Zdk ZtA
 | .b0 _ _=>by kernel_rfl
theorem Zty:Z04 Tryz.prog B0 44 ZwA:=okP Zqt (fun x=>.b0 x.1 x.2.1) (by kernel_rfl) Tryz.func44 (by kernel_rfl) (by kernel_rfl) (fun _=>rfl) (fun _=>rfl)
inductive Zbs where
 | b0
noncomputable def ZmV:Zbs->Tr U (Zr⊕Zbs)
 | .b0 =>.leaf (.inl Zho)
noncomputable def ZkV  : Option Zr:=Z05 ZmV (.b0)
noncomputable def ZEi:Mod U:=⟨[],33,fun x=>ZkV,by decide⟩
noncomputable def ZCn:Zbs->Z08 U
 | .b0 =>Z0f Tryz.f45 [] ()
theorem Zz8:Z0e 45 Tryz.f45 msN hsN AN 33 ZmV ZCn
 | .b0 =>by kernel_rfl
theorem ZDI:Z04 Tryz.prog B0 45 ZEi:=okP Zz8 (fun x=>.b0 ) (by kernel_rfl) Tryz.func45 (by kernel_rfl) (by kernel_rfl) (fun _=>rfl) (fun _=>rfl)
inductive Zbu where
 | b0 (a0:Int)
noncomputable def Zmu:Zbu->Tr U (Zo⊕Zbu)
 | .b0 a0=>.leaf (.inl (⟨(if (if (499:Int)<a0 then (499:Int) else a0)>(0:Int) then (if (499:Int)<a0 then (499:Int) else a0) else (0:Int)),(0:Int),true⟩:Zo))
noncomputable def Zg5 (a0:Int):Option Zo:=Z05 Zmu (.b0 a0)
noncomputable def ZEf:Mod U:=⟨[3],35,fun x=>Zg5 x.1,by decide⟩
noncomputable def ZCr:Zbu->Z08 U
 | .b0 a0=>Z0f Tryz.f46 [3] (a0,())
theorem Zxn:Z0e 46 Tryz.f46 msN hsN AN 35 Zmu ZCr
 | .b0 _=>by kernel_rfl
theorem Zp3:Z04 Tryz.prog B0 46 ZEf:=okP Zxn (fun x=>.b0 x.1) (by kernel_rfl) Tryz.func46 (by kernel_rfl) (by kernel_rfl) (fun _=>rfl) (fun _=>rfl)
inductive Zah where
 | b0 (a0 a1 a2:Int)
noncomputable def Zm6:Zah->Tr U (Z7⊕Zah)
 | .b0 a0 a1 a2=>.br (a0==(1:Int)) ( .leaf (.inl (⟨(1:Int),(-1:Int),(0:Int),[],(-1:Int),(0:Int),[],false,a1,(0:Int),false,false,(-1:Int),(27:Int),(if (251:Int)<(if (27:Int)>a2 then (27:Int) else a2) then (251:Int) else (if (27:Int)>a2 then (27:Int) else a2)),(0:Int),(0:Int),(0:Int),(0:Int),(0:Int)⟩:Z7))) ( .leaf (.inl (⟨(0:Int),(-1:Int),(0:Int),[],(-1:Int),(0:Int),[],false,a1,(0:Int),false,false,(-1:Int),(27:Int),(if (251:Int)<(if (27:Int)>a2 then (27:Int) else a2) then (251:Int) else (if (27:Int)>a2 then (27:Int) else a2)),(0:Int),(0:Int),(0:Int),(0:Int),(0:Int)⟩:Z7)))
noncomputable def Zl8 (a0 a1 a2:Int):Option Z7:=Z05 Zm6 (.b0 a0 a1 a2)
noncomputable def ZFH:Mod U:=⟨[3,25,3],39,fun x=>Zl8 x.1 x.2.1 x.2.2.1,by decide⟩
noncomputable def ZBe:Zah->Z08 U
 | .b0 a0 a1 a2=>Z0f Tryz.f47 [3,25,3] (a0,a1,a2,())
theorem Zx9:Z0e 47 Tryz.f47 msN hsN AN 39 Zm6 ZBe
 | .b0 _ _ _=>by kernel_rfl
theorem ZCx:Z04 Tryz.prog B0 47 ZFH:=okP Zx9 (fun x=>.b0 x.1 x.2.1 x.2.2.1) (by kernel_rfl) Tryz.func47 (by kernel_rfl) (by kernel_rfl) (fun _=>rfl) (fun _=>rfl)
inductive Z75 where
 | b0
noncomputable def ZdI:Z75->Tr U ((List Zg)⊕Z75)
 | .b0 =>.chk (decide (0<=(37:Int)/\(37:Int)<=(37:Int)/\Int.toNat (37:Int)*16<=lim/\(37:Int)<=(↑maxLen:Int))) ( .chk ((List.replicate (Int.toNat (37:Int)) (⟨(0:Int),(0:Int)⟩:Zg)).length==(List.replicate (Int.toNat (37:Int)) (⟨(0:Int),(0:Int)⟩:Zg)).length) ( .leaf (.inl (List.replicate (Int.toNat (37:Int)) (⟨(0:Int),(0:Int)⟩:Zg)))))
noncomputable def Zey  : Option (List Zg):=Z05 ZdI (.b0)
noncomputable def Zyb:Mod U:=⟨[],42,fun x=>Zey,by decide⟩
noncomputable def ZvN:Z75->Z08 U
 | .b0 =>Z0f Tryz.f48 [] ()
theorem Zrv:Z0e 48 Tryz.f48 msN hsN AN 42 ZdI ZvN
 | .b0 =>by kernel_rfl
theorem Zw8:Z04 Tryz.prog B0 48 Zyb:=okP Zrv (fun x=>.b0 ) (by kernel_rfl) Tryz.func48 (by kernel_rfl) (by kernel_rfl) (fun _=>rfl) (fun _=>rfl)
inductive ZaY where
 | b0 (a0:Int) (a1:ZG) (a2 a3 a4 a5:Int)
 | b1 (a0:Z8)
 | b2 (a0 a1 a2 a3 a4:Int) (a5:ZG) (a6:Z8)
 | b3 (a0:Z8)
 | b4 (a0 a1 a2 a3 a4:Int) (a5:ZG) (a6:Z8)
noncomputable def Zlr:ZaY->Tr U ((Z8×Int)⊕ZaY)
 | .b0 a0 a1 a2 a3 a4 a5=>.br (a0 != (0:Int)) ( .br (a0 != (1:Int)) ( .leaf (.inr (.b1 (⟨(0:Int),Zm,(0:Int),(0:Int),(0:Int),(0:Int),(0:Int),(0:Int),(0:Int),false,false,false,false,false,(⟨(0:Int),(0:Int),([]:List Zb),false,false,(0:Int),(0:Int)⟩:Zr),Zq,(⟨(0:Int),(0:Int),(0:Int),([]:List Z4),(0:Int),(0:Int),([]:List Z9),false,(0:Int),(0:Int),false,false,(0:Int),(0:Int),(0:Int),(0:Int),(0:Int),(0:Int),(0:Int),(0:Int)⟩:Z7),Zt,(0:Int),([]:List Zg),([]:List Z4),(0:Int),(0:Int)⟩:Z8)))) ( .leaf (.inr (.b2 a0 a2 a3 a4 a5 a1 (⟨(0:Int),Zm,(0:Int),(0:Int),(0:Int),(0:Int),(0:Int),(0:Int),(0:Int),false,false,false,false,false,(⟨(0:Int),(0:Int),([]:List Zb),false,false,(0:Int),(0:Int)⟩:Zr),Zq,(⟨(0:Int),(0:Int),(0:Int),([]:List Z4),(0:Int),(0:Int),([]:List Z9),false,(0:Int),(0:Int),false,false,(0:Int),(0:Int),(0:Int),(0:Int),(0:Int),(0:Int),(0:Int),(0:Int)⟩:Z7),Zt,(0:Int),([]:List Zg),([]:List Z4),(0:Int),(0:Int)⟩:Z8))))) ( .leaf (.inr (.b2 a0 a2 a3 a4 a5 a1 (⟨(0:Int),Zm,(0:Int),(0:Int),(0:Int),(0:Int),(0:Int),(0:Int),(0:Int),false,false,false,false,false,(⟨(0:Int),(0:Int),([]:List Zb),false,false,(0:Int),(0:Int)⟩:Zr),Zq,(⟨(0:Int),(0:Int),(0:Int),([]:List Z4),(0:Int),(0:Int),([]:List Z9),false,(0:Int),(0:Int),false,false,(0:Int),(0:Int),(0:Int),(0:Int),(0:Int),(0:Int),(0:Int),(0:Int)⟩:Z7),Zt,(0:Int),([]:List Zg),([]:List Z4),(0:Int),(0:Int)⟩:Z8))))
 | .b1 a0=>.leaf (.inl (Z4e,(1:Int)))
 | .b2 a0 a1 a2 a3 a4 a5 a6=>.bind 45 (Ze3 a5) (fun(x1:Int)=>.br (x1 != (0:Int)) ( .leaf (.inl (Z4e,x1))) ( .br (decide (a1<(0:Int))) ( .leaf (.inr (.b3 a6))) ( .br (decide (a1>(500:Int))) ( .leaf (.inr (.b3 a6))) ( .br (decide (a4<(0:Int))) ( .leaf (.inr (.b3 a6))) ( .br (decide (a4>(1099511627776:Int))) ( .leaf (.inr (.b3 a6))) ( .leaf (.inr (.b4 a0 a1 a2 a3 a4 a5 a6))))))))
 | .b3 a0=>.leaf (.inl (Z4e,(5:Int)))
 | .b4 a0 a1 a2 a3 a4 a5 a6=>.bind 52 (Ze8 a4 a5.ZI) (fun(x1:Z2G)=>.bind 33 (ZkV) (fun(x2:Zr)=>.bind 35 (Zg5 a5.ZI.Z1o) (fun(x3:Zo)=>.bind 39 (Zl8 a0 (63:Int) (251:Int)) (fun(x4:Z7)=>.bind 42 (Zey) (fun(x5:List Zg)=>.br (a0==(1:Int)) ( .leaf (.inl ((⟨a0,a5,a1,(0:Int),(0:Int),x1.Start,(w64 (x1.End - x1.Start)),a4,a4,false,false,false,false,false,x2,x3,x4,Zt,a2,x5,[],(0:Int),a3⟩:Z8),(0:Int)))) ( .leaf (.inl ((⟨a0,a5,a1,(0:Int),(0:Int),x1.Start,(0:Int),a4,a4,false,false,false,false,false,x2,x3,x4,Zt,a2,x5,[],(0:Int),a3⟩:Z8),(0:Int)))))))))
noncomputable def ZgB (a0:Int) (a1:ZG) (a2 a3 a4 a5:Int):Option (Z8×Int):=Z05 Zlr (.b0 a0 a1 a2 a3 a4 a5)
noncomputable def ZFc:Mod U:=⟨[3,28,3,29,25,3],46,fun x=>ZgB x.1 x.2.1 x.2.2.1 x.2.2.2.1 x.2.2.2.2.1 x.2.2.2.2.2.1,by decide⟩
def Zmd:Lay:=⟨[12],[[.keep]],[.var k1],⟨[.one (.ptr 0)],[.var 44 66 (.agg [.v 44 66 true])]⟩⟩
def Znv:Lay:=⟨[0,2,3,4,5,7,12],[[.keep],[.keep],[.keep],[.keep],[.keep],[.keep],[.keep]],[.var k3,.var k1],⟨[.one (.v 3 1 false),.one (.v 3 1 false),.one (.v 29 1 false),.one (.v 25 1 false),.one (.v 3 1 false),.one (.ptr 0),.one (.ptr 1)],[.var 28 11 (.agg [.v 28 11 true]),.var 44 66 (.agg [.v 44 66 true])]⟩⟩
def Znx:Lay:=⟨[12],[[.keep]],[.var k1],⟨[.one (.ptr 0)],[.var 44 66 (.agg [.v 44 66 true])]⟩⟩
def Zls:Lay:=⟨[0,2,3,4,5,7,12],[[.keep],[.keep],[.keep],[.keep],[.keep],[.keep],[.keep]],[.var k3,.var k1],⟨[.one (.v 3 1 false),.one (.v 3 1 false),.one (.v 29 1 false),.one (.v 25 1 false),.one (.v 3 1 false),.one (.ptr 0),.one (.ptr 1)],[.var 28 11 (.agg [.v 28 11 true]),.var 44 66 (.agg [.v 44 66 true])]⟩⟩
def ZGD:Nat->Option Lay
 | 2=>some Zmd
 | 3=>some Znv
 | 7=>some Znx
 | 8=>some Zls
 | _=>none
noncomputable def ZCC:ZaY->Z08 U
 | .b0 a0 a1 a2 a3 a4 a5=>Z0f Tryz.f12 [3,28,3,29,25,3] (a0,a1,a2,a3,a4,a5,())
 | .b1 a0=>spL Tryz.f12 [1,0,1,0,0] Zmd (((),()),((a0,()),()))
 | .b2 a0 a1 a2 a3 a4 a5 a6=>spL Tryz.f12 [1,1,0] Znv (((a0,()),((a1,()),((a2,()),((a3,()),((a4,()),((),((),()))))))),((a5,()),((a6,()),())))
 | .b3 a0=>spL Tryz.f12 [1,1,1,1,0,1,0,0] Znx (((),()),((a0,()),()))
 | .b4 a0 a1 a2 a3 a4 a5 a6=>spL Tryz.f12 [1,1,1,1,1,0] Zls (((a0,()),((a1,()),((a2,()),((a3,()),((a4,()),((),((),()))))))),((a5,()),((a6,()),())))
theorem ZyR:Z0e 12 Tryz.f12 (mc ZuL (mc Zty (mc ZDI (mc Zp3 (mc ZCx (mc Zw8 msN)))))) hsN ZGD 46 Zlr ZCC
 | .b0 _ _ _ _ _ _=>by kernel_rfl
 | .b1 _=>by kernel_rfl
 | .b2 _ _ _ _ _ _ _=>by kernel_rfl
 | .b3 _=>by kernel_rfl
 | .b4 _ _ _ _ _ _ _=>by kernel_rfl
theorem ZAY:Z04 Tryz.prog B0 12 ZFc:=okP ZyR (fun x=>.b0 x.1 x.2.1 x.2.2.1 x.2.2.2.1 x.2.2.2.2.1 x.2.2.2.2.2.1) (by kernel_rfl) Tryz.func12 (by kernel_rfl) (by kernel_rfl) (fun _=>rfl) (fun _=>rfl)
inductive Z84 where
 | b0 (a0:Zo) (a1:Bool)
noncomputable def Ziz:Z84->Tr U (Bool⊕Z84)
 | .b0 a0 a1=>.br a0.Full ( .leaf (.inl true)) ( .br a1 ( .leaf (.inl true)) ( .leaf (.inl (decide (a0.Ze7>=a0.Z1o)))))
noncomputable def ZbV (a0:Zo) (a1:Bool):Option Bool:=Z05 Ziz (.b0 a0 a1)
noncomputable def ZC0:Mod U:=⟨[35,4],4,fun x=>ZbV x.1 x.2.1,by decide⟩
noncomputable def ZyE:Z84->Z08 U
 | .b0 a0 a1=>Z0f Tryz.f59 [35,4] (a0,a1,())
theorem ZtU:Z0e 59 Tryz.f59 msN hsN AN 4 Ziz ZyE
 | .b0 _ _=>by kernel_rfl
theorem Zmz:Z04 Tryz.prog B0 59 ZC0:=okP ZtU (fun x=>.b0 x.1 x.2.1) (by kernel_rfl) Tryz.func59 (by kernel_rfl) (by kernel_rfl) (fun _=>rfl) (fun _=>rfl)
inductive Z8q where
 | b0 (a0:Zr)
noncomputable def ZhK:Z8q->Tr U (Bool⊕Z8q)
 | .b0 a0=>.leaf (.inl ((↑a0.ZP.length:Int)==(0:Int)))
noncomputable def Zin (a0:Zr):Option Bool:=Z05 ZhK (.b0 a0)
noncomputable def ZBa:Mod U:=⟨[33],4,fun x=>Zin x.1,by decide⟩
noncomputable def Zy6:Z8q->Z08 U
 | .b0 a0=>Z0f Tryz.f60 [33] (a0,())
theorem Zwc:Z0e 60 Tryz.f60 msN hsN AN 4 ZhK Zy6
 | .b0 _=>by kernel_rfl
theorem ZzV:Z04 Tryz.prog B0 60 ZBa:=okP Zwc (fun x=>.b0 x.1) (by kernel_rfl) Tryz.func60 (by kernel_rfl) (by kernel_rfl) (fun _=>rfl) (fun _=>rfl)
inductive Z6j where
 | b0 (a0:Z8)
noncomputable def ZdA:Z6j->Tr U (Bool⊕Z6j)
 | .b0 a0=>.br (a0.ZL==(0:Int)) ( .br (a0.Z1G==(1:Int)) ( .br a0.Z2W ( .br ((↑a0.Zf.length:Int)==(0:Int)) ( .br ((↑a0.Zi.Zy.length:Int)==(0:Int)) ( .bind 4 (Zin a0.Arq) (fun(x1:Bool)=>.bind 4 (ZbV a0.Z0H (!x1)) (fun(x2:Bool)=>.leaf (.inl (!x2))))) ( .leaf (.inl false))) ( .leaf (.inl false))) ( .leaf (.inl false))) ( .leaf (.inl false))) ( .leaf (.inl false))
noncomputable def Z9r (a0:Z8):Option Bool:=Z05 ZdA (.b0 a0)
noncomputable def Zxq:Mod U:=⟨[44],4,fun x=>Z9r x.1,by decide⟩
noncomputable def Zue:Z6j->Z08 U
 | .b0 a0=>Z0f Tryz.f20 [44] (a0,())
theorem Zro:Z0e 20 Tryz.f20 (mc Zmz (mc ZzV msN)) hsN AN 4 ZdA Zue
 | .b0 _=>by kernel_rfl
theorem Zjl:Z04 Tryz.prog B0 20 Zxq:=okP Zro (fun x=>.b0 x.1) (by kernel_rfl) Tryz.func20 (by kernel_rfl) (by kernel_rfl) (fun _=>rfl) (fun _=>rfl)
inductive Z2Y where
 | b0 (a0:Int)
 | b1 (a0 a1 a2:Int)
noncomputable def Z7O:Z2Y->Tr U (Int⊕Z2Y)
 | .b0 a0=>.leaf (.inr (.b1 a0 (0:Int) (0:Int)))
 | .b1 a0 a1 a2=>.br (decide (a2<(8:Int))) ( .leaf (.inr (.b1 (w64 (Int.tdiv a0 (2:Int))) (w64 ((w64 ((2:Int)*a1))+(Int.tmod a0 (2:Int)))) (w64 (a2+(1:Int)))))) ( .leaf (.inl a1))
noncomputable def Z4k (a0:Int):Option Int:=Z05 Z7O (.b0 a0)
noncomputable def ZnI:Mod U:=⟨[3],3,fun x=>Z4k x.1,by decide⟩
def Z9A:Lay:=⟨[0,3,4],[[.keep],[.keep],[.keep]],[],⟨[.one (.v 3 1 false),.one (.v 3 1 false),.one (.v 3 1 false)],[]⟩⟩
def Zok:Nat->Option Lay
 | 3=>some Z9A
 | _=>none
noncomputable def ZmK:Z2Y->Z08 U
 | .b0 a0=>Z0f Tryz.f227 [3] (a0,())
 | .b1 a0 a1 a2=>spL Tryz.f227 [1,1,0,1,0,0,0,0] Z9A (((a0,()),((a1,()),((a2,()),()))),())
theorem Zkl:Z0e 227 Tryz.f227 msN hsN Zok 3 Z7O ZmK
 | .b0 _=>by kernel_rfl
 | .b1 _ _ _=>by kernel_rfl
theorem Zm3:Z04 Tryz.prog B0 227 ZnI:=okP Zkl (fun x=>.b0 x.1) (by kernel_rfl) Tryz.func227 (by kernel_rfl) (by kernel_rfl) (fun _=>rfl) (fun _=>rfl)
inductive Z4F where
 | b0 (a0 a1:Int)
 | b1 (a0 a1 a2:Int)
noncomputable def Zas:Z4F->Tr U (Int⊕Z4F)
 | .b0 a0 a1=>.leaf (.inr (.b1 a1 (bits .xor .u16 a0 a1) (0:Int)))
 | .b1 a0 a1 a2=>.br (decide (a2<(3:Int))) ( .bind 3 (Z4k (w64 (Int.tdiv (w64 (a1)) (256:Int)))) (fun(x1:Int)=>.bind 3 (Z4k (Int.tmod (w64 (a1)) (256:Int))) (fun(x2:Int)=>.leaf (.inr (.b1 a0 (IntKind.wrap .u16 ((Int.tmod (w64 ((w64 ((17:Int)*(w64 ((w64 ((256:Int)*x1))+x2))))+(w64 (a0)))) (65536:Int)))) (w64 (a2+(1:Int)))))))) ( .leaf (.inl (bits .xor .u16 a1 a0)))
noncomputable def Z7k (a0 a1:Int):Option Int:=Z05 Zas (.b0 a0 a1)
noncomputable def ZsJ:Mod U:=⟨[30,30],30,fun x=>Z7k x.1 x.2.1,by decide⟩
def Zd9:Lay:=⟨[1,5,6],[[.keep],[.keep],[.keep]],[],⟨[.one (.v 30 1 false),.one (.v 30 1 false),.one (.v 3 1 false)],[]⟩⟩
def ZsO:Nat->Option Lay
 | 3=>some Zd9
 | _=>none
noncomputable def ZqE:Z4F->Z08 U
 | .b0 a0 a1=>Z0f Tryz.f139 [30,30] (a0,a1,())
 | .b1 a0 a1 a2=>spL Tryz.f139 [1,1,0,1,0,0,0,0] Zd9 (((a0,()),((a1,()),((a2,()),()))),())
theorem Zoi:Z0e 139 Tryz.f139 (mc Zm3 msN) hsN ZsO 30 Zas ZqE
 | .b0 _ _=>by kernel_rfl
 | .b1 _ _ _=>by kernel_rfl
theorem ZgW:Z04 Tryz.prog B0 139 ZsJ:=okP Zoi (fun x=>.b0 x.1 x.2.1) (by kernel_rfl) Tryz.func139 (by kernel_rfl) (by kernel_rfl) (fun _=>rfl) (fun _=>rfl)
inductive Z6J where
 | b0 (a0:Int)
noncomputable def Ze4:Z6J->Tr U (Int⊕Z6J)
 | .b0 a0=>.leaf (.inl (bits .xor .u16 (IntKind.wrap .u16 ((IntKind.wrap .u32 (Int.tdiv a0 (65536:Int))))) (IntKind.wrap .u16 ((Int.tmod a0 (65536:Int))))))
noncomputable def Z8W (a0:Int):Option Int:=Z05 Ze4 (.b0 a0)
noncomputable def ZxZ:Mod U:=⟨[22],30,fun x=>Z8W x.1,by decide⟩
noncomputable def ZuY:Z6J->Z08 U
 | .b0 a0=>Z0f Tryz.f140 [22] (a0,())
theorem Zrj:Z0e 140 Tryz.f140 msN hsN AN 30 Ze4 ZuY
 | .b0 _=>by kernel_rfl
theorem Zjm:Z04 Tryz.prog B0 140 ZxZ:=okP Zrj (fun x=>.b0 x.1) (by kernel_rfl) Tryz.func140 (by kernel_rfl) (by kernel_rfl) (fun _=>rfl) (fun _=>rfl)
inductive Zam where
 | b0 (a0 a1:Int)
 | b1 (a0:Int) (a1:List Int)
noncomputable def Zl9:Zam->Tr U (Int⊕Zam)
 | .b0 a0 a1=>.bind 226 (Z7Z a0) (fun(x1:List Int)=>.br (decide (a1<(0:Int))) ( .leaf (.inl (-1:Int))) ( .br (decide (a1>=(↑x1.length:Int))) ( .leaf (.inl (-1:Int))) ( .leaf (.inr (.b1 a1 x1)))))
 | .b1 a0 a1=>.chk (decide (0<=a0/\a0<(↑a1.length:Int))) ( .bind 3 (a1[(Int.toNat a0)]?) (fun(x1:Int)=>.leaf (.inl x1)))
noncomputable def ZgP (a0 a1:Int):Option Int:=Z05 Zl9 (.b0 a0 a1)
noncomputable def ZEa:Mod U:=⟨[26,3],3,fun x=>ZgP x.1 x.2.1,by decide⟩
def Zlo:Lay:=⟨[1,5],[[.keep],[.s 3 1]],[],⟨[.one (.v 3 1 false),.one (.v 226 1 false)],[]⟩⟩
def ZH4:Nat->Option Lay
 | 4=>some Zlo
 | _=>none
noncomputable def ZBN:Zam->Z08 U
 | .b0 a0 a1=>Z0f Tryz.f226 [26,3] (a0,a1,())
 | .b1 a0 a1=>spL Tryz.f226 [1,1,1,0] Zlo (((a0,()),((a1,()),())),())
theorem ZzX:Z0e 226 Tryz.f226 (mc ZeR msN) hsN ZH4 3 Zl9 ZBN
 | .b0 _ _=>by kernel_rfl
 | .b1 _ _=>by kernel_rfl
theorem ZpI:Z04 Tryz.prog B0 226 ZEa:=okP ZzX (fun x=>.b0 x.1 x.2.1) (by kernel_rfl) Tryz.func226 (by kernel_rfl) (by kernel_rfl) (fun _=>rfl) (fun _=>rfl)
inductive Za1 where
 | b0 (a0 a1 a2:Int)
noncomputable def Zme:Za1->Tr U (Int⊕Za1)
 | .b0 a0 a1 a2=>.bind 30 (Z8W a2) (fun(x1:Int)=>.bind 30 (Z7k a1 x1) (fun(x2:Int)=>.bind 4 (Zbq a0 (Int.tmod (w64 (x2)) (37:Int))) (fun(x3:Bool)=>.br x3 ( .leaf (.inl (Int.tmod (w64 (x2)) (37:Int)))) ( .bind 3 (Z6O a0) (fun(x4:Int)=>.bind 3 (ZgP a0 (w64 (Int.tdiv (w64 (x4*(w64 (x2)))) (65536:Int)))) (fun(x5:Int)=>.leaf (.inl x5)))))))
noncomputable def Zn9 (a0 a1 a2:Int):Option Int:=Z05 Zme (.b0 a0 a1 a2)
noncomputable def ZFa:Mod U:=⟨[26,30,22],3,fun x=>Zn9 x.1 x.2.1 x.2.2.1,by decide⟩
noncomputable def ZCU:Za1->Z08 U
 | .b0 a0 a1 a2=>Z0f Tryz.f138 [26,30,22] (a0,a1,a2,())
theorem Zws:Z0e 138 Tryz.f138 (mc ZgW (mc Zjm (mc Zbd (mc ZhJ (mc ZpI msN))))) hsN AN 3 Zme ZCU
 | .b0 _ _ _=>by kernel_rfl
theorem ZBb:Z04 Tryz.prog B0 138 ZFa:=okP Zws (fun x=>.b0 x.1 x.2.1 x.2.2.1) (by kernel_rfl) Tryz.func138 (by kernel_rfl) (by kernel_rfl) (fun _=>rfl) (fun _=>rfl)
end Go.Proofs.YtjodhcdmhobmoaaGreatDoor
namespace Go.Proofs.YtjodhcdmhobmoaaGreatDoor
open Go Go.Proofs.YtjodhcdmhobmoaaGreatDoor.Le
set_option maxRecDepth 100000
inductive Z8D where
 | b0 (a0 a1:Int)
noncomputable def ZhI:Z8D->Tr U (Int⊕Z8D)
 | .b0 a0 a1=>.leaf (.inl (Int.tmod (w64 ((w64 ((Int.tmod a0 (37:Int))+(Int.tmod a1 (37:Int))))+(74:Int))) (37:Int)))
noncomputable def ZhA (a0 a1:Int):Option Int:=Z05 ZhI (.b0 a0 a1)
noncomputable def ZB6:Mod U:=⟨[3,3],3,fun x=>ZhA x.1 x.2.1,by decide⟩
noncomputable def ZwP:Z8D->Z08 U
 | .b0 a0 a1=>Z0f Tryz.f141 [3,3] (a0,a1,())
theorem Zvp:Z0e 141 Tryz.f141 msN hsN AN 3 ZhI ZwP
 | .b0 _ _=>by kernel_rfl
theorem ZA1:Z04 Tryz.prog B0 141 ZB6:=okP Zvp (fun x=>.b0 x.1 x.2.1) (by kernel_rfl) Tryz.func141 (by kernel_rfl) (by kernel_rfl) (fun _=>rfl) (fun _=>rfl)
inductive Z6Q where
 | b0 (a0 a1:Int)
noncomputable def ZeE:Z6Q->Tr U (Int⊕Z6Q)
 | .b0 a0 a1=>.bind 4 (Zbq a0 (if (if (36:Int)<a1 then (36:Int) else a1)>(0:Int) then (if (36:Int)<a1 then (36:Int) else a1) else (0:Int))) (fun(x1:Bool)=>.br x1 ( .leaf (.inl (if (if (36:Int)<a1 then (36:Int) else a1)>(0:Int) then (if (36:Int)<a1 then (36:Int) else a1) else (0:Int)))) ( .bind 3 (Z6O a0) (fun(x2:Int)=>.br (x2==(0:Int)) ( .leaf (.inl (-1:Int))) ( .chk (x2 != 0) ( .bind 3 (ZgP a0 (Int.tmod (if (if (36:Int)<a1 then (36:Int) else a1)>(0:Int) then (if (36:Int)<a1 then (36:Int) else a1) else (0:Int)) x2)) (fun(x3:Int)=>.leaf (.inl x3)))))))
noncomputable def ZdP (a0 a1:Int):Option Int:=Z05 ZeE (.b0 a0 a1)
noncomputable def Zzg:Mod U:=⟨[26,3],3,fun x=>ZdP x.1 x.2.1,by decide⟩
noncomputable def Zvu:Z6Q->Z08 U
 | .b0 a0 a1=>Z0f Tryz.f142 [26,3] (a0,a1,())
theorem Zrx:Z0e 142 Tryz.f142 (mc Zbd (mc ZhJ (mc ZpI msN))) hsN AN 3 ZeE Zvu
 | .b0 _ _=>by kernel_rfl
theorem ZsN:Z04 Tryz.prog B0 142 Zzg:=okP Zrx (fun x=>.b0 x.1 x.2.1) (by kernel_rfl) Tryz.func142 (by kernel_rfl) (by kernel_rfl) (fun _=>rfl) (fun _=>rfl)
inductive Z8c where
 | b0 (a0:ZG) (a1 a2:Int)
noncomputable def Zim:Z8c->Tr U ((Int×Int)⊕Z8c)
 | .b0 a0 a1 a2=>.br (a0.Z73==(2:Int)) ( .bind 3 (Zn9 a0.Map a1 a0.ZfK) (fun(x1:Int)=>.bind 30 (Z8W a0.ZfK) (fun(x2:Int)=>.bind 30 (Z7k a1 x2) (fun(x3:Int)=>.leaf (.inl (x1,(Int.tmod (w64 (x3)) (37:Int)))))))) ( .bind 3 (ZhA a2 a0.Hop) (fun(x4:Int)=>.bind 3 (ZdP a0.Map x4) (fun(x5:Int)=>.leaf (.inl (x5,x4)))))
noncomputable def ZbP (a0:ZG) (a1 a2:Int):Option (Int×Int):=Z05 Zim (.b0 a0 a1 a2)
noncomputable def ZB0:Mod U:=⟨[28,30,3],104,fun x=>ZbP x.1 x.2.1 x.2.2.1,by decide⟩
noncomputable def ZxX:Z8c->Z08 U
 | .b0 a0 a1 a2=>Z0f Tryz.f54 [28,30,3] (a0,a1,a2,())
theorem Zwe:Z0e 54 Tryz.f54 (mc ZBb (mc ZgW (mc Zjm (mc ZA1 (mc ZsN msN))))) hsN AN 104 Zim ZxX
 | .b0 _ _ _=>by kernel_rfl
theorem Zl2:Z04 Tryz.prog B0 54 ZB0:=okP Zwe (fun x=>.b0 x.1 x.2.1 x.2.2.1) (by kernel_rfl) Tryz.func54 (by kernel_rfl) (by kernel_rfl) (fun _=>rfl) (fun _=>rfl)
inductive Z3k where
 | b0 (a0:Z8)
noncomputable def Z9y:Z3k->Tr U (Int⊕Z3k)
 | .b0 a0=>.bind 104 (ZbP a0.ZX a0.Event a0.Last) (fun(x1:Int×Int)=>.leaf (.inl x1.1))
noncomputable def Z5L (a0:Z8):Option Int:=Z05 Z9y (.b0 a0)
noncomputable def Zq6:Mod U:=⟨[44],3,fun x=>Z5L x.1,by decide⟩
noncomputable def Zol:Z3k->Z08 U
 | .b0 a0=>Z0f Tryz.f16 [44] (a0,())
theorem ZmT:Z0e 16 Tryz.f16 (mc Zl2 msN) hsN AN 3 Z9y Zol
 | .b0 _=>by kernel_rfl
theorem Zcy:Z04 Tryz.prog B0 16 Zq6:=okP ZmT (fun x=>.b0 x.1) (by kernel_rfl) Tryz.func16 (by kernel_rfl) (by kernel_rfl) (fun _=>rfl) (fun _=>rfl)
inductive Z6v where
 | b0 (a0:Z7)
noncomputable def ZeU:Z6v->Tr U (Bool⊕Z6v)
 | .b0 a0=>.br (decide (a0.Z1W>=(1:Int))) ( .leaf (.inl (decide (a0.Z1W<=(3:Int))))) ( .leaf (.inl false))
noncomputable def Z9j (a0:Z7):Option Bool:=Z05 ZeU (.b0 a0)
noncomputable def Zyy:Mod U:=⟨[39],4,fun x=>Z9j x.1,by decide⟩
noncomputable def Zvy:Z6v->Z08 U
 | .b0 a0=>Z0f Tryz.f162 [39] (a0,())
theorem ZrQ:Z0e 162 Tryz.f162 msN hsN AN 4 ZeU Zvy
 | .b0 _=>by kernel_rfl
theorem Zj9:Z04 Tryz.prog B0 162 Zyy:=okP ZrQ (fun x=>.b0 x.1) (by kernel_rfl) Tryz.func162 (by kernel_rfl) (by kernel_rfl) (fun _=>rfl) (fun _=>rfl)
inductive Z3o where
 | b0 (a0:Int)
noncomputable def Z8O:Z3o->Tr U (Bool⊕Z3o)
 | .b0 a0=>.br (a0==(3:Int)) ( .leaf (.inl true)) ( .br (a0==(4:Int)) ( .leaf (.inl true)) ( .br (a0==(5:Int)) ( .leaf (.inl true)) ( .br (a0==(6:Int)) ( .leaf (.inl true)) ( .leaf (.inl (a0==(13:Int)))))))
noncomputable def Z9k (a0:Int):Option Bool:=Z05 Z8O (.b0 a0)
noncomputable def ZqF:Mod U:=⟨[3],4,fun x=>Z9k x.1,by decide⟩
noncomputable def Zop:Z3o->Z08 U
 | .b0 a0=>Z0f Tryz.f163 [3] (a0,())
theorem Znq:Z0e 163 Tryz.f163 msN hsN AN 4 Z8O Zop
 | .b0 _=>by kernel_rfl
theorem ZoL:Z04 Tryz.prog B0 163 ZqF:=okP Znq (fun x=>.b0 x.1) (by kernel_rfl) Tryz.func163 (by kernel_rfl) (by kernel_rfl) (fun _=>rfl) (fun _=>rfl)
inductive Z4s where
 | b0 (a0:Int)
 | b1 (a0:Zd)
 | b2 (a0:Int) (a1:Zd)
 | b3 (a0:Zd)
 | b4 (a0:Int) (a1:Zd)
 | b5 (a0:Zd)
 | b6 (a0:Zd)
noncomputable def Zbk:Z4s->Tr U (Zd⊕Z4s)
 | .b0 a0=>.br (a0==(0:Int)) ( .leaf (.inl (⟨true,true,false,true,false,false,false,false,false,false,false⟩:Zd))) ( .br (a0==(1:Int)) ( .leaf (.inl (⟨true,false,true,true,false,false,false,false,false,false,false⟩:Zd))) ( .br (a0==(2:Int)) ( .leaf (.inl (⟨true,false,false,false,true,false,false,false,false,false,false⟩:Zd))) ( .br (a0==(3:Int)) ( .leaf (.inl (⟨true,false,false,false,false,false,true,true,false,false,false⟩:Zd))) ( .br (a0==(4:Int)) ( .leaf (.inl (⟨true,false,false,false,false,false,true,false,false,false,false⟩:Zd))) ( .br (a0==(5:Int)) ( .br (a0==(5:Int)) ( .leaf (.inr (.b1 Z0c))) ( .leaf (.inr (.b2 a0 Z0c)))) ( .br (a0==(6:Int)) ( .br (a0==(6:Int)) ( .leaf (.inr (.b1 Z0c))) ( .leaf (.inr (.b2 a0 Z0c)))) ( .br (a0==(18:Int)) ( .br (a0==(18:Int)) ( .leaf (.inr (.b1 Z0c))) ( .leaf (.inr (.b2 a0 Z0c)))) ( .br (a0==(19:Int)) ( .leaf (.inr (.b1 Z0c))) ( .leaf (.inr (.b2 a0 Z0c)))))))))))
 | .b1 a0=>.leaf (.inl (⟨true,false,false,false,false,false,false,false,false,false,false⟩:Zd))
 | .b2 a0 a1=>.br (a0==(7:Int)) ( .leaf (.inl (⟨true,false,false,false,false,true,false,false,false,false,false⟩:Zd))) ( .br (a0==(8:Int)) ( .br (a0==(8:Int)) ( .leaf (.inr (.b3 a1))) ( .leaf (.inr (.b4 a0 a1)))) ( .br (a0==(9:Int)) ( .leaf (.inr (.b3 a1))) ( .leaf (.inr (.b4 a0 a1)))))
 | .b3 a0=>.leaf (.inl (⟨true,false,false,false,false,false,false,false,true,false,false⟩:Zd))
 | .b4 a0 a1=>.br (a0==(12:Int)) ( .leaf (.inl (⟨true,false,false,false,false,false,false,false,false,true,false⟩:Zd))) ( .br (a0==(13:Int)) ( .leaf (.inl (⟨true,false,false,false,true,true,false,false,false,false,false⟩:Zd))) ( .br (a0==(15:Int)) ( .leaf (.inl (⟨true,true,false,false,false,false,false,false,false,false,false⟩:Zd))) ( .br (a0==(20:Int)) ( .br (a0==(20:Int)) ( .leaf (.inr (.b5 a1))) ( .leaf (.inr (.b6 a1)))) ( .br (a0==(21:Int)) ( .leaf (.inr (.b5 a1))) ( .leaf (.inr (.b6 a1)))))))
 | .b5 a0=>.leaf (.inl (⟨true,false,false,false,false,false,false,false,false,false,true⟩:Zd))
 | .b6 a0=>.leaf (.inl Z0c)
noncomputable def Z06 (a0:Int):Option Zd:=Z05 Zbk (.b0 a0)
noncomputable def Zvt:Mod U:=⟨[3],262,fun x=>Z06 x.1,by decide⟩
def ZcA:Lay:=⟨[2],[[.keep]],[.var k3],⟨[.one (.ptr 0)],[.var 262 11 (.agg [.v 262 11 true])]⟩⟩
def Zda:Lay:=⟨[2,3],[[.keep],[.keep]],[.var k3],⟨[.one (.ptr 0),.one (.v 3 1 false)],[.var 262 11 (.agg [.v 262 11 true])]⟩⟩
def ZcB:Lay:=⟨[2],[[.keep]],[.var k3],⟨[.one (.ptr 0)],[.var 262 11 (.agg [.v 262 11 true])]⟩⟩
def ZcM:Lay:=⟨[2,3],[[.keep],[.keep]],[.var k3],⟨[.one (.ptr 0),.one (.v 3 1 false)],[.var 262 11 (.agg [.v 262 11 true])]⟩⟩
def ZcX:Lay:=⟨[2],[[.keep]],[.var k3],⟨[.one (.ptr 0)],[.var 262 11 (.agg [.v 262 11 true])]⟩⟩
def Zcm:Lay:=⟨[2],[[.keep]],[.var k3],⟨[.one (.ptr 0)],[.var 262 11 (.agg [.v 262 11 true])]⟩⟩
def ZvJ:Nat->Option Lay
 | 16=>some ZcA
 | 17=>some Zda
 | 21=>some ZcB
 | 22=>some ZcM
 | 30=>some ZcX
 | 31=>some Zcm
 | _=>none
noncomputable def Zs5:Z4s->Z08 U
 | .b0 a0=>Z0f Tryz.f240 [3] (a0,())
 | .b1 a0=>spL Tryz.f240 [1,0,1,0,1,1,1,1,1,1,1,1,1,1,1,0,0] ZcA (((),()),((a0,()),()))
 | .b2 a0 a1=>spL Tryz.f240 [1,0,1,0,1,1,1,1,1,1,1,1,1,1,1,1,0] Zda (((),((a0,()),())),((a1,()),()))
 | .b3 a0=>spL Tryz.f240 [1,0,1,0,1,1,1,1,1,1,1,1,1,1,1,1,1,1,1,0,0] ZcB (((),()),((a0,()),()))
 | .b4 a0 a1=>spL Tryz.f240 [1,0,1,0,1,1,1,1,1,1,1,1,1,1,1,1,1,1,1,1,0] ZcM (((),((a0,()),())),((a1,()),()))
 | .b5 a0=>spL Tryz.f240 [1,0,1,0,1,1,1,1,1,1,1,1,1,1,1,1,1,1,1,1,1,1,1,1,1,1,1,0,0] ZcX (((),()),((a0,()),()))
 | .b6 a0=>spL Tryz.f240 [1,1,0] Zcm (((),()),((a0,()),()))
theorem Zom:Z0e 240 Tryz.f240 msN hsN ZvJ 262 Zbk Zs5
 | .b0 _=>by kernel_rfl
 | .b1 _=>by kernel_rfl
 | .b2 _ _=>by kernel_rfl
 | .b3 _=>by kernel_rfl
 | .b4 _ _=>by kernel_rfl
 | .b5 _=>by kernel_rfl
 | .b6 _=>by kernel_rfl
theorem Z1v:Z04 Tryz.prog B0 240 Zvt:=okP Zom (fun x=>.b0 x.1) (by kernel_rfl) Tryz.func240 (by kernel_rfl) (by kernel_rfl) (fun _=>rfl) (fun _=>rfl)
inductive Z8x where
 | b0 (a0:Z4)
 | b1 (a0 a1:Z4) (a2:Zd)
 | b2 (a0 a1:Z4) (a2:Zd)
 | b3 (a0 a1:Z4) (a2:Zd)
 | b4 (a0 a1:Z4) (a2:Zd)
 | b5 (a0 a1:Z4) (a2:Zd)
 | b6 (a0 a1:Z4) (a2:Zd)
 | b7 (a0 a1:Z4) (a2:Zd)
 | b8 (a0 a1:Z4) (a2:Zd)
 | b9 (a0 a1:Z4) (a2:Zd)
noncomputable def ZhC:Z8x->Tr U (Z4⊕Z8x)
 | .b0 a0=>.bind 262 (Z06 a0.Kind) (fun(x1:Zd)=>.br x1.ZI ( .leaf (.inr (.b1 ({ a0 with Kind:=(0:Int),ZI:=Zu }:Z4) Z0b x1))) ( .leaf (.inr (.b1 ({ a0 with Kind:=(0:Int) }:Z4) Z0b x1))))
 | .b1 a0 a1 a2=>.br a2.Map ( .leaf (.inr (.b2 ({ a0 with Map:=(0:Int) }:Z4) a1 a2))) ( .leaf (.inr (.b2 a0 a1 a2)))
 | .b2 a0 a1 a2=>.br a2.Z0u ( .leaf (.inr (.b3 ({ a0 with Z0u:=(0:Int) }:Z4) a1 a2))) ( .leaf (.inr (.b3 a0 a1 a2)))
 | .b3 a0 a1 a2=>.br a2.ZL ( .leaf (.inr (.b4 ({ a0 with ZL:=(0:Int) }:Z4) a1 a2))) ( .leaf (.inr (.b4 a0 a1 a2)))
 | .b4 a0 a1 a2=>.br a2.Z0C ( .leaf (.inr (.b5 ({ a0 with Z0C:=(0:Int) }:Z4) a1 a2))) ( .leaf (.inr (.b5 a0 a1 a2)))
 | .b5 a0 a1 a2=>.br a2.Z4h ( .leaf (.inr (.b6 ({ a0 with Z4h:=(0:Int) }:Z4) a1 a2))) ( .leaf (.inr (.b6 a0 a1 a2)))
 | .b6 a0 a1 a2=>.br a2.Mark ( .leaf (.inr (.b7 ({ a0 with Mark:=(0:Int) }:Z4) a1 a2))) ( .leaf (.inr (.b7 a0 a1 a2)))
 | .b7 a0 a1 a2=>.br a2.ZQ ( .leaf (.inr (.b8 ({ a0 with ZQ:=(0:Int) }:Z4) a1 a2))) ( .leaf (.inr (.b8 a0 a1 a2)))
 | .b8 a0 a1 a2=>.br a2.Version ( .leaf (.inr (.b9 ({ a0 with Version:=(0:Int) }:Z4) a1 a2))) ( .leaf (.inr (.b9 a0 a1 a2)))
 | .b9 a0 a1 a2=>.br a2.Length ( .leaf (.inl ({ a0 with Length:=(0:Int) }:Z4))) ( .leaf (.inl a0))
noncomputable def Zir (a0:Z4):Option Z4:=Z05 ZhC (.b0 a0)
noncomputable def ZDi:Mod U:=⟨[156],156,fun x=>Zir x.1,by decide⟩
def Zk1:Lay:=⟨[1,2,3],[[.keep],[.keep],[.keep]],[.var k2,.var k2,.var k3],⟨[.one (.ptr 0),.one (.ptr 1),.one (.ptr 2)],[.var 156 15 (.agg [.v 156 15 true]),.var 156 15 (.agg [.v 156 15 true]),.var 262 11 (.agg [.v 262 11 true])]⟩⟩
def Zk3:Lay:=⟨[1,2,3],[[.keep],[.keep],[.keep]],[.var k2,.var k2,.var k3],⟨[.one (.ptr 0),.one (.ptr 1),.one (.ptr 2)],[.var 156 15 (.agg [.v 156 15 true]),.var 156 15 (.agg [.v 156 15 true]),.var 262 11 (.agg [.v 262 11 true])]⟩⟩
def ZjS:Lay:=⟨[1,2,3],[[.keep],[.keep],[.keep]],[.var k2,.var k2,.var k3],⟨[.one (.ptr 0),.one (.ptr 1),.one (.ptr 2)],[.var 156 15 (.agg [.v 156 15 true]),.var 156 15 (.agg [.v 156 15 true]),.var 262 11 (.agg [.v 262 11 true])]⟩⟩
def Zje:Lay:=⟨[1,2,3],[[.keep],[.keep],[.keep]],[.var k2,.var k2,.var k3],⟨[.one (.ptr 0),.one (.ptr 1),.one (.ptr 2)],[.var 156 15 (.agg [.v 156 15 true]),.var 156 15 (.agg [.v 156 15 true]),.var 262 11 (.agg [.v 262 11 true])]⟩⟩
def Zk4:Lay:=⟨[1,2,3],[[.keep],[.keep],[.keep]],[.var k2,.var k2,.var k3],⟨[.one (.ptr 0),.one (.ptr 1),.one (.ptr 2)],[.var 156 15 (.agg [.v 156 15 true]),.var 156 15 (.agg [.v 156 15 true]),.var 262 11 (.agg [.v 262 11 true])]⟩⟩
def ZjE:Lay:=⟨[1,2,3],[[.keep],[.keep],[.keep]],[.var k2,.var k2,.var k3],⟨[.one (.ptr 0),.one (.ptr 1),.one (.ptr 2)],[.var 156 15 (.agg [.v 156 15 true]),.var 156 15 (.agg [.v 156 15 true]),.var 262 11 (.agg [.v 262 11 true])]⟩⟩
def ZjA:Lay:=⟨[1,2,3],[[.keep],[.keep],[.keep]],[.var k2,.var k2,.var k3],⟨[.one (.ptr 0),.one (.ptr 1),.one (.ptr 2)],[.var 156 15 (.agg [.v 156 15 true]),.var 156 15 (.agg [.v 156 15 true]),.var 262 11 (.agg [.v 262 11 true])]⟩⟩
def Zjp:Lay:=⟨[1,2,3],[[.keep],[.keep],[.keep]],[.var k2,.var k2,.var k3],⟨[.one (.ptr 0),.one (.ptr 1),.one (.ptr 2)],[.var 156 15 (.agg [.v 156 15 true]),.var 156 15 (.agg [.v 156 15 true]),.var 262 11 (.agg [.v 262 11 true])]⟩⟩
def ZjB:Lay:=⟨[1,2,3],[[.keep],[.keep],[.keep]],[.var k2,.var k2,.var k3],⟨[.one (.ptr 0),.one (.ptr 1),.one (.ptr 2)],[.var 156 15 (.agg [.v 156 15 true]),.var 156 15 (.agg [.v 156 15 true]),.var 262 11 (.agg [.v 262 11 true])]⟩⟩
def ZCW:Nat->Option Lay
 | 5=>some Zk1
 | 7=>some Zk3
 | 9=>some ZjS
 | 11=>some Zje
 | 13=>some Zk4
 | 15=>some ZjE
 | 17=>some ZjA
 | 19=>some Zjp
 | 21=>some ZjB
 | _=>none
noncomputable def ZxM:Z8x->Z08 U
 | .b0 a0=>Z0f Tryz.f325 [156] (a0,())
 | .b1 a0 a1 a2=>spL Tryz.f325 [1,1,1,1,0,0] Zk1 (((),((),((),()))),((a0,()),((a1,()),((a2,()),()))))
 | .b2 a0 a1 a2=>spL Tryz.f325 [1,1,1,1,1,0,0] Zk3 (((),((),((),()))),((a0,()),((a1,()),((a2,()),()))))
 | .b3 a0 a1 a2=>spL Tryz.f325 [1,1,1,1,1,1,0,0] ZjS (((),((),((),()))),((a0,()),((a1,()),((a2,()),()))))
 | .b4 a0 a1 a2=>spL Tryz.f325 [1,1,1,1,1,1,1,0,0] Zje (((),((),((),()))),((a0,()),((a1,()),((a2,()),()))))
 | .b5 a0 a1 a2=>spL Tryz.f325 [1,1,1,1,1,1,1,1,0,0] Zk4 (((),((),((),()))),((a0,()),((a1,()),((a2,()),()))))
 | .b6 a0 a1 a2=>spL Tryz.f325 [1,1,1,1,1,1,1,1,1,0,0] ZjE (((),((),((),()))),((a0,()),((a1,()),((a2,()),()))))
 | .b7 a0 a1 a2=>spL Tryz.f325 [1,1,1,1,1,1,1,1,1,1,0,0] ZjA (((),((),((),()))),((a0,()),((a1,()),((a2,()),()))))
 | .b8 a0 a1 a2=>spL Tryz.f325 [1,1,1,1,1,1,1,1,1,1,1,0,0] Zjp (((),((),((),()))),((a0,()),((a1,()),((a2,()),()))))
 | .b9 a0 a1 a2=>spL Tryz.f325 [1,1,1,1,1,1,1,1,1,1,1,1,0,0] ZjB (((),((),((),()))),((a0,()),((a1,()),((a2,()),()))))
theorem ZvK:Z0e 325 Tryz.f325 (mc Z1v msN) hsN ZCW 156 ZhC ZxM
 | .b0 _=>by kernel_rfl
 | .b1 _ _ _=>by kernel_rfl
 | .b2 _ _ _=>by kernel_rfl
 | .b3 _ _ _=>by kernel_rfl
 | .b4 _ _ _=>by kernel_rfl
 | .b5 _ _ _=>by kernel_rfl
 | .b6 _ _ _=>by kernel_rfl
 | .b7 _ _ _=>by kernel_rfl
 | .b8 _ _ _=>by kernel_rfl
 | .b9 _ _ _=>by kernel_rfl
theorem ZxG:Z04 Tryz.prog B0 325 ZDi:=okP ZvK (fun x=>.b0 x.1) (by kernel_rfl) Tryz.func325 (by kernel_rfl) (by kernel_rfl) (fun _=>rfl) (fun _=>rfl)
inductive Z4y where
 | b0 (a0:Int)
noncomputable def Zad:Z4y->Tr U (Bool⊕Z4y)
 | .b0 a0=>.br (decide (a0>=(0:Int))) ( .leaf (.inl (decide (a0<=(255:Int))))) ( .leaf (.inl false))
noncomputable def Z4J (a0:Int):Option Bool:=Z05 Zad (.b0 a0)
noncomputable def Ztd:Mod U:=⟨[3],4,fun x=>Z4J x.1,by decide⟩
noncomputable def ZrO:Z4y->Z08 U
 | .b0 a0=>Z0f Tryz.f326 [3] (a0,())
theorem ZnF:Z0e 326 Tryz.f326 msN hsN AN 4 Zad ZrO
 | .b0 _=>by kernel_rfl
theorem Zqi:Z04 Tryz.prog B0 326 Ztd:=okP ZnF (fun x=>.b0 x.1) (by kernel_rfl) Tryz.func326 (by kernel_rfl) (by kernel_rfl) (fun _=>rfl) (fun _=>rfl)
inductive Z62 where
 | b0 (a0:Z4)
 | b1 (a0:Z4) (a1:Zd)
 | b2 (a0:Z4) (a1:Zd)
noncomputable def ZdG:Z62->Tr U (Int⊕Z62)
 | .b0 a0=>.bind 262 (Z06 a0.Kind) (fun(x1:Zd)=>.br (!x1.Z40) ( .leaf (.inl (12:Int))) ( .bind 156 (Zir a0) (fun(x2:Z4)=>.br (!((x2.Kind==(0:Int))&&((x2.ZI.Z3B==(0:Int))&&((x2.ZI.Z1h==(0:Int))&&((x2.ZI.Z1z==(0:Int))&&((x2.ZI.Z1o==(0:Int))&&((x2.ZI.Z4b==(0:Int))&&((x2.Map==(0:Int))&&((x2.Z0u==(0:Int))&&((x2.ZL==(0:Int))&&((x2.Z0C==(0:Int))&&((x2.Z4h==(0:Int))&&((x2.Mark==(0:Int))&&((x2.ZQ==(0:Int))&&((x2.Version==(0:Int))&&((x2.Length==(0:Int))&&true)))))))))))))))) ( .leaf (.inl (1:Int))) ( .br x1.ZI ( .bind 45 (Z2N a0.ZI) (fun(x3:Int)=>.br (x3 != (0:Int)) ( .leaf (.inl x3)) ( .leaf (.inr (.b1 a0 x1))))) ( .leaf (.inr (.b1 a0 x1)))))))
 | .b1 a0 a1=>.br a1.Map ( .bind 45 (Z9n a0.Map) (fun(x1:Int)=>.br (x1 != (0:Int)) ( .leaf (.inl x1)) ( .leaf (.inr (.b2 a0 a1))))) ( .leaf (.inr (.b2 a0 a1)))
 | .b2 a0 a1=>.bind 4 (Z4J a0.ZL) (fun(x1:Bool)=>.br (!x1) ( .leaf (.inl (5:Int))) ( .bind 4 (Z4J a0.Z0C) (fun(x2:Bool)=>.br (!x2) ( .leaf (.inl (5:Int))) ( .bind 4 (Z4J a0.Version) (fun(x3:Bool)=>.br (!x3) ( .leaf (.inl (5:Int))) ( .br a1.Length ( .br (decide (a0.Length<(27:Int))) ( .leaf (.inl (5:Int))) ( .br (decide (a0.Length>(251:Int))) ( .leaf (.inl (5:Int))) ( .leaf (.inl (0:Int))))) ( .leaf (.inl (0:Int)))))))))
noncomputable def Z65 (a0:Z4):Option Int:=Z05 ZdG (.b0 a0)
noncomputable def Zwp:Mod U:=⟨[156],45,fun x=>Z65 x.1,by decide⟩
def Zgk:Lay:=⟨[1,3],[[.keep],[.keep]],[.var k2,.var k3],⟨[.one (.ptr 0),.one (.ptr 1)],[.var 156 15 (.agg [.v 156 15 true]),.var 262 11 (.agg [.v 262 11 true])]⟩⟩
def ZgC:Lay:=⟨[1,3],[[.keep],[.keep]],[.var k2,.var k3],⟨[.one (.ptr 0),.one (.ptr 1)],[.var 156 15 (.agg [.v 156 15 true]),.var 262 11 (.agg [.v 262 11 true])]⟩⟩
def ZwJ:Nat->Option Lay
 | 10=>some Zgk
 | 14=>some ZgC
 | _=>none
noncomputable def Zw2:Z62->Z08 U
 | .b0 a0=>Z0f Tryz.f239 [156] (a0,())
 | .b1 a0 a1=>spL Tryz.f239 [1,1,1,1,1,0,0] Zgk (((),((),())),((a0,()),((a1,()),())))
 | .b2 a0 a1=>spL Tryz.f239 [1,1,1,1,1,1,0,0] ZgC (((),((),())),((a0,()),((a1,()),())))
theorem Zs9:Z0e 239 Tryz.f239 (mc Z7D (mc Zju (mc Z1v (mc ZxG (mc Zqi msN))))) hsN ZwJ 45 ZdG Zw2
 | .b0 _=>by kernel_rfl
 | .b1 _ _=>by kernel_rfl
 | .b2 _ _=>by kernel_rfl
theorem Za0:Z04 Tryz.prog B0 239 Zwp:=okP Zs9 (fun x=>.b0 x.1) (by kernel_rfl) Tryz.func239 (by kernel_rfl) (by kernel_rfl) (fun _=>rfl) (fun _=>rfl)
inductive ZaH where
 | b0 (a0 a1:Int)
 | b1 (a0 a1:Int) (a2:List Int) (a3:Int)
noncomputable def Zlu:ZaH->Tr U (Z0V⊕ZaH)
 | .b0 a0 a1=>.chk (([]:List Int).length==0) ( .leaf (.inr (.b1 a0 a1 ([]:List Int) (0:Int))))
 | .b1 a0 a1 a2 a3=>.br (decide (a3<a1)) ( .chk (([(IntKind.wrap .u8 ((Int.tmod a0 (256:Int))))]).length==1) ( .chk (a2.length==a2.length) ( .chk (decide ((a2.length+([(IntKind.wrap .u8 ((Int.tmod a0 (256:Int))))]).length)*1<=lim)&&decide (a2.length+([(IntKind.wrap .u8 ((Int.tmod a0 (256:Int))))]).length<=maxLen)) ( .chk ((a2++[(IntKind.wrap .u8 ((Int.tmod a0 (256:Int))))]).length==(a2++[(IntKind.wrap .u8 ((Int.tmod a0 (256:Int))))]).length) ( .leaf (.inr (.b1 (IntKind.wrap .u64 (Int.tdiv a0 (256:Int))) a1 (a2++[(IntKind.wrap .u8 ((Int.tmod a0 (256:Int))))]) (w64 (a3+(1:Int)))))))))) ( .chk (a2.length==a2.length) ( .leaf (.inl (⟨a2⟩:Z0V))))
noncomputable def Z2g (a0 a1:Int):Option Z0V:=Z05 Zlu (.b0 a0 a1)
def Zmt:Shape:=⟨[.one (.v 25 1 false),.one (.v 3 1 false)],[]⟩
noncomputable def Zt5:HMod U:=⟨[[.keep],[.keep]],[],Zmt,⟨[.one (.own 5 0)],[.row 5 true]⟩,true,1349,fun(y:Z0V)=>(((),()),(y.q0,())),fun x=>Z2g x.1.1.1 x.1.2.1.1,⟨⟨⟨by decide,fun _=>rfl⟩,⟨⟨by decide,fun _=>rfl⟩,trivial⟩⟩,trivial⟩⟩
def ZlO:Lay:=⟨[0,1,5,6],[[.keep],[.keep],[.own 5 1],[.keep]],[.row true],⟨[.one (.v 25 1 false),.one (.v 3 1 false),.one (.own 5 0),.one (.v 3 1 false)],[.row 5 true]⟩⟩
def ZEH:Nat->Option Lay
 | 3=>some ZlO
 | _=>none
noncomputable def ZCA:ZaH->Z08 U
 | .b0 a0 a1=>ZJp Tryz.f242 Zmt (((a0,()),((a1,()),())),())
 | .b1 a0 a1 a2 a3=>spL Tryz.f242 [1,1,0,1,0,0,0,0] ZlO (((a0,()),((a1,()),((),((a3,()),())))),(a2,()))
theorem ZzY:ZK4 242 Tryz.f242 msN hsN ZEH [[.own 5 1]] [.row true] 0 Zt5 Zlu ZCA
 | .b0 _ _=>by kernel_rfl
 | .b1 _ _ _ _=>by kernel_rfl
theorem ZpF:Z5J Tryz.prog B0 242 Zt5:=okH ZzY (fun x=>.b0 x.1.1.1 x.1.2.1.1) (fun x=>by kernel_rfl) (by kernel_rfl) Tryz.func242 (by kernel_rfl) (by kernel_rfl) (fun x=>by kernel_rfl) (fun x=>by kernel_rfl)
inductive Z2y where
 | b0 (a0:ZO)
noncomputable def Z72:Z2y->Tr U ((List Int)⊕Z2y)
 | .b0 a0=>.bind 1349 (Z2g (IntKind.wrap .u64 (a0.Z3B)) (1:Int)) (fun(y1:Z0V)=>.bind 1349 (Z2g (IntKind.wrap .u64 (a0.Z1h)) (2:Int)) (fun(y2:Z0V)=>.chk (y2.q0.length==y2.q0.length) ( .chk (y1.q0.length==y1.q0.length) ( .chk (decide ((y1.q0.length+y2.q0.length)*1<=lim)&&decide (y1.q0.length+y2.q0.length<=maxLen)) ( .bind 1349 (Z2g (IntKind.wrap .u64 (a0.Z1z)) (2:Int)) (fun(y3:Z0V)=>.chk (y3.q0.length==y3.q0.length) ( .chk ((y1.q0++y2.q0).length==(y1.q0++y2.q0).length) ( .chk (decide (((y1.q0++y2.q0).length+y3.q0.length)*1<=lim)&&decide ((y1.q0++y2.q0).length+y3.q0.length<=maxLen)) ( .bind 1349 (Z2g (IntKind.wrap .u64 (a0.Z1o)) (2:Int)) (fun(y4:Z0V)=>.chk (y4.q0.length==y4.q0.length) ( .chk (((y1.q0++y2.q0)++y3.q0).length==((y1.q0++y2.q0)++y3.q0).length) ( .chk (decide ((((y1.q0++y2.q0)++y3.q0).length+y4.q0.length)*1<=lim)&&decide (((y1.q0++y2.q0)++y3.q0).length+y4.q0.length<=maxLen)) ( .bind 1349 (Z2g (IntKind.wrap .u64 (a0.Z4b)) (2:Int)) (fun(y5:Z0V)=>.chk (y5.q0.length==y5.q0.length) ( .chk ((((y1.q0++y2.q0)++y3.q0)++y4.q0).length==(((y1.q0++y2.q0)++y3.q0)++y4.q0).length) ( .chk (decide (((((y1.q0++y2.q0)++y3.q0)++y4.q0).length+y5.q0.length)*1<=lim)&&decide ((((y1.q0++y2.q0)++y3.q0)++y4.q0).length+y5.q0.length<=maxLen)) ( .chk (((((y1.q0++y2.q0)++y3.q0)++y4.q0)++y5.q0).length==((((y1.q0++y2.q0)++y3.q0)++y4.q0)++y5.q0).length) ( .leaf (.inl ((((y1.q0++y2.q0)++y3.q0)++y4.q0)++y5.q0))))))))))))))))))))
noncomputable def Z6k (a0:ZO):Option (List Int):=Z05 Z72 (.b0 a0)
noncomputable def Zm4:Mod U:=⟨[24],62,fun x=>Z6k x.1,by decide⟩
noncomputable def ZkB:Z2y->Z08 U
 | .b0 a0=>Z0f Tryz.f241 [24] (a0,())
theorem Zib:Z0e 241 Tryz.f241 msN (hc [] ZpF hsN) AN 62 Z72 ZkB
 | .b0 _=>by kernel_rfl
theorem ZkD:Z04 Tryz.prog B0 241 Zm4:=okP Zib (fun x=>.b0 x.1) (by kernel_rfl) Tryz.func241 (by kernel_rfl) (by kernel_rfl) (fun _=>rfl) (fun _=>rfl)
inductive Z4P where
 | b0 (a0:Z4)
 | b1 (a0:List Int) (a1:Z4) (a2:Zd)
 | b2 (a0:List Int) (a1:Z4) (a2:Zd)
 | b3 (a0:List Int) (a1:Z4) (a2:Zd)
 | b4 (a0:List Int) (a1:Z4) (a2:Zd)
 | b5 (a0:List Int) (a1:Z4) (a2:Zd)
 | b6 (a0:List Int) (a1:Z4) (a2:Zd)
 | b7 (a0:List Int) (a1:Z4) (a2:Zd)
 | b8 (a0:List Int) (a1:Z4) (a2:Zd)
 | b9 (a0:List Int) (a1:Z4) (a2:Zd)
noncomputable def Zan:Z4P->Tr U (((List Int)×Int)⊕Z4P)
 | .b0 a0=>.bind 45 (Z65 a0) (fun(x1:Int)=>.br (x1 != (0:Int)) ( .chk (([]:List Int).length==0) ( .leaf (.inl (([]:List Int),x1)))) ( .bind 262 (Z06 a0.Kind) (fun(x2:Zd)=>.br x2.ZI ( .bind 62 (Z6k a0.ZI) (fun(x3:List Int)=>.chk (([(IntKind.wrap .u8 (a0.Kind))]).length==1) ( .chk (decide ((1+x3.length)*1<=lim)&&decide (1+x3.length<=maxLen)) ( .chk (([(IntKind.wrap .u8 (a0.Kind))]++x3).length==([(IntKind.wrap .u8 (a0.Kind))]++x3).length) ( .leaf (.inr (.b1 ([(IntKind.wrap .u8 (a0.Kind))]++x3) a0 x2))))))) ( .chk (([(IntKind.wrap .u8 (a0.Kind))]).length==1) ( .leaf (.inr (.b1 ([(IntKind.wrap .u8 (a0.Kind))]) a0 x2)))))))
 | .b1 a0 a1 a2=>.br a2.Map ( .bind 1349 (Z2g a1.Map (5:Int)) (fun(y1:Z0V)=>.chk (y1.q0.length==y1.q0.length) ( .chk (a0.length==a0.length) ( .chk (decide ((a0.length+y1.q0.length)*1<=lim)&&decide (a0.length+y1.q0.length<=maxLen)) ( .chk ((a0++y1.q0).length==(a0++y1.q0).length) ( .leaf (.inr (.b2 (a0++y1.q0) a1 a2)))))))) ( .chk (a0.length==a0.length) ( .leaf (.inr (.b2 a0 a1 a2))))
 | .b2 a0 a1 a2=>.br a2.Z0u ( .bind 1349 (Z2g (IntKind.wrap .u64 (a1.Z0u)) (2:Int)) (fun(y1:Z0V)=>.chk (y1.q0.length==y1.q0.length) ( .chk (a0.length==a0.length) ( .chk (decide ((a0.length+y1.q0.length)*1<=lim)&&decide (a0.length+y1.q0.length<=maxLen)) ( .chk ((a0++y1.q0).length==(a0++y1.q0).length) ( .leaf (.inr (.b3 (a0++y1.q0) a1 a2)))))))) ( .chk (a0.length==a0.length) ( .leaf (.inr (.b3 a0 a1 a2))))
 | .b3 a0 a1 a2=>.br a2.ZL ( .chk (([(IntKind.wrap .u8 (a1.ZL))]).length==1) ( .chk (a0.length==a0.length) ( .chk (decide ((a0.length+([(IntKind.wrap .u8 (a1.ZL))]).length)*1<=lim)&&decide (a0.length+([(IntKind.wrap .u8 (a1.ZL))]).length<=maxLen)) ( .chk ((a0++[(IntKind.wrap .u8 (a1.ZL))]).length==(a0++[(IntKind.wrap .u8 (a1.ZL))]).length) ( .leaf (.inr (.b4 (a0++[(IntKind.wrap .u8 (a1.ZL))]) a1 a2))))))) ( .chk (a0.length==a0.length) ( .leaf (.inr (.b4 a0 a1 a2))))
 | .b4 a0 a1 a2=>.br a2.Z0C ( .chk (([(IntKind.wrap .u8 (a1.Z0C))]).length==1) ( .chk (a0.length==a0.length) ( .chk (decide ((a0.length+([(IntKind.wrap .u8 (a1.Z0C))]).length)*1<=lim)&&decide (a0.length+([(IntKind.wrap .u8 (a1.Z0C))]).length<=maxLen)) ( .chk ((a0++[(IntKind.wrap .u8 (a1.Z0C))]).length==(a0++[(IntKind.wrap .u8 (a1.Z0C))]).length) ( .leaf (.inr (.b5 (a0++[(IntKind.wrap .u8 (a1.Z0C))]) a1 a2))))))) ( .chk (a0.length==a0.length) ( .leaf (.inr (.b5 a0 a1 a2))))
 | .b5 a0 a1 a2=>.br a2.Z4h ( .bind 1349 (Z2g a1.Z4h (8:Int)) (fun(y1:Z0V)=>.chk (y1.q0.length==y1.q0.length) ( .chk (a0.length==a0.length) ( .chk (decide ((a0.length+y1.q0.length)*1<=lim)&&decide (a0.length+y1.q0.length<=maxLen)) ( .chk ((a0++y1.q0).length==(a0++y1.q0).length) ( .leaf (.inr (.b6 (a0++y1.q0) a1 a2)))))))) ( .chk (a0.length==a0.length) ( .leaf (.inr (.b6 a0 a1 a2))))
 | .b6 a0 a1 a2=>.br a2.Mark ( .bind 1349 (Z2g a1.Mark (8:Int)) (fun(y1:Z0V)=>.chk (y1.q0.length==y1.q0.length) ( .chk (a0.length==a0.length) ( .chk (decide ((a0.length+y1.q0.length)*1<=lim)&&decide (a0.length+y1.q0.length<=maxLen)) ( .chk ((a0++y1.q0).length==(a0++y1.q0).length) ( .leaf (.inr (.b7 (a0++y1.q0) a1 a2)))))))) ( .chk (a0.length==a0.length) ( .leaf (.inr (.b7 a0 a1 a2))))
 | .b7 a0 a1 a2=>.br a2.ZQ ( .bind 1349 (Z2g a1.ZQ (8:Int)) (fun(y1:Z0V)=>.chk (y1.q0.length==y1.q0.length) ( .chk (a0.length==a0.length) ( .chk (decide ((a0.length+y1.q0.length)*1<=lim)&&decide (a0.length+y1.q0.length<=maxLen)) ( .chk ((a0++y1.q0).length==(a0++y1.q0).length) ( .leaf (.inr (.b8 (a0++y1.q0) a1 a2)))))))) ( .chk (a0.length==a0.length) ( .leaf (.inr (.b8 a0 a1 a2))))
 | .b8 a0 a1 a2=>.br a2.Version ( .chk (([(IntKind.wrap .u8 (a1.Version))]).length==1) ( .chk (a0.length==a0.length) ( .chk (decide ((a0.length+([(IntKind.wrap .u8 (a1.Version))]).length)*1<=lim)&&decide (a0.length+([(IntKind.wrap .u8 (a1.Version))]).length<=maxLen)) ( .chk ((a0++[(IntKind.wrap .u8 (a1.Version))]).length==(a0++[(IntKind.wrap .u8 (a1.Version))]).length) ( .leaf (.inr (.b9 (a0++[(IntKind.wrap .u8 (a1.Version))]) a1 a2))))))) ( .chk (a0.length==a0.length) ( .leaf (.inr (.b9 a0 a1 a2))))
 | .b9 a0 a1 a2=>.br a2.Length ( .chk (([(IntKind.wrap .u8 (a1.Length))]).length==1) ( .chk (a0.length==a0.length) ( .chk (decide ((a0.length+([(IntKind.wrap .u8 (a1.Length))]).length)*1<=lim)&&decide (a0.length+([(IntKind.wrap .u8 (a1.Length))]).length<=maxLen)) ( .chk ((a0++[(IntKind.wrap .u8 (a1.Length))]).length==(a0++[(IntKind.wrap .u8 (a1.Length))]).length) ( .leaf (.inl ((a0++[(IntKind.wrap .u8 (a1.Length))]),(0:Int)))))))) ( .chk (a0.length==a0.length) ( .leaf (.inl (a0,(0:Int)))))
noncomputable def Za6 (a0:Z4):Option ((List Int)×Int):=Z05 Zan (.b0 a0)
noncomputable def Zst:Mod U:=⟨[156],120,fun x=>Za6 x.1,by decide⟩
def ZcY:Lay:=⟨[1,5,6],[[.keep],[.keep],[.own 5 1]],[.var k2,.var k3,.row true],⟨[.one (.ptr 0),.one (.ptr 1),.one (.own 5 2)],[.var 156 15 (.agg [.v 156 15 true]),.var 262 11 (.agg [.v 262 11 true]),.row 5 true]⟩⟩
def Zd3:Lay:=⟨[1,5,6],[[.keep],[.keep],[.own 5 1]],[.var k2,.var k3,.row true],⟨[.one (.ptr 0),.one (.ptr 1),.one (.own 5 2)],[.var 156 15 (.agg [.v 156 15 true]),.var 262 11 (.agg [.v 262 11 true]),.row 5 true]⟩⟩
def Zcv:Lay:=⟨[1,5,6],[[.keep],[.keep],[.own 5 1]],[.var k2,.var k3,.row true],⟨[.one (.ptr 0),.one (.ptr 1),.one (.own 5 2)],[.var 156 15 (.agg [.v 156 15 true]),.var 262 11 (.agg [.v 262 11 true]),.row 5 true]⟩⟩
def ZcF:Lay:=⟨[1,5,6],[[.keep],[.keep],[.own 5 1]],[.var k2,.var k3,.row true],⟨[.one (.ptr 0),.one (.ptr 1),.one (.own 5 2)],[.var 156 15 (.agg [.v 156 15 true]),.var 262 11 (.agg [.v 262 11 true]),.row 5 true]⟩⟩
def ZcW:Lay:=⟨[1,5,6],[[.keep],[.keep],[.own 5 1]],[.var k2,.var k3,.row true],⟨[.one (.ptr 0),.one (.ptr 1),.one (.own 5 2)],[.var 156 15 (.agg [.v 156 15 true]),.var 262 11 (.agg [.v 262 11 true]),.row 5 true]⟩⟩
def ZcQ:Lay:=⟨[1,5,6],[[.keep],[.keep],[.own 5 1]],[.var k2,.var k3,.row true],⟨[.one (.ptr 0),.one (.ptr 1),.one (.own 5 2)],[.var 156 15 (.agg [.v 156 15 true]),.var 262 11 (.agg [.v 262 11 true]),.row 5 true]⟩⟩
def Zcq:Lay:=⟨[1,5,6],[[.keep],[.keep],[.own 5 1]],[.var k2,.var k3,.row true],⟨[.one (.ptr 0),.one (.ptr 1),.one (.own 5 2)],[.var 156 15 (.agg [.v 156 15 true]),.var 262 11 (.agg [.v 262 11 true]),.row 5 true]⟩⟩
def Zct:Lay:=⟨[1,5,6],[[.keep],[.keep],[.own 5 1]],[.var k2,.var k3,.row true],⟨[.one (.ptr 0),.one (.ptr 1),.one (.own 5 2)],[.var 156 15 (.agg [.v 156 15 true]),.var 262 11 (.agg [.v 262 11 true]),.row 5 true]⟩⟩
def Zd8:Lay:=⟨[1,5,6],[[.keep],[.keep],[.own 5 1]],[.var k2,.var k3,.row true],⟨[.one (.ptr 0),.one (.ptr 1),.one (.own 5 2)],[.var 156 15 (.agg [.v 156 15 true]),.var 262 11 (.agg [.v 262 11 true]),.row 5 true]⟩⟩
def Zuf:Nat->Option Lay
 | 8=>some ZcY
 | 10=>some Zd3
 | 12=>some Zcv
 | 14=>some ZcF
 | 16=>some ZcW
 | 18=>some ZcQ
 | 20=>some Zcq
 | 22=>some Zct
 | 24=>some Zd8
 | _=>none
noncomputable def Zq1:Z4P->Z08 U
 | .b0 a0=>Z0f Tryz.f164 [156] (a0,())
 | .b1 a0 a1 a2=>spL Tryz.f164 [1,1,1,1,1,0,0] ZcY (((),((),((),()))),((a1,()),((a2,()),(a0,()))))
 | .b2 a0 a1 a2=>spL Tryz.f164 [1,1,1,1,1,1,0,0] Zd3 (((),((),((),()))),((a1,()),((a2,()),(a0,()))))
 | .b3 a0 a1 a2=>spL Tryz.f164 [1,1,1,1,1,1,1,0,0] Zcv (((),((),((),()))),((a1,()),((a2,()),(a0,()))))
 | .b4 a0 a1 a2=>spL Tryz.f164 [1,1,1,1,1,1,1,1,0,0] ZcF (((),((),((),()))),((a1,()),((a2,()),(a0,()))))
 | .b5 a0 a1 a2=>spL Tryz.f164 [1,1,1,1,1,1,1,1,1,0,0] ZcW (((),((),((),()))),((a1,()),((a2,()),(a0,()))))
 | .b6 a0 a1 a2=>spL Tryz.f164 [1,1,1,1,1,1,1,1,1,1,0,0] ZcQ (((),((),((),()))),((a1,()),((a2,()),(a0,()))))
 | .b7 a0 a1 a2=>spL Tryz.f164 [1,1,1,1,1,1,1,1,1,1,1,0,0] Zcq (((),((),((),()))),((a1,()),((a2,()),(a0,()))))
 | .b8 a0 a1 a2=>spL Tryz.f164 [1,1,1,1,1,1,1,1,1,1,1,1,0,0] Zct (((),((),((),()))),((a1,()),((a2,()),(a0,()))))
 | .b9 a0 a1 a2=>spL Tryz.f164 [1,1,1,1,1,1,1,1,1,1,1,1,1,0,0] Zd8 (((),((),((),()))),((a1,()),((a2,()),(a0,()))))
theorem ZnP:Z0e 164 Tryz.f164 (mc Za0 (mc Z1v (mc ZkD msN))) (hc [] ZpF hsN) Zuf 120 Zan Zq1
 | .b0 _=>by kernel_rfl
 | .b1 _ _ _=>by kernel_rfl
 | .b2 _ _ _=>by kernel_rfl
 | .b3 _ _ _=>by kernel_rfl
 | .b4 _ _ _=>by kernel_rfl
 | .b5 _ _ _=>by kernel_rfl
 | .b6 _ _ _=>by kernel_rfl
 | .b7 _ _ _=>by kernel_rfl
 | .b8 _ _ _=>by kernel_rfl
 | .b9 _ _ _=>by kernel_rfl
theorem Zs0:Z04 Tryz.prog B0 164 Zst:=okP ZnP (fun x=>.b0 x.1) (by kernel_rfl) Tryz.func164 (by kernel_rfl) (by kernel_rfl) (fun _=>rfl) (fun _=>rfl)
end Go.Proofs.YtjodhcdmhobmoaaGreatDoor
namespace Go.Proofs.YtjodhcdmhobmoaaGreatDoor
open Go Go.Proofs.YtjodhcdmhobmoaaGreatDoor.Le
set_option maxRecDepth 100000
inductive ZaR where
 | b0 (a0:Int)
noncomputable def Zle:ZaR->Tr U (Bool⊕ZaR)
 | .b0 a0=>.br (a0==(0:Int)) ( .leaf (.inl true)) ( .leaf (.inl (a0==(1:Int))))
noncomputable def Zak (a0:Int):Option Bool:=Z05 Zle (.b0 a0)
noncomputable def ZFF:Mod U:=⟨[3],4,fun x=>Zak x.1,by decide⟩
noncomputable def ZBn:ZaR->Z08 U
 | .b0 a0=>Z0f Tryz.f243 [3] (a0,())
theorem Zyw:Z0e 243 Tryz.f243 msN hsN AN 4 Zle ZBn
 | .b0 _=>by kernel_rfl
theorem ZDn:Z04 Tryz.prog B0 243 ZFF:=okP Zyw (fun x=>.b0 x.1) (by kernel_rfl) Tryz.func243 (by kernel_rfl) (by kernel_rfl) (fun _=>rfl) (fun _=>rfl)
inductive Z1N where
 | b0 (a0:Zb)
 | b1 (a0:Zb)
 | b2 (a0:Zb)
noncomputable def Z3Y:Z1N->Tr U (Int⊕Z1N)
 | .b0 a0=>.br (decide (a0.Z5c<(1:Int))) ( .leaf (.inl (12:Int))) ( .br (decide (a0.Z5c>(3:Int))) ( .leaf (.inl (12:Int))) ( .leaf (.inr (.b1 a0))))
 | .b1 a0=>.br ((↑a0.Payload.length:Int)==(0:Int)) ( .br (a0.Z5c != (1:Int)) ( .leaf (.inl (1:Int))) ( .leaf (.inr (.b2 a0)))) ( .leaf (.inr (.b2 a0)))
 | .b2 a0=>.br (decide ((↑a0.Payload.length:Int)>(255:Int))) ( .leaf (.inl (4:Int))) ( .leaf (.inl (0:Int)))
noncomputable def Z4a (a0:Zb):Option Int:=Z05 Z3Y (.b0 a0)
noncomputable def ZhQ:Mod U:=⟨[68],45,fun x=>Z4a x.1,by decide⟩
def Z6h:Lay:=⟨[1],[[.keep]],[.var [.keep,.s 5 1]],⟨[.one (.ptr 0)],[.var 68 2 (.agg [.v 68 2 true])]⟩⟩
def Z61:Lay:=⟨[1],[[.keep]],[.var [.keep,.s 5 1]],⟨[.one (.ptr 0)],[.var 68 2 (.agg [.v 68 2 true])]⟩⟩
def ZiP:Nat->Option Lay
 | 3=>some Z6h
 | 5=>some Z61
 | _=>none
noncomputable def Zg0:Z1N->Z08 U
 | .b0 a0=>Z0f Tryz.f244 [68] (a0,())
 | .b1 a0=>spL Tryz.f244 [1,1,0,0] Z6h (((),()),((a0,()),()))
 | .b2 a0=>spL Tryz.f244 [1,1,1,0,0] Z61 (((),()),((a0,()),()))
theorem Zec:Z0e 244 Tryz.f244 msN hsN ZiP 45 Z3Y Zg0
 | .b0 _=>by kernel_rfl
 | .b1 _=>by kernel_rfl
 | .b2 _=>by kernel_rfl
theorem Zhq:Z04 Tryz.prog B0 244 ZhQ:=okP Zec (fun x=>.b0 x.1) (by kernel_rfl) Tryz.func244 (by kernel_rfl) (by kernel_rfl) (fun _=>rfl) (fun _=>rfl)
inductive Z79 where
 | b0 (a0:Zk)
 | b1 (a0:Zk)
noncomputable def Zeg:Z79->Tr U (Int⊕Z79)
 | .b0 a0=>.bind 4 (Zak a0.SN) (fun(x1:Bool)=>.br (!x1) ( .leaf (.inl (5:Int))) ( .bind 4 (Zak a0.Z8Y) (fun(x2:Bool)=>.br (!x2) ( .leaf (.inl (5:Int))) ( .bind 4 (Zak a0.MD) (fun(x3:Bool)=>.br (!x3) ( .leaf (.inl (5:Int))) ( .leaf (.inr (.b1 a0))))))))
 | .b1 a0=>.bind 45 (Z4a a0.ZH) (fun(x1:Int)=>.leaf (.inl x1))
noncomputable def Z2u (a0:Zk):Option Int:=Z05 Zeg (.b0 a0)
noncomputable def Zyk:Mod U:=⟨[70],45,fun x=>Z2u x.1,by decide⟩
def ZgZ:Lay:=⟨[1],[[.keep]],[.var k5],⟨[.one (.ptr 0)],[.var 70 5 (.agg [.v 70 5 true])]⟩⟩
def Zxt:Nat->Option Lay
 | 3=>some ZgZ
 | _=>none
noncomputable def Zt3:Z79->Z08 U
 | .b0 a0=>Z0f Tryz.f167 [70] (a0,())
 | .b1 a0=>spL Tryz.f167 [1,1,0] ZgZ (((),()),((a0,()),()))
theorem Zql:Z0e 167 Tryz.f167 (mc ZDn (mc Zhq msN)) hsN Zxt 45 Zeg Zt3
 | .b0 _=>by kernel_rfl
 | .b1 _=>by kernel_rfl
theorem Z38:Z04 Tryz.prog B0 167 Zyk:=okP Zql (fun x=>.b0 x.1) (by kernel_rfl) Tryz.func167 (by kernel_rfl) (by kernel_rfl) (fun _=>rfl) (fun _=>rfl)
inductive Z3A where
 | b0 (a0:Zb)
noncomputable def Z9t:Z3A->Tr U (Bool⊕Z3A)
 | .b0 a0=>.br (a0.Z5c==(1:Int)) ( .leaf (.inl ((↑a0.Payload.length:Int)==(0:Int)))) ( .leaf (.inl false))
noncomputable def Z5N (a0:Zb):Option Bool:=Z05 Z9t (.b0 a0)
noncomputable def Zrz:Mod U:=⟨[68],4,fun x=>Z5N x.1,by decide⟩
noncomputable def ZoK:Z3A->Z08 U
 | .b0 a0=>Z0f Tryz.f213 [68] (a0,())
theorem Zl3:Z0e 213 Tryz.f213 msN hsN AN 4 Z9t ZoK
 | .b0 _=>by kernel_rfl
theorem ZcD:Z04 Tryz.prog B0 213 Zrz:=okP Zl3 (fun x=>.b0 x.1) (by kernel_rfl) Tryz.func213 (by kernel_rfl) (by kernel_rfl) (fun _=>rfl) (fun _=>rfl)
inductive Z6G where
 | b0 (a0:Zr) (a1:Zb)
 | b1 (a0:Zr) (a1:Zb) (a2:Zr)
noncomputable def Ze5:Z6G->Tr U ((Zr×Int)⊕Z6G)
 | .b0 a0 a1=>.bind 4 (Z5N a1) (fun(x1:Bool)=>.br x1 ( .leaf (.inl (a0,(1:Int)))) ( .br (decide ((↑a1.Payload.length:Int)>(251:Int))) ( .leaf (.inl (a0,(1:Int)))) ( .bind 45 (Z2u (⟨(0:Int),(0:Int),(0:Int),a1⟩:Zk)) (fun(x2:Int)=>.br (x2 != (0:Int)) ( .leaf (.inl (a0,(1:Int)))) ( .leaf (.inr (.b1 a0 a1 (⟨(0:Int),(0:Int),([]:List Zb),false,false,(0:Int),(0:Int)⟩:Zr))))))))
 | .b1 a0 a1 a2=>.br (decide ((↑a0.ZP.length:Int)>=(64:Int))) ( .leaf (.inl (a0,(8:Int)))) ( .chk (([]:List Zb).length==0) ( .chk (decide ((0+a0.ZP.length)*32<=lim)&&decide (0+a0.ZP.length<=maxLen)) ( .chk (([a1]).length==1) ( .chk ((([]:List Zb)++a0.ZP).length==(([]:List Zb)++a0.ZP).length) ( .chk (decide (((([]:List Zb)++a0.ZP).length+([a1]).length)*32<=lim)&&decide ((([]:List Zb)++a0.ZP).length+([a1]).length<=maxLen)) ( .chk (((([]:List Zb)++a0.ZP)++[a1]).length==((([]:List Zb)++a0.ZP)++[a1]).length) ( .leaf (.inl (({ a0 with ZP:=((([]:List Zb)++a0.ZP)++[a1]) }:Zr),(0:Int))))))))))
noncomputable def Z9o (a0:Zr) (a1:Zb):Option (Zr×Int):=Z05 Ze5 (.b0 a0 a1)
noncomputable def ZxL:Mod U:=⟨[33,68],189,fun x=>Z9o x.1 x.2.1,by decide⟩
def ZfH:Lay:=⟨[2,3,4],[[.keep],[.keep],[.keep]],[.var k6,.var [.keep,.s 5 1],.var k6],⟨[.one (.ptr 0),.one (.ptr 1),.one (.ptr 2)],[.var 33 7 (.agg [.v 33 7 true]),.var 68 2 (.agg [.v 68 2 true]),.var 33 7 (.agg [.v 33 7 true])]⟩⟩
def Zyt:Nat->Option Lay
 | 3=>some ZfH
 | _=>none
noncomputable def Zte:Z6G->Z08 U
 | .b0 a0 a1=>Z0f Tryz.f165 [33,68] (a0,a1,())
 | .b1 a0 a1 a2=>spL Tryz.f165 [1,1,0,0] ZfH (((),((),((),()))),((a0,()),((a1,()),((a2,()),()))))
theorem ZpY:Z0e 165 Tryz.f165 (mc Z38 (mc ZcD msN)) hsN Zyt 189 Ze5 Zte
 | .b0 _ _=>by kernel_rfl
 | .b1 _ _ _=>by kernel_rfl
theorem ZjQ:Z04 Tryz.prog B0 165 ZxL:=okP ZpY (fun x=>.b0 x.1 x.2.1) (by kernel_rfl) Tryz.func165 (by kernel_rfl) (by kernel_rfl) (fun _=>rfl) (fun _=>rfl)
inductive Z6E where
 | b0 (a0:Z8)
 | b1 (a0:List Z4) (a1:Bool) (a2:Int) (a3 a4:Z8)
 | b2 (a0:List Z4) (a1:Bool) (a2:Int) (a3 a4:Z8) (a5:Z4)
 | b3 (a0:List Z4) (a1:Bool) (a2:Int) (a3 a4:Z8) (a5:Z4)
 | b4 (a0:List Z4) (a1:Bool) (a2:Int) (a3 a4:Z8)
noncomputable def ZdZ:Z6E->Tr U (Z8⊕Z6E)
 | .b0 a0=>.chk (([]:List Z4).length==0) ( .leaf (.inr (.b1 ([]:List Z4) false (0:Int) a0 (⟨(0:Int),Zm,(0:Int),(0:Int),(0:Int),(0:Int),(0:Int),(0:Int),(0:Int),false,false,false,false,false,(⟨(0:Int),(0:Int),([]:List Zb),false,false,(0:Int),(0:Int)⟩:Zr),Zq,(⟨(0:Int),(0:Int),(0:Int),([]:List Z4),(0:Int),(0:Int),([]:List Z9),false,(0:Int),(0:Int),false,false,(0:Int),(0:Int),(0:Int),(0:Int),(0:Int),(0:Int),(0:Int),(0:Int)⟩:Z7),Zt,(0:Int),([]:List Zg),([]:List Z4),(0:Int),(0:Int)⟩:Z8))))
 | .b1 a0 a1 a2 a3 a4=>.br (decide (a2<(↑a3.Zf.length:Int))) ( .chk (decide (0<=a2/\a2<(↑a3.Zf.length:Int))) ( .bind 156 (a3.Zf[(Int.toNat a2)]?) (fun(x1:Z4)=>.br a1 ( .chk (a0.length==a0.length) ( .leaf (.inr (.b2 a0 a1 a2 a3 a4 x1)))) ( .bind 4 (Z9j a3.Zi) (fun(x2:Bool)=>.br x2 ( .bind 4 (Z9k x1.Kind) (fun(x3:Bool)=>.br (!x3) ( .chk (a0.length==a0.length) ( .leaf (.inr (.b2 a0 a1 a2 a3 a4 x1)))) ( .chk (a0.length==a0.length) ( .leaf (.inr (.b3 a0 a1 a2 a3 a4 x1)))))) ( .chk (a0.length==a0.length) ( .leaf (.inr (.b3 a0 a1 a2 a3 a4 x1))))))))) ( .chk (a0.length==a0.length) ( .leaf (.inl ({ a3 with Zf:=a0 }:Z8))))
 | .b2 a0 a1 a2 a3 a4 a5=>.chk (([a5]).length==1) ( .chk (a0.length==a0.length) ( .chk (decide ((a0.length+([a5]).length)*120<=lim)&&decide (a0.length+([a5]).length<=maxLen)) ( .chk ((a0++[a5]).length==(a0++[a5]).length) ( .leaf (.inr (.b4 (a0++[a5]) a1 a2 a3 a4))))))
 | .b3 a0 a1 a2 a3 a4 a5=>.bind 120 (Za6 a5) (fun(x1:(List Int)×Int)=>.br (x1.2 != (0:Int)) ( .chk (a0.length==a0.length) ( .leaf (.inr (.b4 a0 a1 a2 a3 a4)))) ( .bind 189 (Z9o a3.Arq (⟨(3:Int),x1.1⟩:Zb)) (fun(x2:Zr×Int)=>.br (x2.2 != (0:Int)) ( .chk (([a5]).length==1) ( .chk (a0.length==a0.length) ( .chk (decide ((a0.length+([a5]).length)*120<=lim)&&decide (a0.length+([a5]).length<=maxLen)) ( .chk ((a0++[a5]).length==(a0++[a5]).length) ( .leaf (.inr (.b4 (a0++[a5]) true a2 a3 a4))))))) ( .chk (a0.length==a0.length) ( .leaf (.inr (.b4 a0 a1 a2 ({ a3 with Arq:=x2.1 }:Z8) a4)))))))
 | .b4 a0 a1 a2 a3 a4=>.chk (a0.length==a0.length) ( .leaf (.inr (.b1 a0 a1 (w64 (a2+(1:Int))) a3 a4)))
noncomputable def Zew (a0:Z8):Option Z8:=Z05 ZdZ (.b0 a0)
noncomputable def Zzr:Mod U:=⟨[44],44,fun x=>Zew x.1,by decide⟩
def Zff:Lay:=⟨[1,2,3,4,5],[[.keep],[.keep],[.own 156 15],[.keep],[.keep]],[.var k1,.var k1,.row true],⟨[.one (.ptr 0),.one (.ptr 1),.one (.own 156 2),.one (.v 4 1 false),.one (.v 3 1 false)],[.var 44 66 (.agg [.v 44 66 true]),.var 44 66 (.agg [.v 44 66 true]),.row 156 true]⟩⟩
def Zg6:Lay:=⟨[1,2,3,4,5,6],[[.keep],[.keep],[.own 156 15],[.keep],[.keep],[.keep]],[.var k1,.var k1,.row true,.var k2],⟨[.one (.ptr 0),.one (.ptr 1),.one (.own 156 2),.one (.v 4 1 false),.one (.v 3 1 false),.one (.ptr 3)],[.var 44 66 (.agg [.v 44 66 true]),.var 44 66 (.agg [.v 44 66 true]),.row 156 true,.var 156 15 (.agg [.v 156 15 true])]⟩⟩
def ZgK:Lay:=⟨[1,2,3,4,5,6],[[.keep],[.keep],[.own 156 15],[.keep],[.keep],[.keep]],[.var k1,.var k1,.row true,.var k2],⟨[.one (.ptr 0),.one (.ptr 1),.one (.own 156 2),.one (.v 4 1 false),.one (.v 3 1 false),.one (.ptr 3)],[.var 44 66 (.agg [.v 44 66 true]),.var 44 66 (.agg [.v 44 66 true]),.row 156 true,.var 156 15 (.agg [.v 156 15 true])]⟩⟩
def ZfJ:Lay:=⟨[1,2,3,4,5],[[.keep],[.keep],[.own 156 15],[.keep],[.keep]],[.var k1,.var k1,.row true],⟨[.one (.ptr 0),.one (.ptr 1),.one (.own 156 2),.one (.v 4 1 false),.one (.v 3 1 false)],[.var 44 66 (.agg [.v 44 66 true]),.var 44 66 (.agg [.v 44 66 true]),.row 156 true]⟩⟩
def Zwy:Nat->Option Lay
 | 4=>some Zff
 | 8=>some Zg6
 | 9=>some ZgK
 | 5=>some ZfJ
 | _=>none
noncomputable def Zwh:Z6E->Z08 U
 | .b0 a0=>Z0f Tryz.f70 [44] (a0,())
 | .b1 a0 a1 a2 a3 a4=>spL Tryz.f70 [1,1,1,0,1,0,0,0,0] Zff (((),((),((),((a1,()),((a2,()),()))))),((a3,()),((a4,()),(a0,()))))
 | .b2 a0 a1 a2 a3 a4 a5=>spL Tryz.f70 [1,1,1,0,1,0,0,1,0,0,1,0,1,0,0] Zg6 (((),((),((),((a1,()),((a2,()),((),())))))),((a3,()),((a4,()),(a0,((a5,()),())))))
 | .b3 a0 a1 a2 a3 a4 a5=>spL Tryz.f70 [1,1,1,0,1,0,0,1,0,0,1,1,0] ZgK (((),((),((),((a1,()),((a2,()),((),())))))),((a3,()),((a4,()),(a0,((a5,()),())))))
 | .b4 a0 a1 a2 a3 a4=>spL Tryz.f70 [1,1,1,0,1,0,0,1,1] ZfJ (((),((),((),((a1,()),((a2,()),()))))),((a3,()),((a4,()),(a0,()))))
theorem Zqy:Z0e 70 Tryz.f70 (mc Zj9 (mc ZoL (mc Zs0 (mc ZjQ msN)))) hsN Zwy 44 ZdZ Zwh
 | .b0 _=>by kernel_rfl
 | .b1 _ _ _ _ _=>by kernel_rfl
 | .b2 _ _ _ _ _ _=>by kernel_rfl
 | .b3 _ _ _ _ _ _=>by kernel_rfl
 | .b4 _ _ _ _ _=>by kernel_rfl
theorem Zw7:Z04 Tryz.prog B0 70 Zzr:=okP Zqy (fun x=>.b0 x.1) (by kernel_rfl) Tryz.func70 (by kernel_rfl) (by kernel_rfl) (fun _=>rfl) (fun _=>rfl)
inductive Z7a where
 | b0
noncomputable def Zdt:Z7a->Tr U (Zb⊕Z7a)
 | .b0 =>.leaf (.inl (⟨(1:Int),[]⟩:Zb))
noncomputable def Zdi  : Option Zb:=Z05 Zdt (.b0)
noncomputable def Zxo:Mod U:=⟨[],68,fun x=>Zdi,by decide⟩
noncomputable def ZvE:Z7a->Z08 U
 | .b0 =>Z0f Tryz.f166 [] ()
theorem Zsa:Z0e 166 Tryz.f166 msN hsN AN 68 Zdt ZvE
 | .b0 =>by kernel_rfl
theorem Ztb:Z04 Tryz.prog B0 166 Zxo:=okP Zsa (fun x=>.b0 ) (by kernel_rfl) Tryz.func166 (by kernel_rfl) (by kernel_rfl) (fun _=>rfl) (fun _=>rfl)
inductive Z7V where
 | b0 (a0:Zr)
 | b1 (a0 a1:Zr) (a2:Zk)
 | b2 (a0:Int) (a1 a2:Zr) (a3 a4:Zk)
 | b3 (a0:Int) (a1 a2:Zr) (a3 a4:Zk)
 | b4 (a0 a1:Zr) (a2 a3:Zk)
noncomputable def Zip:Z7V->Tr U ((Zr×Zk)⊕Z7V)
 | .b0 a0=>.br (!a0.Open) ( .leaf (.inr (.b1 ({ a0 with Open:=true,Empty:=((↑a0.ZP.length:Int)==(0:Int)) }:Zr) (⟨(0:Int),(0:Int),([]:List Zb),false,false,(0:Int),(0:Int)⟩:Zr) (⟨(0:Int),(0:Int),(0:Int),(⟨(0:Int),([]:List Int)⟩:Zb)⟩:Zk)))) ( .leaf (.inr (.b1 a0 (⟨(0:Int),(0:Int),([]:List Zb),false,false,(0:Int),(0:Int)⟩:Zr) (⟨(0:Int),(0:Int),(0:Int),(⟨(0:Int),([]:List Int)⟩:Zb)⟩:Zk))))
 | .b1 a0 a1 a2=>.bind 68 (Zdi) (fun(x1:Zb)=>.br (!a0.Empty) ( .br (decide ((↑a0.ZP.length:Int)>(0:Int))) ( .leaf (.inr (.b2 (↑a0.ZP.length:Int) a0 a1 a2 (⟨a0.SN,a0.Z8Y,(0:Int),x1⟩:Zk)))) ( .leaf (.inr (.b3 (↑a0.ZP.length:Int) a0 a1 a2 (⟨a0.SN,a0.Z8Y,(0:Int),x1⟩:Zk))))) ( .leaf (.inr (.b3 (↑a0.ZP.length:Int) a0 a1 a2 (⟨a0.SN,a0.Z8Y,(0:Int),x1⟩:Zk)))))
 | .b2 a0 a1 a2 a3 a4=>.chk (decide (0<=(0:Int)/\(0:Int)<(↑a1.ZP.length:Int))) ( .bind 68 (a1.ZP[(Int.toNat (0:Int))]?) (fun(x1:Zb)=>.leaf (.inr (.b3 (w64 (a0 - (1:Int))) a1 a2 a3 ({ a4 with ZH:=x1 }:Zk)))))
 | .b3 a0 a1 a2 a3 a4=>.br (decide (a0>(0:Int))) ( .leaf (.inr (.b4 a1 a2 a3 ({ a4 with MD:=(1:Int) }:Zk)))) ( .leaf (.inr (.b4 a1 a2 a3 a4)))
 | .b4 a0 a1 a2 a3=>.leaf (.inl (a0,a3))
noncomputable def Ziw (a0:Zr):Option (Zr×Zk):=Z05 Zip (.b0 a0)
noncomputable def ZBx:Mod U:=⟨[33],75,fun x=>Ziw x.1,by decide⟩
def Zjj:Lay:=⟨[1,2,3],[[.keep],[.keep],[.keep]],[.var k6,.var k6,.var k5],⟨[.one (.ptr 0),.one (.ptr 1),.one (.ptr 2)],[.var 33 7 (.agg [.v 33 7 true]),.var 33 7 (.agg [.v 33 7 true]),.var 70 5 (.agg [.v 70 5 true])]⟩⟩
def Zj7:Lay:=⟨[1,2,3,4,5],[[.keep],[.keep],[.keep],[.keep],[.keep]],[.var k6,.var k6,.var k5,.var k5],⟨[.one (.ptr 0),.one (.ptr 1),.one (.ptr 2),.one (.ptr 3),.one (.v 3 1 false)],[.var 33 7 (.agg [.v 33 7 true]),.var 33 7 (.agg [.v 33 7 true]),.var 70 5 (.agg [.v 70 5 true]),.var 70 5 (.agg [.v 70 5 true])]⟩⟩
def Zjv:Lay:=⟨[1,2,3,4,5],[[.keep],[.keep],[.keep],[.keep],[.keep]],[.var k6,.var k6,.var k5,.var k5],⟨[.one (.ptr 0),.one (.ptr 1),.one (.ptr 2),.one (.ptr 3),.one (.v 3 1 false)],[.var 33 7 (.agg [.v 33 7 true]),.var 33 7 (.agg [.v 33 7 true]),.var 70 5 (.agg [.v 70 5 true]),.var 70 5 (.agg [.v 70 5 true])]⟩⟩
def ZjO:Lay:=⟨[1,2,3,4],[[.keep],[.keep],[.keep],[.keep]],[.var k6,.var k6,.var k5,.var k5],⟨[.one (.ptr 0),.one (.ptr 1),.one (.ptr 2),.one (.ptr 3)],[.var 33 7 (.agg [.v 33 7 true]),.var 33 7 (.agg [.v 33 7 true]),.var 70 5 (.agg [.v 70 5 true]),.var 70 5 (.agg [.v 70 5 true])]⟩⟩
def ZC8:Nat->Option Lay
 | 4=>some Zjj
 | 7=>some Zj7
 | 9=>some Zjv
 | 11=>some ZjO
 | _=>none
noncomputable def Zxx:Z7V->Z08 U
 | .b0 a0=>Z0f Tryz.f71 [33] (a0,())
 | .b1 a0 a1 a2=>spL Tryz.f71 [1,1,0] Zjj (((),((),((),()))),((a0,()),((a1,()),((a2,()),()))))
 | .b2 a0 a1 a2 a3 a4=>spL Tryz.f71 [1,1,1,1,0,1,0,0] Zj7 (((),((),((),((),((a0,()),()))))),((a1,()),((a2,()),((a3,()),((a4,()),())))))
 | .b3 a0 a1 a2 a3 a4=>spL Tryz.f71 [1,1,1,1,1,0,0] Zjv (((),((),((),((),((a0,()),()))))),((a1,()),((a2,()),((a3,()),((a4,()),())))))
 | .b4 a0 a1 a2 a3=>spL Tryz.f71 [1,1,1,1,1,1,0] ZjO (((),((),((),((),())))),((a0,()),((a1,()),((a2,()),((a3,()),())))))
theorem ZsM:Z0e 71 Tryz.f71 (mc Ztb msN) hsN ZC8 75 Zip Zxx
 | .b0 _=>by kernel_rfl
 | .b1 _ _ _=>by kernel_rfl
 | .b2 _ _ _ _ _=>by kernel_rfl
 | .b3 _ _ _ _ _=>by kernel_rfl
 | .b4 _ _ _ _=>by kernel_rfl
theorem Zz9:Z04 Tryz.prog B0 71 ZBx:=okP ZsM (fun x=>.b0 x.1) (by kernel_rfl) Tryz.func71 (by kernel_rfl) (by kernel_rfl) (fun _=>rfl) (fun _=>rfl)
inductive Z6d where
 | b0 (a0:Zb)
noncomputable def ZeF:Z6d->Tr U (Bool⊕Z6d)
 | .b0 a0=>.br (a0.Z5c==(1:Int)) ( .leaf (.inl ((↑a0.Payload.length:Int)==(0:Int)))) ( .leaf (.inl false))
noncomputable def Z4g (a0:Zb):Option Bool:=Z05 ZeF (.b0 a0)
noncomputable def ZzQ:Mod U:=⟨[68],4,fun x=>Z4g x.1,by decide⟩
noncomputable def ZtH:Z6d->Z08 U
 | .b0 a0=>Z0f Tryz.f116 [68] (a0,())
theorem ZqC:Z0e 116 Tryz.f116 msN hsN AN 4 ZeF ZtH
 | .b0 _=>by kernel_rfl
theorem Z7l:Z04 Tryz.prog B0 116 ZzQ:=okP ZqC (fun x=>.b0 x.1) (by kernel_rfl) Tryz.func116 (by kernel_rfl) (by kernel_rfl) (fun _=>rfl) (fun _=>rfl)
inductive Z8r where
 | b0 (a0:Zk) (a1:List Int)
noncomputable def Zi1:Z8r->Tr U (Zk⊕Z8r)
 | .b0 a0 a1=>.leaf (.inl ({ a0 with ZH:=(⟨a0.ZH.Z5c,a1⟩:Zb) }:Zk))
noncomputable def Zc8 (a0:Zk) (a1:List Int):Option Zk:=Z05 Zi1 (.b0 a0 a1)
noncomputable def ZCo:Mod U:=⟨[70,62],70,fun x=>Zc8 x.1 x.2.1,by decide⟩
noncomputable def Zxj:Z8r->Z08 U
 | .b0 a0 a1=>Z0f Tryz.f168 [70,62] (a0,a1,())
theorem ZvT:Z0e 168 Tryz.f168 msN hsN AN 70 Zi1 Zxj
 | .b0 _ _=>by kernel_rfl
theorem Zna:Z04 Tryz.prog B0 168 ZCo:=okP ZvT (fun x=>.b0 x.1 x.2.1) (by kernel_rfl) Tryz.func168 (by kernel_rfl) (by kernel_rfl) (fun _=>rfl) (fun _=>rfl)
inductive ZbJ where
 | b0 (a0 a1:Int)
 | b1 (a0:Int)
noncomputable def ZlS:ZbJ->Tr U (Int⊕ZbJ)
 | .b0 a0 a1=>.br (decide ((Int.tmod (w64 ((w64 ((Int.tmod a1 (64:Int))+(64:Int)))*(11:Int))) (64:Int))>(0:Int))) ( .chk (decide (0<=(Int.tmod (w64 ((w64 ((Int.tmod a1 (64:Int))+(64:Int)))*(11:Int))) (64:Int)))) ( .chk (decide (0<=(w64 ((64:Int) - (Int.tmod (w64 ((w64 ((Int.tmod a1 (64:Int))+(64:Int)))*(11:Int))) (64:Int)))))) ( .leaf (.inr (.b1 (bits .or .u64 (IntKind.wrap .u64 (a0*2 ^ (min (Int.toNat (Int.tmod (w64 ((w64 ((Int.tmod a1 (64:Int))+(64:Int)))*(11:Int))) (64:Int))) (IntKind.bits .u64)))) (Int.fdiv a0 (2 ^ (min (Int.toNat (w64 ((64:Int) - (Int.tmod (w64 ((w64 ((Int.tmod a1 (64:Int))+(64:Int)))*(11:Int))) (64:Int))))) (IntKind.bits .u64)))))))))) ( .leaf (.inr (.b1 a0)))
 | .b1 a0=>.leaf (.inl (IntKind.wrap .u32 ((Int.tmod a0 (4294967296:Int)))))
noncomputable def ZlK (a0 a1:Int):Option Int:=Z05 ZlS (.b0 a0 a1)
noncomputable def ZGt:Mod U:=⟨[29,3],22,fun x=>ZlK x.1 x.2.1,by decide⟩
def Zms:Lay:=⟨[6],[[.keep]],[],⟨[.one (.v 25 1 false)],[]⟩⟩
def ZFu:Nat->Option Lay
 | 5=>some Zms
 | _=>none
noncomputable def ZBJ:ZbJ->Z08 U
 | .b0 a0 a1=>Z0f Tryz.f383 [29,3] (a0,a1,())
 | .b1 a0=>spL Tryz.f383 [1,1,1,1,0] Zms (((a0,()),()),())
theorem Zz7:Z0e 383 Tryz.f383 msN hsN ZFu 22 ZlS ZBJ
 | .b0 _ _=>by kernel_rfl
 | .b1 _=>by kernel_rfl
theorem ZB1:Z04 Tryz.prog B0 383 ZGt:=okP Zz7 (fun x=>.b0 x.1 x.2.1) (by kernel_rfl) Tryz.func383 (by kernel_rfl) (by kernel_rfl) (fun _=>rfl) (fun _=>rfl)
inductive Z80 where
 | b0 (a0 a1:Int)
noncomputable def ZiW:Z80->Tr U (Int⊕Z80)
 | .b0 a0 a1=>.chk (decide (0<=a1)) ( .chk (decide (0<=(w64 ((32:Int) - a1)))) ( .leaf (.inl (bits .or .u32 (IntKind.wrap .u32 (a0*2 ^ (min (Int.toNat a1) (IntKind.bits .u32)))) (Int.fdiv a0 (2 ^ (min (Int.toNat (w64 ((32:Int) - a1))) (IntKind.bits .u32))))))))
noncomputable def ZbZ (a0 a1:Int):Option Int:=Z05 ZiW (.b0 a0 a1)
noncomputable def ZDJ:Mod U:=⟨[22,3],22,fun x=>ZbZ x.1 x.2.1,by decide⟩
noncomputable def ZxQ:Z80->Z08 U
 | .b0 a0 a1=>Z0f Tryz.f384 [22,3] (a0,a1,())
theorem ZuI:Z0e 384 Tryz.f384 msN hsN AN 22 ZiW ZxQ
 | .b0 _ _=>by kernel_rfl
theorem Zzn:Z04 Tryz.prog B0 384 ZDJ:=okP ZuI (fun x=>.b0 x.1 x.2.1) (by kernel_rfl) Tryz.func384 (by kernel_rfl) (by kernel_rfl) (fun _=>rfl) (fun _=>rfl)
inductive Z6i where
 | b0 (a0 a1 a2:Int)
noncomputable def Ze0:Z6i->Tr U (Int⊕Z6i)
 | .b0 a0 a1 a2=>.bind 22 (ZlK a0 a1) (fun(x1:Int)=>.bind 22 (ZbZ (IntKind.wrap .u32 (a2+x1)) (7:Int)) (fun(x2:Int)=>.bind 22 (ZbZ x1 (16:Int)) (fun(x3:Int)=>.leaf (.inl (bits .xor .u32 (IntKind.wrap .u32 (x2*(2654435761:Int))) x3)))))
noncomputable def ZeW (a0 a1 a2:Int):Option Int:=Z05 Ze0 (.b0 a0 a1 a2)
noncomputable def ZyW:Mod U:=⟨[29,3,22],22,fun x=>ZeW x.1 x.2.1 x.2.2.1,by decide⟩
noncomputable def ZtZ:Z6i->Z08 U
 | .b0 a0 a1 a2=>Z0f Tryz.f359 [29,3,22] (a0,a1,a2,())
theorem Zqj:Z0e 359 Tryz.f359 (mc ZB1 (mc Zzn msN)) hsN AN 22 Ze0 ZtZ
 | .b0 _ _ _=>by kernel_rfl
theorem Zuu:Z04 Tryz.prog B0 359 ZyW:=okP Zqj (fun x=>.b0 x.1 x.2.1 x.2.2.1) (by kernel_rfl) Tryz.func359 (by kernel_rfl) (by kernel_rfl) (fun _=>rfl) (fun _=>rfl)
inductive Zb8 where
 | b0 (a0 a1:Int)
 | b1 (a0 a1 a2 a3:Int)
noncomputable def ZlD:Zb8->Tr U (Int⊕Zb8)
 | .b0 a0 a1=>.leaf (.inr (.b1 a0 (IntKind.wrap .u32 ((IntKind.wrap .u64 (Int.tdiv a1 (4294967296:Int))))) (IntKind.wrap .u32 ((Int.tmod a1 (4294967296:Int)))) (0:Int)))
 | .b1 a0 a1 a2 a3=>.br (decide (a3<(8:Int))) ( .bind 22 (ZeW a0 a3 a2) (fun(x1:Int)=>.leaf (.inr (.b1 a0 a2 (bits .xor .u32 a1 x1) (w64 (a3+(1:Int))))))) ( .leaf (.inl (IntKind.wrap .u64 ((IntKind.wrap .u64 ((IntKind.wrap .u64 (a1))*(4294967296:Int)))+(IntKind.wrap .u64 (a2))))))
noncomputable def Z8i (a0 a1:Int):Option Int:=Z05 ZlD (.b0 a0 a1)
noncomputable def ZFs:Mod U:=⟨[29,25],25,fun x=>Z8i x.1 x.2.1,by decide⟩
def ZmF:Lay:=⟨[0,5,6,7],[[.keep],[.keep],[.keep],[.keep]],[],⟨[.one (.v 29 1 false),.one (.v 22 1 false),.one (.v 22 1 false),.one (.v 3 1 false)],[]⟩⟩
def ZFb:Nat->Option Lay
 | 4=>some ZmF
 | _=>none
noncomputable def ZCX:Zb8->Z08 U
 | .b0 a0 a1=>Z0f Tryz.f327 [29,25] (a0,a1,())
 | .b1 a0 a1 a2 a3=>spL Tryz.f327 [1,1,1,0,1,0,0,0,0] ZmF (((a0,()),((a1,()),((a2,()),((a3,()),())))),())
theorem Zys:Z0e 327 Tryz.f327 (mc Zuu msN) hsN ZFb 25 ZlD ZCX
 | .b0 _ _=>by kernel_rfl
 | .b1 _ _ _ _=>by kernel_rfl
theorem Zpe:Z04 Tryz.prog B0 327 ZFs:=okP Zys (fun x=>.b0 x.1 x.2.1) (by kernel_rfl) Tryz.func327 (by kernel_rfl) (by kernel_rfl) (fun _=>rfl) (fun _=>rfl)
inductive Zbh where
 | b0 (a0 a1:Int)
 | b1 (a0 a1:Int) (a2:List Int) (a3:Int)
noncomputable def Zm2:Zbh->Tr U (Z1R⊕Zbh)
 | .b0 a0 a1=>.chk (([]:List Int).length==0) ( .leaf (.inr (.b1 a0 a1 ([]:List Int) (0:Int))))
 | .b1 a0 a1 a2 a3=>.br (decide (a3<a0)) ( .chk (([(IntKind.wrap .u8 ((Int.tmod a1 (256:Int))))]).length==1) ( .chk (a2.length==a2.length) ( .chk (decide ((a2.length+([(IntKind.wrap .u8 ((Int.tmod a1 (256:Int))))]).length)*1<=lim)&&decide (a2.length+([(IntKind.wrap .u8 ((Int.tmod a1 (256:Int))))]).length<=maxLen)) ( .chk ((a2++[(IntKind.wrap .u8 ((Int.tmod a1 (256:Int))))]).length==(a2++[(IntKind.wrap .u8 ((Int.tmod a1 (256:Int))))]).length) ( .leaf (.inr (.b1 a0 (IntKind.wrap .u64 (Int.tdiv a1 (256:Int))) (a2++[(IntKind.wrap .u8 ((Int.tmod a1 (256:Int))))]) (w64 (a3+(1:Int)))))))))) ( .chk (a2.length==a2.length) ( .leaf (.inl (⟨a2⟩:Z1R))))
noncomputable def Z6y (a0 a1:Int):Option Z1R:=Z05 Zm2 (.b0 a0 a1)
def Zlc:Shape:=⟨[.one (.v 3 1 false),.one (.v 25 1 false)],[]⟩
noncomputable def ZtC:HMod U:=⟨[[.keep],[.keep]],[],Zlc,⟨[.one (.own 5 0)],[.row 5 true]⟩,true,1351,fun(y:Z1R)=>(((),()),(y.q0,())),fun x=>Z6y x.1.1.1 x.1.2.1.1,⟨⟨⟨by decide,fun _=>rfl⟩,⟨⟨by decide,fun _=>rfl⟩,trivial⟩⟩,trivial⟩⟩
def Zla:Lay:=⟨[0,1,5,6],[[.keep],[.keep],[.own 5 1],[.keep]],[.row true],⟨[.one (.v 3 1 false),.one (.v 25 1 false),.one (.own 5 0),.one (.v 3 1 false)],[.row 5 true]⟩⟩
def ZGQ:Nat->Option Lay
 | 3=>some Zla
 | _=>none
noncomputable def ZD9:Zbh->Z08 U
 | .b0 a0 a1=>ZJp Tryz.f328 Zlc (((a0,()),((a1,()),())),())
 | .b1 a0 a1 a2 a3=>spL Tryz.f328 [1,1,0,1,0,0,0,0] Zla (((a0,()),((a1,()),((),((a3,()),())))),(a2,()))
theorem Zz3:ZK4 328 Tryz.f328 msN hsN ZGQ [[.own 5 1]] [.row true] 0 ZtC Zm2 ZD9
 | .b0 _ _=>by kernel_rfl
 | .b1 _ _ _ _=>by kernel_rfl
theorem ZbO:Z5J Tryz.prog B0 328 ZtC:=okH Zz3 (fun x=>.b0 x.1.1.1 x.1.2.1.1) (fun x=>by kernel_rfl) (by kernel_rfl) Tryz.func328 (by kernel_rfl) (by kernel_rfl) (fun x=>by kernel_rfl) (fun x=>by kernel_rfl)
inductive Z4N where
 | b0 (a0 a1 a2:Int)
 | b1 (a0 a1:Int) (a2:List Int) (a3 a4:Int)
noncomputable def Zbw:Z4N->Tr U ((List Int)⊕Z4N)
 | .b0 a0 a1 a2=>.bind 25 (Z8i a0 a1) (fun(x1:Int)=>.chk (([]:List Int).length==0) ( .leaf (.inr (.b1 a0 a2 ([]:List Int) x1 (0:Int)))))
 | .b1 a0 a1 a2 a3 a4=>.chk (a2.length==a2.length) ( .br (decide ((↑a2.length:Int)<a1)) ( .bind 25 (Z8i a0 (IntKind.wrap .u64 (a3+(IntKind.wrap .u64 (a4))))) (fun(x1:Int)=>.bind 1351 (Z6y (8:Int) x1) (fun(y2:Z1R)=>.chk (y2.q0.length==y2.q0.length) ( .chk (a2.length==a2.length) ( .chk (decide ((a2.length+y2.q0.length)*1<=lim)&&decide (a2.length+y2.q0.length<=maxLen)) ( .chk ((a2++y2.q0).length==(a2++y2.q0).length) ( .leaf (.inr (.b1 a0 a1 (a2++y2.q0) a3 (w64 (a4+(1:Int)))))))))))) ( .chk (a2.length==a2.length) ( .chk (decide (0<=a1/\a1<=(↑a2.length:Int))) ( .chk (a2.length==a2.length) ( .chk (decide (0+((Int.toNat a1) - 0)<=a2.length)) ( .leaf (.inl ((a2.drop 0).take ((Int.toNat a1) - 0)))))))))
noncomputable def Z7A (a0 a1 a2:Int):Option (List Int):=Z05 Zbw (.b0 a0 a1 a2)
noncomputable def Zto:Mod U:=⟨[29,25,3],62,fun x=>Z7A x.1 x.2.1 x.2.2.1,by decide⟩
def Zd5:Lay:=⟨[0,2,7,8,9],[[.keep],[.keep],[.own 5 1],[.keep],[.keep]],[.row true],⟨[.one (.v 29 1 false),.one (.v 3 1 false),.one (.own 5 0),.one (.v 25 1 false),.one (.v 3 1 false)],[.row 5 true]⟩⟩
def ZsI:Nat->Option Lay
 | 4=>some Zd5
 | _=>none
noncomputable def Zs2:Z4N->Z08 U
 | .b0 a0 a1 a2=>Z0f Tryz.f246 [29,25,3] (a0,a1,a2,())
 | .b1 a0 a1 a2 a3 a4=>spL Tryz.f246 [1,1,1,0,1,0,0,0,0] Zd5 (((a0,()),((a1,()),((),((a3,()),((a4,()),()))))),(a2,()))
theorem ZnM:Z0e 246 Tryz.f246 (mc Zpe msN) (hc [] ZbO hsN) ZsI 62 Zbw Zs2
 | .b0 _ _ _=>by kernel_rfl
 | .b1 _ _ _ _ _=>by kernel_rfl
theorem Zgf:Z04 Tryz.prog B0 246 Zto:=okP ZnM (fun x=>.b0 x.1 x.2.1 x.2.2.1) (by kernel_rfl) Tryz.func246 (by kernel_rfl) (by kernel_rfl) (fun _=>rfl) (fun _=>rfl)
inductive Z6L where
 | b0 (a0:List Int)
 | b1 (a0:List Int) (a1 a2:Int)
noncomputable def ZeG:Z6L->Tr U (Int⊕Z6L)
 | .b0 a0=>.leaf (.inr (.b1 a0 (0:Int) (w64 ((↑a0.length:Int) - (1:Int)))))
 | .b1 a0 a1 a2=>.br (decide (a2>=(0:Int))) ( .chk (decide (0<=a2/\a2<(↑a0.length:Int))) ( .bind 5 (a0[(Int.toNat a2)]?) (fun(x1:Int)=>.leaf (.inr (.b1 a0 (IntKind.wrap .u64 ((IntKind.wrap .u64 (a1*(256:Int)))+(IntKind.wrap .u64 (x1)))) (w64 (a2 - (1:Int)))))))) ( .leaf (.inl a1))
noncomputable def ZdU (a0:List Int):Option Int:=Z05 ZeG (.b0 a0)
noncomputable def ZwM:Mod U:=⟨[62],25,fun x=>ZdU x.1,by decide⟩
def ZfA:Lay:=⟨[0,3,4],[[.s 5 1],[.keep],[.keep]],[],⟨[.one (.v 62 1 false),.one (.v 25 1 false),.one (.v 3 1 false)],[]⟩⟩
def Zy9:Nat->Option Lay
 | 3=>some ZfA
 | _=>none
noncomputable def ZtD:Z6L->Z08 U
 | .b0 a0=>Z0f Tryz.f360 [62] (a0,())
 | .b1 a0 a1 a2=>spL Tryz.f360 [1,1,0,1,0,0,0,0] ZfA (((a0,()),((a1,()),((a2,()),()))),())
theorem ZqG:Z0e 360 Tryz.f360 msN hsN Zy9 25 ZeG ZtD
 | .b0 _=>by kernel_rfl
 | .b1 _ _ _=>by kernel_rfl
theorem Zwd:Z04 Tryz.prog B0 360 ZwM:=okP ZqG (fun x=>.b0 x.1) (by kernel_rfl) Tryz.func360 (by kernel_rfl) (by kernel_rfl) (fun _=>rfl) (fun _=>rfl)
inductive Zax where
 | b0 (a0:Int) (a1:List Int)
 | b1 (a0:Int) (a1:List Int) (a2 a3:Int)
noncomputable def Zn7:Zax->Tr U (Int⊕Zax)
 | .b0 a0 a1=>.bind 25 (Z8i a0 (IntKind.wrap .u64 ((↑a1.length:Int)))) (fun(x1:Int)=>.leaf (.inr (.b1 a0 a1 x1 (0:Int))))
 | .b1 a0 a1 a2 a3=>.br (decide (a3<(↑a1.length:Int))) ( .chk (decide (0<=(if (↑a1.length:Int)<(w64 (a3+(8:Int))) then (↑a1.length:Int) else (w64 (a3+(8:Int))))/\(if (↑a1.length:Int)<(w64 (a3+(8:Int))) then (↑a1.length:Int) else (w64 (a3+(8:Int))))<=(↑a1.length:Int))) ( .chk (decide (0<=a3/\a3<=(↑(Int.toNat (if (↑a1.length:Int)<(w64 (a3+(8:Int))) then (↑a1.length:Int) else (w64 (a3+(8:Int))))):Int))) ( .bind 25 (ZdU ((a1.drop (Int.toNat a3)).take ((Int.toNat (if (↑a1.length:Int)<(w64 (a3+(8:Int))) then (↑a1.length:Int) else (w64 (a3+(8:Int))))) - (Int.toNat a3)))) (fun(x1:Int)=>.bind 25 (Z8i a0 (bits .xor .u64 a2 x1)) (fun(x2:Int)=>.leaf (.inr (.b1 a0 a1 x2 (w64 (a3+(8:Int)))))))))) ( .leaf (.inl a2))
noncomputable def Zf9 (a0:Int) (a1:List Int):Option Int:=Z05 Zn7 (.b0 a0 a1)
noncomputable def ZH3:Mod U:=⟨[29,62],25,fun x=>Zf9 x.1 x.2.1,by decide⟩
def Zlj:Lay:=⟨[0,1,5,6],[[.keep],[.s 5 1],[.keep],[.keep]],[],⟨[.one (.v 29 1 false),.one (.v 62 1 false),.one (.v 25 1 false),.one (.v 3 1 false)],[]⟩⟩
def ZGR:Nat->Option Lay
 | 3=>some Zlj
 | _=>none
noncomputable def ZBR:Zax->Z08 U
 | .b0 a0 a1=>Z0f Tryz.f329 [29,62] (a0,a1,())
 | .b1 a0 a1 a2 a3=>spL Tryz.f329 [1,1,0,1,0,0,0,0] Zlj (((a0,()),((a1,()),((a2,()),((a3,()),())))),())
theorem ZwD:Z0e 329 Tryz.f329 (mc Zpe (mc Zwd msN)) hsN ZGR 25 Zn7 ZBR
 | .b0 _ _=>by kernel_rfl
 | .b1 _ _ _ _=>by kernel_rfl
theorem ZpN:Z04 Tryz.prog B0 329 ZH3:=okP ZwD (fun x=>.b0 x.1 x.2.1) (by kernel_rfl) Tryz.func329 (by kernel_rfl) (by kernel_rfl) (fun _=>rfl) (fun _=>rfl)
inductive Z6B where
 | b0 (a0:Int) (a1 a2:List Int)
noncomputable def ZdF:Z6B->Tr U (Z35⊕Z6B)
 | .b0 a0 a1 a2=>.bind 1351 (Z6y (8:Int) a0) (fun(y1:Z1R)=>.bind 1351 (Z6y (4:Int) (IntKind.wrap .u64 ((↑a1.length:Int)))) (fun(y2:Z1R)=>.chk (y2.q0.length==y2.q0.length) ( .chk (y1.q0.length==y1.q0.length) ( .chk (decide ((y1.q0.length+y2.q0.length)*1<=lim)&&decide (y1.q0.length+y2.q0.length<=maxLen)) ( .chk ((y1.q0++y2.q0).length==(y1.q0++y2.q0).length) ( .chk (decide (((y1.q0++y2.q0).length+a1.length)*1<=lim)&&decide ((y1.q0++y2.q0).length+a1.length<=maxLen)) ( .chk (((y1.q0++y2.q0)++a1).length==((y1.q0++y2.q0)++a1).length) ( .chk (decide ((((y1.q0++y2.q0)++a1).length+a2.length)*1<=lim)&&decide (((y1.q0++y2.q0)++a1).length+a2.length<=maxLen)) ( .chk ((((y1.q0++y2.q0)++a1)++a2).length==(((y1.q0++y2.q0)++a1)++a2).length) ( .leaf (.inl (⟨(((y1.q0++y2.q0)++a1)++a2)⟩:Z35))))))))))))
noncomputable def ZeH (a0:Int) (a1 a2:List Int):Option Z35:=Z05 ZdF (.b0 a0 a1 a2)
def ZgQ:Shape:=⟨[.one (.v 25 1 false),.one (.v 62 1 false),.one (.v 62 1 false)],[]⟩
noncomputable def Zmm:HMod U:=⟨[[.keep],[.s 5 1],[.s 5 1]],[],ZgQ,⟨[.one (.own 5 0)],[.row 5 true]⟩,true,1352,fun(y:Z35)=>(((),()),(y.q0,())),fun x=>ZeH x.1.1.1 x.1.2.1.1 x.1.2.2.1.1,⟨⟨⟨by decide,fun _=>rfl⟩,⟨⟨by decide,fun _=>rfl⟩,⟨⟨by decide,fun _=>rfl⟩,trivial⟩⟩⟩,trivial⟩⟩
noncomputable def ZsL:Z6B->Z08 U
 | .b0 a0 a1 a2=>ZJp Tryz.f330 ZgQ (((a0,()),((a1,()),((a2,()),()))),())
theorem Zq7:ZK4 330 Tryz.f330 msN (hc [] ZbO hsN) AN [[.own 5 1]] [.row true] 0 Zmm ZdF ZsL
 | .b0 _ _ _=>by kernel_rfl
theorem ZvA:Z5J Tryz.prog B0 330 Zmm:=okH Zq7 (fun x=>.b0 x.1.1.1 x.1.2.1.1 x.1.2.2.1.1) (fun x=>by kernel_rfl) (by kernel_rfl) Tryz.func330 (by kernel_rfl) (by kernel_rfl) (fun x=>by kernel_rfl) (fun x=>by kernel_rfl)
inductive ZbL where
 | b0 (a0 a1:Int) (a2 a3:List Int)
noncomputable def Zng:ZbL->Tr U ((List Int)⊕ZbL)
 | .b0 a0 a1 a2 a3=>.bind 1352 (ZeH a1 a2 a3) (fun(y1:Z35)=>.chk (y1.q0.length==y1.q0.length) ( .bind 25 (Zf9 a0 y1.q0) (fun(x2:Int)=>.bind 1351 (Z6y (4:Int) x2) (fun(y3:Z1R)=>.chk (y3.q0.length==y3.q0.length) ( .leaf (.inl y3.q0))))))
noncomputable def Zgl (a0 a1:Int) (a2 a3:List Int):Option (List Int):=Z05 Zng (.b0 a0 a1 a2 a3)
noncomputable def ZEV:Mod U:=⟨[29,25,62,62],62,fun x=>Zgl x.1 x.2.1 x.2.2.1 x.2.2.2.1,by decide⟩
noncomputable def ZDe:ZbL->Z08 U
 | .b0 a0 a1 a2 a3=>Z0f Tryz.f247 [29,25,62,62] (a0,a1,a2,a3,())
theorem ZwW:Z0e 247 Tryz.f247 (mc ZpN msN) (hc [] ZbO (hc [] ZvA hsN)) AN 62 Zng ZDe
 | .b0 _ _ _ _=>by kernel_rfl
theorem ZpO:Z04 Tryz.prog B0 247 ZEV:=okP ZwW (fun x=>.b0 x.1 x.2.1 x.2.2.1 x.2.2.2.1) (by kernel_rfl) Tryz.func247 (by kernel_rfl) (by kernel_rfl) (fun _=>rfl) (fun _=>rfl)
inductive Za4 where
 | b0 (a0 a1:List Int)
 | b1 (a0 a1 a2:List Int) (a3:Int)
 | b2 (a0 a1 a2:List Int) (a3:Int)
noncomputable def ZlJ:Za4->Tr U (Z3L⊕Za4)
 | .b0 a0 a1=>.chk (([]:List Int).length==0) ( .leaf (.inr (.b1 a0 a1 ([]:List Int) (0:Int))))
 | .b1 a0 a1 a2 a3=>.br (decide (a3<(↑a0.length:Int))) ( .br (decide (a3<(↑a1.length:Int))) ( .chk (a2.length==a2.length) ( .leaf (.inr (.b2 a0 a1 a2 a3)))) ( .chk (a2.length==a2.length) ( .leaf (.inl (⟨a2⟩:Z3L))))) ( .chk (a2.length==a2.length) ( .leaf (.inl (⟨a2⟩:Z3L))))
 | .b2 a0 a1 a2 a3=>.chk (decide (0<=a3/\a3<(↑a0.length:Int))) ( .bind 5 (a0[(Int.toNat a3)]?) (fun(x1:Int)=>.chk (decide (0<=a3/\a3<(↑a1.length:Int))) ( .bind 5 (a1[(Int.toNat a3)]?) (fun(x2:Int)=>.chk (([(bits .xor .u8 x1 x2)]).length==1) ( .chk (a2.length==a2.length) ( .chk (decide ((a2.length+([(bits .xor .u8 x1 x2)]).length)*1<=lim)&&decide (a2.length+([(bits .xor .u8 x1 x2)]).length<=maxLen)) ( .chk ((a2++[(bits .xor .u8 x1 x2)]).length==(a2++[(bits .xor .u8 x1 x2)]).length) ( .leaf (.inr (.b1 a0 a1 (a2++[(bits .xor .u8 x1 x2)]) (w64 (a3+(1:Int)))))))))))))
noncomputable def Zfb (a0 a1:List Int):Option Z3L:=Z05 ZlJ (.b0 a0 a1)
def Zlf:Shape:=⟨[.one (.v 62 1 false),.one (.v 62 1 false)],[]⟩
noncomputable def Zt1:HMod U:=⟨[[.s 5 1],[.s 5 1]],[],Zlf,⟨[.one (.own 5 0)],[.row 5 true]⟩,true,1350,fun(y:Z3L)=>(((),()),(y.q0,())),fun x=>Zfb x.1.1.1 x.1.2.1.1,⟨⟨⟨by decide,fun _=>rfl⟩,⟨⟨by decide,fun _=>rfl⟩,trivial⟩⟩,trivial⟩⟩
def Znn:Lay:=⟨[0,1,5,6],[[.s 5 1],[.s 5 1],[.own 5 1],[.keep]],[.row true],⟨[.one (.v 62 1 false),.one (.v 62 1 false),.one (.own 5 0),.one (.v 3 1 false)],[.row 5 true]⟩⟩
def ZmI:Lay:=⟨[0,1,5,6],[[.s 5 1],[.s 5 1],[.own 5 1],[.keep]],[.row true],⟨[.one (.v 62 1 false),.one (.v 62 1 false),.one (.own 5 0),.one (.v 3 1 false)],[.row 5 true]⟩⟩
def ZH7:Nat->Option Lay
 | 3=>some Znn
 | 5=>some ZmI
 | _=>none
noncomputable def ZCs:Za4->Z08 U
 | .b0 a0 a1=>ZJp Tryz.f245 Zlf (((a0,()),((a1,()),())),())
 | .b1 a0 a1 a2 a3=>spL Tryz.f245 [1,1,0,1,0,0,0,0] Znn (((a0,()),((a1,()),((),((a3,()),())))),(a2,()))
 | .b2 a0 a1 a2 a3=>spL Tryz.f245 [1,1,0,1,0,0,1,0,0] ZmI (((a0,()),((a1,()),((),((a3,()),())))),(a2,()))
theorem ZzH:ZK4 245 Tryz.f245 msN hsN ZH7 [[.own 5 1]] [.row true] 0 Zt1 ZlJ ZCs
 | .b0 _ _=>by kernel_rfl
 | .b1 _ _ _ _=>by kernel_rfl
 | .b2 _ _ _ _=>by kernel_rfl
theorem Zpd:Z5J Tryz.prog B0 245 Zt1:=okH ZzH (fun x=>.b0 x.1.1.1 x.1.2.1.1) (fun x=>by kernel_rfl) (by kernel_rfl) Tryz.func245 (by kernel_rfl) (by kernel_rfl) (fun x=>by kernel_rfl) (fun x=>by kernel_rfl)
end Go.Proofs.YtjodhcdmhobmoaaGreatDoor
namespace Go.Proofs.YtjodhcdmhobmoaaGreatDoor
open Go Go.Proofs.YtjodhcdmhobmoaaGreatDoor.Le
set_option maxRecDepth 100000
inductive Z8a where
 | b0 (a0 a1:Int) (a2 a3:List Int)
noncomputable def ZhY:Z8a->Tr U ((List Int)⊕Z8a)
 | .b0 a0 a1 a2 a3=>.bind 62 (Z7A a0 a1 (↑a3.length:Int)) (fun(x1:List Int)=>.bind 1350 (Zfb a3 x1) (fun(y2:Z3L)=>.chk (y2.q0.length==y2.q0.length) ( .bind 62 (Zgl a0 a1 a2 y2.q0) (fun(x3:List Int)=>.chk (y2.q0.length==y2.q0.length) ( .chk (decide ((y2.q0.length+x3.length)*1<=lim)&&decide (y2.q0.length+x3.length<=maxLen)) ( .chk ((y2.q0++x3).length==(y2.q0++x3).length) ( .leaf (.inl (y2.q0++x3)))))))))
noncomputable def ZhG (a0 a1:Int) (a2 a3:List Int):Option (List Int):=Z05 ZhY (.b0 a0 a1 a2 a3)
noncomputable def ZCF:Mod U:=⟨[29,25,62,62],62,fun x=>ZhG x.1 x.2.1 x.2.2.1 x.2.2.2.1,by decide⟩
noncomputable def Zzc:Z8a->Z08 U
 | .b0 a0 a1 a2 a3=>Z0f Tryz.f169 [29,25,62,62] (a0,a1,a2,a3,())
theorem Zu9:Z0e 169 Tryz.f169 (mc Zgf (mc ZpO msN)) (hc [] Zpd hsN) AN 62 ZhY Zzc
 | .b0 _ _ _ _=>by kernel_rfl
theorem ZyA:Z04 Tryz.prog B0 169 ZCF:=okP Zu9 (fun x=>.b0 x.1 x.2.1 x.2.2.1 x.2.2.2.1) (by kernel_rfl) Tryz.func169 (by kernel_rfl) (by kernel_rfl) (fun _=>rfl) (fun _=>rfl)
inductive Z6I where
 | b0 (a0:Zv) (a1 a2:Int)
 | b1 (a0 a1:Int) (a2:Zv)
noncomputable def ZdY:Z6I->Tr U (Int⊕Z6I)
 | .b0 a0 a1 a2=>.br (a1==(1:Int)) ( .leaf (.inr (.b1 a2 (1:Int) a0))) ( .leaf (.inr (.b1 a2 (0:Int) a0)))
 | .b1 a0 a1 a2=>.leaf (.inl (bits .xor .u64 a2.Z4h (IntKind.wrap .u64 ((IntKind.wrap .u64 ((2:Int)*a0))+a1))))
noncomputable def Z9g (a0:Zv) (a1 a2:Int):Option Int:=Z05 ZdY (.b0 a0 a1 a2)
noncomputable def Zwz:Mod U:=⟨[41,3,25],25,fun x=>Z9g x.1 x.2.1 x.2.2.1,by decide⟩
def Zgt:Lay:=⟨[2,3,7],[[.keep],[.keep],[.keep]],[.var k7],⟨[.one (.v 25 1 false),.one (.ptr 0),.one (.v 25 1 false)],[.var 41 7 (.agg [.v 41 7 true])]⟩⟩
def ZzK:Nat->Option Lay
 | 4=>some Zgt
 | _=>none
noncomputable def ZuE:Z6I->Z08 U
 | .b0 a0 a1 a2=>Z0f Tryz.f170 [41,3,25] (a0,a1,a2,())
 | .b1 a0 a1 a2=>spL Tryz.f170 [1,1,1,0] Zgt (((a0,()),((),((a1,()),()))),((a2,()),()))
theorem Zrs:Z0e 170 Tryz.f170 msN hsN ZzK 25 ZdY ZuE
 | .b0 _ _ _=>by kernel_rfl
 | .b1 _ _ _=>by kernel_rfl
theorem ZjK:Z04 Tryz.prog B0 170 Zwz:=okP Zrs (fun x=>.b0 x.1 x.2.1 x.2.2.1) (by kernel_rfl) Tryz.func170 (by kernel_rfl) (by kernel_rfl) (fun _=>rfl) (fun _=>rfl)
inductive Z8E where
 | b0 (a0:Zv) (a1:Zk)
 | b1 (a0:Zv) (a1 a2:Zk)
noncomputable def Zis:Z8E->Tr U ((Zk×Int)⊕Z8E)
 | .b0 a0 a1=>.bind 45 (Z2u a1) (fun(x1:Int)=>.br (x1 != (0:Int)) ( .leaf (.inl (Z0D,x1))) ( .br (!a0.ZJn) ( .leaf (.inl (a1,(0:Int)))) ( .bind 4 (Z4g a1.ZH) (fun(x2:Bool)=>.br x2 ( .leaf (.inl (a1,(0:Int)))) ( .leaf (.inr (.b1 a0 a1 (⟨(0:Int),(0:Int),(0:Int),(⟨(0:Int),([]:List Int)⟩:Zb)⟩:Zk))))))))
 | .b1 a0 a1 a2=>.br (decide ((↑a1.ZH.Payload.length:Int)>(251:Int))) ( .leaf (.inl (Z0D,(4:Int)))) ( .bind 25 (Z9g a0 a0.Z1G a0.Tx) (fun(x1:Int)=>.chk (([(IntKind.wrap .u8 (a1.ZH.Z5c))]).length==1) ( .bind 62 (ZhG a0.Key x1 ([(IntKind.wrap .u8 (a1.ZH.Z5c))]) a1.ZH.Payload) (fun(x2:List Int)=>.bind 70 (Zc8 a1 x2) (fun(x3:Zk)=>.leaf (.inl (x3,(0:Int))))))))
noncomputable def Zic (a0:Zv) (a1:Zk):Option (Zk×Int):=Z05 Zis (.b0 a0 a1)
noncomputable def ZCO:Mod U:=⟨[41,70],71,fun x=>Zic x.1 x.2.1,by decide⟩
def Zjs:Lay:=⟨[2,3,4],[[.keep],[.keep],[.keep]],[.var k7,.var k5,.var k5],⟨[.one (.ptr 0),.one (.ptr 1),.one (.ptr 2)],[.var 41 7 (.agg [.v 41 7 true]),.var 70 5 (.agg [.v 70 5 true]),.var 70 5 (.agg [.v 70 5 true])]⟩⟩
def ZBC:Nat->Option Lay
 | 6=>some Zjs
 | _=>none
noncomputable def Zxg:Z8E->Z08 U
 | .b0 a0 a1=>Z0f Tryz.f72 [41,70] (a0,a1,())
 | .b1 a0 a1 a2=>spL Tryz.f72 [1,1,1,0,0] Zjs (((),((),((),()))),((a0,()),((a1,()),((a2,()),()))))
theorem Zvm:Z0e 72 Tryz.f72 (mc Z7l (mc Z38 (mc Zna (mc ZyA (mc ZjK msN))))) hsN ZBC 71 Zis Zxg
 | .b0 _ _=>by kernel_rfl
 | .b1 _ _ _=>by kernel_rfl
theorem Zyr:Z04 Tryz.prog B0 72 ZCO:=okP Zvm (fun x=>.b0 x.1 x.2.1) (by kernel_rfl) Tryz.func72 (by kernel_rfl) (by kernel_rfl) (fun _=>rfl) (fun _=>rfl)
inductive Z4T where
 | b0 (a0:Zk)
noncomputable def Zay:Z4T->Tr U (((List Int)×Int)⊕Z4T)
 | .b0 a0=>.bind 45 (Z2u a0) (fun(x1:Int)=>.br (x1 != (0:Int)) ( .chk (([]:List Int).length==0) ( .leaf (.inl (([]:List Int),x1)))) ( .chk (([(IntKind.wrap .u8 ((w64 ((w64 ((w64 (a0.ZH.Z5c+(w64 ((4:Int)*a0.Z8Y))))+(w64 ((8:Int)*a0.SN))))+(w64 ((16:Int)*a0.MD)))))),(IntKind.wrap .u8 ((↑a0.ZH.Payload.length:Int)))]).length==2) ( .chk (decide ((2+a0.ZH.Payload.length)*1<=lim)&&decide (2+a0.ZH.Payload.length<=maxLen)) ( .chk (([(IntKind.wrap .u8 ((w64 ((w64 ((w64 (a0.ZH.Z5c+(w64 ((4:Int)*a0.Z8Y))))+(w64 ((8:Int)*a0.SN))))+(w64 ((16:Int)*a0.MD)))))),(IntKind.wrap .u8 ((↑a0.ZH.Payload.length:Int)))]++a0.ZH.Payload).length==([(IntKind.wrap .u8 ((w64 ((w64 ((w64 (a0.ZH.Z5c+(w64 ((4:Int)*a0.Z8Y))))+(w64 ((8:Int)*a0.SN))))+(w64 ((16:Int)*a0.MD)))))),(IntKind.wrap .u8 ((↑a0.ZH.Payload.length:Int)))]++a0.ZH.Payload).length) ( .leaf (.inl (([(IntKind.wrap .u8 ((w64 ((w64 ((w64 (a0.ZH.Z5c+(w64 ((4:Int)*a0.Z8Y))))+(w64 ((8:Int)*a0.SN))))+(w64 ((16:Int)*a0.MD)))))),(IntKind.wrap .u8 ((↑a0.ZH.Payload.length:Int)))]++a0.ZH.Payload),(0:Int))))))))
noncomputable def Zat (a0:Zk):Option ((List Int)×Int):=Z05 Zay (.b0 a0)
noncomputable def Zth:Mod U:=⟨[70],120,fun x=>Zat x.1,by decide⟩
noncomputable def Zr0:Z4T->Z08 U
 | .b0 a0=>Z0f Tryz.f73 [70] (a0,())
theorem ZnY:Z0e 73 Tryz.f73 (mc Z38 msN) hsN AN 120 Zay Zr0
 | .b0 _=>by kernel_rfl
theorem ZrN:Z04 Tryz.prog B0 73 Zth:=okP ZnY (fun x=>.b0 x.1) (by kernel_rfl) Tryz.func73 (by kernel_rfl) (by kernel_rfl) (fun _=>rfl) (fun _=>rfl)
inductive Z8y where
 | b0 (a0:Int)
noncomputable def Zia:Z8y->Tr U ((List Int)⊕Z8y)
 | .b0 a0=>.chk (([(IntKind.wrap .u8 ((Int.tmod a0 (256:Int)))),(IntKind.wrap .u8 ((Int.tmod (IntKind.wrap .u32 (Int.tdiv a0 (256:Int))) (256:Int)))),(IntKind.wrap .u8 ((IntKind.wrap .u32 (Int.tdiv a0 (65536:Int)))))]).length==3) ( .leaf (.inl ([(IntKind.wrap .u8 ((Int.tmod a0 (256:Int)))),(IntKind.wrap .u8 ((Int.tmod (IntKind.wrap .u32 (Int.tdiv a0 (256:Int))) (256:Int)))),(IntKind.wrap .u8 ((IntKind.wrap .u32 (Int.tdiv a0 (65536:Int)))))])))
noncomputable def ZbR (a0:Int):Option (List Int):=Z05 Zia (.b0 a0)
noncomputable def ZDv:Mod U:=⟨[22],62,fun x=>ZbR x.1,by decide⟩
noncomputable def ZzN:Z8y->Z08 U
 | .b0 a0=>Z0f Tryz.f172 [22] (a0,())
theorem ZtJ:Z0e 172 Tryz.f172 msN hsN AN 62 Zia ZzN
 | .b0 _=>by kernel_rfl
theorem Zm7:Z04 Tryz.prog B0 172 ZDv:=okP ZtJ (fun x=>.b0 x.1) (by kernel_rfl) Tryz.func172 (by kernel_rfl) (by kernel_rfl) (fun _=>rfl) (fun _=>rfl)
inductive Z85 where
 | b0 (a0 a1:Int)
noncomputable def ZhZ:Z85->Tr U (Int⊕Z85)
 | .b0 a0 a1=>.br ((bits .xor .u32 (Int.tmod a0 (2:Int)) a1)==(1:Int)) ( .leaf (.inl (bits .xor .u32 (IntKind.wrap .u32 (Int.tdiv a0 (2:Int))) (14311424:Int)))) ( .leaf (.inl (IntKind.wrap .u32 (Int.tdiv a0 (2:Int)))))
noncomputable def ZhH (a0 a1:Int):Option Int:=Z05 ZhZ (.b0 a0 a1)
noncomputable def ZDB:Mod U:=⟨[22,22],22,fun x=>ZhH x.1 x.2.1,by decide⟩
noncomputable def ZzD:Z85->Z08 U
 | .b0 a0 a1=>Z0f Tryz.f250 [22,22] (a0,a1,())
theorem ZsT:Z0e 250 Tryz.f250 msN hsN AN 22 ZhZ ZzD
 | .b0 _ _=>by kernel_rfl
theorem ZzG:Z04 Tryz.prog B0 250 ZDB:=okP ZsT (fun x=>.b0 x.1 x.2.1) (by kernel_rfl) Tryz.func250 (by kernel_rfl) (by kernel_rfl) (fun _=>rfl) (fun _=>rfl)
inductive Za9 where
 | b0 (a0:Int) (a1:List Int)
 | b1 (a0:List Int) (a1 a2:Int)
 | b2 (a0:List Int) (a1 a2 a3 a4:Int)
noncomputable def Zm8:Za9->Tr U (Int⊕Za9)
 | .b0 a0 a1=>.leaf (.inr (.b1 a1 (Int.tmod a0 (16777216:Int)) (0:Int)))
 | .b1 a0 a1 a2=>.br (decide (a2<(↑a0.length:Int))) ( .chk (decide (0<=a2/\a2<(↑a0.length:Int))) ( .bind 5 (a0[(Int.toNat a2)]?) (fun(x1:Int)=>.leaf (.inr (.b2 a0 a1 a2 (IntKind.wrap .u32 (x1)) (0:Int)))))) ( .leaf (.inl a1))
 | .b2 a0 a1 a2 a3 a4=>.br (decide (a4<(8:Int))) ( .bind 22 (ZhH a1 (Int.tmod a3 (2:Int))) (fun(x1:Int)=>.leaf (.inr (.b2 a0 x1 a2 (IntKind.wrap .u32 (Int.tdiv a3 (2:Int))) (w64 (a4+(1:Int))))))) ( .leaf (.inr (.b1 a0 a1 (w64 (a2+(1:Int))))))
noncomputable def Zh4 (a0:Int) (a1:List Int):Option Int:=Z05 Zm8 (.b0 a0 a1)
noncomputable def ZE0:Mod U:=⟨[22,62],22,fun x=>Zh4 x.1 x.2.1,by decide⟩
def ZlL:Lay:=⟨[1,5,6],[[.s 5 1],[.keep],[.keep]],[],⟨[.one (.v 62 1 false),.one (.v 22 1 false),.one (.v 3 1 false)],[]⟩⟩
def Zmr:Lay:=⟨[1,5,6,7,8],[[.s 5 1],[.keep],[.keep],[.keep],[.keep]],[],⟨[.one (.v 62 1 false),.one (.v 22 1 false),.one (.v 3 1 false),.one (.v 22 1 false),.one (.v 3 1 false)],[]⟩⟩
def ZGG:Nat->Option Lay
 | 3=>some ZlL
 | 7=>some Zmr
 | _=>none
noncomputable def ZCR:Za9->Z08 U
 | .b0 a0 a1=>Z0f Tryz.f173 [22,62] (a0,a1,())
 | .b1 a0 a1 a2=>spL Tryz.f173 [1,1,0,1,0,0,0,0] ZlL (((a0,()),((a1,()),((a2,()),()))),())
 | .b2 a0 a1 a2 a3 a4=>spL Tryz.f173 [1,1,0,1,0,0,1,0,0,1,1,0,0,0,0] Zmr (((a0,()),((a1,()),((a2,()),((a3,()),((a4,()),()))))),())
theorem Zzo:Z0e 173 Tryz.f173 (mc ZzG msN) hsN ZGG 22 Zm8 ZCR
 | .b0 _ _=>by kernel_rfl
 | .b1 _ _ _=>by kernel_rfl
 | .b2 _ _ _ _ _=>by kernel_rfl
theorem ZoV:Z04 Tryz.prog B0 173 ZE0:=okP Zzo (fun x=>.b0 x.1 x.2.1) (by kernel_rfl) Tryz.func173 (by kernel_rfl) (by kernel_rfl) (fun _=>rfl) (fun _=>rfl)
inductive Z4V where
 | b0 (a0:Int) (a1:List Int)
noncomputable def Zal:Z4V->Tr U ((List Int)⊕Z4V)
 | .b0 a0 a1=>.chk (([]:List Int).length==0) ( .chk (decide ((0+a1.length)*1<=lim)&&decide (0+a1.length<=maxLen)) ( .bind 22 (Zh4 a0 a1) (fun(x1:Int)=>.bind 62 (ZbR x1) (fun(x2:List Int)=>.chk ((([]:List Int)++a1).length==(([]:List Int)++a1).length) ( .chk (decide (((([]:List Int)++a1).length+x2.length)*1<=lim)&&decide ((([]:List Int)++a1).length+x2.length<=maxLen)) ( .chk (((([]:List Int)++a1)++x2).length==((([]:List Int)++a1)++x2).length) ( .leaf (.inl ((([]:List Int)++a1)++x2)))))))))
noncomputable def ZbM (a0:Int) (a1:List Int):Option (List Int):=Z05 Zal (.b0 a0 a1)
noncomputable def ZsU:Mod U:=⟨[22,62],62,fun x=>ZbM x.1 x.2.1,by decide⟩
noncomputable def Zrm:Z4V->Z08 U
 | .b0 a0 a1=>Z0f Tryz.f75 [22,62] (a0,a1,())
theorem ZnL:Z0e 75 Tryz.f75 (mc Zm7 (mc ZoV msN)) hsN AN 62 Zal Zrm
 | .b0 _ _=>by kernel_rfl
theorem Zrf:Z04 Tryz.prog B0 75 ZsU:=okP ZnL (fun x=>.b0 x.1 x.2.1) (by kernel_rfl) Tryz.func75 (by kernel_rfl) (by kernel_rfl) (fun _=>rfl) (fun _=>rfl)
inductive Z66 where
 | b0 (a0:Int)
noncomputable def ZdE:Z66->Tr U (Int⊕Z66)
 | .b0 a0=>.leaf (.inl (w64 ((64:Int)+(if (if (39:Int)<a0 then (39:Int) else a0)>(0:Int) then (if (39:Int)<a0 then (39:Int) else a0) else (0:Int)))))
noncomputable def Ze1 (a0:Int):Option Int:=Z05 ZdE (.b0 a0)
noncomputable def ZxN:Mod U:=⟨[3],3,fun x=>Ze1 x.1,by decide⟩
noncomputable def Zv1:Z66->Z08 U
 | .b0 a0=>Z0f Tryz.f248 [3] (a0,())
theorem Zqs:Z0e 248 Tryz.f248 msN hsN AN 3 ZdE Zv1
 | .b0 _=>by kernel_rfl
theorem Ztx:Z04 Tryz.prog B0 248 ZxN:=okP Zqs (fun x=>.b0 x.1) (by kernel_rfl) Tryz.func248 (by kernel_rfl) (by kernel_rfl) (fun _=>rfl) (fun _=>rfl)
inductive Z8F where
 | b0 (a0:Int)
noncomputable def ZiI:Z8F->Tr U (Int⊕Z8F)
 | .b0 a0=>.br (decide (a0>=(64:Int))) ( .leaf (.inl (bits .xor .i64 (Int.tmod (w64 (a0*(2:Int))) (128:Int)) (17:Int)))) ( .leaf (.inl (Int.tmod (w64 (a0*(2:Int))) (128:Int))))
noncomputable def Zih (a0:Int):Option Int:=Z05 ZiI (.b0 a0)
noncomputable def ZDj:Mod U:=⟨[3],3,fun x=>Zih x.1,by decide⟩
noncomputable def Zwv:Z8F->Z08 U
 | .b0 a0=>Z0f Tryz.f249 [3] (a0,())
theorem Ztt:Z0e 249 Tryz.f249 msN hsN AN 3 ZiI Zwv
 | .b0 _=>by kernel_rfl
theorem Zxy:Z04 Tryz.prog B0 249 ZDj:=okP Ztt (fun x=>.b0 x.1) (by kernel_rfl) Tryz.func249 (by kernel_rfl) (by kernel_rfl) (fun _=>rfl) (fun _=>rfl)
inductive Z2X where
 | b0 (a0 a1:Int)
 | b1 (a0:Int) (a1:List Int) (a2 a3:Int)
 | b2 (a0:Int) (a1:List Int) (a2 a3 a4 a5 a6:Int)
noncomputable def Z7R:Z2X->Tr U ((List Int)⊕Z2X)
 | .b0 a0 a1=>.bind 3 (Ze1 a0) (fun(x1:Int)=>.chk (([]:List Int).length==0) ( .leaf (.inr (.b1 a1 ([]:List Int) x1 (0:Int)))))
 | .b1 a0 a1 a2 a3=>.br (decide (a3<a0)) ( .chk (a1.length==a1.length) ( .leaf (.inr (.b2 a0 a1 a2 a3 (0:Int) (1:Int) (0:Int))))) ( .chk (a1.length==a1.length) ( .leaf (.inl a1)))
 | .b2 a0 a1 a2 a3 a4 a5 a6=>.br (decide (a6<(8:Int))) ( .bind 3 (Zih a2) (fun(x1:Int)=>.chk (a1.length==a1.length) ( .leaf (.inr (.b2 a0 a1 x1 a3 (w64 (a4+(w64 (a5*(w64 (Int.tdiv a2 (64:Int))))))) (w64 (a5*(2:Int))) (w64 (a6+(1:Int)))))))) ( .chk (([(IntKind.wrap .u8 (a4))]).length==1) ( .chk (a1.length==a1.length) ( .chk (decide ((a1.length+([(IntKind.wrap .u8 (a4))]).length)*1<=lim)&&decide (a1.length+([(IntKind.wrap .u8 (a4))]).length<=maxLen)) ( .chk ((a1++[(IntKind.wrap .u8 (a4))]).length==(a1++[(IntKind.wrap .u8 (a4))]).length) ( .leaf (.inr (.b1 a0 (a1++[(IntKind.wrap .u8 (a4))]) a2 (w64 (a3+(1:Int))))))))))
noncomputable def Z7Q (a0 a1:Int):Option (List Int):=Z05 Z7R (.b0 a0 a1)
noncomputable def ZnU:Mod U:=⟨[3,3],62,fun x=>Z7Q x.1 x.2.1,by decide⟩
def Z9H:Lay:=⟨[1,5,6,7],[[.keep],[.own 5 1],[.keep],[.keep]],[.row true],⟨[.one (.v 3 1 false),.one (.own 5 0),.one (.v 3 1 false),.one (.v 3 1 false)],[.row 5 true]⟩⟩
def Z9I:Lay:=⟨[1,5,6,7,8,9,10],[[.keep],[.own 5 1],[.keep],[.keep],[.keep],[.keep],[.keep]],[.row true],⟨[.one (.v 3 1 false),.one (.own 5 0),.one (.v 3 1 false),.one (.v 3 1 false),.one (.v 3 1 false),.one (.v 3 1 false),.one (.v 3 1 false)],[.row 5 true]⟩⟩
def Zog:Nat->Option Lay
 | 4=>some Z9H
 | 8=>some Z9I
 | _=>none
noncomputable def ZlW:Z2X->Z08 U
 | .b0 a0 a1=>Z0f Tryz.f171 [3,3] (a0,a1,())
 | .b1 a0 a1 a2 a3=>spL Tryz.f171 [1,1,1,0,1,0,0,0,0] Z9H (((a0,()),((),((a2,()),((a3,()),())))),(a1,()))
 | .b2 a0 a1 a2 a3 a4 a5 a6=>spL Tryz.f171 [1,1,1,0,1,0,0,1,0,0,1,0,1,0,0,0,0] Z9I (((a0,()),((),((a2,()),((a3,()),((a4,()),((a5,()),((a6,()),()))))))),(a1,()))
theorem Zkt:Z0e 171 Tryz.f171 (mc Ztx (mc Zxy msN)) hsN Zog 62 Z7R ZlW
 | .b0 _ _=>by kernel_rfl
 | .b1 _ _ _ _=>by kernel_rfl
 | .b2 _ _ _ _ _ _ _=>by kernel_rfl
theorem Zmw:Z04 Tryz.prog B0 171 ZnU:=okP Zkt (fun x=>.b0 x.1 x.2.1) (by kernel_rfl) Tryz.func171 (by kernel_rfl) (by kernel_rfl) (fun _=>rfl) (fun _=>rfl)
inductive Z6t where
 | b0 (a0:Int) (a1:List Int)
 | b1 (a0 a1 a2:List Int) (a3:Int)
noncomputable def Zdw:Z6t->Tr U (Z2s⊕Z6t)
 | .b0 a0 a1=>.bind 62 (Z7Q a0 (↑a1.length:Int)) (fun(x1:List Int)=>.chk (([]:List Int).length==0) ( .leaf (.inr (.b1 a1 x1 ([]:List Int) (0:Int)))))
 | .b1 a0 a1 a2 a3=>.br (decide (a3<(↑a0.length:Int))) ( .chk (decide (0<=a3/\a3<(↑a0.length:Int))) ( .bind 5 (a0[(Int.toNat a3)]?) (fun(x1:Int)=>.chk (decide (0<=a3/\a3<(↑a1.length:Int))) ( .bind 5 (a1[(Int.toNat a3)]?) (fun(x2:Int)=>.chk (([(bits .xor .u8 x1 x2)]).length==1) ( .chk (a2.length==a2.length) ( .chk (decide ((a2.length+([(bits .xor .u8 x1 x2)]).length)*1<=lim)&&decide (a2.length+([(bits .xor .u8 x1 x2)]).length<=maxLen)) ( .chk ((a2++[(bits .xor .u8 x1 x2)]).length==(a2++[(bits .xor .u8 x1 x2)]).length) ( .leaf (.inr (.b1 a0 a1 (a2++[(bits .xor .u8 x1 x2)]) (w64 (a3+(1:Int)))))))))))))) ( .chk (a2.length==a2.length) ( .leaf (.inl (⟨a2⟩:Z2s))))
noncomputable def Z8R (a0:Int) (a1:List Int):Option Z2s:=Z05 Zdw (.b0 a0 a1)
def Zf2:Shape:=⟨[.one (.v 3 1 false),.one (.v 62 1 false)],[]⟩
noncomputable def Zlh:HMod U:=⟨[[.keep],[.s 5 1]],[],Zf2,⟨[.one (.own 5 0)],[.row 5 true]⟩,true,1348,fun(y:Z2s)=>(((),()),(y.q0,())),fun x=>Z8R x.1.1.1 x.1.2.1.1,⟨⟨⟨by decide,fun _=>rfl⟩,⟨⟨by decide,fun _=>rfl⟩,trivial⟩⟩,trivial⟩⟩
def ZgN:Lay:=⟨[1,5,6,7],[[.s 5 1],[.s 5 1],[.own 5 1],[.keep]],[.row true],⟨[.one (.v 62 1 false),.one (.v 62 1 false),.one (.own 5 0),.one (.v 3 1 false)],[.row 5 true]⟩⟩
def Zx8:Nat->Option Lay
 | 4=>some ZgN
 | _=>none
noncomputable def ZuG:Z6t->Z08 U
 | .b0 a0 a1=>ZJp Tryz.f74 Zf2 (((a0,()),((a1,()),())),())
 | .b1 a0 a1 a2 a3=>spL Tryz.f74 [1,1,1,0,1,0,0,0,0] ZgN (((a0,()),((a1,()),((),((a3,()),())))),(a2,()))
theorem ZqR:ZK4 74 Tryz.f74 (mc Zmw msN) hsN Zx8 [[.own 5 1]] [.row true] 0 Zlh Zdw ZuG
 | .b0 _ _=>by kernel_rfl
 | .b1 _ _ _ _=>by kernel_rfl
theorem ZjL:Z5J Tryz.prog B0 74 Zlh:=okH ZqR (fun x=>.b0 x.1.1.1 x.1.2.1.1) (fun x=>by kernel_rfl) (by kernel_rfl) Tryz.func74 (by kernel_rfl) (by kernel_rfl) (fun x=>by kernel_rfl) (fun x=>by kernel_rfl)
inductive Z81 where
 | b0 (a0:Z8)
 | b1 (a0 a1:Z8) (a2:Zk)
noncomputable def ZiC:Z81->Tr U ((Z8×(List Int))⊕Z81)
 | .b0 a0=>.br (a0.ZL != (0:Int)) ( .chk (([]:List Int).length==0) ( .leaf (.inl (a0,([]:List Int))))) ( .bind 44 (Zew a0) (fun(x1:Z8)=>.bind 75 (Ziw x1.Arq) (fun(x2:Zr×Zk)=>.br x1.ZZ.ZJn ( .bind 71 (Zic x1.ZZ x2.2) (fun(x3:Zk×Int)=>.br (x3.2==(0:Int)) ( .leaf (.inr (.b1 ({ x1 with More:=(x2.2.MD==(1:Int)),Arq:=x2.1 }:Z8) (⟨(0:Int),Zm,(0:Int),(0:Int),(0:Int),(0:Int),(0:Int),(0:Int),(0:Int),false,false,false,false,false,(⟨(0:Int),(0:Int),([]:List Zb),false,false,(0:Int),(0:Int)⟩:Zr),Zq,(⟨(0:Int),(0:Int),(0:Int),([]:List Z4),(0:Int),(0:Int),([]:List Z9),false,(0:Int),(0:Int),false,false,(0:Int),(0:Int),(0:Int),(0:Int),(0:Int),(0:Int),(0:Int),(0:Int)⟩:Z7),Zt,(0:Int),([]:List Zg),([]:List Z4),(0:Int),(0:Int)⟩:Z8) x3.1))) ( .leaf (.inr (.b1 ({ x1 with More:=(x2.2.MD==(1:Int)),Arq:=x2.1 }:Z8) (⟨(0:Int),Zm,(0:Int),(0:Int),(0:Int),(0:Int),(0:Int),(0:Int),(0:Int),false,false,false,false,false,(⟨(0:Int),(0:Int),([]:List Zb),false,false,(0:Int),(0:Int)⟩:Zr),Zq,(⟨(0:Int),(0:Int),(0:Int),([]:List Z4),(0:Int),(0:Int),([]:List Z9),false,(0:Int),(0:Int),false,false,(0:Int),(0:Int),(0:Int),(0:Int),(0:Int),(0:Int),(0:Int),(0:Int)⟩:Z7),Zt,(0:Int),([]:List Zg),([]:List Z4),(0:Int),(0:Int)⟩:Z8) x2.2))))) ( .leaf (.inr (.b1 ({ x1 with More:=(x2.2.MD==(1:Int)),Arq:=x2.1 }:Z8) (⟨(0:Int),Zm,(0:Int),(0:Int),(0:Int),(0:Int),(0:Int),(0:Int),(0:Int),false,false,false,false,false,(⟨(0:Int),(0:Int),([]:List Zb),false,false,(0:Int),(0:Int)⟩:Zr),Zq,(⟨(0:Int),(0:Int),(0:Int),([]:List Z4),(0:Int),(0:Int),([]:List Z9),false,(0:Int),(0:Int),false,false,(0:Int),(0:Int),(0:Int),(0:Int),(0:Int),(0:Int),(0:Int),(0:Int)⟩:Z7),Zt,(0:Int),([]:List Zg),([]:List Z4),(0:Int),(0:Int)⟩:Z8) x2.2))))))
 | .b1 a0 a1 a2=>.bind 120 (Zat a2) (fun(x1:(List Int)×Int)=>.bind 3 (Z5L a0) (fun(x2:Int)=>.bind 62 (ZbM a0.ZX.ZJ3 x1.1) (fun(x3:List Int)=>.bind 1348 (Z8R x2 x3) (fun(y4:Z2s)=>.chk (y4.q0.length==y4.q0.length) ( .leaf (.inl (a0,y4.q0)))))))
noncomputable def ZbW (a0:Z8):Option (Z8×(List Int)):=Z05 ZiC (.b0 a0)
noncomputable def ZDL:Mod U:=⟨[44],63,fun x=>ZbW x.1,by decide⟩
def Zk7:Lay:=⟨[1,2,5],[[.keep],[.keep],[.keep]],[.var k1,.var k1,.var k5],⟨[.one (.ptr 0),.one (.ptr 1),.one (.ptr 2)],[.var 44 66 (.agg [.v 44 66 true]),.var 44 66 (.agg [.v 44 66 true]),.var 70 5 (.agg [.v 70 5 true])]⟩⟩
def ZB5:Nat->Option Lay
 | 11=>some Zk7
 | _=>none
noncomputable def ZyL:Z81->Z08 U
 | .b0 a0=>Z0f Tryz.f24 [44] (a0,())
 | .b1 a0 a1 a2=>spL Tryz.f24 [1,1,1,1,1,1,1,0] Zk7 (((),((),((),()))),((a0,()),((a1,()),((a2,()),()))))
theorem ZsV:Z0e 24 Tryz.f24 (mc Zcy (mc Zw7 (mc Zz9 (mc Zyr (mc ZrN (mc Zrf msN)))))) (hc [] ZjL hsN) ZB5 63 ZiC ZyL
 | .b0 _=>by kernel_rfl
 | .b1 _ _ _=>by kernel_rfl
theorem Zwu:Z04 Tryz.prog B0 24 ZDL:=okP ZsV (fun x=>.b0 x.1) (by kernel_rfl) Tryz.func24 (by kernel_rfl) (by kernel_rfl) (fun _=>rfl) (fun _=>rfl)
inductive Z8H where
 | b0 (a0:Zo)
noncomputable def Zij:Z8H->Tr U ((Zo×Int)⊕Z8H)
 | .b0 a0=>.bind 4 (ZbV a0 false) (fun(x1:Bool)=>.br x1 ( .leaf (.inl (a0,(9:Int)))) ( .leaf (.inl (({ a0 with Ze7:=(w64 (a0.Ze7+(1:Int))) }:Zo),(0:Int)))))
noncomputable def ZiT (a0:Zo):Option (Zo×Int):=Z05 Zij (.b0 a0)
noncomputable def ZDk:Mod U:=⟨[35],129,fun x=>ZiT x.1,by decide⟩
noncomputable def ZyP:Z8H->Z08 U
 | .b0 a0=>Z0f Tryz.f91 [35] (a0,())
theorem Zu4:Z0e 91 Tryz.f91 (mc Zmz msN) hsN AN 129 Zij ZyP
 | .b0 _=>by kernel_rfl
theorem Zyz:Z04 Tryz.prog B0 91 ZDk:=okP Zu4 (fun x=>.b0 x.1) (by kernel_rfl) Tryz.func91 (by kernel_rfl) (by kernel_rfl) (fun _=>rfl) (fun _=>rfl)
inductive Z51 where
 | b0 (a0:Zo) (a1:Bool)
noncomputable def Za2:Z51->Tr U (Zo⊕Z51)
 | .b0 a0 a1=>.br a1 ( .leaf (.inl (⟨a0.Z1o,(0:Int),false⟩:Zo))) ( .leaf (.inl ({ a0 with Ze7:=(0:Int) }:Zo)))
noncomputable def Zaf (a0:Zo) (a1:Bool):Option Zo:=Z05 Za2 (.b0 a0 a1)
noncomputable def ZsQ:Mod U:=⟨[35,4],35,fun x=>Zaf x.1 x.2.1,by decide⟩
noncomputable def Zra:Z51->Z08 U
 | .b0 a0 a1=>Z0f Tryz.f92 [35,4] (a0,a1,())
theorem ZoD:Z0e 92 Tryz.f92 msN hsN AN 35 Za2 Zra
 | .b0 _ _=>by kernel_rfl
theorem ZqD:Z04 Tryz.prog B0 92 ZsQ:=okP ZoD (fun x=>.b0 x.1 x.2.1) (by kernel_rfl) Tryz.func92 (by kernel_rfl) (by kernel_rfl) (fun _=>rfl) (fun _=>rfl)
inductive Z4M where
 | b0 (a0:List Zg) (a1:Int) (a2:Bool)
 | b1 (a0:Int) (a1:Bool) (a2:List Zg)
 | b2 (a0:Int) (a1:Bool) (a2:List Zg)
 | b3 (a0:Int) (a1:Bool) (a2:List Zg)
 | b4 (a0:Int) (a1:List Zg)
noncomputable def Za8:Z4M->Tr U ((List Zg)⊕Z4M)
 | .b0 a0 a1 a2=>.chk (([]:List Zg).length==0) ( .chk (decide ((0+a0.length)*16<=lim)&&decide (0+a0.length<=maxLen)) ( .br (decide (a1<(0:Int))) ( .chk ((([]:List Zg)++a0).length==(([]:List Zg)++a0).length) ( .leaf (.inl (([]:List Zg)++a0)))) ( .br (decide (a1>=(↑a0.length:Int))) ( .chk ((([]:List Zg)++a0).length==(([]:List Zg)++a0).length) ( .leaf (.inl (([]:List Zg)++a0)))) ( .chk ((([]:List Zg)++a0).length==(([]:List Zg)++a0).length) ( .leaf (.inr (.b1 a1 a2 (([]:List Zg)++a0))))))))
 | .b1 a0 a1 a2=>.br a1 ( .chk (a2.length==a2.length) ( .chk (decide (0<=a0/\a0<(↑a2.length:Int))) ( .chk (a2.length==a2.length) ( .bind 99 (a2[(Int.toNat a0)]?) (fun(x1:Zg)=>.br (decide (x1.Good<(65536:Int))) ( .chk (a2.length==a2.length) ( .leaf (.inr (.b2 a0 a1 a2)))) ( .chk (a2.length==a2.length) ( .leaf (.inr (.b3 a0 a1 a2))))))))) ( .chk (a2.length==a2.length) ( .leaf (.inr (.b3 a0 a1 a2))))
 | .b2 a0 a1 a2=>.chk (a2.length==a2.length) ( .chk (decide (0<=a0/\a0<(↑a2.length:Int))) ( .chk (a2.length==a2.length) ( .bind 99 (a2[(Int.toNat a0)]?) (fun(x1:Zg)=>.chk (a2.length==a2.length) ( .chk (decide (0<=a0/\a0<(↑a2.length:Int))) ( .chk (a2.length==a2.length&&decide (0<=(Int.toNat a0))) ( .bind 99 (a2[(Int.toNat a0)]?) (fun(x2:Zg)=>.chk ((a2.set (Int.toNat a0) (⟨(w64 (x1.Good+(1:Int))),x2.Bad⟩:Zg)).length==a2.length) ( .leaf (.inr (.b3 a0 a1 (a2.set (Int.toNat a0) (⟨(w64 (x1.Good+(1:Int))),x2.Bad⟩:Zg)))))))))))))
 | .b3 a0 a1 a2=>.br (!a1) ( .chk (a2.length==a2.length) ( .chk (decide (0<=a0/\a0<(↑a2.length:Int))) ( .chk (a2.length==a2.length) ( .bind 99 (a2[(Int.toNat a0)]?) (fun(x1:Zg)=>.br (decide (x1.Bad<(65536:Int))) ( .chk (a2.length==a2.length) ( .leaf (.inr (.b4 a0 a2)))) ( .chk (a2.length==a2.length) ( .leaf (.inl a2)))))))) ( .chk (a2.length==a2.length) ( .leaf (.inl a2)))
 | .b4 a0 a1=>.chk (a1.length==a1.length) ( .chk (decide (0<=a0/\a0<(↑a1.length:Int))) ( .chk (a1.length==a1.length) ( .bind 99 (a1[(Int.toNat a0)]?) (fun(x1:Zg)=>.chk (a1.length==a1.length) ( .chk (decide (0<=a0/\a0<(↑a1.length:Int))) ( .chk (a1.length==a1.length&&decide (0<=(Int.toNat a0))) ( .bind 99 (a1[(Int.toNat a0)]?) (fun(x2:Zg)=>.chk ((a1.set (Int.toNat a0) (⟨x2.Good,(w64 (x1.Bad+(1:Int)))⟩:Zg)).length==a1.length) ( .leaf (.inl (a1.set (Int.toNat a0) (⟨x2.Good,(w64 (x1.Bad+(1:Int)))⟩:Zg))))))))))))
noncomputable def Z4B (a0:List Zg) (a1:Int) (a2:Bool):Option (List Zg):=Z05 Za8 (.b0 a0 a1 a2)
noncomputable def ZvV:Mod U:=⟨[42,3,4],42,fun x=>Z4B x.1 x.2.1 x.2.2.1,by decide⟩
def Zdc:Lay:=⟨[1,2,7],[[.keep],[.keep],[.own 99 2]],[.row true],⟨[.one (.v 3 1 false),.one (.v 4 1 false),.one (.own 99 0)],[.row 99 true]⟩⟩
def Zd0:Lay:=⟨[1,2,7],[[.keep],[.keep],[.own 99 2]],[.row true],⟨[.one (.v 3 1 false),.one (.v 4 1 false),.one (.own 99 0)],[.row 99 true]⟩⟩
def Zco:Lay:=⟨[1,2,7],[[.keep],[.keep],[.own 99 2]],[.row true],⟨[.one (.v 3 1 false),.one (.v 4 1 false),.one (.own 99 0)],[.row 99 true]⟩⟩
def Zcw:Lay:=⟨[1,7],[[.keep],[.own 99 2]],[.row true],⟨[.one (.v 3 1 false),.one (.own 99 0)],[.row 99 true]⟩⟩
def Zw6:Nat->Option Lay
 | 4=>some Zdc
 | 5=>some Zd0
 | 6=>some Zco
 | 7=>some Zcw
 | _=>none
noncomputable def Zrb:Z4M->Z08 U
 | .b0 a0 a1 a2=>Z0f Tryz.f93 [42,3,4] (a0,a1,a2,())
 | .b1 a0 a1 a2=>spL Tryz.f93 [1,1,1,0,0] Zdc (((a0,()),((a1,()),((),()))),(a2,()))
 | .b2 a0 a1 a2=>spL Tryz.f93 [1,1,1,0,1,0] Zd0 (((a0,()),((a1,()),((),()))),(a2,()))
 | .b3 a0 a1 a2=>spL Tryz.f93 [1,1,1,1,0,0] Zco (((a0,()),((a1,()),((),()))),(a2,()))
 | .b4 a0 a1=>spL Tryz.f93 [1,1,1,1,0,1,0] Zcw (((a0,()),((),())),(a1,()))
theorem Zou:Z0e 93 Tryz.f93 msN hsN Zw6 42 Za8 Zrb
 | .b0 _ _ _=>by kernel_rfl
 | .b1 _ _ _=>by kernel_rfl
 | .b2 _ _ _=>by kernel_rfl
 | .b3 _ _ _=>by kernel_rfl
 | .b4 _ _=>by kernel_rfl
theorem ZgE:Z04 Tryz.prog B0 93 ZvV:=okP Zou (fun x=>.b0 x.1 x.2.1 x.2.2.1) (by kernel_rfl) Tryz.func93 (by kernel_rfl) (by kernel_rfl) (fun _=>rfl) (fun _=>rfl)
inductive Z8J where
 | b0 (a0 a1:Int)
 | b1 (a0:Int)
noncomputable def ZiF:Z8J->Tr U (Int⊕Z8J)
 | .b0 a0 a1=>.br (decide ((w64 ((w64 (a1)) - (w64 (a0))))<(-32768:Int))) ( .leaf (.inr (.b1 (w64 ((w64 ((w64 (a1)) - (w64 (a0))))+(65536:Int)))))) ( .leaf (.inr (.b1 (w64 ((w64 (a1)) - (w64 (a0)))))))
 | .b1 a0=>.br (decide (a0>(32767:Int))) ( .leaf (.inl (w64 (a0 - (65536:Int))))) ( .leaf (.inl a0))
noncomputable def ZiQ (a0 a1:Int):Option Int:=Z05 ZiF (.b0 a0 a1)
noncomputable def ZDP:Mod U:=⟨[30,30],3,fun x=>ZiQ x.1 x.2.1,by decide⟩
def ZjP:Lay:=⟨[5],[[.keep]],[],⟨[.one (.v 3 1 false)],[]⟩⟩
def ZBd:Nat->Option Lay
 | 4=>some ZjP
 | _=>none
noncomputable def Zye:Z8J->Z08 U
 | .b0 a0 a1=>Z0f Tryz.f333 [30,30] (a0,a1,())
 | .b1 a0=>spL Tryz.f333 [1,1,1,0,0] ZjP (((a0,()),()),())
theorem ZsZ:Z0e 333 Tryz.f333 msN hsN ZBd 3 ZiF Zye
 | .b0 _ _=>by kernel_rfl
 | .b1 _=>by kernel_rfl
theorem ZyV:Z04 Tryz.prog B0 333 ZDP:=okP ZsZ (fun x=>.b0 x.1 x.2.1) (by kernel_rfl) Tryz.func333 (by kernel_rfl) (by kernel_rfl) (fun _=>rfl) (fun _=>rfl)
inductive Z4D where
 | b0 (a0 a1:Int)
noncomputable def Zbc:Z4D->Tr U (Bool⊕Z4D)
 | .b0 a0 a1=>.bind 3 (ZiQ a1 a0) (fun(x1:Int)=>.leaf (.inl (decide (x1>=(0:Int)))))
noncomputable def Z7n (a0 a1:Int):Option Bool:=Z05 Zbc (.b0 a0 a1)
noncomputable def ZsH:Mod U:=⟨[30,30],4,fun x=>Z7n x.1 x.2.1,by decide⟩
noncomputable def Zr9:Z4D->Z08 U
 | .b0 a0 a1=>Z0f Tryz.f258 [30,30] (a0,a1,())
theorem Zos:Z0e 258 Tryz.f258 (mc ZyV msN) hsN AN 4 Zbc Zr9
 | .b0 _ _=>by kernel_rfl
theorem Zhu:Z04 Tryz.prog B0 258 ZsH:=okP Zos (fun x=>.b0 x.1 x.2.1) (by kernel_rfl) Tryz.func258 (by kernel_rfl) (by kernel_rfl) (fun _=>rfl) (fun _=>rfl)
inductive Za3 where
 | b0 (a0:List Z9) (a1:Int)
 | b1 (a0:List Z9) (a1:Int) (a2 a3:List Z9) (a4:Int)
 | b2 (a0:List Z9) (a1:Int) (a2 a3:List Z9) (a4:Int)
noncomputable def ZmH:Za3->Tr U (((List Z9)×(List Z9))⊕Za3)
 | .b0 a0 a1=>.chk ((([]:List Z9).length==0)&&(([]:List Z9).length==0)) ( .leaf (.inr (.b1 a0 a1 ([]:List Z9) ([]:List Z9) (0:Int))))
 | .b1 a0 a1 a2 a3 a4=>.br (decide (a4<(↑a0.length:Int))) ( .chk (decide (0<=a4/\a4<(↑a0.length:Int))) ( .bind 138 (a0[(Int.toNat a4)]?) (fun(x1:Z9)=>.bind 4 (Z7n a1 x1.Z0u) (fun(x2:Bool)=>.br x2 ( .chk (decide (0<=a4/\a4<(↑a0.length:Int))) ( .bind 138 (a0[(Int.toNat a4)]?) (fun(x3:Z9)=>.chk (([x3]).length==1) ( .chk (a3.length==a3.length) ( .chk (decide ((a3.length+([x3]).length)*64<=lim)&&decide (a3.length+([x3]).length<=maxLen)) ( .chk ((a2.length==a2.length)&&((a3++[x3]).length==(a3++[x3]).length)) ( .leaf (.inr (.b2 a0 a1 a2 (a3++[x3]) a4))))))))) ( .chk (decide (0<=a4/\a4<(↑a0.length:Int))) ( .bind 138 (a0[(Int.toNat a4)]?) (fun(x4:Z9)=>.chk (([x4]).length==1) ( .chk (a2.length==a2.length) ( .chk (decide ((a2.length+([x4]).length)*64<=lim)&&decide (a2.length+([x4]).length<=maxLen)) ( .chk (((a2++[x4]).length==(a2++[x4]).length)&&(a3.length==a3.length)) ( .leaf (.inr (.b2 a0 a1 (a2++[x4]) a3 a4))))))))))))) ( .chk (a2.length==a2.length) ( .chk (a3.length==a3.length) ( .leaf (.inl (a2,a3)))))
 | .b2 a0 a1 a2 a3 a4=>.chk ((a2.length==a2.length)&&(a3.length==a3.length)) ( .leaf (.inr (.b1 a0 a1 a2 a3 (w64 (a4+(1:Int))))))
noncomputable def Zns (a0:List Z9) (a1:Int):Option ((List Z9)×(List Z9)):=Z05 ZmH (.b0 a0 a1)
noncomputable def ZF0:Mod U:=⟨[37,30],208,fun x=>Zns x.1 x.2.1,by decide⟩
def ZlA:Lay:=⟨[0,1,4,5,6],[[.s 138 8],[.keep],[.own 138 8],[.own 138 8],[.keep]],[.row true,.row true],⟨[.one (.v 37 1 false),.one (.v 30 1 false),.one (.own 138 0),.one (.own 138 1),.one (.v 3 1 false)],[.row 138 true,.row 138 true]⟩⟩
def Zmy:Lay:=⟨[0,1,4,5,6],[[.s 138 8],[.keep],[.own 138 8],[.own 138 8],[.keep]],[.row true,.row true],⟨[.one (.v 37 1 false),.one (.v 30 1 false),.one (.own 138 0),.one (.own 138 1),.one (.v 3 1 false)],[.row 138 true,.row 138 true]⟩⟩
def ZEW:Nat->Option Lay
 | 3=>some ZlA
 | 4=>some Zmy
 | _=>none
noncomputable def ZCm:Za3->Z08 U
 | .b0 a0 a1=>Z0f Tryz.f186 [37,30] (a0,a1,())
 | .b1 a0 a1 a2 a3 a4=>spL Tryz.f186 [1,1,0,1,0,0,0,0] ZlA (((a0,()),((a1,()),((),((),((a4,()),()))))),(a2,(a3,())))
 | .b2 a0 a1 a2 a3 a4=>spL Tryz.f186 [1,1,0,1,0,0,1,1] Zmy (((a0,()),((a1,()),((),((),((a4,()),()))))),(a2,(a3,())))
theorem ZyX:Z0e 186 Tryz.f186 (mc Zhu msN) hsN ZEW 208 ZmH ZCm
 | .b0 _ _=>by kernel_rfl
 | .b1 _ _ _ _ _=>by kernel_rfl
 | .b2 _ _ _ _ _=>by kernel_rfl
theorem ZAV:Z04 Tryz.prog B0 186 ZF0:=okP ZyX (fun x=>.b0 x.1 x.2.1) (by kernel_rfl) Tryz.func186 (by kernel_rfl) (by kernel_rfl) (fun _=>rfl) (fun _=>rfl)
inductive ZaV where
 | b0 (a0:Z7) (a1:Int)
 | b1 (a0 a1:Z7)
 | b2 (a0:List Z9) (a1 a2:Z7)
 | b3 (a0:List Z9) (a1:Int) (a2 a3:Z7)
 | b4 (a0:List Z9) (a1:Int) (a2 a3:Z7)
 | b5 (a0:List Z9) (a1:Int) (a2 a3:Z7)
noncomputable def Zlq:ZaV->Tr U ((Z7×(List Z9))⊕ZaV)
 | .b0 a0 a1=>.bind 208 (Zns a0.Zy a1) (fun(x1:(List Z9)×(List Z9))=>.br (a0.Z1G==(0:Int)) ( .br (decide ((↑x1.2.length:Int)>(0:Int))) ( .br (!a0.Told) ( .leaf (.inr (.b1 ({ a0 with Zy:=x1.1 }:Z7) (⟨(0:Int),(0:Int),(0:Int),([]:List Z4),(0:Int),(0:Int),([]:List Z9),false,(0:Int),(0:Int),false,false,(0:Int),(0:Int),(0:Int),(0:Int),(0:Int),(0:Int),(0:Int),(0:Int)⟩:Z7)))) ( .leaf (.inr (.b2 x1.2 ({ a0 with Zy:=x1.1 }:Z7) (⟨(0:Int),(0:Int),(0:Int),([]:List Z4),(0:Int),(0:Int),([]:List Z9),false,(0:Int),(0:Int),false,false,(0:Int),(0:Int),(0:Int),(0:Int),(0:Int),(0:Int),(0:Int),(0:Int)⟩:Z7))))) ( .leaf (.inr (.b2 x1.2 ({ a0 with Zy:=x1.1 }:Z7) (⟨(0:Int),(0:Int),(0:Int),([]:List Z4),(0:Int),(0:Int),([]:List Z9),false,(0:Int),(0:Int),false,false,(0:Int),(0:Int),(0:Int),(0:Int),(0:Int),(0:Int),(0:Int),(0:Int)⟩:Z7))))) ( .leaf (.inr (.b2 x1.2 ({ a0 with Zy:=x1.1 }:Z7) (⟨(0:Int),(0:Int),(0:Int),([]:List Z4),(0:Int),(0:Int),([]:List Z9),false,(0:Int),(0:Int),false,false,(0:Int),(0:Int),(0:Int),(0:Int),(0:Int),(0:Int),(0:Int),(0:Int)⟩:Z7)))))
 | .b1 a0 a1=>.br (a0.Z2R==(0:Int)) ( .chk (([]:List Z9).length==0) ( .leaf (.inl (({ a0 with Z2R:=(40:Int) }:Z7),([]:List Z9))))) ( .chk (([]:List Z9).length==0) ( .leaf (.inl (a0,([]:List Z9)))))
 | .b2 a0 a1 a2=>.leaf (.inr (.b3 a0 (0:Int) a1 a2))
 | .b3 a0 a1 a2 a3=>.br (decide (a1<(↑a0.length:Int))) ( .chk (decide (0<=a1/\a1<(↑a0.length:Int))) ( .bind 138 (a0[(Int.toNat a1)]?) (fun(x1:Z9)=>.br (a2.Own==x1.Kind) ( .leaf (.inr (.b4 a0 a1 ({ a2 with Own:=(-1:Int) }:Z7) a3))) ( .leaf (.inr (.b4 a0 a1 a2 a3)))))) ( .leaf (.inl (a2,a0)))
 | .b4 a0 a1 a2 a3=>.chk (decide (0<=a1/\a1<(↑a0.length:Int))) ( .bind 138 (a0[(Int.toNat a1)]?) (fun(x1:Z9)=>.br (a2.Other==x1.Kind) ( .leaf (.inr (.b5 a0 a1 ({ a2 with Other:=(-1:Int) }:Z7) a3))) ( .leaf (.inr (.b5 a0 a1 a2 a3)))))
 | .b5 a0 a1 a2 a3=>.leaf (.inr (.b3 a0 (w64 (a1+(1:Int))) a2 a3))
noncomputable def Znu (a0:Z7) (a1:Int):Option (Z7×(List Z9)):=Z05 Zlq (.b0 a0 a1)
noncomputable def ZFV:Mod U:=⟨[39,30],135,fun x=>Znu x.1 x.2.1,by decide⟩
def Zmx:Lay:=⟨[2,4],[[.keep],[.keep]],[.var k0,.var k0],⟨[.one (.ptr 0),.one (.ptr 1)],[.var 39 20 (.agg [.v 39 20 true]),.var 39 20 (.agg [.v 39 20 true])]⟩⟩
def Zm9:Lay:=⟨[2,4,7],[[.keep],[.keep],[.s 138 8]],[.var k0,.var k0],⟨[.one (.ptr 0),.one (.ptr 1),.one (.v 37 1 false)],[.var 39 20 (.agg [.v 39 20 true]),.var 39 20 (.agg [.v 39 20 true])]⟩⟩
def Znt:Lay:=⟨[2,4,7,8],[[.keep],[.keep],[.s 138 8],[.keep]],[.var k0,.var k0],⟨[.one (.ptr 0),.one (.ptr 1),.one (.v 37 1 false),.one (.v 3 1 false)],[.var 39 20 (.agg [.v 39 20 true]),.var 39 20 (.agg [.v 39 20 true])]⟩⟩
def Zml:Lay:=⟨[2,4,7,8],[[.keep],[.keep],[.s 138 8],[.keep]],[.var k0,.var k0],⟨[.one (.ptr 0),.one (.ptr 1),.one (.v 37 1 false),.one (.v 3 1 false)],[.var 39 20 (.agg [.v 39 20 true]),.var 39 20 (.agg [.v 39 20 true])]⟩⟩
def Zlz:Lay:=⟨[2,4,7,8],[[.keep],[.keep],[.s 138 8],[.keep]],[.var k0,.var k0],⟨[.one (.ptr 0),.one (.ptr 1),.one (.v 37 1 false),.one (.v 3 1 false)],[.var 39 20 (.agg [.v 39 20 true]),.var 39 20 (.agg [.v 39 20 true])]⟩⟩
def ZGW:Nat->Option Lay
 | 4=>some Zmx
 | 7=>some Zm9
 | 8=>some Znt
 | 12=>some Zml
 | 9=>some Zlz
 | _=>none
noncomputable def ZBy:ZaV->Z08 U
 | .b0 a0 a1=>Z0f Tryz.f94 [39,30] (a0,a1,())
 | .b1 a0 a1=>spL Tryz.f94 [1,1,1,0,1,0,0,0] Zmx (((),((),())),((a0,()),((a1,()),())))
 | .b2 a0 a1 a2=>spL Tryz.f94 [1,1,1,1,0,0] Zm9 (((),((),((a0,()),()))),((a1,()),((a2,()),())))
 | .b3 a0 a1 a2 a3=>spL Tryz.f94 [1,1,1,1,0,1,0,0,0,0] Znt (((),((),((a0,()),((a1,()),())))),((a2,()),((a3,()),())))
 | .b4 a0 a1 a2 a3=>spL Tryz.f94 [1,1,1,1,0,1,0,0,1,0,0,1,0] Zml (((),((),((a0,()),((a1,()),())))),((a2,()),((a3,()),())))
 | .b5 a0 a1 a2 a3=>spL Tryz.f94 [1,1,1,1,0,1,0,0,1,1] Zlz (((),((),((a0,()),((a1,()),())))),((a2,()),((a3,()),())))
theorem ZzO:Z0e 94 Tryz.f94 (mc ZAV msN) hsN ZGW 135 Zlq ZBy
 | .b0 _ _=>by kernel_rfl
 | .b1 _ _=>by kernel_rfl
 | .b2 _ _ _=>by kernel_rfl
 | .b3 _ _ _ _=>by kernel_rfl
 | .b4 _ _ _ _=>by kernel_rfl
 | .b5 _ _ _ _=>by kernel_rfl
theorem ZBj:Z04 Tryz.prog B0 94 ZFV:=okP ZzO (fun x=>.b0 x.1 x.2.1) (by kernel_rfl) Tryz.func94 (by kernel_rfl) (by kernel_rfl) (fun _=>rfl) (fun _=>rfl)
end Go.Proofs.YtjodhcdmhobmoaaGreatDoor
