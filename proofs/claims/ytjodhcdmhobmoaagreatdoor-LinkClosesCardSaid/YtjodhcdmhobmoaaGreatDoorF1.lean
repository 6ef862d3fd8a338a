/-
  A part of the proof.
-/
import Derived.Test.YtjodhcdmhobmoaaGreatDoorCUn
set_option linter.unusedVariables false
set_option linter.unusedSimpArgs false
namespace Go.Proofs.YtjodhcdmhobmoaaGreatDoor
open Go Go.Proofs.YtjodhcdmhobmoaaGreatDoor.Le
set_option maxRecDepth 100000
inductive Z7D where
 | b0 (a0 a1:Zd)
noncomputable def Z7I:Z7D->Tr U (Bool⊕Z7D)
 | .b0 a0 a1=>.br (a0.Z5f==a1.Z5f) ( .chk (Z7z U 5 a0.Payload) ( .chk (Z7z U 5 a1.Payload) ( .leaf (.inl ((strOf U 5 a0.Payload).toList==(strOf U 5 a1.Payload).toList))))) ( .leaf (.inl false))
noncomputable def Z4E (a0 a1:Zd):Option Bool:=ZO Z7I (.b0 a0 a1)
noncomputable def Zny:Mod U:=⟨[68,68],4,fun x=>Z4E x.1 x.2.1,by decide⟩
noncomputable def ZlX:Z7D->Z08 U
 | .b0 a0 a1=>Z0f Tryz.f26 [68,68] (a0,a1,())
theorem Zk8:Z0g 26 Tryz.f26 msN hsN AN 4 Z7I ZlX
 | .b0 ..=>by kernel_rfl
theorem Zbw:Z0a Tryz.prog B0 26 Zny:=okP Zk8 (fun x=>.b0 x.1 x.2.1) (by kernel_rfl) Tryz.func26 (by kernel_rfl) (by kernel_rfl) (fun _=>rfl) (fun _=>rfl)
inductive Z6B where
 | b0 (a0 a1:List Zd)
 | b1 (a0 a1:List Zd) (a2:Int)
noncomputable def Z1Y:Z6B->Tr U (Bool⊕Z6B)
 | .b0 a0 a1=>.br ((↑a0.length:Int) != (↑a1.length:Int)) ( .leaf (.inl false)) ( .leaf (.inr (.b1 a0 a1 (0:Int))))
 | .b1 a0 a1 a2=>.br (decide (a2<(↑a0.length:Int))) ( .chk (decide (0<=a2/\a2<(↑a0.length:Int))) ( .bind 68 (a0[(Int.toNat a2)]?) (fun(x1:Zd)=>.chk (decide (0<=a2/\a2<(↑a1.length:Int))) ( .bind 68 (a1[(Int.toNat a2)]?) (fun(x2:Zd)=>.bind 4 (Z4E x1 x2) (fun(x3:Bool)=>.br (!x3) ( .leaf (.inl false)) ( .leaf (.inr (.b1 a0 a1 (w64 (a2+1))))))))))) ( .leaf (.inl true))
noncomputable def Z6e (a0 a1:List Zd):Option Bool:=ZO Z1Y (.b0 a0 a1)
noncomputable def ZmO:Mod U:=⟨[31,31],4,fun x=>Z6e x.1 x.2.1,by decide⟩
def Z9S:Lay:=⟨[0,1,5],[[.s 68 2],[.s 68 2],KP],[],⟨[OV 31,OV 31,OV 3],[]⟩⟩
def ZlM:Nat->Option Lay
 | 4=>some Z9S
 | _=>none
noncomputable def Zkv:Z6B->Z08 U
 | .b0 a0 a1=>Z0f Tryz.f49 [31,31] (a0,a1,())
 | .b1 a0 a1 a2=>spL Tryz.f49 [1,1,0,1,0,0,0,0] Z9S (((a0,()),((a1,()),((a2,()),()))),())
theorem ZhU:Z0g 49 Tryz.f49 (mc Zbw msN) hsN ZlM 4 Z1Y Zkv:=by intro p;cases p<;>kernel_rfl
theorem Zj5:Z0a Tryz.prog B0 49 ZmO:=okP ZhU (fun x=>.b0 x.1 x.2.1) (by kernel_rfl) Tryz.func49 (by kernel_rfl) (by kernel_rfl) (fun _=>rfl) (fun _=>rfl)
inductive Z5n where
 | b0 (a0 a1:List Z4)
 | b1 (a0 a1:List Z4) (a2:Int)
noncomputable def Z1J:Z5n->Tr U (Bool⊕Z5n)
 | .b0 a0 a1=>.br ((↑a0.length:Int) != (↑a1.length:Int)) ( .leaf (.inl false)) ( .leaf (.inr (.b1 a0 a1 (0:Int))))
 | .b1 a0 a1 a2=>.br (decide (a2<(↑a0.length:Int))) ( .chk (decide (0<=a2/\a2<(↑a0.length:Int))) ( .bind 156 (a0[(Int.toNat a2)]?) (fun(x1:Z4)=>.chk (decide (0<=a2/\a2<(↑a1.length:Int))) ( .bind 156 (a1[(Int.toNat a2)]?) (fun(x2:Z4)=>.br (!((x1.Kind==x2.Kind)&&((x1.Zt.Z1E==x2.Zt.Z1E)&&((x1.Zt.Z0r==x2.Zt.Z0r)&&((x1.Zt.Z0j==x2.Zt.Z0j)&&((x1.Zt.Z0o==x2.Zt.Z0o)&&((x1.Zt.Z1g==x2.Zt.Z1g)&&((x1.Map==x2.Map)&&((x1.ZQ==x2.ZQ)&&((x1.Z05==x2.Z05)&&((x1.Z13==x2.Z13)&&((x1.Z5R==x2.Z5R)&&((x1.Mark==x2.Mark)&&((x1.ZZ==x2.ZZ)&&((x1.Version==x2.Version)&&((x1.Length==x2.Length)&&true)))))))))))))))) ( .leaf (.inl false)) ( .leaf (.inr (.b1 a0 a1 (w64 (a2+1)))))))))) ( .leaf (.inl true))
noncomputable def Z3D (a0 a1:List Z4):Option Bool:=ZO Z1J (.b0 a0 a1)
noncomputable def Zko:Mod U:=⟨[36,36],4,fun x=>Z3D x.1 x.2.1,by decide⟩
def Z7S:Lay:=⟨[0,1,5],[[.s 156 15],[.s 156 15],KP],[],⟨[OV 36,OV 36,OV 3],[]⟩⟩
def ZjZ:Nat->Option Lay
 | 4=>some Z7S
 | _=>none
noncomputable def ZhI:Z5n->Z08 U
 | .b0 a0 a1=>Z0f Tryz.f51 [36,36] (a0,a1,())
 | .b1 a0 a1 a2=>spL Tryz.f51 [1,1,0,1,0,0,0,0] Z7S (((a0,()),((a1,()),((a2,()),()))),())
theorem Zgh:Z0g 51 Tryz.f51 msN hsN ZjZ 4 Z1J ZhI:=by intro p;cases p<;>kernel_rfl
theorem Z9e:Z0a Tryz.prog B0 51 Zko:=okP Zgh (fun x=>.b0 x.1 x.2.1) (by kernel_rfl) Tryz.func51 (by kernel_rfl) (by kernel_rfl) (fun _=>rfl) (fun _=>rfl)
inductive Z9Q where
 | b0 (a0 a1:Z7)
 | b1 (a0 a1:Z7)
 | b2 (a0:Int) (a1 a2:Z7)
noncomputable def Z2Q:Z9Q->Tr U (Bool⊕Z9Q)
 | .b0 a0 a1=>.bind 4 (Z3D a0.Zf a1.Zf) (fun(x1:Bool)=>.br (!x1) ( .leaf (.inl false)) ( .br ((↑a0.Zo.length:Int) != (↑a1.Zo.length:Int)) ( .leaf (.inl false)) ( .leaf (.inr (.b1 a0 a1)))))
 | .b1 a0 a1=>.leaf (.inr (.b2 (0:Int) a0 a1))
 | .b2 a0 a1 a2=>.br (decide (a0<(↑a1.Zo.length:Int))) ( .chk (decide (0<=a0/\a0<(↑a1.Zo.length:Int))) ( .bind 138 (a1.Zo[(Int.toNat a0)]?) (fun(x1:Z8)=>.chk (decide (0<=a0/\a0<(↑a2.Zo.length:Int))) ( .bind 138 (a2.Zo[(Int.toNat a0)]?) (fun(x2:Z8)=>.br (!((x1.Kind==x2.Kind)&&((x1.ZQ==x2.ZQ)&&((x1.Zt.Z1E==x2.Zt.Z1E)&&((x1.Zt.Z0r==x2.Zt.Z0r)&&((x1.Zt.Z0j==x2.Zt.Z0j)&&((x1.Zt.Z0o==x2.Zt.Z0o)&&((x1.Zt.Z1g==x2.Zt.Z1g)&&((x1.Map==x2.Map)&&true))))))))) ( .leaf (.inl false)) ( .leaf (.inr (.b2 (w64 (a0+1)) a1 a2)))))))) ( .br (a1.Z1z==a2.Z1z) ( .br (a1.Own==a2.Own) ( .br (a1.Since==a2.Since) ( .br (a1.Other==a2.Other) ( .br (a1.Z0C==a2.Z0C) ( .br (a1.ZZ==a2.ZZ) ( .br (a1.Z4Y==a2.Z4Y) ( .br (a1.Z74==a2.Z74) ( .br (a1.Told==a2.Told) ( .br (a1.Z0q==a2.Z0q) ( .br (a1.Version==a2.Version) ( .br (a1.Length==a2.Length) ( .br (a1.Limit==a2.Limit) ( .br (a1.Z5R==a2.Z5R) ( .br (a1.Zpv==a2.Zpv) ( .br (a1.Mark==a2.Mark) ( .br (a1.Z29==a2.Z29) ( .leaf (.inl (a1.Z1n==a2.Z1n))) ( .leaf (.inl false))) ( .leaf (.inl false))) ( .leaf (.inl false))) ( .leaf (.inl false))) ( .leaf (.inl false))) ( .leaf (.inl false))) ( .leaf (.inl false))) ( .leaf (.inl false))) ( .leaf (.inl false))) ( .leaf (.inl false))) ( .leaf (.inl false))) ( .leaf (.inl false))) ( .leaf (.inl false))) ( .leaf (.inl false))) ( .leaf (.inl false))) ( .leaf (.inl false))) ( .leaf (.inl false)))
noncomputable def Z9m (a0 a1:Z7):Option Bool:=ZO Z2Q (.b0 a0 a1)
noncomputable def Zql:Mod U:=⟨[39,39],4,fun x=>Z9m x.1 x.2.1,by decide⟩
def ZbN:Lay:=⟨[2,3],[KP,KP],[.var k0,.var k0],⟨[PQ 0,PQ 1],[VA 39 20,VA 39 20]⟩⟩
def Zbp:Lay:=⟨[2,3,5],[KP,KP,KP],[.var k0,.var k0],⟨[PQ 0,PQ 1,OV 3],[VA 39 20,VA 39 20]⟩⟩
def Zrg:Nat->Option Lay
 | 3=>some ZbN
 | 4=>some Zbp
 | _=>none
noncomputable def ZnN:Z9Q->Z08 U
 | .b0 a0 a1=>Z0f Tryz.f50 [39,39] (a0,a1,())
 | .b1 a0 a1=>spL Tryz.f50 [1,1,0,0] ZbN (((),((),())),((a0,()),((a1,()),())))
 | .b2 a0 a1 a2=>spL Tryz.f50 [1,1,0,1,0,0,0,0] Zbp (((),((),((a0,()),()))),((a1,()),((a2,()),())))
theorem Zli:Z0g 50 Tryz.f50 (mc Z9e msN) hsN Zrg 4 Z2Q ZnN:=by intro p;cases p<;>kernel_rfl
theorem ZnB:Z0a Tryz.prog B0 50 Zql:=okP Zli (fun x=>.b0 x.1 x.2.1) (by kernel_rfl) Tryz.func50 (by kernel_rfl) (by kernel_rfl) (fun _=>rfl) (fun _=>rfl)
inductive Zmv where
 | b0 (a0 a1:Z9)
 | b1 (a0:Int) (a1 a2:Z9)
 | b2 (a0 a1:Z9)
 | b3 (a0 a1:Z9)
 | b4 (a0 a1:Z9)
noncomputable def Z2e:Zmv->Tr U (Bool⊕Zmv)
 | .b0 a0 a1=>.br ((↑a0.Zw.length:Int) != (↑a1.Zw.length:Int)) ( .leaf (.inl false)) ( .leaf (.inr (.b1 (0:Int) a0 a1)))
 | .b1 a0 a1 a2=>.br (decide (a0<(↑a1.Zw.length:Int))) ( .chk (decide (0<=a0/\a0<(↑a1.Zw.length:Int))) ( .bind 99 (a1.Zw[(Int.toNat a0)]?) (fun(x1:Zj)=>.chk (decide (0<=a0/\a0<(↑a2.Zw.length:Int))) ( .bind 99 (a2.Zw[(Int.toNat a0)]?) (fun(x2:Zj)=>.br (!((x1.Good==x2.Good)&&((x1.Bad==x2.Bad)&&true))) ( .leaf (.inl false)) ( .leaf (.inr (.b1 (w64 (a0+1)) a1 a2)))))))) ( .br (a1.Arq.SN != a2.Arq.SN) ( .leaf (.inl false)) ( .br (a1.Arq.Zda != a2.Arq.Zda) ( .leaf (.inl false)) ( .bind 4 (Z6e a1.Arq.Zu a2.Arq.Zu) (fun(x3:Bool)=>.br (!x3) ( .leaf (.inl false)) ( .br (!(a1.Arq.Open==a2.Arq.Open)) ( .leaf (.inl false)) ( .br (!(a1.Arq.Empty==a2.Arq.Empty)) ( .leaf (.inl false)) ( .br (a1.Arq.Z1U != a2.Arq.Z1U) ( .leaf (.inl false)) ( .br (a1.Arq.Taken != a2.Arq.Taken) ( .leaf (.inl false)) ( .leaf (.inr (.b2 a1 a2)))))))))))
 | .b2 a0 a1=>.br (a0.Z1z != a1.Z1z) ( .leaf (.inl false)) ( .br (!((a0.ZN.Z3W==a1.ZN.Z3W)&&((a0.ZN.ZOI==a1.ZN.ZOI)&&((a0.ZN.Zt.Z1E==a1.ZN.Zt.Z1E)&&((a0.ZN.Zt.Z0r==a1.ZN.Zt.Z0r)&&((a0.ZN.Zt.Z0j==a1.ZN.Zt.Z0j)&&((a0.ZN.Zt.Z0o==a1.ZN.Zt.Z0o)&&((a0.ZN.Zt.Z1g==a1.ZN.Zt.Z1g)&&((a0.ZN.Map==a1.ZN.Map)&&((a0.ZN.Hop==a1.ZN.Hop)&&((a0.ZN.PPM==a1.ZN.PPM)&&((a0.ZN.Z2K==a1.ZN.Z2K)&&true)))))))))))) ( .leaf (.inl false)) ( .br (a0.Clock != a1.Clock) ( .leaf (.inl false)) ( .br (a0.Event != a1.Event) ( .leaf (.inl false)) ( .br (a0.Last != a1.Last) ( .leaf (.inl false)) ( .br (a0.Z19 != a1.Z19) ( .leaf (.inl false)) ( .br (a0.Size != a1.Size) ( .leaf (.inl false)) ( .br (a0.Sync != a1.Sync) ( .leaf (.inl false)) ( .br (a0.Z2W != a1.Z2W) ( .leaf (.inl false)) ( .leaf (.inr (.b3 a0 a1)))))))))))
 | .b3 a0 a1=>.br (!(a0.Z2C==a1.Z2C)) ( .leaf (.inl false)) ( .br (!(a0.Got==a1.Got)) ( .leaf (.inl false)) ( .br (!(a0.Good==a1.Good)) ( .leaf (.inl false)) ( .br (!(a0.Z1U==a1.Z1U)) ( .leaf (.inl false)) ( .br (!(a0.More==a1.More)) ( .leaf (.inl false)) ( .br (!((a0.Z0y.Z0o==a1.Z0y.Z0o)&&((a0.Z0y.Z3y==a1.Z0y.Z3y)&&((a0.Z0y.Full==a1.Z0y.Full)&&true)))) ( .leaf (.inl false)) ( .br (!((a0.Z0h.Z1z==a1.Z0h.Z1z)&&((a0.Z0h.Key==a1.Z0h.Key)&&((a0.Z0h.Z5R==a1.Z0h.Z5R)&&((a0.Z0h.ZP1==a1.Z0h.ZP1)&&((a0.Z0h.ZOj==a1.Z0h.ZOj)&&((a0.Z0h.Tx==a1.Z0h.Tx)&&((a0.Z0h.Rx==a1.Z0h.Rx)&&true)))))))) ( .leaf (.inl false)) ( .leaf (.inr (.b4 a0 a1)))))))))
 | .b4 a0 a1=>.bind 4 (Z9m a0.Ze a1.Ze) (fun(x1:Bool)=>.br x1 ( .br (a0.Key==a1.Key) ( .bind 4 (Z3D a0.Zb a1.Zb) (fun(x2:Bool)=>.br x2 ( .br (a0.Z05==a1.Z05) ( .leaf (.inl (a0.Zld==a1.Zld))) ( .leaf (.inl false))) ( .leaf (.inl false)))) ( .leaf (.inl false))) ( .leaf (.inl false)))
noncomputable def ZmK (a0 a1:Z9):Option Bool:=ZO Z2e (.b0 a0 a1)
noncomputable def ZIy:Mod U:=⟨[44,44],4,fun x=>ZmK x.1 x.2.1,by decide⟩
def Znm:Lay:=⟨[2,3,5],[KP,KP,KP],[.var k2,.var k2],⟨[PQ 0,PQ 1,OV 3],[VA 44 66,VA 44 66]⟩⟩
def Z4X:Lay:=⟨[2,3],[KP,KP],[.var k2,.var k2],⟨[PQ 0,PQ 1],[VA 44 66,VA 44 66]⟩⟩
def ZHM:Nat->Option Lay
 | 4=>some Znm
 | 11=>some Z4X
 | 13=>some Z4X
 | 15=>some Z4X
 | _=>none
noncomputable def ZDa:Zmv->Z08 U
 | .b0 a0 a1=>Z0f Tryz.f13 [44,44] (a0,a1,())
 | .b1 a0 a1 a2=>spL Tryz.f13 [1,1,0,1,0,0,0,0] Znm (((),((),((a0,()),()))),((a1,()),((a2,()),())))
 | .b2 a0 a1=>spL Tryz.f13 [1,1,1,1,1,0,0] Z4X (((),((),())),((a0,()),((a1,()),())))
 | .b3 a0 a1=>spL Tryz.f13 [1,1,1,1,1,1,0,0] Z4X (((),((),())),((a0,()),((a1,()),())))
 | .b4 a0 a1=>spL Tryz.f13 [1,1,1,1,1,1,1,0] Z4X (((),((),())),((a0,()),((a1,()),())))
theorem Zz3:Z0g 13 Tryz.f13 (mc Zj5 (mc ZnB (mc Z9e msN))) hsN ZHM 4 Z2e ZDa:=by intro p;cases p<;>kernel_rfl
theorem ZBK:Z0a Tryz.prog B0 13 ZIy:=okP Zz3 (fun x=>.b0 x.1 x.2.1) (by kernel_rfl) Tryz.func13 (by kernel_rfl) (by kernel_rfl) (fun _=>rfl) (fun _=>rfl)
theorem Z5l:Zfo Tryz.prog 145 1 1 5:=Zoq ZmU (t:=62) (tb:=4) (e:=5) Tryz.func145 (by kernel_rfl) (by kernel_rfl) (by kernel_rfl) (by kernel_rfl) (by kernel_rfl) (by kernel_rfl) (by kernel_rfl) (by decide)
noncomputable def Z1u (a0:List Int):Option Z1r:=if a0.length*1<=lim/\a0.length<=maxLen then some ⟨a0⟩ else none
def Zfv:Shape:=⟨[OV 62],[]⟩
def Z3B:Shape:=⟨[.one (.own 5 0)],[.row 5 true]⟩
noncomputable def Z30:HMod U:={ fa:=[[.s 5 1]],fb:=[],sin:=Zfv,ZME:=Z3B,one:=true,ky:=1344,toX:=fun(y:Z1r)=>(((),()),(y.q0,())),fn:=fun x=>Z1u x.1.1.1,ok:=⟨⟨⟨by decide,fun _=>rfl⟩,trivial⟩,trivial⟩ }
theorem Z82:Z4n Tryz.prog B0 145 Z30:=ZkK Z5l fun x y hx=>by
 simp only [Z30,Z1u] at hx
 split at hx
 ·rename_i h
  cases hx
  exact⟨_,rfl,rfl,by simp [Z30,HMod.out,Z3B,Shape.enc,Zgr,ZBY,ZdH,ZcS,Zvq,toV],by simp [Z30,HMod.out,Z3B,Shape.enc,Zgr,ZBY,ZdH,ZcS,Zvq,toH,Z0W,ZW],by simpa using h.1,by simpa using h.2⟩
 ·cases hx
theorem Z4i:Zfo Tryz.prog 146 15 120 156:=Zoq ZmU (t:=36) (tb:=4) (e:=156) Tryz.func146 (by kernel_rfl) (by kernel_rfl) (by kernel_rfl) (by kernel_rfl) (by kernel_rfl) (by kernel_rfl) (by kernel_rfl) (by decide)
noncomputable def Z0O (a0:List Z4):Option Z0u:=if a0.length*120<=lim/\a0.length<=maxLen then some ⟨a0⟩ else none
def Zby:Shape:=⟨[OV 36],[]⟩
def Z2A:Shape:=⟨[.one (.own 156 0)],[.row 156 true]⟩
noncomputable def Z27:HMod U:={ fa:=[[.s 156 15]],fb:=[],sin:=Zby,ZME:=Z2A,one:=true,ky:=1345,toX:=fun(y:Z0u)=>(((),()),(y.q0,())),fn:=fun x=>Z0O x.1.1.1,ok:=⟨⟨⟨by decide,fun _=>rfl⟩,trivial⟩,trivial⟩ }
theorem Z5p:Z4n Tryz.prog B0 146 Z27:=ZkK Z4i fun x y hx=>by
 simp only [Z27,Z0O] at hx
 split at hx
 ·rename_i h
  cases hx
  exact⟨_,rfl,rfl,by simp [Z27,HMod.out,Z2A,Shape.enc,Zgr,ZBY,ZdH,ZcS,Zvq,toV],by simp [Z27,HMod.out,Z2A,Shape.enc,Zgr,ZBY,ZdH,ZcS,Zvq,toH,Z0W,ZW],by simpa using h.1,by simpa using h.2⟩
 ·cases hx
theorem Z4C:Zfo Tryz.prog 147 8 64 138:=Zoq ZmU (t:=37) (tb:=4) (e:=138) Tryz.func147 (by kernel_rfl) (by kernel_rfl) (by kernel_rfl) (by kernel_rfl) (by kernel_rfl) (by kernel_rfl) (by kernel_rfl) (by decide)
noncomputable def Z0D (a0:List Z8):Option Z0B:=if a0.length*64<=lim/\a0.length<=maxLen then some ⟨a0⟩ else none
def ZcR:Shape:=⟨[OV 37],[]⟩
def Z2R:Shape:=⟨[.one (.own 138 0)],[.row 138 true]⟩
noncomputable def Z2m:HMod U:={ fa:=[[.s 138 8]],fb:=[],sin:=ZcR,ZME:=Z2R,one:=true,ky:=1346,toX:=fun(y:Z0B)=>(((),()),(y.q0,())),fn:=fun x=>Z0D x.1.1.1,ok:=⟨⟨⟨by decide,fun _=>rfl⟩,trivial⟩,trivial⟩ }
theorem Z3A:Z4n Tryz.prog B0 147 Z2m:=ZkK Z4C fun x y hx=>by
 simp only [Z2m,Z0D] at hx
 split at hx
 ·rename_i h
  cases hx
  exact⟨_,rfl,rfl,by simp [Z2m,HMod.out,Z2R,Shape.enc,Zgr,ZBY,ZdH,ZcS,Zvq,toV],by simp [Z2m,HMod.out,Z2R,Shape.enc,Zgr,ZBY,ZdH,ZcS,Zvq,toH,Z0W,ZW],by simpa using h.1,by simpa using h.2⟩
 ·cases hx
theorem Z50:Zfo Tryz.prog 148 2 16 99:=Zoq ZmU (t:=42) (tb:=4) (e:=99) Tryz.func148 (by kernel_rfl) (by kernel_rfl) (by kernel_rfl) (by kernel_rfl) (by kernel_rfl) (by kernel_rfl) (by kernel_rfl) (by decide)
noncomputable def Z2D (a0:List Zj):Option Z1P:=if a0.length*16<=lim/\a0.length<=maxLen then some ⟨a0⟩ else none
def ZdN:Shape:=⟨[OV 42],[]⟩
def Z3b:Shape:=⟨[.one (.own 99 0)],[.row 99 true]⟩
noncomputable def Z2F:HMod U:={ fa:=[[.s 99 2]],fb:=[],sin:=ZdN,ZME:=Z3b,one:=true,ky:=1347,toX:=fun(y:Z1P)=>(((),()),(y.q0,())),fn:=fun x=>Z2D x.1.1.1,ok:=⟨⟨⟨by decide,fun _=>rfl⟩,trivial⟩,trivial⟩ }
theorem Zfd:Z4n Tryz.prog B0 148 Z2F:=ZkK Z50 fun x y hx=>by
 simp only [Z2F,Z2D] at hx
 split at hx
 ·rename_i h
  cases hx
  exact⟨_,rfl,rfl,by simp [Z2F,HMod.out,Z3b,Shape.enc,Zgr,ZBY,ZdH,ZcS,Zvq,toV],by simp [Z2F,HMod.out,Z3b,Shape.enc,Zgr,ZBY,ZdH,ZcS,Zvq,toH,Z0W,ZW],by simpa using h.1,by simpa using h.2⟩
 ·cases hx
noncomputable def Zje:Option Bool:=some true
noncomputable def ZiU:Mod U:={ ts:=[],rt:=4,fn:=fun _=>Zje,ok:=by decide }
theorem ZrT:Zvi Tryz.prog gl [11,14,15,17,19,22,27,28,37,38,39,40,41,42,52,53,55,57,58,62,63,64,65,66,67,68,78,79,122,123,124,125,126,133,134,135,136,137,143,149,150,152,153,154,155,156,158,159,160,161,218,219,222,223,230,231,232,235,236,237,238,287,321,379,380,381] (fun g=>!([62,63,64,158,159,160,235].contains g)) [(65,9),(62,5)] [(145,1,1,5),(146,15,120,156),(147,8,64,138),(148,2,16,99)]=true:=by kernel_rfl
theorem Zsh:Z0a Tryz.prog B0 14 ZiU:=ZMj rfl ZmU ZrT (fun p hp=>by simp only [List.mem_cons,List.not_mem_nil,or_false] at hp;rcases hp with rfl|rfl|rfl|rfl<;>first|exact Z5l|exact Z4i|exact Z4C|exact Z50) (by rfl) (by decide) rfl Tryz.func14 (by kernel_rfl) (n:=60) (m:=ZiU) rfl (a:=true) (fun _=>rfl) (by kernel_rfl)
inductive Z7j where
 | b0 (a0 a1 a2:Int)
noncomputable def ZeS:Z7j->Tr U (Bool⊕Z7j)
 | .b0 a0 a1 a2=>.br (decide (a0>=a1)) ( .leaf (.inl (decide (a0<=a2)))) ( .leaf (.inl false))
noncomputable def Z2v (a0 a1 a2:Int):Option Bool:=ZO ZeS (.b0 a0 a1 a2)
noncomputable def ZxF:Mod U:=⟨[3,3,3],4,fun x=>Z2v x.1 x.2.1 x.2.2.1,by decide⟩
noncomputable def Zwl:Z7j->Z08 U
 | .b0 a0 a1 a2=>Z0f Tryz.f129 [3,3,3] (a0,a1,a2,())
theorem Zsi:Z0g 129 Tryz.f129 msN hsN AN 4 ZeS Zwl
 | .b0 ..=>by kernel_rfl
theorem Zky:Z0a Tryz.prog B0 129 ZxF:=okP Zsi (fun x=>.b0 x.1 x.2.1 x.2.2.1) (by kernel_rfl) Tryz.func129 (by kernel_rfl) (by kernel_rfl) (fun _=>rfl) (fun _=>rfl)
inductive Z2I where
 | b0 (a0:ZM)
 | b1 (a0:ZM)
noncomputable def Z6E:Z2I->Tr U (Int⊕Z2I)
 | .b0 a0=>.bind 4 (Z2v a0.Z1E (1:Int) (8:Int)) (fun(x1:Bool)=>.br (!x1) ( .leaf (.inl (5:Int))) ( .bind 4 (Z2v a0.Z0r (0:Int) (3200:Int)) (fun(x2:Bool)=>.br (!x2) ( .leaf (.inl (5:Int))) ( .bind 4 (Z2v a0.Z0j (6:Int) (3200:Int)) (fun(x3:Bool)=>.br (!x3) ( .leaf (.inl (5:Int))) ( .bind 4 (Z2v a0.Z0o (0:Int) (499:Int)) (fun(x4:Bool)=>.br (!x4) ( .leaf (.inl (5:Int))) ( .bind 4 (Z2v a0.Z1g (10:Int) (3200:Int)) (fun(x5:Bool)=>.br (!x5) ( .leaf (.inl (5:Int))) ( .leaf (.inr (.b1 a0))))))))))))
 | .b1 a0=>.br (decide (a0.Z1E>=a0.Z0j)) ( .leaf (.inl (11:Int))) ( .br (decide (a0.Z0r>a0.Z0j)) ( .leaf (.inl (11:Int))) ( .br (decide ((w64 (a0.Z1g*10000))<=(w64 ((w64 ((w64 ((2:Int)*(w64 (a0.Z0o+1))))*a0.Z0j))*1250)))) ( .leaf (.inl (11:Int))) ( .leaf (.inl (0:Int)))))
noncomputable def Z4f (a0:ZM):Option Int:=ZO Z6E (.b0 a0)
noncomputable def ZmF:Mod U:=⟨[24],45,fun x=>Z4f x.1,by decide⟩
def Z8J:Lay:=⟨[1],[KP],[.var [.keep,.keep,.keep,.keep,.keep]],⟨[PQ 0],[VA 24 5]⟩⟩
def ZmL:Nat->Option Lay
 | 3=>some Z8J
 | _=>none
noncomputable def Zkr:Z2I->Z08 U
 | .b0 a0=>Z0f Tryz.f127 [24] (a0,())
 | .b1 a0=>spL Tryz.f127 [1,1,0,0] Z8J (((),()),((a0,()),()))
theorem Zin:Z0g 127 Tryz.f127 (mc Zky msN) hsN ZmL 45 Z6E Zkr:=by intro p;cases p<;>kernel_rfl
theorem Zaz:Z0a Tryz.prog B0 127 ZmF:=okP Zin (fun x=>.b0 x.1) (by kernel_rfl) Tryz.func127 (by kernel_rfl) (by kernel_rfl) (fun _=>rfl) (fun _=>rfl)
inductive Z9W where
 | b0 (a0:Int)
 | b1 (a0 a1 a2:Int)
noncomputable def Z4K:Z9W->Tr U (Int⊕Z9W)
 | .b0 a0=>.leaf (.inr (.b1 a0 (1:Int) (0:Int)))
 | .b1 a0 a1 a2=>.br (decide (a2<a0)) ( .leaf (.inr (.b1 a0 (IntKind.wrap .u64 (a1*2)) (w64 (a2+1))))) ( .leaf (.inl a1))
noncomputable def Z66 (a0:Int):Option Int:=ZO Z4K (.b0 a0)
noncomputable def ZC6:Mod U:=⟨[3],25,fun x=>Z66 x.1,by decide⟩
def Zjh:Lay:=⟨[0,3,4],[KP,KP,KP],[],⟨[OV 3,OV 25,OV 3],[]⟩⟩
def ZBy:Nat->Option Lay
 | 3=>some Zjh
 | _=>none
noncomputable def ZzD:Z9W->Z08 U
 | .b0 a0=>Z0f Tryz.f220 [3] (a0,())
 | .b1 a0 a1 a2=>spL Tryz.f220 [1,1,0,1,0,0,0,0] Zjh (((a0,()),((a1,()),((a2,()),()))),())
theorem Zwo:Z0g 220 Tryz.f220 msN hsN ZBy 25 Z4K ZzD:=by intro p;cases p<;>kernel_rfl
theorem ZdV:Z0a Tryz.prog B0 220 ZC6:=okP Zwo (fun x=>.b0 x.1) (by kernel_rfl) Tryz.func220 (by kernel_rfl) (by kernel_rfl) (fun _=>rfl) (fun _=>rfl)
inductive Ze2 where
 | b0 (a0 a1:Int)
noncomputable def Zk4:Ze2->Tr U (Bool⊕Ze2)
 | .b0 a0 a1=>.br (decide (a1>=0)) ( .br (decide (a1<=36)) ( .bind 25 (Z66 a1) (fun(x1:Int)=>.chk (x1 != 0) ( .leaf (.inl ((Int.tmod (IntKind.wrap .u64 (Int.tdiv a0 x1)) 2)==1))))) ( .leaf (.inl false))) ( .leaf (.inl false))
noncomputable def ZbD (a0 a1:Int):Option Bool:=ZO Zk4 (.b0 a0 a1)
noncomputable def ZJt:Mod U:=⟨[26,3],4,fun x=>ZbD x.1 x.2.1,by decide⟩
noncomputable def ZHt:Ze2->Z08 U
 | .b0 a0 a1=>Z0f Tryz.f225 [26,3] (a0,a1,())
theorem ZCT:Z0g 225 Tryz.f225 (mc ZdV msN) hsN AN 4 Zk4 ZHt
 | .b0 ..=>by kernel_rfl
theorem Zls:Z0a Tryz.prog B0 225 ZJt:=okP ZCT (fun x=>.b0 x.1 x.2.1) (by kernel_rfl) Tryz.func225 (by kernel_rfl) (by kernel_rfl) (fun _=>rfl) (fun _=>rfl)
inductive ZbX where
 | b0 (a0:Int)
 | b1 (a0:Int) (a1:List Int) (a2:Int)
 | b2 (a0:Int) (a1:List Int) (a2:Int)
noncomputable def Z3r:ZbX->Tr U ((List Int)⊕ZbX)
 | .b0 a0=>.chk (([]:List Int).length==0) ( .leaf (.inr (.b1 a0 ([]:List Int) (0:Int))))
 | .b1 a0 a1 a2=>.br (decide (a2<=36)) ( .bind 4 (ZbD a0 a2) (fun(x1:Bool)=>.br x1 ( .chk (([a2]).length==1) ( .chk (a1.length==a1.length) ( .chk (decide ((a1.length+([a2]).length)*8<=lim)&&decide (a1.length+([a2]).length<=maxLen)) ( .chk ((a1++[a2]).length==(a1++[a2]).length) ( .leaf (.inr (.b2 a0 (a1++[a2]) a2))))))) ( .chk (a1.length==a1.length) ( .leaf (.inr (.b2 a0 a1 a2)))))) ( .chk (a1.length==a1.length) ( .leaf (.inl a1)))
 | .b2 a0 a1 a2=>.chk (a1.length==a1.length) ( .leaf (.inr (.b1 a0 a1 (w64 (a2+1)))))
noncomputable def Z8A (a0:Int):Option (List Int):=ZO Z3r (.b0 a0)
noncomputable def ZH5:Mod U:=⟨[26],226,fun x=>Z8A x.1,by decide⟩
def Zay:Lay:=⟨[0,3,4],[KP,[.own 3 1],KP],[.row true],⟨[OV 26,.one (.own 3 0),OV 3],[.row 3 true]⟩⟩
def ZIz:Nat->Option Lay
 | 3=>some Zay
 | 4=>some Zay
 | _=>none
noncomputable def ZCS:ZbX->Z08 U
 | .b0 a0=>Z0f Tryz.f202 [26] (a0,())
 | .b1 a0 a1 a2=>spL Tryz.f202 [1,1,0,1,0,0,0,0] Zay (((a0,()),((),((a2,()),()))),(a1,()))
 | .b2 a0 a1 a2=>spL Tryz.f202 [1,1,0,1,0,0,1,1] Zay (((a0,()),((),((a2,()),()))),(a1,()))
theorem ZA8:Z0g 202 Tryz.f202 (mc Zls msN) hsN ZIz 226 Z3r ZCS:=by intro p;cases p<;>kernel_rfl
theorem ZhL:Z0a Tryz.prog B0 202 ZH5:=okP ZA8 (fun x=>.b0 x.1) (by kernel_rfl) Tryz.func202 (by kernel_rfl) (by kernel_rfl) (fun _=>rfl) (fun _=>rfl)
inductive Z8D where
 | b0 (a0:Int)
noncomputable def ZcN:Z8D->Tr U (Int⊕Z8D)
 | .b0 a0=>.bind 226 (Z8A a0) (fun(x1:List Int)=>.leaf (.inl (↑x1.length:Int)))
noncomputable def Z64 (a0:Int):Option Int:=ZO ZcN (.b0 a0)
noncomputable def ZCN:Mod U:=⟨[26],3,fun x=>Z64 x.1,by decide⟩
noncomputable def ZzS:Z8D->Z08 U
 | .b0 a0=>Z0f Tryz.f221 [26] (a0,())
theorem Zuu:Z0g 221 Tryz.f221 (mc ZhL msN) hsN AN 3 ZcN ZzS
 | .b0 ..=>by kernel_rfl
theorem Zfj:Z0a Tryz.prog B0 221 ZCN:=okP Zuu (fun x=>.b0 x.1) (by kernel_rfl) Tryz.func221 (by kernel_rfl) (by kernel_rfl) (fun _=>rfl) (fun _=>rfl)
inductive Z8L where
 | b0 (a0:Int)
noncomputable def Zio:Z8L->Tr U (Int⊕Z8L)
 | .b0 a0=>.bind 25 (Z66 (37:Int)) (fun(x1:Int)=>.br (decide (a0>=x1)) ( .leaf (.inl (5:Int))) ( .bind 3 (Z64 a0) (fun(x2:Int)=>.br (decide (x2<2)) ( .leaf (.inl (1:Int))) ( .leaf (.inl (0:Int))))))
noncomputable def ZcK (a0:Int):Option Int:=ZO Zio (.b0 a0)
noncomputable def ZE8:Mod U:=⟨[26],45,fun x=>ZcK x.1,by decide⟩
noncomputable def Zz6:Z8L->Z08 U
 | .b0 a0=>Z0f Tryz.f128 [26] (a0,())
theorem Zww:Z0g 128 Tryz.f128 (mc ZdV (mc Zfj msN)) hsN AN 45 Zio Zz6
 | .b0 ..=>by kernel_rfl
theorem ZmV:Z0a Tryz.prog B0 128 ZE8:=okP Zww (fun x=>.b0 x.1) (by kernel_rfl) Tryz.func128 (by kernel_rfl) (by kernel_rfl) (fun _=>rfl) (fun _=>rfl)
inductive Z8S where
 | b0 (a0:Zy)
 | b1 (a0:Zy)
 | b2 (a0:Zy)
noncomputable def ZhH:Z8S->Tr U (Int⊕Z8S)
 | .b0 a0=>.br (a0.Z3W==0) ( .leaf (.inl (1:Int))) ( .br (a0.Z3W==2391391958) ( .leaf (.inl (1:Int))) ( .leaf (.inr (.b1 a0))))
 | .b1 a0=>.br (decide (a0.ZOI>=16777216)) ( .leaf (.inl (5:Int))) ( .bind 45 (Z4f a0.Zt) (fun(x1:Int)=>.br (x1 != 0) ( .leaf (.inl x1)) ( .bind 45 (ZcK a0.Map) (fun(x2:Int)=>.br (x2 != 0) ( .leaf (.inl x2)) ( .bind 4 (Z2v a0.Hop (5:Int) (16:Int)) (fun(x3:Bool)=>.br (!x3) ( .leaf (.inl (5:Int))) ( .bind 4 (Z2v a0.PPM (0:Int) (500:Int)) (fun(x4:Bool)=>.br (!x4) ( .leaf (.inl (5:Int))) ( .leaf (.inr (.b2 a0)))))))))))
 | .b2 a0=>.br (a0.Z2K != 1) ( .br (a0.Z2K != 2) ( .leaf (.inl (12:Int))) ( .leaf (.inl (0:Int)))) ( .leaf (.inl (0:Int)))
noncomputable def Zii (a0:Zy):Option Int:=ZO ZhH (.b0 a0)
noncomputable def ZCF:Mod U:=⟨[28],45,fun x=>Zii x.1,by decide⟩
def Z8g:Lay:=⟨[1],[KP],[.var k3],⟨[PQ 0],[VA 28 11]⟩⟩
def ZCY:Nat->Option Lay
 | 3=>some Z8g
 | 13=>some Z8g
 | _=>none
noncomputable def ZB0:Z8S->Z08 U
 | .b0 a0=>Z0f Tryz.f43 [28] (a0,())
 | .b1 a0=>spL Tryz.f43 [1,1,0,0] Z8g (((),()),((a0,()),()))
 | .b2 a0=>spL Tryz.f43 [1,1,1,1,1,1,0,0] Z8g (((),()),((a0,()),()))
theorem Zwj:Z0g 43 Tryz.f43 (mc Zaz (mc ZmV (mc Zky msN))) hsN ZCY 45 ZhH ZB0:=by intro p;cases p<;>kernel_rfl
theorem Zyg:Z0a Tryz.prog B0 43 ZCF:=okP Zwj (fun x=>.b0 x.1) (by kernel_rfl) Tryz.func43 (by kernel_rfl) (by kernel_rfl) (fun _=>rfl) (fun _=>rfl)
inductive Z58 where
 | b0 (a0 a1 a2:Int)
noncomputable def Z8a:Z58->Tr U (Int⊕Z58)
 | .b0 a0 a1 a2=>.leaf (.inl (if (if a2<a0 then a2 else a0)>a1 then (if a2<a0 then a2 else a0) else a1))
noncomputable def Z2r (a0 a1 a2:Int):Option Int:=ZO Z8a (.b0 a0 a1 a2)
noncomputable def Zw1:Mod U:=⟨[3,3,3],3,fun x=>Z2r x.1 x.2.1 x.2.2.1,by decide⟩
noncomputable def Zs8:Z58->Z08 U
 | .b0 a0 a1 a2=>Z0f Tryz.f192 [3,3,3] (a0,a1,a2,())
theorem ZpN:Z0g 192 Tryz.f192 msN hsN AN 3 Z8a Zs8
 | .b0 ..=>by kernel_rfl
theorem Z6I:Z0a Tryz.prog B0 192 Zw1:=okP ZpN (fun x=>.b0 x.1 x.2.1 x.2.2.1) (by kernel_rfl) Tryz.func192 (by kernel_rfl) (by kernel_rfl) (fun _=>rfl) (fun _=>rfl)
inductive Z9l where
 | b0 (a0:Int)
noncomputable def ZhD:Z9l->Tr U (Int⊕Z9l)
 | .b0 a0=>.bind 3 (Z2r a0 (0:Int) (4398046511104:Int)) (fun(x1:Int)=>.leaf (.inl x1))
noncomputable def ZhO (a0:Int):Option Int:=ZO ZhD (.b0 a0)
noncomputable def ZEp:Mod U:=⟨[3],3,fun x=>ZhO x.1,by decide⟩
noncomputable def ZAt:Z9l->Z08 U
 | .b0 a0=>Z0f Tryz.f130 [3] (a0,())
theorem Zw4:Z0g 130 Tryz.f130 (mc Z6I msN) hsN AN 3 ZhD ZAt
 | .b0 ..=>by kernel_rfl
theorem ZAo:Z0a Tryz.prog B0 130 ZEp:=okP Zw4 (fun x=>.b0 x.1) (by kernel_rfl) Tryz.func130 (by kernel_rfl) (by kernel_rfl) (fun _=>rfl) (fun _=>rfl)
inductive Z7u where
 | b0 (a0:ZM)
noncomputable def Ze5:Z7u->Tr U (Int⊕Z7u)
 | .b0 a0=>.bind 3 (Z2r a0.Z0r (0:Int) (3200:Int)) (fun(x1:Int)=>.leaf (.inl (w64 (x1*1250))))
noncomputable def Zf3 (a0:ZM):Option Int:=ZO Ze5 (.b0 a0)
noncomputable def Zyu:Mod U:=⟨[24],3,fun x=>Zf3 x.1,by decide⟩
noncomputable def ZvY:Z7u->Z08 U
 | .b0 a0=>Z0f Tryz.f131 [24] (a0,())
theorem ZsB:Z0g 131 Tryz.f131 (mc Z6I msN) hsN AN 3 Ze5 ZvY
 | .b0 ..=>by kernel_rfl
theorem Zvw:Z0a Tryz.prog B0 131 Zyu:=okP ZsB (fun x=>.b0 x.1) (by kernel_rfl) Tryz.func131 (by kernel_rfl) (by kernel_rfl) (fun _=>rfl) (fun _=>rfl)
inductive ZbP where
 | b0 (a0:ZM)
noncomputable def Zmc:ZbP->Tr U (Int⊕ZbP)
 | .b0 a0=>.bind 3 (Z2r a0.Z1E (1:Int) (8:Int)) (fun(x1:Int)=>.leaf (.inl (w64 (x1*1250))))
noncomputable def ZlJ (a0:ZM):Option Int:=ZO Zmc (.b0 a0)
noncomputable def ZI3:Mod U:=⟨[24],3,fun x=>ZlJ x.1,by decide⟩
noncomputable def ZBL:ZbP->Z08 U
 | .b0 a0=>Z0f Tryz.f132 [24] (a0,())
theorem Zxm:Z0g 132 Tryz.f132 (mc Z6I msN) hsN AN 3 Zmc ZBL
 | .b0 ..=>by kernel_rfl
theorem ZEA:Z0a Tryz.prog B0 132 ZI3:=okP Zxm (fun x=>.b0 x.1) (by kernel_rfl) Tryz.func132 (by kernel_rfl) (by kernel_rfl) (fun _=>rfl) (fun _=>rfl)
inductive Z8K where
 | b0 (a0:Int) (a1:ZM)
noncomputable def Zhq:Z8K->Tr U (Z4b⊕Z8K)
 | .b0 a0 a1=>.bind 3 (ZhO a0) (fun(x1:Int)=>.bind 3 (Zf3 a1) (fun(x2:Int)=>.bind 3 (ZlJ a1) (fun(x3:Int)=>.leaf (.inl (⟨(w64 ((w64 (x1+1250))+x2)),(w64 ((w64 ((w64 (x1+1250))+x2))+x3))⟩:Z4b)))))
noncomputable def Zhv (a0:Int) (a1:ZM):Option Z4b:=ZO Zhq (.b0 a0 a1)
noncomputable def ZEL:Mod U:=⟨[3,24],52,fun x=>Zhv x.1 x.2.1,by decide⟩
noncomputable def ZxM:Z8K->Z08 U
 | .b0 a0 a1=>Z0f Tryz.f44 [3,24] (a0,a1,())
theorem ZuZ:Z0g 44 Tryz.f44 (mc ZAo (mc Zvw (mc ZEA msN))) hsN AN 52 Zhq ZxM
 | .b0 ..=>by kernel_rfl
theorem Zzj:Z0a Tryz.prog B0 44 ZEL:=okP ZuZ (fun x=>.b0 x.1 x.2.1) (by kernel_rfl) Tryz.func44 (by kernel_rfl) (by kernel_rfl) (fun _=>rfl) (fun _=>rfl)
inductive Zf5 where
 | b0
noncomputable def ZoH:Zf5->Tr U (ZK⊕Zf5)
 | .b0 =>.leaf (.inl Z4y)
noncomputable def Zp0  : Option ZK:=ZO ZoH (.b0)
noncomputable def ZJm:Mod U:=⟨[],33,fun x=>Zp0,by decide⟩
noncomputable def ZGB:Zf5->Z08 U
 | .b0 =>Z0f Tryz.f45 [] ()
theorem ZCw:Z0g 45 Tryz.f45 msN hsN AN 33 ZoH ZGB
 | .b0=>by kernel_rfl
theorem ZHo:Z0a Tryz.prog B0 45 ZJm:=okP ZCw (fun x=>.b0 ) (by kernel_rfl) Tryz.func45 (by kernel_rfl) (by kernel_rfl) (fun _=>rfl) (fun _=>rfl)
inductive Zf1 where
 | b0 (a0:Int)
noncomputable def Zke:Zf1->Tr U (Zk⊕Zf1)
 | .b0 a0=>.leaf (.inl (⟨(if (if (499:Int)<a0 then (499:Int) else a0)>0 then (if (499:Int)<a0 then (499:Int) else a0) else (0:Int)),0,true⟩:Zk))
noncomputable def ZbZ (a0:Int):Option Zk:=ZO Zke (.b0 a0)
noncomputable def ZLa:Mod U:=⟨[3],35,fun x=>ZbZ x.1,by decide⟩
noncomputable def ZIL:Zf1->Z08 U
 | .b0 a0=>Z0f Tryz.f46 [3] (a0,())
theorem ZCD:Z0g 46 Tryz.f46 msN hsN AN 35 Zke ZIL
 | .b0 ..=>by kernel_rfl
theorem Ztq:Z0a Tryz.prog B0 46 ZLa:=okP ZCD (fun x=>.b0 x.1) (by kernel_rfl) Tryz.func46 (by kernel_rfl) (by kernel_rfl) (fun _=>rfl) (fun _=>rfl)
inductive Zeb where
 | b0 (a0 a1 a2:Int)
noncomputable def Zpn:Zeb->Tr U (Z7⊕Zeb)
 | .b0 a0 a1 a2=>.br (a0==1) ( .leaf (.inl (⟨1,-1,0,[],-1,0,[],false,a1,0,false,false,-1,27,(if (251:Int)<(if (27:Int)>a2 then (27:Int) else a2) then (251:Int) else (if (27:Int)>a2 then (27:Int) else a2)),0,0,0,0,0⟩:Z7))) ( .leaf (.inl (⟨0,-1,0,[],-1,0,[],false,a1,0,false,false,-1,27,(if (251:Int)<(if (27:Int)>a2 then (27:Int) else a2) then (251:Int) else (if (27:Int)>a2 then (27:Int) else a2)),0,0,0,0,0⟩:Z7)))
noncomputable def Zqz (a0 a1 a2:Int):Option Z7:=ZO Zpn (.b0 a0 a1 a2)
noncomputable def ZKR:Mod U:=⟨[3,25,3],39,fun x=>Zqz x.1 x.2.1 x.2.2.1,by decide⟩
noncomputable def ZHT:Zeb->Z08 U
 | .b0 a0 a1 a2=>Z0f Tryz.f47 [3,25,3] (a0,a1,a2,())
theorem ZD6:Z0g 47 Tryz.f47 msN hsN AN 39 Zpn ZHT
 | .b0 ..=>by kernel_rfl
theorem ZIi:Z0a Tryz.prog B0 47 ZKR:=okP ZD6 (fun x=>.b0 x.1 x.2.1 x.2.2.1) (by kernel_rfl) Tryz.func47 (by kernel_rfl) (by kernel_rfl) (fun _=>rfl) (fun _=>rfl)
inductive Z8V where
 | b0
noncomputable def ZiI:Z8V->Tr U ((List Zj)⊕Z8V)
 | .b0 =>.chk (decide (0<=(37:Int)/\(37:Int)<=37/\Int.toNat 37*16<=lim/\(37:Int)<=(↑maxLen:Int))) ( .chk ((List.replicate (Int.toNat 37) (⟨0,0⟩:Zj)).length==(List.replicate (Int.toNat 37) (⟨0,0⟩:Zj)).length) ( .leaf (.inl (List.replicate (Int.toNat 37) (⟨0,0⟩:Zj)))))
noncomputable def Zhr  : Option (List Zj):=ZO ZiI (.b0)
noncomputable def ZDn:Mod U:=⟨[],42,fun x=>Zhr,by decide⟩
noncomputable def ZyE:Z8V->Z08 U
 | .b0 =>Z0f Tryz.f48 [] ()
theorem Zux:Z0g 48 Tryz.f48 msN hsN AN 42 ZiI ZyE
 | .b0=>by kernel_rfl
theorem ZwS:Z0a Tryz.prog B0 48 ZDn:=okP Zux (fun x=>.b0 ) (by kernel_rfl) Tryz.func48 (by kernel_rfl) (by kernel_rfl) (fun _=>rfl) (fun _=>rfl)
inductive Zfe where
 | b0 (a0:Int) (a1:Zy) (a2 a3 a4 a5:Int)
 | b1 (a0:Z9)
 | b2 (a0 a1 a2 a3 a4:Int) (a5:Zy) (a6:Z9)
 | b3 (a0:Z9)
 | b4 (a0 a1 a2 a3 a4:Int) (a5:Zy) (a6:Z9)
noncomputable def Zq5:Zfe->Tr U ((Z9×Int)⊕Zfe)
 | .b0 a0 a1 a2 a3 a4 a5=>.br (a0 != 0) ( .br (a0 != 1) ( .leaf (.inr (.b1 ZH))) ( .leaf (.inr (.b2 a0 a2 a3 a4 a5 a1 ZH)))) ( .leaf (.inr (.b2 a0 a2 a3 a4 a5 a1 ZH)))
 | .b1 a0=>.leaf (.inl (ZH,1))
 | .b2 a0 a1 a2 a3 a4 a5 a6=>.bind 45 (Zii a5) (fun(x1:Int)=>.br (x1 != 0) ( .leaf (.inl (ZH,x1))) ( .br (decide (a1<0)) ( .leaf (.inr (.b3 a6))) ( .br (decide (a1>500)) ( .leaf (.inr (.b3 a6))) ( .br (decide (a4<0)) ( .leaf (.inr (.b3 a6))) ( .br (decide (a4>1099511627776)) ( .leaf (.inr (.b3 a6))) ( .leaf (.inr (.b4 a0 a1 a2 a3 a4 a5 a6))))))))
 | .b3 a0=>.leaf (.inl (ZH,5))
 | .b4 a0 a1 a2 a3 a4 a5 a6=>.bind 52 (Zhv a4 a5.Zt) (fun(x1:Z4b)=>.bind 33 (Zp0) (fun(x2:ZK)=>.bind 35 (ZbZ a5.Zt.Z0o) (fun(x3:Zk)=>.bind 39 (Zqz a0 (63:Int) (251:Int)) (fun(x4:Z7)=>.bind 42 (Zhr) (fun(x5:List Zj)=>.br (a0==1) ( .leaf (.inl ((⟨a0,a5,a1,0,0,x1.Start,(w64 (x1.End - x1.Start)),a4,a4,false,false,false,false,false,x2,x3,x4,Z31,a2,x5,[],0,a3⟩:Z9),(0:Int)))) ( .leaf (.inl ((⟨a0,a5,a1,0,0,x1.Start,0,a4,a4,false,false,false,false,false,x2,x3,x4,Z31,a2,x5,[],0,a3⟩:Z9),(0:Int)))))))))
noncomputable def Zl5 (a0:Int) (a1:Zy) (a2 a3 a4 a5:Int):Option (Z9×Int):=ZO Zq5 (.b0 a0 a1 a2 a3 a4 a5)
noncomputable def ZLf:Mod U:=⟨[3,28,3,29,25,3],46,fun x=>Zl5 x.1 x.2.1 x.2.2.1 x.2.2.2.1 x.2.2.2.2.1 x.2.2.2.2.2.1,by decide⟩
def ZcO:Lay:=⟨[12],[KP],[.var k2],⟨[PQ 0],[VA 44 66]⟩⟩
def Zcy:Lay:=⟨[0,2,3,4,5,7,12],[KP,KP,KP,KP,KP,KP,KP],[.var k3,.var k2],⟨[OV 3,OV 3,OV 29,OV 25,OV 3,PQ 0,PQ 1],[VA 28 11,VA 44 66]⟩⟩
def ZLr:Nat->Option Lay
 | 2=>some ZcO
 | 3=>some Zcy
 | 7=>some ZcO
 | 8=>some Zcy
 | _=>none
noncomputable def ZG1:Zfe->Z08 U
 | .b0 a0 a1 a2 a3 a4 a5=>Z0f Tryz.f12 [3,28,3,29,25,3] (a0,a1,a2,a3,a4,a5,())
 | .b1 a0=>spL Tryz.f12 [1,0,1,0,0] ZcO (((),()),((a0,()),()))
 | .b2 a0 a1 a2 a3 a4 a5 a6=>spL Tryz.f12 [1,1,0] Zcy (((a0,()),((a1,()),((a2,()),((a3,()),((a4,()),((),((),()))))))),((a5,()),((a6,()),())))
 | .b3 a0=>spL Tryz.f12 [1,1,1,1,0,1,0,0] ZcO (((),()),((a0,()),()))
 | .b4 a0 a1 a2 a3 a4 a5 a6=>spL Tryz.f12 [1,1,1,1,1,0] Zcy (((a0,()),((a1,()),((a2,()),((a3,()),((a4,()),((),((),()))))))),((a5,()),((a6,()),())))
theorem ZCb:Z0g 12 Tryz.f12 (mc Zyg (mc Zzj (mc ZHo (mc Ztq (mc ZIi (mc ZwS msN)))))) hsN ZLr 46 Zq5 ZG1:=by intro p;cases p<;>kernel_rfl
theorem ZGi:Z0a Tryz.prog B0 12 ZLf:=okP ZCb (fun x=>.b0 x.1 x.2.1 x.2.2.1 x.2.2.2.1 x.2.2.2.2.1 x.2.2.2.2.2.1) (by kernel_rfl) Tryz.func12 (by kernel_rfl) (by kernel_rfl) (fun _=>rfl) (fun _=>rfl)
inductive ZbK where
 | b0 (a0:Zk) (a1:Bool)
noncomputable def Zbi:ZbK->Tr U (Bool⊕ZbK)
 | .b0 a0 a1=>.br a0.Full ( .leaf (.inl true)) ( .br a1 ( .leaf (.inl true)) ( .leaf (.inl (decide (a0.Z3y>=a0.Z0o)))))
noncomputable def Z8u (a0:Zk) (a1:Bool):Option Bool:=ZO Zbi (.b0 a0 a1)
noncomputable def ZHS:Mod U:=⟨[35,4],4,fun x=>Z8u x.1 x.2.1,by decide⟩
noncomputable def ZDD:ZbK->Z08 U
 | .b0 a0 a1=>Z0f Tryz.f59 [35,4] (a0,a1,())
theorem Zz2:Z0g 59 Tryz.f59 msN hsN AN 4 Zbi ZDD
 | .b0 ..=>by kernel_rfl
theorem Zrt:Z0a Tryz.prog B0 59 ZHS:=okP Zz2 (fun x=>.b0 x.1 x.2.1) (by kernel_rfl) Tryz.func59 (by kernel_rfl) (by kernel_rfl) (fun _=>rfl) (fun _=>rfl)
inductive ZbT where
 | b0 (a0:ZK)
noncomputable def Zmb:ZbT->Tr U (Bool⊕ZbT)
 | .b0 a0=>.leaf (.inl ((↑a0.Zu.length:Int)==0))
noncomputable def ZfT (a0:ZK):Option Bool:=ZO Zmb (.b0 a0)
noncomputable def ZGA:Mod U:=⟨[33],4,fun x=>ZfT x.1,by decide⟩
noncomputable def ZE4:ZbT->Z08 U
 | .b0 a0=>Z0f Tryz.f60 [33] (a0,())
theorem ZAH:Z0g 60 Tryz.f60 msN hsN AN 4 Zmb ZE4
 | .b0 ..=>by kernel_rfl
theorem ZEK:Z0a Tryz.prog B0 60 ZGA:=okP ZAH (fun x=>.b0 x.1) (by kernel_rfl) Tryz.func60 (by kernel_rfl) (by kernel_rfl) (fun _=>rfl) (fun _=>rfl)
inductive Z8G where
 | b0 (a0:Z9)
noncomputable def Zd0:Z8G->Tr U (Bool⊕Z8G)
 | .b0 a0=>.br (a0.Z05==0) ( .br (a0.Z1z==1) ( .br a0.Z2C ( .br ((↑a0.Zb.length:Int)==0) ( .br ((↑a0.Ze.Zo.length:Int)==0) ( .bind 4 (ZfT a0.Arq) (fun(x1:Bool)=>.bind 4 (Z8u a0.Z0y (!x1)) (fun(x2:Bool)=>.leaf (.inl (!x2))))) ( .leaf (.inl false))) ( .leaf (.inl false))) ( .leaf (.inl false))) ( .leaf (.inl false))) ( .leaf (.inl false))
noncomputable def Z9J (a0:Z9):Option Bool:=ZO Zd0 (.b0 a0)
noncomputable def ZBQ:Mod U:=⟨[44],4,fun x=>Z9J x.1,by decide⟩
noncomputable def ZxZ:Z8G->Z08 U
 | .b0 a0=>Z0f Tryz.f20 [44] (a0,())
theorem Zvu:Z0g 20 Tryz.f20 (mc Zrt (mc ZEK msN)) hsN AN 4 Zd0 ZxZ
 | .b0 ..=>by kernel_rfl
theorem Zn8:Z0a Tryz.prog B0 20 ZBQ:=okP Zvu (fun x=>.b0 x.1) (by kernel_rfl) Tryz.func20 (by kernel_rfl) (by kernel_rfl) (fun _=>rfl) (fun _=>rfl)
inductive Z4w where
 | b0 (a0:Int)
 | b1 (a0 a1 a2:Int)
noncomputable def Z3u:Z4w->Tr U (Int⊕Z4w)
 | .b0 a0=>.leaf (.inr (.b1 a0 (0:Int) (0:Int)))
 | .b1 a0 a1 a2=>.br (decide (a2<8)) ( .leaf (.inr (.b1 (w64 (Int.tdiv a0 2)) (w64 ((w64 ((2:Int)*a1))+(Int.tmod a0 2))) (w64 (a2+1))))) ( .leaf (.inl a1))
noncomputable def Z4B (a0:Int):Option Int:=ZO Z3u (.b0 a0)
noncomputable def Zss:Mod U:=⟨[3],3,fun x=>Z4B x.1,by decide⟩
def ZdC:Lay:=⟨[0,3,4],[KP,KP,KP],[],⟨[OV 3,OV 3,OV 3],[]⟩⟩
def ZrR:Nat->Option Lay
 | 3=>some ZdC
 | _=>none
noncomputable def ZqX:Z4w->Z08 U
 | .b0 a0=>Z0f Tryz.f227 [3] (a0,())
 | .b1 a0 a1 a2=>spL Tryz.f227 [1,1,0,1,0,0,0,0] ZdC (((a0,()),((a1,()),((a2,()),()))),())
theorem ZnI:Z0g 227 Tryz.f227 msN hsN ZrR 3 Z3u ZqX:=by intro p;cases p<;>kernel_rfl
theorem Zp1:Z0a Tryz.prog B0 227 Zss:=okP ZnI (fun x=>.b0 x.1) (by kernel_rfl) Tryz.func227 (by kernel_rfl) (by kernel_rfl) (fun _=>rfl) (fun _=>rfl)
inductive Z77 where
 | b0 (a0 a1:Int)
 | b1 (a0 a1 a2:Int)
noncomputable def Z41:Z77->Tr U (Int⊕Z77)
 | .b0 a0 a1=>.leaf (.inr (.b1 a1 (bits .xor .u16 a0 a1) (0:Int)))
 | .b1 a0 a1 a2=>.br (decide (a2<3)) ( .bind 3 (Z4B (w64 (Int.tdiv (w64 (a1)) 256))) (fun(x1:Int)=>.bind 3 (Z4B (Int.tmod (w64 (a1)) 256)) (fun(x2:Int)=>.leaf (.inr (.b1 a0 (IntKind.wrap .u16 ((Int.tmod (w64 ((w64 ((17:Int)*(w64 ((w64 ((256:Int)*x1))+x2))))+(w64 (a0)))) (65536:Int)))) (w64 (a2+1))))))) ( .leaf (.inl (bits .xor .u16 a1 a0)))
noncomputable def Z7i (a0 a1:Int):Option Int:=ZO Z41 (.b0 a0 a1)
noncomputable def Zxe:Mod U:=⟨[30,30],30,fun x=>Z7i x.1 x.2.1,by decide⟩
def ZgP:Lay:=⟨[1,5,6],[KP,KP,KP],[],⟨[OV 30,OV 30,OV 3],[]⟩⟩
def Zxo:Nat->Option Lay
 | 3=>some ZgP
 | _=>none
noncomputable def ZvE:Z77->Z08 U
 | .b0 a0 a1=>Z0f Tryz.f139 [30,30] (a0,a1,())
 | .b1 a0 a1 a2=>spL Tryz.f139 [1,1,0,1,0,0,0,0] ZgP (((a0,()),((a1,()),((a2,()),()))),())
theorem Zsp:Z0g 139 Tryz.f139 (mc Zp1 msN) hsN Zxo 30 Z41 ZvE:=by intro p;cases p<;>kernel_rfl
theorem Zl4:Z0a Tryz.prog B0 139 Zxe:=okP Zsp (fun x=>.b0 x.1 x.2.1) (by kernel_rfl) Tryz.func139 (by kernel_rfl) (by kernel_rfl) (fun _=>rfl) (fun _=>rfl)
inductive Za4 where
 | b0 (a0:Int)
noncomputable def ZcT:Za4->Tr U (Int⊕Za4)
 | .b0 a0=>.leaf (.inl (bits .xor .u16 (IntKind.wrap .u16 ((IntKind.wrap .u32 (Int.tdiv a0 65536)))) (IntKind.wrap .u16 ((Int.tmod a0 65536)))))
noncomputable def Z9V (a0:Int):Option Int:=ZO ZcT (.b0 a0)
noncomputable def ZCd:Mod U:=⟨[22],30,fun x=>Z9V x.1,by decide⟩
noncomputable def ZxX:Za4->Z08 U
 | .b0 a0=>Z0f Tryz.f140 [22] (a0,())
theorem Zwn:Z0g 140 Tryz.f140 msN hsN AN 30 ZcT ZxX
 | .b0 ..=>by kernel_rfl
theorem ZmY:Z0a Tryz.prog B0 140 ZCd:=okP Zwn (fun x=>.b0 x.1) (by kernel_rfl) Tryz.func140 (by kernel_rfl) (by kernel_rfl) (fun _=>rfl) (fun _=>rfl)
inductive Zen where
 | b0 (a0 a1:Int)
 | b1 (a0:Int) (a1:List Int)
noncomputable def Zfc:Zen->Tr U (Int⊕Zen)
 | .b0 a0 a1=>.bind 226 (Z8A a0) (fun(x1:List Int)=>.br (decide (a1<0)) ( .leaf (.inl (-1:Int))) ( .br (decide (a1>=(↑x1.length:Int))) ( .leaf (.inl (-1:Int))) ( .leaf (.inr (.b1 a1 x1)))))
 | .b1 a0 a1=>.chk (decide (0<=a0/\a0<(↑a1.length:Int))) ( .bind 3 (a1[(Int.toNat a0)]?) (fun(x1:Int)=>.leaf (.inl x1)))
noncomputable def Zee (a0 a1:Int):Option Int:=ZO Zfc (.b0 a0 a1)
noncomputable def ZMq:Mod U:=⟨[26,3],3,fun x=>Zee x.1 x.2.1,by decide⟩
def Zph:Lay:=⟨[1,5],[KP,[.s 3 1]],[],⟨[OV 3,OV 226],[]⟩⟩
def ZL3:Nat->Option Lay
 | 4=>some Zph
 | _=>none
noncomputable def ZID:Zen->Z08 U
 | .b0 a0 a1=>Z0f Tryz.f226 [26,3] (a0,a1,())
 | .b1 a0 a1=>spL Tryz.f226 [1,1,1,0] Zph (((a0,()),((a1,()),())),())
theorem ZCH:Z0g 226 Tryz.f226 (mc ZhL msN) hsN ZL3 3 Zfc ZID:=by intro p;cases p<;>kernel_rfl
theorem Ztw:Z0a Tryz.prog B0 226 ZMq:=okP ZCH (fun x=>.b0 x.1 x.2.1) (by kernel_rfl) Tryz.func226 (by kernel_rfl) (by kernel_rfl) (fun _=>rfl) (fun _=>rfl)
inductive ZfD where
 | b0 (a0 a1 a2:Int)
noncomputable def Zk0:ZfD->Tr U (Int⊕ZfD)
 | .b0 a0 a1 a2=>.bind 30 (Z9V a2) (fun(x1:Int)=>.bind 30 (Z7i a1 x1) (fun(x2:Int)=>.bind 4 (ZbD a0 (Int.tmod (w64 (x2)) 37)) (fun(x3:Bool)=>.br x3 ( .leaf (.inl (Int.tmod (w64 (x2)) 37))) ( .bind 3 (Z64 a0) (fun(x4:Int)=>.bind 3 (Zee a0 (w64 (Int.tdiv (w64 (x4*(w64 (x2)))) (65536:Int)))) (fun(x5:Int)=>.leaf (.inl x5)))))))
noncomputable def ZjJ (a0 a1 a2:Int):Option Int:=ZO Zk0 (.b0 a0 a1 a2)
noncomputable def ZLF:Mod U:=⟨[26,30,22],3,fun x=>ZjJ x.1 x.2.1 x.2.2.1,by decide⟩
noncomputable def ZGq:ZfD->Z08 U
 | .b0 a0 a1 a2=>Z0f Tryz.f138 [26,30,22] (a0,a1,a2,())
theorem ZC7:Z0g 138 Tryz.f138 (mc Zl4 (mc ZmY (mc Zfj (mc Zls (mc Ztw msN))))) hsN AN 3 Zk0 ZGq
 | .b0 ..=>by kernel_rfl
theorem ZHh:Z0a Tryz.prog B0 138 ZLF:=okP ZC7 (fun x=>.b0 x.1 x.2.1 x.2.2.1) (by kernel_rfl) Tryz.func138 (by kernel_rfl) (by kernel_rfl) (fun _=>rfl) (fun _=>rfl)
inductive Zcf where
 | b0 (a0 a1:Int)
noncomputable def ZlF:Zcf->Tr U (Int⊕Zcf)
 | .b0 a0 a1=>.leaf (.inl (Int.tmod (w64 ((w64 ((Int.tmod a0 37)+(Int.tmod a1 37)))+74)) (37:Int)))
noncomputable def ZfR (a0 a1:Int):Option Int:=ZO ZlF (.b0 a0 a1)
noncomputable def ZFQ:Mod U:=⟨[3,3],3,fun x=>ZfR x.1 x.2.1,by decide⟩
noncomputable def ZDU:Zcf->Z08 U
 | .b0 a0 a1=>Z0f Tryz.f141 [3,3] (a0,a1,())
theorem ZxT:Z0g 141 Tryz.f141 msN hsN AN 3 ZlF ZDU
 | .b0 ..=>by kernel_rfl
theorem ZEo:Z0a Tryz.prog B0 141 ZFQ:=okP ZxT (fun x=>.b0 x.1 x.2.1) (by kernel_rfl) Tryz.func141 (by kernel_rfl) (by kernel_rfl) (fun _=>rfl) (fun _=>rfl)
inductive Z9j where
 | b0 (a0 a1:Int)
noncomputable def Zct:Z9j->Tr U (Int⊕Z9j)
 | .b0 a0 a1=>.bind 4 (ZbD a0 (if (if (36:Int)<a1 then (36:Int) else a1)>0 then (if (36:Int)<a1 then (36:Int) else a1) else (0:Int))) (fun(x1:Bool)=>.br x1 ( .leaf (.inl (if (if (36:Int)<a1 then (36:Int) else a1)>0 then (if (36:Int)<a1 then (36:Int) else a1) else (0:Int)))) ( .bind 3 (Z64 a0) (fun(x2:Int)=>.br (x2==0) ( .leaf (.inl (-1:Int))) ( .chk (x2 != 0) ( .bind 3 (Zee a0 (Int.tmod (if (if (36:Int)<a1 then (36:Int) else a1)>0 then (if (36:Int)<a1 then (36:Int) else a1) else (0:Int)) x2)) (fun(x3:Int)=>.leaf (.inl x3)))))))
noncomputable def Zd6 (a0 a1:Int):Option Int:=ZO Zct (.b0 a0 a1)
noncomputable def ZDc:Mod U:=⟨[26,3],3,fun x=>Zd6 x.1 x.2.1,by decide⟩
noncomputable def ZxQ:Z9j->Z08 U
 | .b0 a0 a1=>Z0f Tryz.f142 [26,3] (a0,a1,())
theorem ZvM:Z0g 142 Tryz.f142 (mc Zfj (mc Zls (mc Ztw msN))) hsN AN 3 Zct ZxQ
 | .b0 ..=>by kernel_rfl
theorem Zz1:Z0a Tryz.prog B0 142 ZDc:=okP ZvM (fun x=>.b0 x.1 x.2.1) (by kernel_rfl) Tryz.func142 (by kernel_rfl) (by kernel_rfl) (fun _=>rfl) (fun _=>rfl)
inductive Zbc where
 | b0 (a0:Zy) (a1 a2:Int)
noncomputable def ZfK:Zbc->Tr U ((Int×Int)⊕Zbc)
 | .b0 a0 a1 a2=>.br (a0.Z2K==2) ( .bind 3 (ZjJ a0.Map a1 a0.Z3W) (fun(x1:Int)=>.bind 30 (Z9V a0.Z3W) (fun(x2:Int)=>.bind 30 (Z7i a1 x2) (fun(x3:Int)=>.leaf (.inl (x1,(Int.tmod (w64 (x3)) 37))))))) ( .bind 3 (ZfR a2 a0.Hop) (fun(x4:Int)=>.bind 3 (Zd6 a0.Map x4) (fun(x5:Int)=>.leaf (.inl (x5,x4)))))
noncomputable def Z6q (a0:Zy) (a1 a2:Int):Option (Int×Int):=ZO ZfK (.b0 a0 a1 a2)
noncomputable def ZHe:Mod U:=⟨[28,30,3],104,fun x=>Z6q x.1 x.2.1 x.2.2.1,by decide⟩
noncomputable def ZEH:Zbc->Z08 U
 | .b0 a0 a1 a2=>Z0f Tryz.f54 [28,30,3] (a0,a1,a2,())
theorem ZyH:Z0g 54 Tryz.f54 (mc ZHh (mc Zl4 (mc ZmY (mc ZEo (mc Zz1 msN))))) hsN AN 104 ZfK ZEH
 | .b0 ..=>by kernel_rfl
theorem Zrp:Z0a Tryz.prog B0 54 ZHe:=okP ZyH (fun x=>.b0 x.1 x.2.1 x.2.2.1) (by kernel_rfl) Tryz.func54 (by kernel_rfl) (by kernel_rfl) (fun _=>rfl) (fun _=>rfl)
inductive Z5J where
 | b0 (a0:Z9)
noncomputable def Zci:Z5J->Tr U (Int⊕Z5J)
 | .b0 a0=>.bind 104 (Z6q a0.ZN a0.Event a0.Last) (fun(x1:Int×Int)=>.leaf (.inl x1.1))
noncomputable def Z8i (a0:Z9):Option Int:=ZO Zci (.b0 a0)
noncomputable def ZuR:Mod U:=⟨[44],3,fun x=>Z8i x.1,by decide⟩
noncomputable def ZrF:Z5J->Z08 U
 | .b0 a0=>Z0f Tryz.f16 [44] (a0,())
theorem ZoX:Z0g 16 Tryz.f16 (mc Zrp msN) hsN AN 3 Zci ZrF
 | .b0 ..=>by kernel_rfl
theorem ZgE:Z0a Tryz.prog B0 16 ZuR:=okP ZoX (fun x=>.b0 x.1) (by kernel_rfl) Tryz.func16 (by kernel_rfl) (by kernel_rfl) (fun _=>rfl) (fun _=>rfl)
inductive Z9o where
 | b0 (a0:Z7)
noncomputable def Zhs:Z9o->Tr U (Bool⊕Z9o)
 | .b0 a0=>.br (decide (a0.Z29>=1)) ( .leaf (.inl (decide (a0.Z29<=3)))) ( .leaf (.inl false))
noncomputable def Zcw (a0:Z7):Option Bool:=ZO Zhs (.b0 a0)
noncomputable def ZDq:Mod U:=⟨[39],4,fun x=>Zcw x.1,by decide⟩
noncomputable def Zyk:Z9o->Z08 U
 | .b0 a0=>Z0f Tryz.f162 [39] (a0,())
theorem ZvD:Z0g 162 Tryz.f162 msN hsN AN 4 Zhs Zyk
 | .b0 ..=>by kernel_rfl
theorem Znr:Z0a Tryz.prog B0 162 ZDq:=okP ZvD (fun x=>.b0 x.1) (by kernel_rfl) Tryz.func162 (by kernel_rfl) (by kernel_rfl) (fun _=>rfl) (fun _=>rfl)
inductive Z53 where
 | b0 (a0:Int)
noncomputable def Zdb:Z53->Tr U (Bool⊕Z53)
 | .b0 a0=>.br (a0==3) ( .leaf (.inl true)) ( .br (a0==4) ( .leaf (.inl true)) ( .br (a0==5) ( .leaf (.inl true)) ( .br (a0==6) ( .leaf (.inl true)) ( .leaf (.inl (a0==13))))))
noncomputable def ZcV (a0:Int):Option Bool:=ZO Zdb (.b0 a0)
noncomputable def Zwy:Mod U:=⟨[3],4,fun x=>ZcV x.1,by decide⟩
noncomputable def ZsD:Z53->Z08 U
 | .b0 a0=>Z0f Tryz.f163 [3] (a0,())
theorem Zpw:Z0g 163 Tryz.f163 msN hsN AN 4 Zdb ZsD
 | .b0 ..=>by kernel_rfl
theorem ZrS:Z0a Tryz.prog B0 163 Zwy:=okP Zpw (fun x=>.b0 x.1) (by kernel_rfl) Tryz.func163 (by kernel_rfl) (by kernel_rfl) (fun _=>rfl) (fun _=>rfl)
inductive Z6Y where
 | b0 (a0:Int)
 | b1 (a0:Zg)
 | b2 (a0:Int) (a1:Zg)
 | b3 (a0:Zg)
 | b4 (a0:Int) (a1:Zg)
 | b5 (a0:Zg)
 | b6 (a0:Zg)
noncomputable def Zfi:Z6Y->Tr U (Zg⊕Z6Y)
 | .b0 a0=>.br (a0==0) ( .leaf (.inl (⟨true,true,false,true,false,false,false,false,false,false,false⟩:Zg))) ( .br (a0==1) ( .leaf (.inl (⟨true,false,true,true,false,false,false,false,false,false,false⟩:Zg))) ( .br (a0==2) ( .leaf (.inl (⟨true,false,false,false,true,false,false,false,false,false,false⟩:Zg))) ( .br (a0==3) ( .leaf (.inl (⟨true,false,false,false,false,false,true,true,false,false,false⟩:Zg))) ( .br (a0==4) ( .leaf (.inl (⟨true,false,false,false,false,false,true,false,false,false,false⟩:Zg))) ( .br (a0==5) ( .br (a0==5) ( .leaf (.inr (.b1 Z0w))) ( .leaf (.inr (.b2 a0 Z0w)))) ( .br (a0==6) ( .br (a0==6) ( .leaf (.inr (.b1 Z0w))) ( .leaf (.inr (.b2 a0 Z0w)))) ( .br (a0==18) ( .br (a0==18) ( .leaf (.inr (.b1 Z0w))) ( .leaf (.inr (.b2 a0 Z0w)))) ( .br (a0==19) ( .leaf (.inr (.b1 Z0w))) ( .leaf (.inr (.b2 a0 Z0w)))))))))))
 | .b1 a0=>.leaf (.inl (⟨true,false,false,false,false,false,false,false,false,false,false⟩:Zg))
 | .b2 a0 a1=>.br (a0==7) ( .leaf (.inl (⟨true,false,false,false,false,true,false,false,false,false,false⟩:Zg))) ( .br (a0==8) ( .br (a0==8) ( .leaf (.inr (.b3 a1))) ( .leaf (.inr (.b4 a0 a1)))) ( .br (a0==9) ( .leaf (.inr (.b3 a1))) ( .leaf (.inr (.b4 a0 a1)))))
 | .b3 a0=>.leaf (.inl (⟨true,false,false,false,false,false,false,false,true,false,false⟩:Zg))
 | .b4 a0 a1=>.br (a0==12) ( .leaf (.inl (⟨true,false,false,false,false,false,false,false,false,true,false⟩:Zg))) ( .br (a0==13) ( .leaf (.inl (⟨true,false,false,false,true,true,false,false,false,false,false⟩:Zg))) ( .br (a0==15) ( .leaf (.inl (⟨true,true,false,false,false,false,false,false,false,false,false⟩:Zg))) ( .br (a0==20) ( .br (a0==20) ( .leaf (.inr (.b5 a1))) ( .leaf (.inr (.b6 a1)))) ( .br (a0==21) ( .leaf (.inr (.b5 a1))) ( .leaf (.inr (.b6 a1)))))))
 | .b5 a0=>.leaf (.inl (⟨true,false,false,false,false,false,false,false,false,false,true⟩:Zg))
 | .b6 a0=>.leaf (.inl Z0w)
noncomputable def Z0k (a0:Int):Option Zg:=ZO Zfi (.b0 a0)
noncomputable def ZAb:Mod U:=⟨[3],262,fun x=>Z0k x.1,by decide⟩
def Z1W:Lay:=⟨[2],[KP],[.var k3],⟨[PQ 0],[VA 262 11]⟩⟩
def Z6S:Lay:=⟨[2,3],[KP,KP],[.var k3],⟨[PQ 0,OV 3],[VA 262 11]⟩⟩
def Zzy:Nat->Option Lay
 | 16=>some Z1W
 | 17=>some Z6S
 | 21=>some Z1W
 | 22=>some Z6S
 | 30=>some Z1W
 | 31=>some Z1W
 | _=>none
noncomputable def Zuv:Z6Y->Z08 U
 | .b0 a0=>Z0f Tryz.f240 [3] (a0,())
 | .b1 a0=>spL Tryz.f240 [1,0,1,0,1,1,1,1,1,1,1,1,1,1,1,0,0] Z1W (((),()),((a0,()),()))
 | .b2 a0 a1=>spL Tryz.f240 [1,0,1,0,1,1,1,1,1,1,1,1,1,1,1,1,0] Z6S (((),((a0,()),())),((a1,()),()))
 | .b3 a0=>spL Tryz.f240 [1,0,1,0,1,1,1,1,1,1,1,1,1,1,1,1,1,1,1,0,0] Z1W (((),()),((a0,()),()))
 | .b4 a0 a1=>spL Tryz.f240 [1,0,1,0,1,1,1,1,1,1,1,1,1,1,1,1,1,1,1,1,0] Z6S (((),((a0,()),())),((a1,()),()))
 | .b5 a0=>spL Tryz.f240 [1,0,1,0,1,1,1,1,1,1,1,1,1,1,1,1,1,1,1,1,1,1,1,1,1,1,1,0,0] Z1W (((),()),((a0,()),()))
 | .b6 a0=>spL Tryz.f240 [1,1,0] Z1W (((),()),((a0,()),()))
theorem Zsr:Z0g 240 Tryz.f240 msN hsN Zzy 262 Zfi Zuv:=by intro p;cases p<;>kernel_rfl
theorem Z2s:Z0a Tryz.prog B0 240 ZAb:=okP Zsr (fun x=>.b0 x.1) (by kernel_rfl) Tryz.func240 (by kernel_rfl) (by kernel_rfl) (fun _=>rfl) (fun _=>rfl)
inductive Zbe where
 | b0 (a0:Z4)
 | b1 (a0 a1:Z4) (a2:Zg)
 | b2 (a0 a1:Z4) (a2:Zg)
 | b3 (a0 a1:Z4) (a2:Zg)
 | b4 (a0 a1:Z4) (a2:Zg)
 | b5 (a0 a1:Z4) (a2:Zg)
 | b6 (a0 a1:Z4) (a2:Zg)
 | b7 (a0 a1:Z4) (a2:Zg)
 | b8 (a0 a1:Z4) (a2:Zg)
 | b9 (a0 a1:Z4) (a2:Zg)
noncomputable def Zlg:Zbe->Tr U (Z4⊕Zbe)
 | .b0 a0=>.bind 262 (Z0k a0.Kind) (fun(x1:Zg)=>.br x1.Zt ( .leaf (.inr (.b1 ({ a0 with Kind:=0,Zt:=Zr }:Z4) Z0x x1))) ( .leaf (.inr (.b1 ({ a0 with Kind:=0 }:Z4) Z0x x1))))
 | .b1 a0 a1 a2=>.br a2.Map ( .leaf (.inr (.b2 ({ a0 with Map:=0 }:Z4) a1 a2))) ( .leaf (.inr (.b2 a0 a1 a2)))
 | .b2 a0 a1 a2=>.br a2.ZQ ( .leaf (.inr (.b3 ({ a0 with ZQ:=0 }:Z4) a1 a2))) ( .leaf (.inr (.b3 a0 a1 a2)))
 | .b3 a0 a1 a2=>.br a2.Z05 ( .leaf (.inr (.b4 ({ a0 with Z05:=0 }:Z4) a1 a2))) ( .leaf (.inr (.b4 a0 a1 a2)))
 | .b4 a0 a1 a2=>.br a2.Z13 ( .leaf (.inr (.b5 ({ a0 with Z13:=0 }:Z4) a1 a2))) ( .leaf (.inr (.b5 a0 a1 a2)))
 | .b5 a0 a1 a2=>.br a2.Z5R ( .leaf (.inr (.b6 ({ a0 with Z5R:=0 }:Z4) a1 a2))) ( .leaf (.inr (.b6 a0 a1 a2)))
 | .b6 a0 a1 a2=>.br a2.Mark ( .leaf (.inr (.b7 ({ a0 with Mark:=0 }:Z4) a1 a2))) ( .leaf (.inr (.b7 a0 a1 a2)))
 | .b7 a0 a1 a2=>.br a2.ZZ ( .leaf (.inr (.b8 ({ a0 with ZZ:=0 }:Z4) a1 a2))) ( .leaf (.inr (.b8 a0 a1 a2)))
 | .b8 a0 a1 a2=>.br a2.Version ( .leaf (.inr (.b9 ({ a0 with Version:=0 }:Z4) a1 a2))) ( .leaf (.inr (.b9 a0 a1 a2)))
 | .b9 a0 a1 a2=>.br a2.Length ( .leaf (.inl ({ a0 with Length:=0 }:Z4))) ( .leaf (.inl a0))
noncomputable def Zly (a0:Z4):Option Z4:=ZO Zlg (.b0 a0)
noncomputable def ZHf:Mod U:=⟨[156],156,fun x=>Zly x.1,by decide⟩
def Z0v:Lay:=⟨[1,2,3],[KP,KP,KP],[.var k1,.var k1,.var k3],⟨[PQ 0,PQ 1,PQ 2],[VA 156 15,VA 156 15,VA 262 11]⟩⟩
def ZG3:Nat->Option Lay
 | 5=>some Z0v
 | 7=>some Z0v
 | 9=>some Z0v
 | 11=>some Z0v
 | 13=>some Z0v
 | 15=>some Z0v
 | 17=>some Z0v
 | 19=>some Z0v
 | 21=>some Z0v
 | _=>none
noncomputable def ZEw:Zbe->Z08 U
 | .b0 a0=>Z0f Tryz.f325 [156] (a0,())
 | .b1 a0 a1 a2=>spL Tryz.f325 [1,1,1,1,0,0] Z0v (((),((),((),()))),((a0,()),((a1,()),((a2,()),()))))
 | .b2 a0 a1 a2=>spL Tryz.f325 [1,1,1,1,1,0,0] Z0v (((),((),((),()))),((a0,()),((a1,()),((a2,()),()))))
 | .b3 a0 a1 a2=>spL Tryz.f325 [1,1,1,1,1,1,0,0] Z0v (((),((),((),()))),((a0,()),((a1,()),((a2,()),()))))
 | .b4 a0 a1 a2=>spL Tryz.f325 [1,1,1,1,1,1,1,0,0] Z0v (((),((),((),()))),((a0,()),((a1,()),((a2,()),()))))
 | .b5 a0 a1 a2=>spL Tryz.f325 [1,1,1,1,1,1,1,1,0,0] Z0v (((),((),((),()))),((a0,()),((a1,()),((a2,()),()))))
 | .b6 a0 a1 a2=>spL Tryz.f325 [1,1,1,1,1,1,1,1,1,0,0] Z0v (((),((),((),()))),((a0,()),((a1,()),((a2,()),()))))
 | .b7 a0 a1 a2=>spL Tryz.f325 [1,1,1,1,1,1,1,1,1,1,0,0] Z0v (((),((),((),()))),((a0,()),((a1,()),((a2,()),()))))
 | .b8 a0 a1 a2=>spL Tryz.f325 [1,1,1,1,1,1,1,1,1,1,1,0,0] Z0v (((),((),((),()))),((a0,()),((a1,()),((a2,()),()))))
 | .b9 a0 a1 a2=>spL Tryz.f325 [1,1,1,1,1,1,1,1,1,1,1,1,0,0] Z0v (((),((),((),()))),((a0,()),((a1,()),((a2,()),()))))
theorem ZzI:Z0g 325 Tryz.f325 (mc Z2s msN) hsN ZG3 156 Zlg ZEw:=by intro p;cases p<;>kernel_rfl
theorem ZCe:Z0a Tryz.prog B0 325 ZHf:=okP ZzI (fun x=>.b0 x.1) (by kernel_rfl) Tryz.func325 (by kernel_rfl) (by kernel_rfl) (fun _=>rfl) (fun _=>rfl)
inductive Z7f where
 | b0 (a0:Int)
noncomputable def ZeO:Z7f->Tr U (Bool⊕Z7f)
 | .b0 a0=>.br (decide (a0>=0)) ( .leaf (.inl (decide (a0<=255)))) ( .leaf (.inl false))
noncomputable def Z78 (a0:Int):Option Bool:=ZO ZeO (.b0 a0)
noncomputable def Zx3:Mod U:=⟨[3],4,fun x=>Z78 x.1,by decide⟩
noncomputable def Zvb:Z7f->Z08 U
 | .b0 a0=>Z0f Tryz.f326 [3] (a0,())
theorem ZrW:Z0g 326 Tryz.f326 msN hsN AN 4 ZeO Zvb
 | .b0 ..=>by kernel_rfl
theorem Zve:Z0a Tryz.prog B0 326 Zx3:=okP ZrW (fun x=>.b0 x.1) (by kernel_rfl) Tryz.func326 (by kernel_rfl) (by kernel_rfl) (fun _=>rfl) (fun _=>rfl)
inductive Z96 where
 | b0 (a0:Z4)
 | b1 (a0:Z4) (a1:Zg)
 | b2 (a0:Z4) (a1:Zg)
noncomputable def ZhR:Z96->Tr U (Int⊕Z96)
 | .b0 a0=>.bind 262 (Z0k a0.Kind) (fun(x1:Zg)=>.br (!x1.Z74) ( .leaf (.inl (12:Int))) ( .bind 156 (Zly a0) (fun(x2:Z4)=>.br (!((x2.Kind==0)&&((x2.Zt.Z1E==0)&&((x2.Zt.Z0r==0)&&((x2.Zt.Z0j==0)&&((x2.Zt.Z0o==0)&&((x2.Zt.Z1g==0)&&((x2.Map==0)&&((x2.ZQ==0)&&((x2.Z05==0)&&((x2.Z13==0)&&((x2.Z5R==0)&&((x2.Mark==0)&&((x2.ZZ==0)&&((x2.Version==0)&&((x2.Length==0)&&true)))))))))))))))) ( .leaf (.inl (1:Int))) ( .br x1.Zt ( .bind 45 (Z4f a0.Zt) (fun(x3:Int)=>.br (x3 != 0) ( .leaf (.inl x3)) ( .leaf (.inr (.b1 a0 x1))))) ( .leaf (.inr (.b1 a0 x1)))))))
 | .b1 a0 a1=>.br a1.Map ( .bind 45 (ZcK a0.Map) (fun(x1:Int)=>.br (x1 != 0) ( .leaf (.inl x1)) ( .leaf (.inr (.b2 a0 a1))))) ( .leaf (.inr (.b2 a0 a1)))
 | .b2 a0 a1=>.bind 4 (Z78 a0.Z05) (fun(x1:Bool)=>.br (!x1) ( .leaf (.inl (5:Int))) ( .bind 4 (Z78 a0.Z13) (fun(x2:Bool)=>.br (!x2) ( .leaf (.inl (5:Int))) ( .bind 4 (Z78 a0.Version) (fun(x3:Bool)=>.br (!x3) ( .leaf (.inl (5:Int))) ( .br a1.Length ( .br (decide (a0.Length<27)) ( .leaf (.inl (5:Int))) ( .br (decide (a0.Length>251)) ( .leaf (.inl (5:Int))) ( .leaf (.inl (0:Int))))) ( .leaf (.inl (0:Int)))))))))
noncomputable def Z93 (a0:Z4):Option Int:=ZO ZhR (.b0 a0)
noncomputable def ZBp:Mod U:=⟨[156],45,fun x=>Z93 x.1,by decide⟩
def Z8f:Lay:=⟨[1,3],[KP,KP],[.var k1,.var k3],⟨[PQ 0,PQ 1],[VA 156 15,VA 262 11]⟩⟩
def ZBj:Nat->Option Lay
 | 10=>some Z8f
 | 14=>some Z8f
 | _=>none
noncomputable def ZAr:Z96->Z08 U
 | .b0 a0=>Z0f Tryz.f239 [156] (a0,())
 | .b1 a0 a1=>spL Tryz.f239 [1,1,1,1,1,0,0] Z8f (((),((),())),((a0,()),((a1,()),())))
 | .b2 a0 a1=>spL Tryz.f239 [1,1,1,1,1,1,0,0] Z8f (((),((),())),((a0,()),((a1,()),())))
theorem ZuN:Z0g 239 Tryz.f239 (mc Zaz (mc ZmV (mc Z2s (mc ZCe (mc Zve msN))))) hsN ZBj 45 ZhR ZAr:=by intro p;cases p<;>kernel_rfl
theorem Zf0:Z0a Tryz.prog B0 239 ZBp:=okP ZuN (fun x=>.b0 x.1) (by kernel_rfl) Tryz.func239 (by kernel_rfl) (by kernel_rfl) (fun _=>rfl) (fun _=>rfl)
inductive ZeG where
 | b0 (a0 a1:Int)
 | b1 (a0 a1:Int) (a2:List Int) (a3:Int)
noncomputable def Zrc:ZeG->Tr U (Z1C⊕ZeG)
 | .b0 a0 a1=>.chk (([]:List Int).length==0) ( .leaf (.inr (.b1 a0 a1 ([]:List Int) (0:Int))))
 | .b1 a0 a1 a2 a3=>.br (decide (a3<a1)) ( .chk (([(IntKind.wrap .u8 ((Int.tmod a0 256)))]).length==1) ( .chk (a2.length==a2.length) ( .chk (decide ((a2.length+([(IntKind.wrap .u8 ((Int.tmod a0 256)))]).length)*1<=lim)&&decide (a2.length+([(IntKind.wrap .u8 ((Int.tmod a0 256)))]).length<=maxLen)) ( .chk ((a2++[(IntKind.wrap .u8 ((Int.tmod a0 256)))]).length==(a2++[(IntKind.wrap .u8 ((Int.tmod a0 256)))]).length) ( .leaf (.inr (.b1 (IntKind.wrap .u64 (Int.tdiv a0 256)) a1 (a2++[(IntKind.wrap .u8 ((Int.tmod a0 256)))]) (w64 (a3+1))))))))) ( .chk (a2.length==a2.length) ( .leaf (.inl (⟨a2⟩:Z1C))))
noncomputable def Z3i (a0 a1:Int):Option Z1C:=ZO Zrc (.b0 a0 a1)
def ZpG:Shape:=⟨[OV 25,OV 3],[]⟩
noncomputable def ZA4:HMod U:=⟨[KP,KP],[],ZpG,⟨[.one (.own 5 0)],[.row 5 true]⟩,true,1349,fun(y:Z1C)=>(((),()),(y.q0,())),fun x=>Z3i x.1.1.1 x.1.2.1.1,⟨⟨⟨by decide,fun _=>rfl⟩,⟨⟨by decide,fun _=>rfl⟩,trivial⟩⟩,trivial⟩⟩
def Zri:Lay:=⟨[0,1,5,6],[KP,KP,[.own 5 1],KP],[.row true],⟨[OV 25,OV 3,.one (.own 5 0),OV 3],[.row 5 true]⟩⟩
def ZK9:Nat->Option Lay
 | 3=>some Zri
 | _=>none
noncomputable def ZHX:ZeG->Z08 U
 | .b0 a0 a1=>ZB3 Tryz.f242 ZpG (((a0,()),((a1,()),())),())
 | .b1 a0 a1 a2 a3=>spL Tryz.f242 [1,1,0,1,0,0,0,0] Zri (((a0,()),((a1,()),((),((a3,()),())))),(a2,()))
theorem ZEM:ZB5 242 Tryz.f242 msN hsN ZK9 [[.own 5 1]] [.row true] 0 ZA4 Zrc ZHX:=by intro p;cases p<;>kernel_rfl
theorem ZtX:Z4n Tryz.prog B0 242 ZA4:=okH ZEM (fun x=>.b0 x.1.1.1 x.1.2.1.1) (fun x=>by kernel_rfl) (by kernel_rfl) Tryz.func242 (by kernel_rfl) (by kernel_rfl) (fun x=>by kernel_rfl) (fun x=>by kernel_rfl)
inductive Z3T where
 | b0 (a0:ZM)
noncomputable def Z9p:Z3T->Tr U ((List Int)⊕Z3T)
 | .b0 a0=>.bind 1349 (Z3i (IntKind.wrap .u64 (a0.Z1E)) (1:Int)) (fun(y1:Z1C)=>.bind 1349 (Z3i (IntKind.wrap .u64 (a0.Z0r)) (2:Int)) (fun(y2:Z1C)=>.chk (y2.q0.length==y2.q0.length) ( .chk (y1.q0.length==y1.q0.length) ( .chk (decide ((y1.q0.length+y2.q0.length)*1<=lim)&&decide (y1.q0.length+y2.q0.length<=maxLen)) ( .bind 1349 (Z3i (IntKind.wrap .u64 (a0.Z0j)) (2:Int)) (fun(y3:Z1C)=>.chk (y3.q0.length==y3.q0.length) ( .chk ((y1.q0++y2.q0).length==(y1.q0++y2.q0).length) ( .chk (decide (((y1.q0++y2.q0).length+y3.q0.length)*1<=lim)&&decide ((y1.q0++y2.q0).length+y3.q0.length<=maxLen)) ( .bind 1349 (Z3i (IntKind.wrap .u64 (a0.Z0o)) (2:Int)) (fun(y4:Z1C)=>.chk (y4.q0.length==y4.q0.length) ( .chk (((y1.q0++y2.q0)++y3.q0).length==((y1.q0++y2.q0)++y3.q0).length) ( .chk (decide ((((y1.q0++y2.q0)++y3.q0).length+y4.q0.length)*1<=lim)&&decide (((y1.q0++y2.q0)++y3.q0).length+y4.q0.length<=maxLen)) ( .bind 1349 (Z3i (IntKind.wrap .u64 (a0.Z1g)) (2:Int)) (fun(y5:Z1C)=>.chk (y5.q0.length==y5.q0.length) ( .chk ((((y1.q0++y2.q0)++y3.q0)++y4.q0).length==(((y1.q0++y2.q0)++y3.q0)++y4.q0).length) ( .chk (decide (((((y1.q0++y2.q0)++y3.q0)++y4.q0).length+y5.q0.length)*1<=lim)&&decide ((((y1.q0++y2.q0)++y3.q0)++y4.q0).length+y5.q0.length<=maxLen)) ( .chk (((((y1.q0++y2.q0)++y3.q0)++y4.q0)++y5.q0).length==((((y1.q0++y2.q0)++y3.q0)++y4.q0)++y5.q0).length) ( .leaf (.inl ((((y1.q0++y2.q0)++y3.q0)++y4.q0)++y5.q0))))))))))))))))))))
noncomputable def Z9H (a0:ZM):Option (List Int):=ZO Z9p (.b0 a0)
noncomputable def ZqV:Mod U:=⟨[24],62,fun x=>Z9H x.1,by decide⟩
noncomputable def ZnR:Z3T->Z08 U
 | .b0 a0=>Z0f Tryz.f241 [24] (a0,())
theorem Zlr:Z0g 241 Tryz.f241 msN (hc [] ZtX hsN) AN 62 Z9p ZnR
 | .b0 ..=>by kernel_rfl
theorem Zof:Z0a Tryz.prog B0 241 ZqV:=okP Zlr (fun x=>.b0 x.1) (by kernel_rfl) Tryz.func241 (by kernel_rfl) (by kernel_rfl) (fun _=>rfl) (fun _=>rfl)
inductive Z7p where
 | b0 (a0:Z4)
 | b1 (a0:List Int) (a1:Z4) (a2:Zg)
 | b2 (a0:List Int) (a1:Z4) (a2:Zg)
 | b3 (a0:List Int) (a1:Z4) (a2:Zg)
 | b4 (a0:List Int) (a1:Z4) (a2:Zg)
 | b5 (a0:List Int) (a1:Z4) (a2:Zg)
 | b6 (a0:List Int) (a1:Z4) (a2:Zg)
 | b7 (a0:List Int) (a1:Z4) (a2:Zg)
 | b8 (a0:List Int) (a1:Z4) (a2:Zg)
 | b9 (a0:List Int) (a1:Z4) (a2:Zg)
noncomputable def ZfG:Z7p->Tr U (((List Int)×Int)⊕Z7p)
 | .b0 a0=>.bind 45 (Z93 a0) (fun(x1:Int)=>.br (x1 != 0) ( .chk (([]:List Int).length==0) ( .leaf (.inl (([]:List Int),x1)))) ( .bind 262 (Z0k a0.Kind) (fun(x2:Zg)=>.br x2.Zt ( .bind 62 (Z9H a0.Zt) (fun(x3:List Int)=>.chk (([(IntKind.wrap .u8 (a0.Kind))]).length==1) ( .chk (decide ((1+x3.length)*1<=lim)&&decide (1+x3.length<=maxLen)) ( .chk (([(IntKind.wrap .u8 (a0.Kind))]++x3).length==([(IntKind.wrap .u8 (a0.Kind))]++x3).length) ( .leaf (.inr (.b1 ([(IntKind.wrap .u8 (a0.Kind))]++x3) a0 x2))))))) ( .chk (([(IntKind.wrap .u8 (a0.Kind))]).length==1) ( .leaf (.inr (.b1 ([(IntKind.wrap .u8 (a0.Kind))]) a0 x2)))))))
 | .b1 a0 a1 a2=>.br a2.Map ( .bind 1349 (Z3i a1.Map (5:Int)) (fun(y1:Z1C)=>.chk (y1.q0.length==y1.q0.length) ( .chk (a0.length==a0.length) ( .chk (decide ((a0.length+y1.q0.length)*1<=lim)&&decide (a0.length+y1.q0.length<=maxLen)) ( .chk ((a0++y1.q0).length==(a0++y1.q0).length) ( .leaf (.inr (.b2 (a0++y1.q0) a1 a2)))))))) ( .chk (a0.length==a0.length) ( .leaf (.inr (.b2 a0 a1 a2))))
 | .b2 a0 a1 a2=>.br a2.ZQ ( .bind 1349 (Z3i (IntKind.wrap .u64 (a1.ZQ)) (2:Int)) (fun(y1:Z1C)=>.chk (y1.q0.length==y1.q0.length) ( .chk (a0.length==a0.length) ( .chk (decide ((a0.length+y1.q0.length)*1<=lim)&&decide (a0.length+y1.q0.length<=maxLen)) ( .chk ((a0++y1.q0).length==(a0++y1.q0).length) ( .leaf (.inr (.b3 (a0++y1.q0) a1 a2)))))))) ( .chk (a0.length==a0.length) ( .leaf (.inr (.b3 a0 a1 a2))))
 | .b3 a0 a1 a2=>.br a2.Z05 ( .chk (([(IntKind.wrap .u8 (a1.Z05))]).length==1) ( .chk (a0.length==a0.length) ( .chk (decide ((a0.length+([(IntKind.wrap .u8 (a1.Z05))]).length)*1<=lim)&&decide (a0.length+([(IntKind.wrap .u8 (a1.Z05))]).length<=maxLen)) ( .chk ((a0++[(IntKind.wrap .u8 (a1.Z05))]).length==(a0++[(IntKind.wrap .u8 (a1.Z05))]).length) ( .leaf (.inr (.b4 (a0++[(IntKind.wrap .u8 (a1.Z05))]) a1 a2))))))) ( .chk (a0.length==a0.length) ( .leaf (.inr (.b4 a0 a1 a2))))
 | .b4 a0 a1 a2=>.br a2.Z13 ( .chk (([(IntKind.wrap .u8 (a1.Z13))]).length==1) ( .chk (a0.length==a0.length) ( .chk (decide ((a0.length+([(IntKind.wrap .u8 (a1.Z13))]).length)*1<=lim)&&decide (a0.length+([(IntKind.wrap .u8 (a1.Z13))]).length<=maxLen)) ( .chk ((a0++[(IntKind.wrap .u8 (a1.Z13))]).length==(a0++[(IntKind.wrap .u8 (a1.Z13))]).length) ( .leaf (.inr (.b5 (a0++[(IntKind.wrap .u8 (a1.Z13))]) a1 a2))))))) ( .chk (a0.length==a0.length) ( .leaf (.inr (.b5 a0 a1 a2))))
 | .b5 a0 a1 a2=>.br a2.Z5R ( .bind 1349 (Z3i a1.Z5R (8:Int)) (fun(y1:Z1C)=>.chk (y1.q0.length==y1.q0.length) ( .chk (a0.length==a0.length) ( .chk (decide ((a0.length+y1.q0.length)*1<=lim)&&decide (a0.length+y1.q0.length<=maxLen)) ( .chk ((a0++y1.q0).length==(a0++y1.q0).length) ( .leaf (.inr (.b6 (a0++y1.q0) a1 a2)))))))) ( .chk (a0.length==a0.length) ( .leaf (.inr (.b6 a0 a1 a2))))
 | .b6 a0 a1 a2=>.br a2.Mark ( .bind 1349 (Z3i a1.Mark (8:Int)) (fun(y1:Z1C)=>.chk (y1.q0.length==y1.q0.length) ( .chk (a0.length==a0.length) ( .chk (decide ((a0.length+y1.q0.length)*1<=lim)&&decide (a0.length+y1.q0.length<=maxLen)) ( .chk ((a0++y1.q0).length==(a0++y1.q0).length) ( .leaf (.inr (.b7 (a0++y1.q0) a1 a2)))))))) ( .chk (a0.length==a0.length) ( .leaf (.inr (.b7 a0 a1 a2))))
 | .b7 a0 a1 a2=>.br a2.ZZ ( .bind 1349 (Z3i a1.ZZ (8:Int)) (fun(y1:Z1C)=>.chk (y1.q0.length==y1.q0.length) ( .chk (a0.length==a0.length) ( .chk (decide ((a0.length+y1.q0.length)*1<=lim)&&decide (a0.length+y1.q0.length<=maxLen)) ( .chk ((a0++y1.q0).length==(a0++y1.q0).length) ( .leaf (.inr (.b8 (a0++y1.q0) a1 a2)))))))) ( .chk (a0.length==a0.length) ( .leaf (.inr (.b8 a0 a1 a2))))
 | .b8 a0 a1 a2=>.br a2.Version ( .chk (([(IntKind.wrap .u8 (a1.Version))]).length==1) ( .chk (a0.length==a0.length) ( .chk (decide ((a0.length+([(IntKind.wrap .u8 (a1.Version))]).length)*1<=lim)&&decide (a0.length+([(IntKind.wrap .u8 (a1.Version))]).length<=maxLen)) ( .chk ((a0++[(IntKind.wrap .u8 (a1.Version))]).length==(a0++[(IntKind.wrap .u8 (a1.Version))]).length) ( .leaf (.inr (.b9 (a0++[(IntKind.wrap .u8 (a1.Version))]) a1 a2))))))) ( .chk (a0.length==a0.length) ( .leaf (.inr (.b9 a0 a1 a2))))
 | .b9 a0 a1 a2=>.br a2.Length ( .chk (([(IntKind.wrap .u8 (a1.Length))]).length==1) ( .chk (a0.length==a0.length) ( .chk (decide ((a0.length+([(IntKind.wrap .u8 (a1.Length))]).length)*1<=lim)&&decide (a0.length+([(IntKind.wrap .u8 (a1.Length))]).length<=maxLen)) ( .chk ((a0++[(IntKind.wrap .u8 (a1.Length))]).length==(a0++[(IntKind.wrap .u8 (a1.Length))]).length) ( .leaf (.inl ((a0++[(IntKind.wrap .u8 (a1.Length))]),(0:Int)))))))) ( .chk (a0.length==a0.length) ( .leaf (.inl (a0,0))))
noncomputable def Ze9 (a0:Z4):Option ((List Int)×Int):=ZO ZfG (.b0 a0)
noncomputable def Zxj:Mod U:=⟨[156],120,fun x=>Ze9 x.1,by decide⟩
def Z0c:Lay:=⟨[1,5,6],[KP,KP,[.own 5 1]],[.var k1,.var k3,.row true],⟨[PQ 0,PQ 1,.one (.own 5 2)],[VA 156 15,VA 262 11,.row 5 true]⟩⟩
def ZyC:Nat->Option Lay
 | 8=>some Z0c
 | 10=>some Z0c
 | 12=>some Z0c
 | 14=>some Z0c
 | 16=>some Z0c
 | 18=>some Z0c
 | 20=>some Z0c
 | 22=>some Z0c
 | 24=>some Z0c
 | _=>none
noncomputable def ZvU:Z7p->Z08 U
 | .b0 a0=>Z0f Tryz.f164 [156] (a0,())
 | .b1 a0 a1 a2=>spL Tryz.f164 [1,1,1,1,1,0,0] Z0c (((),((),((),()))),((a1,()),((a2,()),(a0,()))))
 | .b2 a0 a1 a2=>spL Tryz.f164 [1,1,1,1,1,1,0,0] Z0c (((),((),((),()))),((a1,()),((a2,()),(a0,()))))
 | .b3 a0 a1 a2=>spL Tryz.f164 [1,1,1,1,1,1,1,0,0] Z0c (((),((),((),()))),((a1,()),((a2,()),(a0,()))))
 | .b4 a0 a1 a2=>spL Tryz.f164 [1,1,1,1,1,1,1,1,0,0] Z0c (((),((),((),()))),((a1,()),((a2,()),(a0,()))))
 | .b5 a0 a1 a2=>spL Tryz.f164 [1,1,1,1,1,1,1,1,1,0,0] Z0c (((),((),((),()))),((a1,()),((a2,()),(a0,()))))
 | .b6 a0 a1 a2=>spL Tryz.f164 [1,1,1,1,1,1,1,1,1,1,0,0] Z0c (((),((),((),()))),((a1,()),((a2,()),(a0,()))))
 | .b7 a0 a1 a2=>spL Tryz.f164 [1,1,1,1,1,1,1,1,1,1,1,0,0] Z0c (((),((),((),()))),((a1,()),((a2,()),(a0,()))))
 | .b8 a0 a1 a2=>spL Tryz.f164 [1,1,1,1,1,1,1,1,1,1,1,1,0,0] Z0c (((),((),((),()))),((a1,()),((a2,()),(a0,()))))
 | .b9 a0 a1 a2=>spL Tryz.f164 [1,1,1,1,1,1,1,1,1,1,1,1,1,0,0] Z0c (((),((),((),()))),((a1,()),((a2,()),(a0,()))))
theorem Zsm:Z0g 164 Tryz.f164 (mc Zf0 (mc Z2s (mc Zof msN))) (hc [] ZtX hsN) ZyC 120 ZfG ZvU:=by intro p;cases p<;>kernel_rfl
theorem Zun:Z0a Tryz.prog B0 164 Zxj:=okP Zsm (fun x=>.b0 x.1) (by kernel_rfl) Tryz.func164 (by kernel_rfl) (by kernel_rfl) (fun _=>rfl) (fun _=>rfl)
inductive Zec where
 | b0 (a0:Int)
noncomputable def ZpF:Zec->Tr U (Bool⊕Zec)
 | .b0 a0=>.br (a0==0) ( .leaf (.inl true)) ( .leaf (.inl (a0==1)))
noncomputable def Zfl (a0:Int):Option Bool:=ZO ZpF (.b0 a0)
noncomputable def ZKl:Mod U:=⟨[3],4,fun x=>Zfl x.1,by decide⟩
noncomputable def ZHQ:Zec->Z08 U
 | .b0 a0=>Z0f Tryz.f243 [3] (a0,())
theorem ZC1:Z0g 243 Tryz.f243 msN hsN AN 4 ZpF ZHQ
 | .b0 ..=>by kernel_rfl
theorem ZGP:Z0a Tryz.prog B0 243 ZKl:=okP ZC1 (fun x=>.b0 x.1) (by kernel_rfl) Tryz.func243 (by kernel_rfl) (by kernel_rfl) (fun _=>rfl) (fun _=>rfl)
inductive Z2H where
 | b0 (a0:Zd)
 | b1 (a0:Zd)
 | b2 (a0:Zd)
noncomputable def Z6l:Z2H->Tr U (Int⊕Z2H)
 | .b0 a0=>.br (decide (a0.Z5f<1)) ( .leaf (.inl (12:Int))) ( .br (decide (a0.Z5f>3)) ( .leaf (.inl (12:Int))) ( .leaf (.inr (.b1 a0))))
 | .b1 a0=>.br ((↑a0.Payload.length:Int)==0) ( .br (a0.Z5f != 1) ( .leaf (.inl (1:Int))) ( .leaf (.inr (.b2 a0)))) ( .leaf (.inr (.b2 a0)))
 | .b2 a0=>.br (decide ((↑a0.Payload.length:Int)>255)) ( .leaf (.inl (4:Int))) ( .leaf (.inl (0:Int)))
noncomputable def Z6f (a0:Zd):Option Int:=ZO Z6l (.b0 a0)
noncomputable def Zll:Mod U:=⟨[68],45,fun x=>Z6f x.1,by decide⟩
def Z34:Lay:=⟨[1],[KP],[.var [.keep,.s 5 1]],⟨[PQ 0],[VA 68 2]⟩⟩
def Zmw:Nat->Option Lay
 | 3=>some Z34
 | 5=>some Z34
 | _=>none
noncomputable def ZkC:Z2H->Z08 U
 | .b0 a0=>Z0f Tryz.f244 [68] (a0,())
 | .b1 a0=>spL Tryz.f244 [1,1,0,0] Z34 (((),()),((a0,()),()))
 | .b2 a0=>spL Tryz.f244 [1,1,1,0,0] Z34 (((),()),((a0,()),()))
theorem Zi5:Z0g 244 Tryz.f244 msN hsN Zmw 45 Z6l ZkC:=by intro p;cases p<;>kernel_rfl
theorem ZkI:Z0a Tryz.prog B0 244 Zll:=okP Zi5 (fun x=>.b0 x.1) (by kernel_rfl) Tryz.func244 (by kernel_rfl) (by kernel_rfl) (fun _=>rfl) (fun _=>rfl)
inductive Z9U where
 | b0 (a0:Zn)
 | b1 (a0:Zn)
noncomputable def ZhZ:Z9U->Tr U (Int⊕Z9U)
 | .b0 a0=>.bind 4 (Zfl a0.SN) (fun(x1:Bool)=>.br (!x1) ( .leaf (.inl (5:Int))) ( .bind 4 (Zfl a0.Zda) (fun(x2:Bool)=>.br (!x2) ( .leaf (.inl (5:Int))) ( .bind 4 (Zfl a0.MD) (fun(x3:Bool)=>.br (!x3) ( .leaf (.inl (5:Int))) ( .leaf (.inr (.b1 a0))))))))
 | .b1 a0=>.bind 45 (Z6f a0.ZF) (fun(x1:Int)=>.leaf (.inl x1))
noncomputable def Z3L (a0:Zn):Option Int:=ZO ZhZ (.b0 a0)
noncomputable def ZD2:Mod U:=⟨[70],45,fun x=>Z3L x.1,by decide⟩
def Zkd:Lay:=⟨[1],[KP],[.var k5],⟨[PQ 0],[VA 70 5]⟩⟩
def ZD5:Nat->Option Lay
 | 3=>some Zkd
 | _=>none
noncomputable def ZA7:Z9U->Z08 U
 | .b0 a0=>Z0f Tryz.f167 [70] (a0,())
 | .b1 a0=>spL Tryz.f167 [1,1,0] Zkd (((),()),((a0,()),()))
theorem ZuK:Z0g 167 Tryz.f167 (mc ZGP (mc ZkI msN)) hsN ZD5 45 ZhZ ZA7:=by intro p;cases p<;>kernel_rfl
theorem Z4W:Z0a Tryz.prog B0 167 ZD2:=okP ZuK (fun x=>.b0 x.1) (by kernel_rfl) Tryz.func167 (by kernel_rfl) (by kernel_rfl) (fun _=>rfl) (fun _=>rfl)
inductive Z5N where
 | b0 (a0:Zd)
noncomputable def Zdo:Z5N->Tr U (Bool⊕Z5N)
 | .b0 a0=>.br (a0.Z5f==1) ( .leaf (.inl ((↑a0.Payload.length:Int)==0))) ( .leaf (.inl false))
noncomputable def Z8l (a0:Zd):Option Bool:=ZO Zdo (.b0 a0)
noncomputable def ZuH:Mod U:=⟨[68],4,fun x=>Z8l x.1,by decide⟩
noncomputable def ZrM:Z5N->Z08 U
 | .b0 a0=>Z0f Tryz.f213 [68] (a0,())
theorem ZpO:Z0g 213 Tryz.f213 msN hsN AN 4 Zdo ZrM
 | .b0 ..=>by kernel_rfl
theorem ZgK:Z0a Tryz.prog B0 213 ZuH:=okP ZpO (fun x=>.b0 x.1) (by kernel_rfl) Tryz.func213 (by kernel_rfl) (by kernel_rfl) (fun _=>rfl) (fun _=>rfl)
inductive Z8E where
 | b0 (a0:ZK) (a1:Zd)
 | b1 (a0:ZK) (a1:Zd) (a2:ZK)
noncomputable def Zhb:Z8E->Tr U ((ZK×Int)⊕Z8E)
 | .b0 a0 a1=>.bind 4 (Z8l a1) (fun(x1:Bool)=>.br x1 ( .leaf (.inl (a0,1))) ( .br (decide ((↑a1.Payload.length:Int)>251)) ( .leaf (.inl (a0,1))) ( .bind 45 (Z3L (⟨0,0,0,a1⟩:Zn)) (fun(x2:Int)=>.br (x2 != 0) ( .leaf (.inl (a0,1))) ( .leaf (.inr (.b1 a0 a1 Z4y)))))))
 | .b1 a0 a1 a2=>.br (decide ((↑a0.Zu.length:Int)>=64)) ( .leaf (.inl (a0,8))) ( .chk (([]:List Zd).length==0) ( .chk (decide ((0+a0.Zu.length)*32<=lim)&&decide (0+a0.Zu.length<=maxLen)) ( .chk (([a1]).length==1) ( .chk ((([]:List Zd)++a0.Zu).length==(([]:List Zd)++a0.Zu).length) ( .chk (decide (((([]:List Zd)++a0.Zu).length+([a1]).length)*32<=lim)&&decide ((([]:List Zd)++a0.Zu).length+([a1]).length<=maxLen)) ( .chk (((([]:List Zd)++a0.Zu)++[a1]).length==((([]:List Zd)++a0.Zu)++[a1]).length) ( .leaf (.inl (({ a0 with Zu:=((([]:List Zd)++a0.Zu)++[a1]) }:ZK),(0:Int))))))))))
noncomputable def Zd1 (a0:ZK) (a1:Zd):Option (ZK×Int):=ZO Zhb (.b0 a0 a1)
noncomputable def ZBw:Mod U:=⟨[33,68],189,fun x=>Zd1 x.1 x.2.1,by decide⟩
def Zj9:Lay:=⟨[2,3,4],[KP,KP,KP],[.var k6,.var [.keep,.s 5 1],.var k6],⟨[PQ 0,PQ 1,PQ 2],[VA 33 7,VA 68 2,VA 33 7]⟩⟩
def ZDC:Nat->Option Lay
 | 3=>some Zj9
 | _=>none
noncomputable def ZAP:Z8E->Z08 U
 | .b0 a0 a1=>Z0f Tryz.f165 [33,68] (a0,a1,())
 | .b1 a0 a1 a2=>spL Tryz.f165 [1,1,0,0] Zj9 (((),((),((),()))),((a0,()),((a1,()),((a2,()),()))))
theorem ZvV:Z0g 165 Tryz.f165 (mc Z4W (mc ZgK msN)) hsN ZDC 189 Zhb ZAP:=by intro p;cases p<;>kernel_rfl
theorem Zn6:Z0a Tryz.prog B0 165 ZBw:=okP ZvV (fun x=>.b0 x.1 x.2.1) (by kernel_rfl) Tryz.func165 (by kernel_rfl) (by kernel_rfl) (fun _=>rfl) (fun _=>rfl)
inductive Z8O where
 | b0 (a0:Z9)
 | b1 (a0:List Z4) (a1:Bool) (a2:Int) (a3 a4:Z9)
 | b2 (a0:List Z4) (a1:Bool) (a2:Int) (a3 a4:Z9) (a5:Z4)
 | b3 (a0:List Z4) (a1:Bool) (a2:Int) (a3 a4:Z9) (a5:Z4)
 | b4 (a0:List Z4) (a1:Bool) (a2:Int) (a3 a4:Z9)
noncomputable def Zi4:Z8O->Tr U (Z9⊕Z8O)
 | .b0 a0=>.chk (([]:List Z4).length==0) ( .leaf (.inr (.b1 ([]:List Z4) false (0:Int) a0 ZH)))
 | .b1 a0 a1 a2 a3 a4=>.br (decide (a2<(↑a3.Zb.length:Int))) ( .chk (decide (0<=a2/\a2<(↑a3.Zb.length:Int))) ( .bind 156 (a3.Zb[(Int.toNat a2)]?) (fun(x1:Z4)=>.br a1 ( .chk (a0.length==a0.length) ( .leaf (.inr (.b2 a0 a1 a2 a3 a4 x1)))) ( .bind 4 (Zcw a3.Ze) (fun(x2:Bool)=>.br x2 ( .bind 4 (ZcV x1.Kind) (fun(x3:Bool)=>.br (!x3) ( .chk (a0.length==a0.length) ( .leaf (.inr (.b2 a0 a1 a2 a3 a4 x1)))) ( .chk (a0.length==a0.length) ( .leaf (.inr (.b3 a0 a1 a2 a3 a4 x1)))))) ( .chk (a0.length==a0.length) ( .leaf (.inr (.b3 a0 a1 a2 a3 a4 x1))))))))) ( .chk (a0.length==a0.length) ( .leaf (.inl ({ a3 with Zb:=a0 }:Z9))))
 | .b2 a0 a1 a2 a3 a4 a5=>.chk (([a5]).length==1) ( .chk (a0.length==a0.length) ( .chk (decide ((a0.length+([a5]).length)*120<=lim)&&decide (a0.length+([a5]).length<=maxLen)) ( .chk ((a0++[a5]).length==(a0++[a5]).length) ( .leaf (.inr (.b4 (a0++[a5]) a1 a2 a3 a4))))))
 | .b3 a0 a1 a2 a3 a4 a5=>.bind 120 (Ze9 a5) (fun(x1:(List Int)×Int)=>.br (x1.2 != 0) ( .chk (a0.length==a0.length) ( .leaf (.inr (.b4 a0 a1 a2 a3 a4)))) ( .bind 189 (Zd1 a3.Arq (⟨3,x1.1⟩:Zd)) (fun(x2:ZK×Int)=>.br (x2.2 != 0) ( .chk (([a5]).length==1) ( .chk (a0.length==a0.length) ( .chk (decide ((a0.length+([a5]).length)*120<=lim)&&decide (a0.length+([a5]).length<=maxLen)) ( .chk ((a0++[a5]).length==(a0++[a5]).length) ( .leaf (.inr (.b4 (a0++[a5]) true a2 a3 a4))))))) ( .chk (a0.length==a0.length) ( .leaf (.inr (.b4 a0 a1 a2 ({ a3 with Arq:=x2.1 }:Z9) a4)))))))
 | .b4 a0 a1 a2 a3 a4=>.chk (a0.length==a0.length) ( .leaf (.inr (.b1 a0 a1 (w64 (a2+1)) a3 a4)))
noncomputable def Zil (a0:Z9):Option Z9:=ZO Zi4 (.b0 a0)
noncomputable def ZCg:Mod U:=⟨[44],44,fun x=>Zil x.1,by decide⟩
def Z88:Lay:=⟨[1,2,3,4,5],[KP,KP,[.own 156 15],KP,KP],[.var k2,.var k2,.row true],⟨[PQ 0,PQ 1,.one (.own 156 2),OV 4,OV 3],[VA 44 66,VA 44 66,.row 156 true]⟩⟩
def Z8c:Lay:=⟨[1,2,3,4,5,6],[KP,KP,[.own 156 15],KP,KP,KP],[.var k2,.var k2,.row true,.var k1],⟨[PQ 0,PQ 1,.one (.own 156 2),OV 4,OV 3,PQ 3],[VA 44 66,VA 44 66,.row 156 true,VA 156 15]⟩⟩
def ZDH:Nat->Option Lay
 | 4=>some Z88
 | 8=>some Z8c
 | 9=>some Z8c
 | 5=>some Z88
 | _=>none
noncomputable def ZAu:Z8O->Z08 U
 | .b0 a0=>Z0f Tryz.f70 [44] (a0,())
 | .b1 a0 a1 a2 a3 a4=>spL Tryz.f70 [1,1,1,0,1,0,0,0,0] Z88 (((),((),((),((a1,()),((a2,()),()))))),((a3,()),((a4,()),(a0,()))))
 | .b2 a0 a1 a2 a3 a4 a5=>spL Tryz.f70 [1,1,1,0,1,0,0,1,0,0,1,0,1,0,0] Z8c (((),((),((),((a1,()),((a2,()),((),())))))),((a3,()),((a4,()),(a0,((a5,()),())))))
 | .b3 a0 a1 a2 a3 a4 a5=>spL Tryz.f70 [1,1,1,0,1,0,0,1,0,0,1,1,0] Z8c (((),((),((),((a1,()),((a2,()),((),())))))),((a3,()),((a4,()),(a0,((a5,()),())))))
 | .b4 a0 a1 a2 a3 a4=>spL Tryz.f70 [1,1,1,0,1,0,0,1,1] Z88 (((),((),((),((a1,()),((a2,()),()))))),((a3,()),((a4,()),(a0,()))))
theorem ZwM:Z0g 70 Tryz.f70 (mc Znr (mc ZrS (mc Zun (mc Zn6 msN)))) hsN ZDH 44 Zi4 ZAu:=by intro p;cases p<;>kernel_rfl
theorem Zxx:Z0a Tryz.prog B0 70 ZCg:=okP ZwM (fun x=>.b0 x.1) (by kernel_rfl) Tryz.func70 (by kernel_rfl) (by kernel_rfl) (fun _=>rfl) (fun _=>rfl)
inductive Z8W where
 | b0
noncomputable def Zhl:Z8W->Tr U (Zd⊕Z8W)
 | .b0 =>.leaf (.inl (⟨1,[]⟩:Zd))
noncomputable def Zh6  : Option Zd:=ZO Zhl (.b0)
noncomputable def ZEG:Mod U:=⟨[],68,fun x=>Zh6,by decide⟩
noncomputable def Zx8:Z8W->Z08 U
 | .b0 =>Z0f Tryz.f166 [] ()
theorem ZwH:Z0g 166 Tryz.f166 msN hsN AN 68 Zhl Zx8
 | .b0=>by kernel_rfl
theorem ZxN:Z0a Tryz.prog B0 166 ZEG:=okP ZwH (fun x=>.b0 ) (by kernel_rfl) Tryz.func166 (by kernel_rfl) (by kernel_rfl) (fun _=>rfl) (fun _=>rfl)
inductive ZbW where
 | b0 (a0:ZK)
 | b1 (a0 a1:ZK) (a2:Zn)
 | b2 (a0:Int) (a1 a2:ZK) (a3 a4:Zn)
 | b3 (a0:Int) (a1 a2:ZK) (a3 a4:Zn)
 | b4 (a0 a1:ZK) (a2 a3:Zn)
noncomputable def Zm7:ZbW->Tr U ((ZK×Zn)⊕ZbW)
 | .b0 a0=>.br (!a0.Open) ( .leaf (.inr (.b1 ({ a0 with Open:=true,Empty:=((↑a0.Zu.length:Int)==0) }:ZK) Z4y (⟨0,0,0,(⟨0,([]:List Int)⟩:Zd)⟩:Zn)))) ( .leaf (.inr (.b1 a0 Z4y (⟨0,0,0,(⟨0,([]:List Int)⟩:Zd)⟩:Zn))))
 | .b1 a0 a1 a2=>.bind 68 (Zh6) (fun(x1:Zd)=>.br (!a0.Empty) ( .br (decide ((↑a0.Zu.length:Int)>0)) ( .leaf (.inr (.b2 (↑a0.Zu.length:Int) a0 a1 a2 (⟨a0.SN,a0.Zda,0,x1⟩:Zn)))) ( .leaf (.inr (.b3 (↑a0.Zu.length:Int) a0 a1 a2 (⟨a0.SN,a0.Zda,0,x1⟩:Zn))))) ( .leaf (.inr (.b3 (↑a0.Zu.length:Int) a0 a1 a2 (⟨a0.SN,a0.Zda,0,x1⟩:Zn)))))
 | .b2 a0 a1 a2 a3 a4=>.chk (decide (0<=(0:Int)/\(0:Int)<(↑a1.Zu.length:Int))) ( .bind 68 (a1.Zu[(Int.toNat 0)]?) (fun(x1:Zd)=>.leaf (.inr (.b3 (w64 (a0 - 1)) a1 a2 a3 ({ a4 with ZF:=x1 }:Zn)))))
 | .b3 a0 a1 a2 a3 a4=>.br (decide (a0>0)) ( .leaf (.inr (.b4 a1 a2 a3 ({ a4 with MD:=1 }:Zn)))) ( .leaf (.inr (.b4 a1 a2 a3 a4)))
 | .b4 a0 a1 a2 a3=>.leaf (.inl (a0,a3))
noncomputable def ZlA (a0:ZK):Option (ZK×Zn):=ZO Zm7 (.b0 a0)
noncomputable def ZI1:Mod U:=⟨[33],75,fun x=>ZlA x.1,by decide⟩
def ZmZ:Lay:=⟨[1,2,3],[KP,KP,KP],[.var k6,.var k6,.var k5],⟨[PQ 0,PQ 1,PQ 2],[VA 33 7,VA 33 7,VA 70 5]⟩⟩
def Zah:Lay:=⟨[1,2,3,4,5],[KP,KP,KP,KP,KP],[.var k6,.var k6,.var k5,.var k5],⟨[PQ 0,PQ 1,PQ 2,PQ 3,OV 3],[VA 33 7,VA 33 7,VA 70 5,VA 70 5]⟩⟩
def Zne:Lay:=⟨[1,2,3,4],[KP,KP,KP,KP],[.var k6,.var k6,.var k5,.var k5],⟨[PQ 0,PQ 1,PQ 2,PQ 3],[VA 33 7,VA 33 7,VA 70 5,VA 70 5]⟩⟩
def ZFX:Nat->Option Lay
 | 4=>some ZmZ
 | 7=>some Zah
 | 9=>some Zah
 | 11=>some Zne
 | _=>none
noncomputable def ZCk:ZbW->Z08 U
 | .b0 a0=>Z0f Tryz.f71 [33] (a0,())
 | .b1 a0 a1 a2=>spL Tryz.f71 [1,1,0] ZmZ (((),((),((),()))),((a0,()),((a1,()),((a2,()),()))))
 | .b2 a0 a1 a2 a3 a4=>spL Tryz.f71 [1,1,1,1,0,1,0,0] Zah (((),((),((),((),((a0,()),()))))),((a1,()),((a2,()),((a3,()),((a4,()),())))))
 | .b3 a0 a1 a2 a3 a4=>spL Tryz.f71 [1,1,1,1,1,0,0] Zah (((),((),((),((),((a0,()),()))))),((a1,()),((a2,()),((a3,()),((a4,()),())))))
 | .b4 a0 a1 a2 a3=>spL Tryz.f71 [1,1,1,1,1,1,0] Zne (((),((),((),((),())))),((a0,()),((a1,()),((a2,()),((a3,()),())))))
theorem ZA3:Z0g 71 Tryz.f71 (mc ZxN msN) hsN ZFX 75 Zm7 ZCk:=by intro p;cases p<;>kernel_rfl
theorem ZEE:Z0a Tryz.prog B0 71 ZI1:=okP ZA3 (fun x=>.b0 x.1) (by kernel_rfl) Tryz.func71 (by kernel_rfl) (by kernel_rfl) (fun _=>rfl) (fun _=>rfl)
inductive Z9h where
 | b0 (a0:Zd)
noncomputable def Zir:Z9h->Tr U (Bool⊕Z9h)
 | .b0 a0=>.br (a0.Z5f==1) ( .leaf (.inl ((↑a0.Payload.length:Int)==0))) ( .leaf (.inl false))
noncomputable def Z6G (a0:Zd):Option Bool:=ZO Zir (.b0 a0)
noncomputable def ZCC:Mod U:=⟨[68],4,fun x=>Z6G x.1,by decide⟩
noncomputable def ZxK:Z9h->Z08 U
 | .b0 a0=>Z0f Tryz.f116 [68] (a0,())
theorem ZvO:Z0g 116 Tryz.f116 msN hsN AN 4 Zir ZxK
 | .b0 ..=>by kernel_rfl
theorem Zab:Z0a Tryz.prog B0 116 ZCC:=okP ZvO (fun x=>.b0 x.1) (by kernel_rfl) Tryz.func116 (by kernel_rfl) (by kernel_rfl) (fun _=>rfl) (fun _=>rfl)
inductive Zbx where
 | b0 (a0:Zn) (a1:List Int)
noncomputable def Zmy:Zbx->Tr U (Zn⊕Zbx)
 | .b0 a0 a1=>.leaf (.inl ({ a0 with ZF:=(⟨a0.ZF.Z5f,a1⟩:Zd) }:Zn))
noncomputable def Zg8 (a0:Zn) (a1:List Int):Option Zn:=ZO Zmy (.b0 a0 a1)
noncomputable def ZFO:Mod U:=⟨[70,62],70,fun x=>Zg8 x.1 x.2.1,by decide⟩
noncomputable def ZCu:Zbx->Z08 U
 | .b0 a0 a1=>Z0f Tryz.f168 [70,62] (a0,a1,())
theorem Zx1:Z0g 168 Tryz.f168 msN hsN AN 70 Zmy ZCu
 | .b0 ..=>by kernel_rfl
theorem ZpT:Z0a Tryz.prog B0 168 ZFO:=okP Zx1 (fun x=>.b0 x.1 x.2.1) (by kernel_rfl) Tryz.func168 (by kernel_rfl) (by kernel_rfl) (fun _=>rfl) (fun _=>rfl)
inductive ZeV where
 | b0 (a0 a1:Int)
 | b1 (a0:Int)
noncomputable def Zqn:ZeV->Tr U (Int⊕ZeV)
 | .b0 a0 a1=>.br (decide ((Int.tmod (w64 ((w64 ((Int.tmod a1 64)+64))*11)) (64:Int))>0)) ( .chk (decide (0<=(Int.tmod (w64 ((w64 ((Int.tmod a1 64)+64))*11)) (64:Int)))) ( .chk (decide (0<=(w64 ((64:Int) - (Int.tmod (w64 ((w64 ((Int.tmod a1 64)+64))*11)) (64:Int)))))) ( .leaf (.inr (.b1 (bits .or .u64 (IntKind.wrap .u64 (a0*2 ^ (min (Int.toNat (Int.tmod (w64 ((w64 ((Int.tmod a1 64)+64))*11)) (64:Int))) (IntKind.bits .u64)))) (Int.fdiv a0 (2 ^ (min (Int.toNat (w64 ((64:Int) - (Int.tmod (w64 ((w64 ((Int.tmod a1 64)+64))*11)) (64:Int))))) (IntKind.bits .u64)))))))))) ( .leaf (.inr (.b1 a0)))
 | .b1 a0=>.leaf (.inl (IntKind.wrap .u32 ((Int.tmod a0 4294967296))))
noncomputable def Zru (a0 a1:Int):Option Int:=ZO Zqn (.b0 a0 a1)
noncomputable def ZKI:Mod U:=⟨[29,3],22,fun x=>Zru x.1 x.2.1,by decide⟩
def Zpl:Lay:=⟨[6],[KP],[],⟨[OV 25],[]⟩⟩
def ZKE:Nat->Option Lay
 | 5=>some Zpl
 | _=>none
noncomputable def ZFY:ZeV->Z08 U
 | .b0 a0 a1=>Z0f Tryz.f383 [29,3] (a0,a1,())
 | .b1 a0=>spL Tryz.f383 [1,1,1,1,0] Zpl (((a0,()),()),())
theorem ZDl:Z0g 383 Tryz.f383 msN hsN ZKE 22 Zqn ZFY:=by intro p;cases p<;>kernel_rfl
theorem ZGW:Z0a Tryz.prog B0 383 ZKI:=okP ZDl (fun x=>.b0 x.1 x.2.1) (by kernel_rfl) Tryz.func383 (by kernel_rfl) (by kernel_rfl) (fun _=>rfl) (fun _=>rfl)
inductive ZbE where
 | b0 (a0 a1:Int)
noncomputable def ZmN:ZbE->Tr U (Int⊕ZbE)
 | .b0 a0 a1=>.chk (decide (0<=a1)) ( .chk (decide (0<=(w64 ((32:Int) - a1)))) ( .leaf (.inl (bits .or .u32 (IntKind.wrap .u32 (a0*2 ^ (min (Int.toNat a1) (IntKind.bits .u32)))) (Int.fdiv a0 (2 ^ (min (Int.toNat (w64 ((32:Int) - a1))) (IntKind.bits .u32))))))))
noncomputable def ZfN (a0 a1:Int):Option Int:=ZO ZmN (.b0 a0 a1)
noncomputable def ZGm:Mod U:=⟨[22,3],22,fun x=>ZfN x.1 x.2.1,by decide⟩
noncomputable def ZEb:ZbE->Z08 U
 | .b0 a0 a1=>Z0f Tryz.f384 [22,3] (a0,a1,())
theorem ZxD:Z0g 384 Tryz.f384 msN hsN AN 22 ZmN ZEb
 | .b0 ..=>by kernel_rfl
theorem ZBh:Z0a Tryz.prog B0 384 ZGm:=okP ZxD (fun x=>.b0 x.1 x.2.1) (by kernel_rfl) Tryz.func384 (by kernel_rfl) (by kernel_rfl) (fun _=>rfl) (fun _=>rfl)
inductive Z9b where
 | b0 (a0 a1 a2:Int)
noncomputable def Zht:Z9b->Tr U (Int⊕Z9b)
 | .b0 a0 a1 a2=>.bind 22 (Zru a0 a1) (fun(x1:Int)=>.bind 22 (ZfN (IntKind.wrap .u32 (a2+x1)) (7:Int)) (fun(x2:Int)=>.bind 22 (ZfN x1 (16:Int)) (fun(x3:Int)=>.leaf (.inl (bits .xor .u32 (IntKind.wrap .u32 (x2*2654435761)) x3)))))
noncomputable def Ziw (a0 a1 a2:Int):Option Int:=ZO Zht (.b0 a0 a1 a2)
noncomputable def ZCa:Mod U:=⟨[29,3,22],22,fun x=>Ziw x.1 x.2.1 x.2.2.1,by decide⟩
noncomputable def ZB1:Z9b->Z08 U
 | .b0 a0 a1 a2=>Z0f Tryz.f359 [29,3,22] (a0,a1,a2,())
theorem ZvI:Z0g 359 Tryz.f359 (mc ZGW (mc ZBh msN)) hsN AN 22 Zht ZB1
 | .b0 ..=>by kernel_rfl
theorem ZxC:Z0a Tryz.prog B0 359 ZCa:=okP ZvI (fun x=>.b0 x.1 x.2.1 x.2.2.1) (by kernel_rfl) Tryz.func359 (by kernel_rfl) (by kernel_rfl) (fun _=>rfl) (fun _=>rfl)
inductive ZeR where
 | b0 (a0 a1:Int)
 | b1 (a0 a1 a2 a3:Int)
noncomputable def ZoI:ZeR->Tr U (Int⊕ZeR)
 | .b0 a0 a1=>.leaf (.inr (.b1 a0 (IntKind.wrap .u32 ((IntKind.wrap .u64 (Int.tdiv a1 4294967296)))) (IntKind.wrap .u32 ((Int.tmod a1 4294967296))) (0:Int)))
 | .b1 a0 a1 a2 a3=>.br (decide (a3<8)) ( .bind 22 (Ziw a0 a3 a2) (fun(x1:Int)=>.leaf (.inr (.b1 a0 a2 (bits .xor .u32 a1 x1) (w64 (a3+1)))))) ( .leaf (.inl (IntKind.wrap .u64 ((IntKind.wrap .u64 ((IntKind.wrap .u64 (a1))*4294967296))+(IntKind.wrap .u64 (a2))))))
noncomputable def Zbn (a0 a1:Int):Option Int:=ZO ZoI (.b0 a0 a1)
noncomputable def ZKK:Mod U:=⟨[29,25],25,fun x=>Zbn x.1 x.2.1,by decide⟩
def ZoY:Lay:=⟨[0,5,6,7],[KP,KP,KP,KP],[],⟨[OV 29,OV 22,OV 22,OV 3],[]⟩⟩
def ZK4:Nat->Option Lay
 | 4=>some ZoY
 | _=>none
noncomputable def ZGn:ZeR->Z08 U
 | .b0 a0 a1=>Z0f Tryz.f327 [29,25] (a0,a1,())
 | .b1 a0 a1 a2 a3=>spL Tryz.f327 [1,1,1,0,1,0,0,0,0] ZoY (((a0,()),((a1,()),((a2,()),((a3,()),())))),())
theorem ZBz:Z0g 327 Tryz.f327 (mc ZxC msN) hsN ZK4 25 ZoI ZGn:=by intro p;cases p<;>kernel_rfl
theorem ZtM:Z0a Tryz.prog B0 327 ZKK:=okP ZBz (fun x=>.b0 x.1 x.2.1) (by kernel_rfl) Tryz.func327 (by kernel_rfl) (by kernel_rfl) (fun _=>rfl) (fun _=>rfl)
inductive ZeN where
 | b0 (a0 a1:Int)
 | b1 (a0 a1:Int) (a2:List Int) (a3:Int)
noncomputable def ZpX:ZeN->Tr U (Z2U⊕ZeN)
 | .b0 a0 a1=>.chk (([]:List Int).length==0) ( .leaf (.inr (.b1 a0 a1 ([]:List Int) (0:Int))))
 | .b1 a0 a1 a2 a3=>.br (decide (a3<a0)) ( .chk (([(IntKind.wrap .u8 ((Int.tmod a1 256)))]).length==1) ( .chk (a2.length==a2.length) ( .chk (decide ((a2.length+([(IntKind.wrap .u8 ((Int.tmod a1 256)))]).length)*1<=lim)&&decide (a2.length+([(IntKind.wrap .u8 ((Int.tmod a1 256)))]).length<=maxLen)) ( .chk ((a2++[(IntKind.wrap .u8 ((Int.tmod a1 256)))]).length==(a2++[(IntKind.wrap .u8 ((Int.tmod a1 256)))]).length) ( .leaf (.inr (.b1 a0 (IntKind.wrap .u64 (Int.tdiv a1 256)) (a2++[(IntKind.wrap .u8 ((Int.tmod a1 256)))]) (w64 (a3+1))))))))) ( .chk (a2.length==a2.length) ( .leaf (.inl (⟨a2⟩:Z2U))))
noncomputable def Z9K (a0 a1:Int):Option Z2U:=ZO ZpX (.b0 a0 a1)
def Zpj:Shape:=⟨[OV 3,OV 25],[]⟩
noncomputable def Zyy:HMod U:=⟨[KP,KP],[],Zpj,⟨[.one (.own 5 0)],[.row 5 true]⟩,true,1351,fun(y:Z2U)=>(((),()),(y.q0,())),fun x=>Z9K x.1.1.1 x.1.2.1.1,⟨⟨⟨by decide,fun _=>rfl⟩,⟨⟨by decide,fun _=>rfl⟩,trivial⟩⟩,trivial⟩⟩
def Zq1:Lay:=⟨[0,1,5,6],[KP,KP,[.own 5 1],KP],[.row true],⟨[OV 3,OV 25,.one (.own 5 0),OV 3],[.row 5 true]⟩⟩
def ZMo:Nat->Option Lay
 | 3=>some Zq1
 | _=>none
noncomputable def ZGF:ZeN->Z08 U
 | .b0 a0 a1=>ZB3 Tryz.f328 Zpj (((a0,()),((a1,()),())),())
 | .b1 a0 a1 a2 a3=>spL Tryz.f328 [1,1,0,1,0,0,0,0] Zq1 (((a0,()),((a1,()),((),((a3,()),())))),(a2,()))
theorem ZDj:ZB5 328 Tryz.f328 msN hsN ZMo [[.own 5 1]] [.row true] 0 Zyy ZpX ZGF:=by intro p;cases p<;>kernel_rfl
theorem ZfO:Z4n Tryz.prog B0 328 Zyy:=okH ZDj (fun x=>.b0 x.1.1.1 x.1.2.1.1) (fun x=>by kernel_rfl) (by kernel_rfl) Tryz.func328 (by kernel_rfl) (by kernel_rfl) (fun x=>by kernel_rfl) (fun x=>by kernel_rfl)
inductive Z7n where
 | b0 (a0 a1 a2:Int)
 | b1 (a0 a1:Int) (a2:List Int) (a3 a4:Int)
noncomputable def ZeY:Z7n->Tr U ((List Int)⊕Z7n)
 | .b0 a0 a1 a2=>.bind 25 (Zbn a0 a1) (fun(x1:Int)=>.chk (([]:List Int).length==0) ( .leaf (.inr (.b1 a0 a2 ([]:List Int) x1 (0:Int)))))
 | .b1 a0 a1 a2 a3 a4=>.chk (a2.length==a2.length) ( .br (decide ((↑a2.length:Int)<a1)) ( .bind 25 (Zbn a0 (IntKind.wrap .u64 (a3+(IntKind.wrap .u64 (a4))))) (fun(x1:Int)=>.bind 1351 (Z9K (8:Int) x1) (fun(y2:Z2U)=>.chk (y2.q0.length==y2.q0.length) ( .chk (a2.length==a2.length) ( .chk (decide ((a2.length+y2.q0.length)*1<=lim)&&decide (a2.length+y2.q0.length<=maxLen)) ( .chk ((a2++y2.q0).length==(a2++y2.q0).length) ( .leaf (.inr (.b1 a0 a1 (a2++y2.q0) a3 (w64 (a4+1))))))))))) ( .chk (a2.length==a2.length) ( .chk (decide (0<=a1/\a1<=(↑a2.length:Int))) ( .chk (a2.length==a2.length) ( .chk (decide (0+((Int.toNat a1) - 0)<=a2.length)) ( .leaf (.inl ((a2.drop 0).take ((Int.toNat a1) - 0)))))))))
noncomputable def Zaj (a0 a1 a2:Int):Option (List Int):=ZO ZeY (.b0 a0 a1 a2)
noncomputable def Zzu:Mod U:=⟨[29,25,3],62,fun x=>Zaj x.1 x.2.1 x.2.2.1,by decide⟩
def ZgJ:Lay:=⟨[0,2,7,8,9],[KP,KP,[.own 5 1],KP,KP],[.row true],⟨[OV 29,OV 3,.one (.own 5 0),OV 25,OV 3],[.row 5 true]⟩⟩
def ZAX:Nat->Option Lay
 | 4=>some ZgJ
 | _=>none
noncomputable def ZvT:Z7n->Z08 U
 | .b0 a0 a1 a2=>Z0f Tryz.f246 [29,25,3] (a0,a1,a2,())
 | .b1 a0 a1 a2 a3 a4=>spL Tryz.f246 [1,1,1,0,1,0,0,0,0] ZgJ (((a0,()),((a1,()),((),((a3,()),((a4,()),()))))),(a2,()))
theorem Zsl:Z0g 246 Tryz.f246 (mc ZtM msN) (hc [] ZfO hsN) ZAX 62 ZeY ZvT:=by intro p;cases p<;>kernel_rfl
theorem ZjX:Z0a Tryz.prog B0 246 Zzu:=okP Zsl (fun x=>.b0 x.1 x.2.1 x.2.2.1) (by kernel_rfl) Tryz.func246 (by kernel_rfl) (by kernel_rfl) (fun _=>rfl) (fun _=>rfl)
inductive Z9a where
 | b0 (a0:List Int)
 | b1 (a0:List Int) (a1 a2:Int)
noncomputable def ZhN:Z9a->Tr U (Int⊕Z9a)
 | .b0 a0=>.leaf (.inr (.b1 a0 (0:Int) (w64 ((↑a0.length:Int) - 1))))
 | .b1 a0 a1 a2=>.br (decide (a2>=0)) ( .chk (decide (0<=a2/\a2<(↑a0.length:Int))) ( .bind 5 (a0[(Int.toNat a2)]?) (fun(x1:Int)=>.leaf (.inr (.b1 a0 (IntKind.wrap .u64 ((IntKind.wrap .u64 (a1*256))+(IntKind.wrap .u64 (x1)))) (w64 (a2 - 1))))))) ( .leaf (.inl a1))
noncomputable def ZiH (a0:List Int):Option Int:=ZO ZhN (.b0 a0)
noncomputable def ZD9:Mod U:=⟨[62],25,fun x=>ZiH x.1,by decide⟩
def ZkG:Lay:=⟨[0,3,4],[[.s 5 1],KP,KP],[],⟨[OV 62,OV 25,OV 3],[]⟩⟩
def ZBm:Nat->Option Lay
 | 3=>some ZkG
 | _=>none
noncomputable def Zxs:Z9a->Z08 U
 | .b0 a0=>Z0f Tryz.f360 [62] (a0,())
 | .b1 a0 a1 a2=>spL Tryz.f360 [1,1,0,1,0,0,0,0] ZkG (((a0,()),((a1,()),((a2,()),()))),())
theorem ZvS:Z0g 360 Tryz.f360 msN hsN ZBm 25 ZhN Zxs:=by intro p;cases p<;>kernel_rfl
theorem Zxd:Z0a Tryz.prog B0 360 ZD9:=okP ZvS (fun x=>.b0 x.1) (by kernel_rfl) Tryz.func360 (by kernel_rfl) (by kernel_rfl) (fun _=>rfl) (fun _=>rfl)
inductive Zew where
 | b0 (a0:Int) (a1:List Int)
 | b1 (a0:Int) (a1:List Int) (a2 a3:Int)
noncomputable def ZqU:Zew->Tr U (Int⊕Zew)
 | .b0 a0 a1=>.bind 25 (Zbn a0 (IntKind.wrap .u64 ((↑a1.length:Int)))) (fun(x1:Int)=>.leaf (.inr (.b1 a0 a1 x1 (0:Int))))
 | .b1 a0 a1 a2 a3=>.br (decide (a3<(↑a1.length:Int))) ( .chk (decide (0<=(if (↑a1.length:Int)<(w64 (a3+8)) then (↑a1.length:Int) else (w64 (a3+8)))/\(if (↑a1.length:Int)<(w64 (a3+8)) then (↑a1.length:Int) else (w64 (a3+8)))<=(↑a1.length:Int))) ( .chk (decide (0<=a3/\a3<=(↑(Int.toNat (if (↑a1.length:Int)<(w64 (a3+8)) then (↑a1.length:Int) else (w64 (a3+8)))):Int))) ( .bind 25 (ZiH ((a1.drop (Int.toNat a3)).take ((Int.toNat (if (↑a1.length:Int)<(w64 (a3+8)) then (↑a1.length:Int) else (w64 (a3+8)))) - (Int.toNat a3)))) (fun(x1:Int)=>.bind 25 (Zbn a0 (bits .xor .u64 a2 x1)) (fun(x2:Int)=>.leaf (.inr (.b1 a0 a1 x2 (w64 (a3+8))))))))) ( .leaf (.inl a2))
noncomputable def Zjr (a0:Int) (a1:List Int):Option Int:=ZO ZqU (.b0 a0 a1)
noncomputable def ZJr:Mod U:=⟨[29,62],25,fun x=>Zjr x.1 x.2.1,by decide⟩
def ZpM:Lay:=⟨[0,1,5,6],[KP,[.s 5 1],KP,KP],[],⟨[OV 29,OV 62,OV 25,OV 3],[]⟩⟩
def ZKA:Nat->Option Lay
 | 3=>some ZpM
 | _=>none
noncomputable def ZHw:Zew->Z08 U
 | .b0 a0 a1=>Z0f Tryz.f329 [29,62] (a0,a1,())
 | .b1 a0 a1 a2 a3=>spL Tryz.f329 [1,1,0,1,0,0,0,0] ZpM (((a0,()),((a1,()),((a2,()),((a3,()),())))),())
theorem ZEx:Z0g 329 Tryz.f329 (mc ZtM (mc Zxd msN)) hsN ZKA 25 ZqU ZHw:=by intro p;cases p<;>kernel_rfl
theorem ZtJ:Z0a Tryz.prog B0 329 ZJr:=okP ZEx (fun x=>.b0 x.1 x.2.1) (by kernel_rfl) Tryz.func329 (by kernel_rfl) (by kernel_rfl) (fun _=>rfl) (fun _=>rfl)
inductive Z9A where
 | b0 (a0:Int) (a1 a2:List Int)
noncomputable def Ziq:Z9A->Tr U (Z4H⊕Z9A)
 | .b0 a0 a1 a2=>.bind 1351 (Z9K (8:Int) a0) (fun(y1:Z2U)=>.bind 1351 (Z9K (4:Int) (IntKind.wrap .u64 ((↑a1.length:Int)))) (fun(y2:Z2U)=>.chk (y2.q0.length==y2.q0.length) ( .chk (y1.q0.length==y1.q0.length) ( .chk (decide ((y1.q0.length+y2.q0.length)*1<=lim)&&decide (y1.q0.length+y2.q0.length<=maxLen)) ( .chk ((y1.q0++y2.q0).length==(y1.q0++y2.q0).length) ( .chk (decide (((y1.q0++y2.q0).length+a1.length)*1<=lim)&&decide ((y1.q0++y2.q0).length+a1.length<=maxLen)) ( .chk (((y1.q0++y2.q0)++a1).length==((y1.q0++y2.q0)++a1).length) ( .chk (decide ((((y1.q0++y2.q0)++a1).length+a2.length)*1<=lim)&&decide (((y1.q0++y2.q0)++a1).length+a2.length<=maxLen)) ( .chk ((((y1.q0++y2.q0)++a1)++a2).length==(((y1.q0++y2.q0)++a1)++a2).length) ( .leaf (.inl (⟨(((y1.q0++y2.q0)++a1)++a2)⟩:Z4H))))))))))))
noncomputable def ZhE (a0:Int) (a1 a2:List Int):Option Z4H:=ZO Ziq (.b0 a0 a1 a2)
def ZjW:Shape:=⟨[OV 25,OV 62,OV 62],[]⟩
noncomputable def ZpR:HMod U:=⟨[KP,[.s 5 1],[.s 5 1]],[],ZjW,⟨[.one (.own 5 0)],[.row 5 true]⟩,true,1352,fun(y:Z4H)=>(((),()),(y.q0,())),fun x=>ZhE x.1.1.1 x.1.2.1.1 x.1.2.2.1.1,⟨⟨⟨by decide,fun _=>rfl⟩,⟨⟨by decide,fun _=>rfl⟩,⟨⟨by decide,fun _=>rfl⟩,trivial⟩⟩⟩,trivial⟩⟩
noncomputable def Zzp:Z9A->Z08 U
 | .b0 a0 a1 a2=>ZB3 Tryz.f330 ZjW (((a0,()),((a1,()),((a2,()),()))),())
theorem Zwa:ZB5 330 Tryz.f330 msN (hc [] ZfO hsN) AN [[.own 5 1]] [.row true] 0 ZpR Ziq Zzp
 | .b0 ..=>by kernel_rfl
theorem Zz5:Z4n Tryz.prog B0 330 ZpR:=okH Zwa (fun x=>.b0 x.1.1.1 x.1.2.1.1 x.1.2.2.1.1) (fun x=>by kernel_rfl) (by kernel_rfl) Tryz.func330 (by kernel_rfl) (by kernel_rfl) (fun x=>by kernel_rfl) (fun x=>by kernel_rfl)
inductive Zek where
 | b0 (a0 a1:Int) (a2 a3:List Int)
noncomputable def ZqF:Zek->Tr U ((List Int)⊕Zek)
 | .b0 a0 a1 a2 a3=>.bind 1352 (ZhE a1 a2 a3) (fun(y1:Z4H)=>.chk (y1.q0.length==y1.q0.length) ( .bind 25 (Zjr a0 y1.q0) (fun(x2:Int)=>.bind 1351 (Z9K (4:Int) x2) (fun(y3:Z2U)=>.chk (y3.q0.length==y3.q0.length) ( .leaf (.inl y3.q0))))))
noncomputable def Zki (a0 a1:Int) (a2 a3:List Int):Option (List Int):=ZO ZqF (.b0 a0 a1 a2 a3)
noncomputable def ZMf:Mod U:=⟨[29,25,62,62],62,fun x=>Zki x.1 x.2.1 x.2.2.1 x.2.2.2.1,by decide⟩
noncomputable def ZHm:Zek->Z08 U
 | .b0 a0 a1 a2 a3=>Z0f Tryz.f247 [29,25,62,62] (a0,a1,a2,a3,())
theorem ZEc:Z0g 247 Tryz.f247 (mc ZtJ msN) (hc [] ZfO (hc [] Zz5 hsN)) AN 62 ZqF ZHm
 | .b0 ..=>by kernel_rfl
theorem ZtW:Z0a Tryz.prog B0 247 ZMf:=okP ZEc (fun x=>.b0 x.1 x.2.1 x.2.2.1 x.2.2.2.1) (by kernel_rfl) Tryz.func247 (by kernel_rfl) (by kernel_rfl) (fun _=>rfl) (fun _=>rfl)
inductive Zf4 where
 | b0 (a0 a1:List Int)
 | b1 (a0 a1 a2:List Int) (a3:Int)
 | b2 (a0 a1 a2:List Int) (a3:Int)
noncomputable def Zpr:Zf4->Tr U (Z5y⊕Zf4)
 | .b0 a0 a1=>.chk (([]:List Int).length==0) ( .leaf (.inr (.b1 a0 a1 ([]:List Int) (0:Int))))
 | .b1 a0 a1 a2 a3=>.br (decide (a3<(↑a0.length:Int))) ( .br (decide (a3<(↑a1.length:Int))) ( .chk (a2.length==a2.length) ( .leaf (.inr (.b2 a0 a1 a2 a3)))) ( .chk (a2.length==a2.length) ( .leaf (.inl (⟨a2⟩:Z5y))))) ( .chk (a2.length==a2.length) ( .leaf (.inl (⟨a2⟩:Z5y))))
 | .b2 a0 a1 a2 a3=>.chk (decide (0<=a3/\a3<(↑a0.length:Int))) ( .bind 5 (a0[(Int.toNat a3)]?) (fun(x1:Int)=>.chk (decide (0<=a3/\a3<(↑a1.length:Int))) ( .bind 5 (a1[(Int.toNat a3)]?) (fun(x2:Int)=>.chk (([(bits .xor .u8 x1 x2)]).length==1) ( .chk (a2.length==a2.length) ( .chk (decide ((a2.length+([(bits .xor .u8 x1 x2)]).length)*1<=lim)&&decide (a2.length+([(bits .xor .u8 x1 x2)]).length<=maxLen)) ( .chk ((a2++[(bits .xor .u8 x1 x2)]).length==(a2++[(bits .xor .u8 x1 x2)]).length) ( .leaf (.inr (.b1 a0 a1 (a2++[(bits .xor .u8 x1 x2)]) (w64 (a3+1))))))))))))
noncomputable def Zkj (a0 a1:List Int):Option Z5y:=ZO Zpr (.b0 a0 a1)
def ZpS:Shape:=⟨[OV 62,OV 62],[]⟩
noncomputable def ZyP:HMod U:=⟨[[.s 5 1],[.s 5 1]],[],ZpS,⟨[.one (.own 5 0)],[.row 5 true]⟩,true,1350,fun(y:Z5y)=>(((),()),(y.q0,())),fun x=>Zkj x.1.1.1 x.1.2.1.1,⟨⟨⟨by decide,fun _=>rfl⟩,⟨⟨by decide,fun _=>rfl⟩,trivial⟩⟩,trivial⟩⟩
def Zdk:Lay:=⟨[0,1,5,6],[[.s 5 1],[.s 5 1],[.own 5 1],KP],[.row true],⟨[OV 62,OV 62,.one (.own 5 0),OV 3],[.row 5 true]⟩⟩
def ZLK:Nat->Option Lay
 | 3=>some Zdk
 | 5=>some Zdk
 | _=>none
noncomputable def ZHx:Zf4->Z08 U
 | .b0 a0 a1=>ZB3 Tryz.f245 ZpS (((a0,()),((a1,()),())),())
 | .b1 a0 a1 a2 a3=>spL Tryz.f245 [1,1,0,1,0,0,0,0] Zdk (((a0,()),((a1,()),((),((a3,()),())))),(a2,()))
 | .b2 a0 a1 a2 a3=>spL Tryz.f245 [1,1,0,1,0,0,1,0,0] Zdk (((a0,()),((a1,()),((),((a3,()),())))),(a2,()))
theorem ZBu:ZB5 245 Tryz.f245 msN hsN ZLK [[.own 5 1]] [.row true] 0 ZyP Zpr ZHx:=by intro p;cases p<;>kernel_rfl
theorem ZsX:Z4n Tryz.prog B0 245 ZyP:=okH ZBu (fun x=>.b0 x.1.1.1 x.1.2.1.1) (fun x=>by kernel_rfl) (by kernel_rfl) Tryz.func245 (by kernel_rfl) (by kernel_rfl) (fun x=>by kernel_rfl) (fun x=>by kernel_rfl)
inductive ZbQ where
 | b0 (a0 a1:Int) (a2 a3:List Int)
noncomputable def Zmd:ZbQ->Tr U ((List Int)⊕ZbQ)
 | .b0 a0 a1 a2 a3=>.bind 62 (Zaj a0 a1 (↑a3.length:Int)) (fun(x1:List Int)=>.bind 1350 (Zkj a3 x1) (fun(y2:Z5y)=>.chk (y2.q0.length==y2.q0.length) ( .bind 62 (Zki a0 a1 a2 y2.q0) (fun(x3:List Int)=>.chk (y2.q0.length==y2.q0.length) ( .chk (decide ((y2.q0.length+x3.length)*1<=lim)&&decide (y2.q0.length+x3.length<=maxLen)) ( .chk ((y2.q0++x3).length==(y2.q0++x3).length) ( .leaf (.inl (y2.q0++x3)))))))))
noncomputable def Zm4 (a0 a1:Int) (a2 a3:List Int):Option (List Int):=ZO Zmd (.b0 a0 a1 a2 a3)
noncomputable def ZGl:Mod U:=⟨[29,25,62,62],62,fun x=>Zm4 x.1 x.2.1 x.2.2.1 x.2.2.2.1,by decide⟩
noncomputable def ZBq:ZbQ->Z08 U
 | .b0 a0 a1 a2 a3=>Z0f Tryz.f169 [29,25,62,62] (a0,a1,a2,a3,())
theorem Zzm:Z0g 169 Tryz.f169 (mc ZjX (mc ZtW msN)) (hc [] ZsX hsN) AN 62 Zmd ZBq
 | .b0 ..=>by kernel_rfl
theorem ZCy:Z0a Tryz.prog B0 169 ZGl:=okP Zzm (fun x=>.b0 x.1 x.2.1 x.2.2.1 x.2.2.2.1) (by kernel_rfl) Tryz.func169 (by kernel_rfl) (by kernel_rfl) (fun _=>rfl) (fun _=>rfl)
inductive Z8X where
 | b0 (a0:Zv) (a1 a2:Int)
 | b1 (a0 a1:Int) (a2:Zv)
noncomputable def Ziu:Z8X->Tr U (Int⊕Z8X)
 | .b0 a0 a1 a2=>.br (a1==1) ( .leaf (.inr (.b1 a2 (1:Int) a0))) ( .leaf (.inr (.b1 a2 (0:Int) a0)))
 | .b1 a0 a1 a2=>.leaf (.inl (bits .xor .u64 a2.Z5R (IntKind.wrap .u64 ((IntKind.wrap .u64 ((2:Int)*a0))+a1))))
noncomputable def Zch (a0:Zv) (a1 a2:Int):Option Int:=ZO Ziu (.b0 a0 a1 a2)
noncomputable def ZEI:Mod U:=⟨[41,3,25],25,fun x=>Zch x.1 x.2.1 x.2.2.1,by decide⟩
def Zj3:Lay:=⟨[2,3,7],[KP,KP,KP],[.var k9],⟨[OV 25,PQ 0,OV 25],[VA 41 7]⟩⟩
def ZCs:Nat->Option Lay
 | 4=>some Zj3
 | _=>none
noncomputable def ZA5:Z8X->Z08 U
 | .b0 a0 a1 a2=>Z0f Tryz.f170 [41,3,25] (a0,a1,a2,())
 | .b1 a0 a1 a2=>spL Tryz.f170 [1,1,1,0] Zj3 (((a0,()),((),((a1,()),()))),((a2,()),()))
theorem Zw6:Z0g 170 Tryz.f170 msN hsN ZCs 25 Ziu ZA5:=by intro p;cases p<;>kernel_rfl
theorem Znw:Z0a Tryz.prog B0 170 ZEI:=okP Zw6 (fun x=>.b0 x.1 x.2.1 x.2.2.1) (by kernel_rfl) Tryz.func170 (by kernel_rfl) (by kernel_rfl) (fun _=>rfl) (fun _=>rfl)
inductive Zcb where
 | b0 (a0:Zv) (a1:Zn)
 | b1 (a0:Zv) (a1 a2:Zn)
noncomputable def ZmB:Zcb->Tr U ((Zn×Int)⊕Zcb)
 | .b0 a0 a1=>.bind 45 (Z3L a1) (fun(x1:Int)=>.br (x1 != 0) ( .leaf (.inl (Z15,x1))) ( .br (!a0.ZP1) ( .leaf (.inl (a1,0))) ( .bind 4 (Z6G a1.ZF) (fun(x2:Bool)=>.br x2 ( .leaf (.inl (a1,0))) ( .leaf (.inr (.b1 a0 a1 (⟨0,0,0,(⟨0,([]:List Int)⟩:Zd)⟩:Zn))))))))
 | .b1 a0 a1 a2=>.br (decide ((↑a1.ZF.Payload.length:Int)>251)) ( .leaf (.inl (Z15,4))) ( .bind 25 (Zch a0 a0.Z1z a0.Tx) (fun(x1:Int)=>.chk (([(IntKind.wrap .u8 (a1.ZF.Z5f))]).length==1) ( .bind 62 (Zm4 a0.Key x1 ([(IntKind.wrap .u8 (a1.ZF.Z5f))]) a1.ZF.Payload) (fun(x2:List Int)=>.bind 70 (Zg8 a1 x2) (fun(x3:Zn)=>.leaf (.inl (x3,0)))))))
noncomputable def ZlQ (a0:Zv) (a1:Zn):Option (Zn×Int):=ZO ZmB (.b0 a0 a1)
noncomputable def ZHd:Mod U:=⟨[41,70],71,fun x=>ZlQ x.1 x.2.1,by decide⟩
def Znq:Lay:=⟨[2,3,4],[KP,KP,KP],[.var k9,.var k5,.var k5],⟨[PQ 0,PQ 1,PQ 2],[VA 41 7,VA 70 5,VA 70 5]⟩⟩
def ZG7:Nat->Option Lay
 | 6=>some Znq
 | _=>none
noncomputable def ZEO:Zcb->Z08 U
 | .b0 a0 a1=>Z0f Tryz.f72 [41,70] (a0,a1,())
 | .b1 a0 a1 a2=>spL Tryz.f72 [1,1,1,0,0] Znq (((),((),((),()))),((a0,()),((a1,()),((a2,()),()))))
theorem Zzd:Z0g 72 Tryz.f72 (mc Zab (mc Z4W (mc ZpT (mc ZCy (mc Znw msN))))) hsN ZG7 71 ZmB ZEO:=by intro p;cases p<;>kernel_rfl
theorem ZBf:Z0a Tryz.prog B0 72 ZHd:=okP Zzd (fun x=>.b0 x.1 x.2.1) (by kernel_rfl) Tryz.func72 (by kernel_rfl) (by kernel_rfl) (fun _=>rfl) (fun _=>rfl)
inductive Z7d where
 | b0 (a0:Zn)
noncomputable def ZeC:Z7d->Tr U (((List Int)×Int)⊕Z7d)
 | .b0 a0=>.bind 45 (Z3L a0) (fun(x1:Int)=>.br (x1 != 0) ( .chk (([]:List Int).length==0) ( .leaf (.inl (([]:List Int),x1)))) ( .chk (([(IntKind.wrap .u8 ((w64 ((w64 ((w64 (a0.ZF.Z5f+(w64 ((4:Int)*a0.Zda))))+(w64 ((8:Int)*a0.SN))))+(w64 ((16:Int)*a0.MD)))))),(IntKind.wrap .u8 ((↑a0.ZF.Payload.length:Int)))]).length==2) ( .chk (decide ((2+a0.ZF.Payload.length)*1<=lim)&&decide (2+a0.ZF.Payload.length<=maxLen)) ( .chk (([(IntKind.wrap .u8 ((w64 ((w64 ((w64 (a0.ZF.Z5f+(w64 ((4:Int)*a0.Zda))))+(w64 ((8:Int)*a0.SN))))+(w64 ((16:Int)*a0.MD)))))),(IntKind.wrap .u8 ((↑a0.ZF.Payload.length:Int)))]++a0.ZF.Payload).length==([(IntKind.wrap .u8 ((w64 ((w64 ((w64 (a0.ZF.Z5f+(w64 ((4:Int)*a0.Zda))))+(w64 ((8:Int)*a0.SN))))+(w64 ((16:Int)*a0.MD)))))),(IntKind.wrap .u8 ((↑a0.ZF.Payload.length:Int)))]++a0.ZF.Payload).length) ( .leaf (.inl (([(IntKind.wrap .u8 ((w64 ((w64 ((w64 (a0.ZF.Z5f+(w64 ((4:Int)*a0.Zda))))+(w64 ((8:Int)*a0.SN))))+(w64 ((16:Int)*a0.MD)))))),(IntKind.wrap .u8 ((↑a0.ZF.Payload.length:Int)))]++a0.ZF.Payload),(0:Int))))))))
noncomputable def Zf6 (a0:Zn):Option ((List Int)×Int):=ZO ZeC (.b0 a0)
noncomputable def ZAA:Mod U:=⟨[70],120,fun x=>Zf6 x.1,by decide⟩
noncomputable def Zut:Z7d->Z08 U
 | .b0 a0=>Z0f Tryz.f73 [70] (a0,())
theorem ZrC:Z0g 73 Tryz.f73 (mc Z4W msN) hsN AN 120 ZeC Zut
 | .b0 ..=>by kernel_rfl
theorem ZuP:Z0a Tryz.prog B0 73 ZAA:=okP ZrC (fun x=>.b0 x.1) (by kernel_rfl) Tryz.func73 (by kernel_rfl) (by kernel_rfl) (fun _=>rfl) (fun _=>rfl)
inductive ZbG where
 | b0 (a0:Int)
noncomputable def ZmJ:ZbG->Tr U ((List Int)⊕ZbG)
 | .b0 a0=>.chk (([(IntKind.wrap .u8 ((Int.tmod a0 256))),(IntKind.wrap .u8 ((Int.tmod (IntKind.wrap .u32 (Int.tdiv a0 256)) (256:Int)))),(IntKind.wrap .u8 ((IntKind.wrap .u32 (Int.tdiv a0 65536))))]).length==3) ( .leaf (.inl ([(IntKind.wrap .u8 ((Int.tmod a0 256))),(IntKind.wrap .u8 ((Int.tmod (IntKind.wrap .u32 (Int.tdiv a0 256)) (256:Int)))),(IntKind.wrap .u8 ((IntKind.wrap .u32 (Int.tdiv a0 65536))))])))
noncomputable def Zg7 (a0:Int):Option (List Int):=ZO ZmJ (.b0 a0)
noncomputable def ZHn:Mod U:=⟨[22],62,fun x=>Zg7 x.1,by decide⟩
noncomputable def ZEf:ZbG->Z08 U
 | .b0 a0=>Z0f Tryz.f172 [22] (a0,())
theorem ZAO:Z0g 172 Tryz.f172 msN hsN AN 62 ZmJ ZEf
 | .b0 ..=>by kernel_rfl
theorem Zr8:Z0a Tryz.prog B0 172 ZHn:=okP ZAO (fun x=>.b0 x.1) (by kernel_rfl) Tryz.func172 (by kernel_rfl) (by kernel_rfl) (fun _=>rfl) (fun _=>rfl)
inductive ZbL where
 | b0 (a0 a1:Int)
noncomputable def Zmf:ZbL->Tr U (Int⊕ZbL)
 | .b0 a0 a1=>.br ((bits .xor .u32 (Int.tmod a0 2) a1)==1) ( .leaf (.inl (bits .xor .u32 (IntKind.wrap .u32 (Int.tdiv a0 2)) (14311424:Int)))) ( .leaf (.inl (IntKind.wrap .u32 (Int.tdiv a0 2))))
noncomputable def Zlk (a0 a1:Int):Option Int:=ZO Zmf (.b0 a0 a1)
noncomputable def ZH1:Mod U:=⟨[22,22],22,fun x=>Zlk x.1 x.2.1,by decide⟩
noncomputable def ZBn:ZbL->Z08 U
 | .b0 a0 a1=>Z0f Tryz.f250 [22,22] (a0,a1,())
theorem ZAi:Z0g 250 Tryz.f250 msN hsN AN 22 Zmf ZBn
 | .b0 ..=>by kernel_rfl
theorem ZDY:Z0a Tryz.prog B0 250 ZH1:=okP ZAi (fun x=>.b0 x.1 x.2.1) (by kernel_rfl) Tryz.func250 (by kernel_rfl) (by kernel_rfl) (fun _=>rfl) (fun _=>rfl)
inductive Zer where
 | b0 (a0:Int) (a1:List Int)
 | b1 (a0:List Int) (a1 a2:Int)
 | b2 (a0:List Int) (a1 a2 a3 a4:Int)
noncomputable def ZoZ:Zer->Tr U (Int⊕Zer)
 | .b0 a0 a1=>.leaf (.inr (.b1 a1 (Int.tmod a0 16777216) (0:Int)))
 | .b1 a0 a1 a2=>.br (decide (a2<(↑a0.length:Int))) ( .chk (decide (0<=a2/\a2<(↑a0.length:Int))) ( .bind 5 (a0[(Int.toNat a2)]?) (fun(x1:Int)=>.leaf (.inr (.b2 a0 a1 a2 (IntKind.wrap .u32 (x1)) (0:Int)))))) ( .leaf (.inl a1))
 | .b2 a0 a1 a2 a3 a4=>.br (decide (a4<8)) ( .bind 22 (Zlk a1 (Int.tmod a3 2)) (fun(x1:Int)=>.leaf (.inr (.b2 a0 x1 a2 (IntKind.wrap .u32 (Int.tdiv a3 2)) (w64 (a4+1)))))) ( .leaf (.inr (.b1 a0 a1 (w64 (a2+1)))))
noncomputable def ZjT (a0:Int) (a1:List Int):Option Int:=ZO ZoZ (.b0 a0 a1)
noncomputable def ZLh:Mod U:=⟨[22,62],22,fun x=>ZjT x.1 x.2.1,by decide⟩
def Zr4:Lay:=⟨[1,5,6],[[.s 5 1],KP,KP],[],⟨[OV 62,OV 22,OV 3],[]⟩⟩
def Zqx:Lay:=⟨[1,5,6,7,8],[[.s 5 1],KP,KP,KP,KP],[],⟨[OV 62,OV 22,OV 3,OV 22,OV 3],[]⟩⟩
def ZMm:Nat->Option Lay
 | 3=>some Zr4
 | 7=>some Zqx
 | _=>none
noncomputable def ZIx:Zer->Z08 U
 | .b0 a0 a1=>Z0f Tryz.f173 [22,62] (a0,a1,())
 | .b1 a0 a1 a2=>spL Tryz.f173 [1,1,0,1,0,0,0,0] Zr4 (((a0,()),((a1,()),((a2,()),()))),())
 | .b2 a0 a1 a2 a3 a4=>spL Tryz.f173 [1,1,0,1,0,0,1,0,0,1,1,0,0,0,0] Zqx (((a0,()),((a1,()),((a2,()),((a3,()),((a4,()),()))))),())
theorem ZC4:Z0g 173 Tryz.f173 (mc ZDY msN) hsN ZMm 22 ZoZ ZIx:=by intro p;cases p<;>kernel_rfl
theorem Zt7:Z0a Tryz.prog B0 173 ZLh:=okP ZC4 (fun x=>.b0 x.1 x.2.1) (by kernel_rfl) Tryz.func173 (by kernel_rfl) (by kernel_rfl) (fun _=>rfl) (fun _=>rfl)
inductive Z72 where
 | b0 (a0:Int) (a1:List Int)
noncomputable def Ze6:Z72->Tr U ((List Int)⊕Z72)
 | .b0 a0 a1=>.chk (([]:List Int).length==0) ( .chk (decide ((0+a1.length)*1<=lim)&&decide (0+a1.length<=maxLen)) ( .bind 22 (ZjT a0 a1) (fun(x1:Int)=>.bind 62 (Zg7 x1) (fun(x2:List Int)=>.chk ((([]:List Int)++a1).length==(([]:List Int)++a1).length) ( .chk (decide (((([]:List Int)++a1).length+x2.length)*1<=lim)&&decide ((([]:List Int)++a1).length+x2.length<=maxLen)) ( .chk (((([]:List Int)++a1)++x2).length==((([]:List Int)++a1)++x2).length) ( .leaf (.inl ((([]:List Int)++a1)++x2)))))))))
noncomputable def Zep (a0:Int) (a1:List Int):Option (List Int):=ZO Ze6 (.b0 a0 a1)
noncomputable def ZwR:Mod U:=⟨[22,62],62,fun x=>Zep x.1 x.2.1,by decide⟩
noncomputable def ZtZ:Z72->Z08 U
 | .b0 a0 a1=>Z0f Tryz.f75 [22,62] (a0,a1,())
theorem Zs9:Z0g 75 Tryz.f75 (mc Zr8 (mc Zt7 msN)) hsN AN 62 Ze6 ZtZ
 | .b0 ..=>by kernel_rfl
theorem ZuF:Z0a Tryz.prog B0 75 ZwR:=okP Zs9 (fun x=>.b0 x.1 x.2.1) (by kernel_rfl) Tryz.func75 (by kernel_rfl) (by kernel_rfl) (fun _=>rfl) (fun _=>rfl)
inductive Z9r where
 | b0 (a0:Int)
noncomputable def ZhG:Z9r->Tr U (Int⊕Z9r)
 | .b0 a0=>.leaf (.inl (w64 ((64:Int)+(if (if (39:Int)<a0 then (39:Int) else a0)>0 then (if (39:Int)<a0 then (39:Int) else a0) else (0:Int)))))
noncomputable def Zih (a0:Int):Option Int:=ZO ZhG (.b0 a0)
noncomputable def ZDJ:Mod U:=⟨[3],3,fun x=>Zih x.1,by decide⟩
noncomputable def ZAa:Z9r->Z08 U
 | .b0 a0=>Z0f Tryz.f248 [3] (a0,())
theorem ZvH:Z0g 248 Tryz.f248 msN hsN AN 3 ZhG ZAa
 | .b0 ..=>by kernel_rfl
theorem ZxG:Z0a Tryz.prog B0 248 ZDJ:=okP ZvH (fun x=>.b0 x.1) (by kernel_rfl) Tryz.func248 (by kernel_rfl) (by kernel_rfl) (fun _=>rfl) (fun _=>rfl)
inductive Zca where
 | b0 (a0:Int)
noncomputable def ZlU:Zca->Tr U (Int⊕Zca)
 | .b0 a0=>.br (decide (a0>=64)) ( .leaf (.inl (bits .xor .i64 (Int.tmod (w64 (a0*2)) 128) (17:Int)))) ( .leaf (.inl (Int.tmod (w64 (a0*2)) 128)))
noncomputable def Zms (a0:Int):Option Int:=ZO ZlU (.b0 a0)
noncomputable def ZGt:Mod U:=⟨[3],3,fun x=>Zms x.1,by decide⟩
noncomputable def ZEC:Zca->Z08 U
 | .b0 a0=>Z0f Tryz.f249 [3] (a0,())
theorem Zxq:Z0g 249 Tryz.f249 msN hsN AN 3 ZlU ZEC
 | .b0 ..=>by kernel_rfl
theorem ZE6:Z0a Tryz.prog B0 249 ZGt:=okP Zxq (fun x=>.b0 x.1) (by kernel_rfl) Tryz.func249 (by kernel_rfl) (by kernel_rfl) (fun _=>rfl) (fun _=>rfl)
inductive Z4D where
 | b0 (a0 a1:Int)
 | b1 (a0:Int) (a1:List Int) (a2 a3:Int)
 | b2 (a0:Int) (a1:List Int) (a2 a3 a4 a5 a6:Int)
noncomputable def ZaV:Z4D->Tr U ((List Int)⊕Z4D)
 | .b0 a0 a1=>.bind 3 (Zih a0) (fun(x1:Int)=>.chk (([]:List Int).length==0) ( .leaf (.inr (.b1 a1 ([]:List Int) x1 (0:Int)))))
 | .b1 a0 a1 a2 a3=>.br (decide (a3<a0)) ( .chk (a1.length==a1.length) ( .leaf (.inr (.b2 a0 a1 a2 a3 (0:Int) (1:Int) (0:Int))))) ( .chk (a1.length==a1.length) ( .leaf (.inl a1)))
 | .b2 a0 a1 a2 a3 a4 a5 a6=>.br (decide (a6<8)) ( .bind 3 (Zms a2) (fun(x1:Int)=>.chk (a1.length==a1.length) ( .leaf (.inr (.b2 a0 a1 x1 a3 (w64 (a4+(w64 (a5*(w64 (Int.tdiv a2 64)))))) (w64 (a5*2)) (w64 (a6+1))))))) ( .chk (([(IntKind.wrap .u8 (a4))]).length==1) ( .chk (a1.length==a1.length) ( .chk (decide ((a1.length+([(IntKind.wrap .u8 (a4))]).length)*1<=lim)&&decide (a1.length+([(IntKind.wrap .u8 (a4))]).length<=maxLen)) ( .chk ((a1++[(IntKind.wrap .u8 (a4))]).length==(a1++[(IntKind.wrap .u8 (a4))]).length) ( .leaf (.inr (.b1 a0 (a1++[(IntKind.wrap .u8 (a4))]) a2 (w64 (a3+1)))))))))
noncomputable def ZaJ (a0 a1:Int):Option (List Int):=ZO ZaV (.b0 a0 a1)
noncomputable def Zsu:Mod U:=⟨[3,3],62,fun x=>ZaJ x.1 x.2.1,by decide⟩
def Zdx:Lay:=⟨[1,5,6,7],[KP,[.own 5 1],KP,KP],[.row true],⟨[OV 3,.one (.own 5 0),OV 3,OV 3],[.row 5 true]⟩⟩
def Zdp:Lay:=⟨[1,5,6,7,8,9,10],[KP,[.own 5 1],KP,KP,KP,KP,KP],[.row true],⟨[OV 3,.one (.own 5 0),OV 3,OV 3,OV 3,OV 3,OV 3],[.row 5 true]⟩⟩
def Zrx:Nat->Option Lay
 | 4=>some Zdx
 | 8=>some Zdp
 | _=>none
noncomputable def ZqZ:Z4D->Z08 U
 | .b0 a0 a1=>Z0f Tryz.f171 [3,3] (a0,a1,())
 | .b1 a0 a1 a2 a3=>spL Tryz.f171 [1,1,1,0,1,0,0,0,0] Zdx (((a0,()),((),((a2,()),((a3,()),())))),(a1,()))
 | .b2 a0 a1 a2 a3 a4 a5 a6=>spL Tryz.f171 [1,1,1,0,1,0,0,1,0,0,1,0,1,0,0,0,0] Zdp (((a0,()),((),((a2,()),((a3,()),((a4,()),((a5,()),((a6,()),()))))))),(a1,()))
theorem ZnY:Z0g 171 Tryz.f171 (mc ZxG (mc ZE6 msN)) hsN Zrx 62 ZaV ZqZ:=by intro p;cases p<;>kernel_rfl
theorem Zq3:Z0a Tryz.prog B0 171 Zsu:=okP ZnY (fun x=>.b0 x.1 x.2.1) (by kernel_rfl) Tryz.func171 (by kernel_rfl) (by kernel_rfl) (fun _=>rfl) (fun _=>rfl)
inductive Z9Z where
 | b0 (a0:Int) (a1:List Int)
 | b1 (a0 a1 a2:List Int) (a3:Int)
noncomputable def Zhn:Z9Z->Tr U (Z3N⊕Z9Z)
 | .b0 a0 a1=>.bind 62 (ZaJ a0 (↑a1.length:Int)) (fun(x1:List Int)=>.chk (([]:List Int).length==0) ( .leaf (.inr (.b1 a1 x1 ([]:List Int) (0:Int)))))
 | .b1 a0 a1 a2 a3=>.br (decide (a3<(↑a0.length:Int))) ( .chk (decide (0<=a3/\a3<(↑a0.length:Int))) ( .bind 5 (a0[(Int.toNat a3)]?) (fun(x1:Int)=>.chk (decide (0<=a3/\a3<(↑a1.length:Int))) ( .bind 5 (a1[(Int.toNat a3)]?) (fun(x2:Int)=>.chk (([(bits .xor .u8 x1 x2)]).length==1) ( .chk (a2.length==a2.length) ( .chk (decide ((a2.length+([(bits .xor .u8 x1 x2)]).length)*1<=lim)&&decide (a2.length+([(bits .xor .u8 x1 x2)]).length<=maxLen)) ( .chk ((a2++[(bits .xor .u8 x1 x2)]).length==(a2++[(bits .xor .u8 x1 x2)]).length) ( .leaf (.inr (.b1 a0 a1 (a2++[(bits .xor .u8 x1 x2)]) (w64 (a3+1))))))))))))) ( .chk (a2.length==a2.length) ( .leaf (.inl (⟨a2⟩:Z3N))))
noncomputable def Zdg (a0:Int) (a1:List Int):Option Z3N:=ZO Zhn (.b0 a0 a1)
def ZiO:Shape:=⟨[OV 3,OV 62],[]⟩
noncomputable def ZoU:HMod U:=⟨[KP,[.s 5 1]],[],ZiO,⟨[.one (.own 5 0)],[.row 5 true]⟩,true,1348,fun(y:Z3N)=>(((),()),(y.q0,())),fun x=>Zdg x.1.1.1 x.1.2.1.1,⟨⟨⟨by decide,fun _=>rfl⟩,⟨⟨by decide,fun _=>rfl⟩,trivial⟩⟩,trivial⟩⟩
def Zk6:Lay:=⟨[1,5,6,7],[[.s 5 1],[.s 5 1],[.own 5 1],KP],[.row true],⟨[OV 62,OV 62,.one (.own 5 0),OV 3],[.row 5 true]⟩⟩
def ZBS:Nat->Option Lay
 | 4=>some Zk6
 | _=>none
noncomputable def ZyJ:Z9Z->Z08 U
 | .b0 a0 a1=>ZB3 Tryz.f74 ZiO (((a0,()),((a1,()),())),())
 | .b1 a0 a1 a2 a3=>spL Tryz.f74 [1,1,1,0,1,0,0,0,0] Zk6 (((a0,()),((a1,()),((),((a3,()),())))),(a2,()))
theorem Zuj:ZB5 74 Tryz.f74 (mc Zq3 msN) hsN ZBS [[.own 5 1]] [.row true] 0 ZoU Zhn ZyJ:=by intro p;cases p<;>kernel_rfl
theorem ZmT:Z4n Tryz.prog B0 74 ZoU:=okH Zuj (fun x=>.b0 x.1.1.1 x.1.2.1.1) (fun x=>by kernel_rfl) (by kernel_rfl) Tryz.func74 (by kernel_rfl) (by kernel_rfl) (fun x=>by kernel_rfl) (fun x=>by kernel_rfl)
inductive ZbJ where
 | b0 (a0:Z9)
 | b1 (a0 a1:Z9) (a2:Zn)
noncomputable def Zmi:ZbJ->Tr U ((Z9×(List Int))⊕ZbJ)
 | .b0 a0=>.br (a0.Z05 != 0) ( .chk (([]:List Int).length==0) ( .leaf (.inl (a0,([]:List Int))))) ( .bind 44 (Zil a0) (fun(x1:Z9)=>.bind 75 (ZlA x1.Arq) (fun(x2:ZK×Zn)=>.br x1.Z0h.ZP1 ( .bind 71 (ZlQ x1.Z0h x2.2) (fun(x3:Zn×Int)=>.br (x3.2==0) ( .leaf (.inr (.b1 ({ x1 with More:=(x2.2.MD==1),Arq:=x2.1 }:Z9) ZH x3.1))) ( .leaf (.inr (.b1 ({ x1 with More:=(x2.2.MD==1),Arq:=x2.1 }:Z9) ZH x2.2))))) ( .leaf (.inr (.b1 ({ x1 with More:=(x2.2.MD==1),Arq:=x2.1 }:Z9) ZH x2.2))))))
 | .b1 a0 a1 a2=>.bind 120 (Zf6 a2) (fun(x1:(List Int)×Int)=>.bind 3 (Z8i a0) (fun(x2:Int)=>.bind 62 (Zep a0.ZN.ZOI x1.1) (fun(x3:List Int)=>.bind 1348 (Zdg x2 x3) (fun(y4:Z3N)=>.chk (y4.q0.length==y4.q0.length) ( .leaf (.inl (a0,y4.q0)))))))
noncomputable def ZfI (a0:Z9):Option (Z9×(List Int)):=ZO Zmi (.b0 a0)
noncomputable def ZGw:Mod U:=⟨[44],63,fun x=>ZfI x.1,by decide⟩
def Znn:Lay:=⟨[1,2,5],[KP,KP,KP],[.var k2,.var k2,.var k5],⟨[PQ 0,PQ 1,PQ 2],[VA 44 66,VA 44 66,VA 70 5]⟩⟩
def ZGZ:Nat->Option Lay
 | 11=>some Znn
 | _=>none
noncomputable def ZDe:ZbJ->Z08 U
 | .b0 a0=>Z0f Tryz.f24 [44] (a0,())
 | .b1 a0 a1 a2=>spL Tryz.f24 [1,1,1,1,1,1,1,0] Znn (((),((),((),()))),((a0,()),((a1,()),((a2,()),()))))
theorem Zyr:Z0g 24 Tryz.f24 (mc ZgE (mc Zxx (mc ZEE (mc ZBf (mc ZuP (mc ZuF msN)))))) (hc [] ZmT hsN) ZGZ 63 Zmi ZDe:=by intro p;cases p<;>kernel_rfl
theorem ZDQ:Z0a Tryz.prog B0 24 ZGw:=okP Zyr (fun x=>.b0 x.1) (by kernel_rfl) Tryz.func24 (by kernel_rfl) (by kernel_rfl) (fun _=>rfl) (fun _=>rfl)
inductive Zb9 where
 | b0 (a0:Zk)
noncomputable def Zce:Zb9->Tr U ((Zk×Int)⊕Zb9)
 | .b0 a0=>.bind 4 (Z8u a0 false) (fun(x1:Bool)=>.br x1 ( .leaf (.inl (a0,9))) ( .leaf (.inl (({ a0 with Z3y:=(w64 (a0.Z3y+1)) }:Zk),(0:Int)))))
noncomputable def Z8y (a0:Zk):Option (Zk×Int):=ZO Zce (.b0 a0)
noncomputable def ZHq:Mod U:=⟨[35],129,fun x=>Z8y x.1,by decide⟩
noncomputable def ZDS:Zb9->Z08 U
 | .b0 a0=>Z0f Tryz.f91 [35] (a0,())
theorem ZwX:Z0g 91 Tryz.f91 (mc Zrt msN) hsN AN 129 Zce ZDS
 | .b0 ..=>by kernel_rfl
theorem ZE3:Z0a Tryz.prog B0 91 ZHq:=okP ZwX (fun x=>.b0 x.1) (by kernel_rfl) Tryz.func91 (by kernel_rfl) (by kernel_rfl) (fun _=>rfl) (fun _=>rfl)
inductive Z7c where
 | b0 (a0:Zk) (a1:Bool)
noncomputable def Zai:Z7c->Tr U (Zk⊕Z7c)
 | .b0 a0 a1=>.br a1 ( .leaf (.inl (⟨a0.Z0o,0,false⟩:Zk))) ( .leaf (.inl ({ a0 with Z3y:=0 }:Zk)))
noncomputable def Z75 (a0:Zk) (a1:Bool):Option Zk:=ZO Zai (.b0 a0 a1)
noncomputable def ZAF:Mod U:=⟨[35,4],35,fun x=>Z75 x.1 x.2.1,by decide⟩
noncomputable def Zvh:Z7c->Z08 U
 | .b0 a0 a1=>Z0f Tryz.f92 [35,4] (a0,a1,())
theorem Zsn:Z0g 92 Tryz.f92 msN hsN AN 35 Zai Zvh
 | .b0 ..=>by kernel_rfl
theorem ZwJ:Z0a Tryz.prog B0 92 ZAF:=okP Zsn (fun x=>.b0 x.1 x.2.1) (by kernel_rfl) Tryz.func92 (by kernel_rfl) (by kernel_rfl) (fun _=>rfl) (fun _=>rfl)
inductive Z7b where
 | b0 (a0:List Zj) (a1:Int) (a2:Bool)
 | b1 (a0:Int) (a1:Bool) (a2:List Zj)
 | b2 (a0:Int) (a1:Bool) (a2:List Zj)
 | b3 (a0:Int) (a1:Bool) (a2:List Zj)
 | b4 (a0:Int) (a1:List Zj)
noncomputable def Z3V:Z7b->Tr U ((List Zj)⊕Z7b)
 | .b0 a0 a1 a2=>.chk (([]:List Zj).length==0) ( .chk (decide ((0+a0.length)*16<=lim)&&decide (0+a0.length<=maxLen)) ( .br (decide (a1<0)) ( .chk ((([]:List Zj)++a0).length==(([]:List Zj)++a0).length) ( .leaf (.inl (([]:List Zj)++a0)))) ( .br (decide (a1>=(↑a0.length:Int))) ( .chk ((([]:List Zj)++a0).length==(([]:List Zj)++a0).length) ( .leaf (.inl (([]:List Zj)++a0)))) ( .chk ((([]:List Zj)++a0).length==(([]:List Zj)++a0).length) ( .leaf (.inr (.b1 a1 a2 (([]:List Zj)++a0))))))))
 | .b1 a0 a1 a2=>.br a1 ( .chk (a2.length==a2.length) ( .chk (decide (0<=a0/\a0<(↑a2.length:Int))) ( .chk (a2.length==a2.length) ( .bind 99 (a2[(Int.toNat a0)]?) (fun(x1:Zj)=>.br (decide (x1.Good<65536)) ( .chk (a2.length==a2.length) ( .leaf (.inr (.b2 a0 a1 a2)))) ( .chk (a2.length==a2.length) ( .leaf (.inr (.b3 a0 a1 a2))))))))) ( .chk (a2.length==a2.length) ( .leaf (.inr (.b3 a0 a1 a2))))
 | .b2 a0 a1 a2=>.chk (a2.length==a2.length) ( .chk (decide (0<=a0/\a0<(↑a2.length:Int))) ( .chk (a2.length==a2.length) ( .bind 99 (a2[(Int.toNat a0)]?) (fun(x1:Zj)=>.chk (a2.length==a2.length) ( .chk (decide (0<=a0/\a0<(↑a2.length:Int))) ( .chk (a2.length==a2.length&&decide (0<=(Int.toNat a0))) ( .bind 99 (a2[(Int.toNat a0)]?) (fun(x2:Zj)=>.chk ((a2.set (Int.toNat a0) (⟨(w64 (x1.Good+1)),x2.Bad⟩:Zj)).length==a2.length) ( .leaf (.inr (.b3 a0 a1 (a2.set (Int.toNat a0) (⟨(w64 (x1.Good+1)),x2.Bad⟩:Zj)))))))))))))
 | .b3 a0 a1 a2=>.br (!a1) ( .chk (a2.length==a2.length) ( .chk (decide (0<=a0/\a0<(↑a2.length:Int))) ( .chk (a2.length==a2.length) ( .bind 99 (a2[(Int.toNat a0)]?) (fun(x1:Zj)=>.br (decide (x1.Bad<65536)) ( .chk (a2.length==a2.length) ( .leaf (.inr (.b4 a0 a2)))) ( .chk (a2.length==a2.length) ( .leaf (.inl a2)))))))) ( .chk (a2.length==a2.length) ( .leaf (.inl a2)))
 | .b4 a0 a1=>.chk (a1.length==a1.length) ( .chk (decide (0<=a0/\a0<(↑a1.length:Int))) ( .chk (a1.length==a1.length) ( .bind 99 (a1[(Int.toNat a0)]?) (fun(x1:Zj)=>.chk (a1.length==a1.length) ( .chk (decide (0<=a0/\a0<(↑a1.length:Int))) ( .chk (a1.length==a1.length&&decide (0<=(Int.toNat a0))) ( .bind 99 (a1[(Int.toNat a0)]?) (fun(x2:Zj)=>.chk ((a1.set (Int.toNat a0) (⟨x2.Good,(w64 (x1.Bad+1))⟩:Zj)).length==a1.length) ( .leaf (.inl (a1.set (Int.toNat a0) (⟨x2.Good,(w64 (x1.Bad+1))⟩:Zj))))))))))))
noncomputable def Z3Q (a0:List Zj) (a1:Int) (a2:Bool):Option (List Zj):=ZO Z3V (.b0 a0 a1 a2)
noncomputable def ZzW:Mod U:=⟨[42,3,4],42,fun x=>Z3Q x.1 x.2.1 x.2.2.1,by decide⟩
def Z3n:Lay:=⟨[1,2,7],[KP,KP,[.own 99 2]],[.row true],⟨[OV 3,OV 4,.one (.own 99 0)],[.row 99 true]⟩⟩
def Zh5:Lay:=⟨[1,7],[KP,[.own 99 2]],[.row true],⟨[OV 3,.one (.own 99 0)],[.row 99 true]⟩⟩
def Zzt:Nat->Option Lay
 | 4=>some Z3n
 | 5=>some Z3n
 | 6=>some Z3n
 | 7=>some Zh5
 | _=>none
noncomputable def Zw2:Z7b->Z08 U
 | .b0 a0 a1 a2=>Z0f Tryz.f93 [42,3,4] (a0,a1,a2,())
 | .b1 a0 a1 a2=>spL Tryz.f93 [1,1,1,0,0] Z3n (((a0,()),((a1,()),((),()))),(a2,()))
 | .b2 a0 a1 a2=>spL Tryz.f93 [1,1,1,0,1,0] Z3n (((a0,()),((a1,()),((),()))),(a2,()))
 | .b3 a0 a1 a2=>spL Tryz.f93 [1,1,1,1,0,0] Z3n (((a0,()),((a1,()),((),()))),(a2,()))
 | .b4 a0 a1=>spL Tryz.f93 [1,1,1,1,0,1,0] Zh5 (((a0,()),((),())),(a1,()))
theorem ZrL:Z0g 93 Tryz.f93 msN hsN Zzt 42 Z3V Zw2:=by intro p;cases p<;>kernel_rfl
theorem Zka:Z0a Tryz.prog B0 93 ZzW:=okP ZrL (fun x=>.b0 x.1 x.2.1 x.2.2.1) (by kernel_rfl) Tryz.func93 (by kernel_rfl) (by kernel_rfl) (fun _=>rfl) (fun _=>rfl)
inductive Zc3 where
 | b0 (a0 a1:Int)
 | b1 (a0:Int)
noncomputable def Z8w:Zc3->Tr U (Int⊕Zc3)
 | .b0 a0 a1=>.br (decide ((w64 ((w64 (a1)) - (w64 (a0)))) < -32768)) ( .leaf (.inr (.b1 (w64 ((w64 ((w64 (a1)) - (w64 (a0))))+65536))))) ( .leaf (.inr (.b1 (w64 ((w64 (a1)) - (w64 (a0)))))))
 | .b1 a0=>.br (decide (a0>32767)) ( .leaf (.inl (w64 (a0 - 65536)))) ( .leaf (.inl a0))
noncomputable def ZfZ (a0 a1:Int):Option Int:=ZO Z8w (.b0 a0 a1)
noncomputable def ZH9:Mod U:=⟨[30,30],3,fun x=>ZfZ x.1 x.2.1,by decide⟩
def Zng:Lay:=⟨[5],[KP],[],⟨[OV 3],[]⟩⟩
def ZGY:Nat->Option Lay
 | 4=>some Zng
 | _=>none
noncomputable def ZBs:Zc3->Z08 U
 | .b0 a0 a1=>Z0f Tryz.f333 [30,30] (a0,a1,())
 | .b1 a0=>spL Tryz.f333 [1,1,1,0,0] Zng (((a0,()),()),())
theorem ZAM:Z0g 333 Tryz.f333 msN hsN ZGY 3 Z8w ZBs:=by intro p;cases p<;>kernel_rfl
theorem ZC8:Z0a Tryz.prog B0 333 ZH9:=okP ZAM (fun x=>.b0 x.1 x.2.1) (by kernel_rfl) Tryz.func333 (by kernel_rfl) (by kernel_rfl) (fun _=>rfl) (fun _=>rfl)
inductive Z7t where
 | b0 (a0 a1:Int)
noncomputable def ZaB:Z7t->Tr U (Bool⊕Z7t)
 | .b0 a0 a1=>.bind 3 (ZfZ a1 a0) (fun(x1:Int)=>.leaf (.inl (decide (x1>=0))))
noncomputable def Z4Z (a0 a1:Int):Option Bool:=ZO ZaB (.b0 a0 a1)
noncomputable def Zy8:Mod U:=⟨[30,30],4,fun x=>Z4Z x.1 x.2.1,by decide⟩
noncomputable def Zw3:Z7t->Z08 U
 | .b0 a0 a1=>Z0f Tryz.f258 [30,30] (a0,a1,())
theorem Zs6:Z0g 258 Tryz.f258 (mc ZC8 msN) hsN AN 4 ZaB Zw3
 | .b0 ..=>by kernel_rfl
theorem Zla:Z0a Tryz.prog B0 258 Zy8:=okP Zs6 (fun x=>.b0 x.1 x.2.1) (by kernel_rfl) Tryz.func258 (by kernel_rfl) (by kernel_rfl) (fun _=>rfl) (fun _=>rfl)
inductive Zej where
 | b0 (a0:List Z8) (a1:Int)
 | b1 (a0:List Z8) (a1:Int) (a2 a3:List Z8) (a4:Int)
 | b2 (a0:List Z8) (a1:Int) (a2 a3:List Z8) (a4:Int)
noncomputable def Z4t:Zej->Tr U (((List Z8)×(List Z8))⊕Zej)
 | .b0 a0 a1=>.chk ((([]:List Z8).length==0)&&(([]:List Z8).length==0)) ( .leaf (.inr (.b1 a0 a1 ([]:List Z8) ([]:List Z8) (0:Int))))
 | .b1 a0 a1 a2 a3 a4=>.br (decide (a4<(↑a0.length:Int))) ( .chk (decide (0<=a4/\a4<(↑a0.length:Int))) ( .bind 138 (a0[(Int.toNat a4)]?) (fun(x1:Z8)=>.bind 4 (Z4Z a1 x1.ZQ) (fun(x2:Bool)=>.br x2 ( .chk (decide (0<=a4/\a4<(↑a0.length:Int))) ( .bind 138 (a0[(Int.toNat a4)]?) (fun(x3:Z8)=>.chk (([x3]).length==1) ( .chk (a3.length==a3.length) ( .chk (decide ((a3.length+([x3]).length)*64<=lim)&&decide (a3.length+([x3]).length<=maxLen)) ( .chk ((a2.length==a2.length)&&((a3++[x3]).length==(a3++[x3]).length)) ( .leaf (.inr (.b2 a0 a1 a2 (a3++[x3]) a4))))))))) ( .chk (decide (0<=a4/\a4<(↑a0.length:Int))) ( .bind 138 (a0[(Int.toNat a4)]?) (fun(x4:Z8)=>.chk (([x4]).length==1) ( .chk (a2.length==a2.length) ( .chk (decide ((a2.length+([x4]).length)*64<=lim)&&decide (a2.length+([x4]).length<=maxLen)) ( .chk (((a2++[x4]).length==(a2++[x4]).length)&&(a3.length==a3.length)) ( .leaf (.inr (.b2 a0 a1 (a2++[x4]) a3 a4))))))))))))) ( .chk (a2.length==a2.length) ( .chk (a3.length==a3.length) ( .leaf (.inl (a2,a3)))))
 | .b2 a0 a1 a2 a3 a4=>.chk ((a2.length==a2.length)&&(a3.length==a3.length)) ( .leaf (.inr (.b1 a0 a1 a2 a3 (w64 (a4+1)))))
noncomputable def ZkS (a0:List Z8) (a1:Int):Option ((List Z8)×(List Z8)):=ZO Z4t (.b0 a0 a1)
noncomputable def ZJe:Mod U:=⟨[37,30],208,fun x=>ZkS x.1 x.2.1,by decide⟩
def Zcm:Lay:=⟨[0,1,4,5,6],[[.s 138 8],KP,[.own 138 8],[.own 138 8],KP],[.row true,.row true],⟨[OV 37,OV 30,.one (.own 138 0),.one (.own 138 1),OV 3],[.row 138 true,.row 138 true]⟩⟩
def ZJg:Nat->Option Lay
 | 3=>some Zcm
 | 4=>some Zcm
 | _=>none
noncomputable def ZHs:Zej->Z08 U
 | .b0 a0 a1=>Z0f Tryz.f186 [37,30] (a0,a1,())
 | .b1 a0 a1 a2 a3 a4=>spL Tryz.f186 [1,1,0,1,0,0,0,0] Zcm (((a0,()),((a1,()),((),((),((a4,()),()))))),(a2,(a3,())))
 | .b2 a0 a1 a2 a3 a4=>spL Tryz.f186 [1,1,0,1,0,0,1,1] Zcm (((a0,()),((a1,()),((),((),((a4,()),()))))),(a2,(a3,())))
theorem ZEl:Z0g 186 Tryz.f186 (mc Zla msN) hsN ZJg 208 Z4t ZHs:=by intro p;cases p<;>kernel_rfl
theorem ZGN:Z0a Tryz.prog B0 186 ZJe:=okP ZEl (fun x=>.b0 x.1 x.2.1) (by kernel_rfl) Tryz.func186 (by kernel_rfl) (by kernel_rfl) (fun _=>rfl) (fun _=>rfl)
inductive Zf8 where
 | b0 (a0:Z7) (a1:Int)
 | b1 (a0 a1:Z7)
 | b2 (a0:List Z8) (a1 a2:Z7)
 | b3 (a0:List Z8) (a1:Int) (a2 a3:Z7)
 | b4 (a0:List Z8) (a1:Int) (a2 a3:Z7)
 | b5 (a0:List Z8) (a1:Int) (a2 a3:Z7)
noncomputable def Z1M:Zf8->Tr U ((Z7×(List Z8))⊕Zf8)
 | .b0 a0 a1=>.bind 208 (ZkS a0.Zo a1) (fun(x1:(List Z8)×(List Z8))=>.br (a0.Z1z==0) ( .br (decide ((↑x1.2.length:Int)>0)) ( .br (!a0.Told) ( .leaf (.inr (.b1 ({ a0 with Zo:=x1.1 }:Z7) ZI))) ( .leaf (.inr (.b2 x1.2 ({ a0 with Zo:=x1.1 }:Z7) ZI)))) ( .leaf (.inr (.b2 x1.2 ({ a0 with Zo:=x1.1 }:Z7) ZI)))) ( .leaf (.inr (.b2 x1.2 ({ a0 with Zo:=x1.1 }:Z7) ZI))))
 | .b1 a0 a1=>.br (a0.Z1n==0) ( .chk (([]:List Z8).length==0) ( .leaf (.inl (({ a0 with Z1n:=40 }:Z7),([]:List Z8))))) ( .chk (([]:List Z8).length==0) ( .leaf (.inl (a0,([]:List Z8)))))
 | .b2 a0 a1 a2=>.leaf (.inr (.b3 a0 (0:Int) a1 a2))
 | .b3 a0 a1 a2 a3=>.br (decide (a1<(↑a0.length:Int))) ( .chk (decide (0<=a1/\a1<(↑a0.length:Int))) ( .bind 138 (a0[(Int.toNat a1)]?) (fun(x1:Z8)=>.br (a2.Own==x1.Kind) ( .leaf (.inr (.b4 a0 a1 ({ a2 with Own:=-1 }:Z7) a3))) ( .leaf (.inr (.b4 a0 a1 a2 a3)))))) ( .leaf (.inl (a2,a0)))
 | .b4 a0 a1 a2 a3=>.chk (decide (0<=a1/\a1<(↑a0.length:Int))) ( .bind 138 (a0[(Int.toNat a1)]?) (fun(x1:Z8)=>.br (a2.Other==x1.Kind) ( .leaf (.inr (.b5 a0 a1 ({ a2 with Other:=-1 }:Z7) a3))) ( .leaf (.inr (.b5 a0 a1 a2 a3)))))
 | .b5 a0 a1 a2 a3=>.leaf (.inr (.b3 a0 (w64 (a1+1)) a2 a3))
noncomputable def ZjM (a0:Z7) (a1:Int):Option (Z7×(List Z8)):=ZO Z1M (.b0 a0 a1)
noncomputable def ZKj:Mod U:=⟨[39,30],135,fun x=>ZjM x.1 x.2.1,by decide⟩
def Zq6:Lay:=⟨[2,4],[KP,KP],[.var k0,.var k0],⟨[PQ 0,PQ 1],[VA 39 20,VA 39 20]⟩⟩
def Zpz:Lay:=⟨[2,4,7],[KP,KP,[.s 138 8]],[.var k0,.var k0],⟨[PQ 0,PQ 1,OV 37],[VA 39 20,VA 39 20]⟩⟩
def Z65:Lay:=⟨[2,4,7,8],[KP,KP,[.s 138 8],KP],[.var k0,.var k0],⟨[PQ 0,PQ 1,OV 37,OV 3],[VA 39 20,VA 39 20]⟩⟩
def ZKU:Nat->Option Lay
 | 4=>some Zq6
 | 7=>some Zpz
 | 8=>some Z65
 | 12=>some Z65
 | 9=>some Z65
 | _=>none
noncomputable def ZGa:Zf8->Z08 U
 | .b0 a0 a1=>Z0f Tryz.f94 [39,30] (a0,a1,())
 | .b1 a0 a1=>spL Tryz.f94 [1,1,1,0,1,0,0,0] Zq6 (((),((),())),((a0,()),((a1,()),())))
 | .b2 a0 a1 a2=>spL Tryz.f94 [1,1,1,1,0,0] Zpz (((),((),((a0,()),()))),((a1,()),((a2,()),())))
 | .b3 a0 a1 a2 a3=>spL Tryz.f94 [1,1,1,1,0,1,0,0,0,0] Z65 (((),((),((a0,()),((a1,()),())))),((a2,()),((a3,()),())))
 | .b4 a0 a1 a2 a3=>spL Tryz.f94 [1,1,1,1,0,1,0,0,1,0,0,1,0] Z65 (((),((),((a0,()),((a1,()),())))),((a2,()),((a3,()),())))
 | .b5 a0 a1 a2 a3=>spL Tryz.f94 [1,1,1,1,0,1,0,0,1,1] Z65 (((),((),((a0,()),((a1,()),())))),((a2,()),((a3,()),())))
theorem ZCc:Z0g 94 Tryz.f94 (mc ZGN msN) hsN ZKU 135 Z1M ZGa:=by intro p;cases p<;>kernel_rfl
theorem ZHr:Z0a Tryz.prog B0 94 ZKj:=okP ZCc (fun x=>.b0 x.1 x.2.1) (by kernel_rfl) Tryz.func94 (by kernel_rfl) (by kernel_rfl) (fun _=>rfl) (fun _=>rfl)
inductive Zes where
 | b0 (a0:Zk) (a1:Int)
noncomputable def Ze8:Zes->Tr U (Zk⊕Zes)
 | .b0 a0 a1=>.bind 35 (ZbZ a1) (fun(x1:Zk)=>.leaf (.inl x1))
noncomputable def ZeA (a0:Zk) (a1:Int):Option Zk:=ZO Ze8 (.b0 a0 a1)
noncomputable def ZJS:Mod U:=⟨[35,3],35,fun x=>ZeA x.1 x.2.1,by decide⟩
noncomputable def ZIA:Zes->Z08 U
 | .b0 a0 a1=>Z0f Tryz.f187 [35,3] (a0,a1,())
theorem ZCf:Z0g 187 Tryz.f187 (mc Ztq msN) hsN AN 35 Ze8 ZIA
 | .b0 ..=>by kernel_rfl
theorem ZHW:Z0a Tryz.prog B0 187 ZJS:=okP ZCf (fun x=>.b0 x.1 x.2.1) (by kernel_rfl) Tryz.func187 (by kernel_rfl) (by kernel_rfl) (fun _=>rfl) (fun _=>rfl)
inductive Z9L where
 | b0 (a0:Z9) (a1:Z8)
 | b1 (a0:Z9) (a1:Z8) (a2:Z9)
noncomputable def Z6s:Z9L->Tr U (Z9⊕Z9L)
 | .b0 a0 a1=>.br (a1.Kind==1) ( .leaf (.inl ({ a0 with ZN:=({ a0.ZN with Map:=a1.Map }:Zy) }:Z9))) ( .br (a0.Z1z==1) ( .leaf (.inr (.b1 ({ a0 with ZN:=({ a0.ZN with Zt:=a1.Zt }:Zy),Z19:=(w64 (a0.Z19+(w64 ((1250:Int)*a1.Zt.Z0r)))),Size:=(w64 (a0.Size+(w64 ((1250:Int)*a1.Zt.Z1E)))) }:Z9) a1 ZH))) ( .leaf (.inr (.b1 ({ a0 with ZN:=({ a0.ZN with Zt:=a1.Zt }:Zy),Z19:=(w64 (a0.Z19+(w64 ((1250:Int)*a1.Zt.Z0r)))) }:Z9) a1 ZH))))
 | .b1 a0 a1 a2=>.bind 35 (ZeA a0.Z0y a1.Zt.Z0o) (fun(x1:Zk)=>.leaf (.inl ({ a0 with Z0y:=x1 }:Z9)))
noncomputable def Zcj (a0:Z9) (a1:Z8):Option Z9:=ZO Z6s (.b0 a0 a1)
noncomputable def ZBD:Mod U:=⟨[44,138],44,fun x=>Zcj x.1 x.2.1,by decide⟩
def Zjn:Lay:=⟨[2,3,4],[KP,KP,KP],[.var k2,.var k10,.var k2],⟨[PQ 0,PQ 1,PQ 2],[VA 44 66,VA 138 8,VA 44 66]⟩⟩
def ZCU:Nat->Option Lay
 | 8=>some Zjn
 | _=>none
noncomputable def ZAC:Z9L->Z08 U
 | .b0 a0 a1=>Z0f Tryz.f95 [44,138] (a0,a1,())
 | .b1 a0 a1 a2=>spL Tryz.f95 [1,1,1,1,1,0] Zjn (((),((),((),()))),((a0,()),((a1,()),((a2,()),()))))
theorem ZwP:Z0g 95 Tryz.f95 (mc ZHW msN) hsN ZCU 44 Z6s ZAC:=by intro p;cases p<;>kernel_rfl
theorem Zz8:Z0a Tryz.prog B0 95 ZBD:=okP ZwP (fun x=>.b0 x.1 x.2.1) (by kernel_rfl) Tryz.func95 (by kernel_rfl) (by kernel_rfl) (fun _=>rfl) (fun _=>rfl)
inductive Z9c where
 | b0 (a0:Int)
noncomputable def Zdc:Z9c->Tr U (Bool⊕Z9c)
 | .b0 a0=>.br (a0==0) ( .leaf (.inl true)) ( .leaf (.inl (a0==1)))
noncomputable def Z2y (a0:Int):Option Bool:=ZO Zdc (.b0 a0)
noncomputable def ZDB:Mod U:=⟨[3],4,fun x=>Z2y x.1,by decide⟩
noncomputable def Zzi:Z9c->Z08 U
 | .b0 a0=>Z0f Tryz.f259 [3] (a0,())
theorem Zwe:Z0g 259 Tryz.f259 msN hsN AN 4 Zdc Zzi
 | .b0 ..=>by kernel_rfl
theorem Z4Q:Z0a Tryz.prog B0 259 ZDB:=okP Zwe (fun x=>.b0 x.1) (by kernel_rfl) Tryz.func259 (by kernel_rfl) (by kernel_rfl) (fun _=>rfl) (fun _=>rfl)
inductive Zff where
 | b0 (a0:Z7) (a1:Z4)
noncomputable def Zjg:Zff->Tr U (Bool⊕Zff)
 | .b0 a0 a1=>.bind 4 (Z2y a1.Kind) (fun(x1:Bool)=>.br (!x1) ( .leaf (.inl true)) ( .leaf (.inl ((↑a0.Zo.length:Int)==0))))
noncomputable def Zet (a0:Z7) (a1:Z4):Option Bool:=ZO Zjg (.b0 a0 a1)
noncomputable def ZKB:Mod U:=⟨[39,156],4,fun x=>Zet x.1 x.2.1,by decide⟩
noncomputable def ZFM:Zff->Z08 U
 | .b0 a0 a1=>Z0f Tryz.f188 [39,156] (a0,a1,())
theorem ZDR:Z0g 188 Tryz.f188 (mc Z4Q msN) hsN AN 4 Zjg ZFM
 | .b0 ..=>by kernel_rfl
theorem Zt0:Z0a Tryz.prog B0 188 ZKB:=okP ZDR (fun x=>.b0 x.1 x.2.1) (by kernel_rfl) Tryz.func188 (by kernel_rfl) (by kernel_rfl) (fun _=>rfl) (fun _=>rfl)
inductive Zfg where
 | b0 (a0 a1:Int)
noncomputable def Zjx:Zfg->Tr U (Int⊕Zfg)
 | .b0 a0 a1=>.leaf (.inl (IntKind.wrap .u16 ((Int.tmod (w64 ((w64 ((w64 (a0))+(Int.tmod a1 65536)))+65536)) (65536:Int)))))
noncomputable def ZdY (a0 a1:Int):Option Int:=ZO Zjx (.b0 a0 a1)
noncomputable def ZKW:Mod U:=⟨[30,3],30,fun x=>ZdY x.1 x.2.1,by decide⟩
noncomputable def ZGh:Zfg->Z08 U
 | .b0 a0 a1=>Z0f Tryz.f190 [30,3] (a0,a1,())
theorem ZEn:Z0g 190 Tryz.f190 msN hsN AN 30 Zjx ZGh
 | .b0 ..=>by kernel_rfl
theorem ZsV:Z0a Tryz.prog B0 190 ZKW:=okP ZEn (fun x=>.b0 x.1 x.2.1) (by kernel_rfl) Tryz.func190 (by kernel_rfl) (by kernel_rfl) (fun _=>rfl) (fun _=>rfl)
inductive Zc0 where
 | b0 (a0 a1:Int)
noncomputable def ZfW:Zc0->Tr U (Int⊕Zc0)
 | .b0 a0 a1=>.bind 30 (ZdY a0 (w64 ((6:Int)+(if (if (499:Int)<a1 then (499:Int) else a1)>0 then (if (499:Int)<a1 then (499:Int) else a1) else (0:Int))))) (fun(x1:Int)=>.leaf (.inl x1))
noncomputable def Zbj (a0 a1:Int):Option Int:=ZO ZfW (.b0 a0 a1)
noncomputable def ZI6:Mod U:=⟨[30,3],30,fun x=>Zbj x.1 x.2.1,by decide⟩
noncomputable def ZBi:Zc0->Z08 U
 | .b0 a0 a1=>Z0f Tryz.f260 [30,3] (a0,a1,())
theorem Zyb:Z0g 260 Tryz.f260 (mc ZsV msN) hsN AN 30 ZfW ZBi
 | .b0 ..=>by kernel_rfl
theorem ZEa:Z0a Tryz.prog B0 260 ZI6:=okP Zyb (fun x=>.b0 x.1 x.2.1) (by kernel_rfl) Tryz.func260 (by kernel_rfl) (by kernel_rfl) (fun _=>rfl) (fun _=>rfl)
inductive Z9q where
 | b0 (a0:Int) (a1:Z8)
 | b1 (a0:Int) (a1:Z8)
noncomputable def Z6w:Z9q->Tr U (Int⊕Z9q)
 | .b0 a0 a1=>.br (a1.Kind != 0) ( .br (a1.Kind != 1) ( .leaf (.inl (12:Int))) ( .leaf (.inr (.b1 a0 a1)))) ( .leaf (.inr (.b1 a0 a1)))
 | .b1 a0 a1=>.bind 4 (Z4Z a0 a1.ZQ) (fun(x1:Bool)=>.br x1 ( .leaf (.inl (18:Int))) ( .leaf (.inl (0:Int))))
noncomputable def Z9M (a0:Int) (a1:Z8):Option Int:=ZO Z6w (.b0 a0 a1)
noncomputable def ZE0:Mod U:=⟨[30,138],45,fun x=>Z9M x.1 x.2.1,by decide⟩
def ZkR:Lay:=⟨[0,3],[KP,KP],[.var k10],⟨[OV 30,PQ 0],[VA 138 8]⟩⟩
def ZBW:Nat->Option Lay
 | 3=>some ZkR
 | _=>none
noncomputable def Zzz:Z9q->Z08 U
 | .b0 a0 a1=>Z0f Tryz.f334 [30,138] (a0,a1,())
 | .b1 a0 a1=>spL Tryz.f334 [1,1,0,0] ZkR (((a0,()),((),())),((a1,()),()))
theorem Zwh:Z0g 334 Tryz.f334 (mc Zla msN) hsN ZBW 45 Z6w Zzz:=by intro p;cases p<;>kernel_rfl
theorem Zy7:Z0a Tryz.prog B0 334 ZE0:=okP Zwh (fun x=>.b0 x.1 x.2.1) (by kernel_rfl) Tryz.func334 (by kernel_rfl) (by kernel_rfl) (fun _=>rfl) (fun _=>rfl)
inductive Zf2 where
 | b0 (a0:List Z8) (a1:Int) (a2:Z8)
noncomputable def Zj2:Zf2->Tr U (((List Z8)×Int)⊕Zf2)
 | .b0 a0 a1 a2=>.chk (([]:List Z8).length==0) ( .chk (decide ((0+a0.length)*64<=lim)&&decide (0+a0.length<=maxLen)) ( .bind 45 (Z9M a1 a2) (fun(x1:Int)=>.br (x1 != 0) ( .chk ((([]:List Z8)++a0).length==(([]:List Z8)++a0).length) ( .leaf (.inl ((([]:List Z8)++a0),x1)))) ( .br (decide ((↑a0.length:Int)>0)) ( .chk ((([]:List Z8)++a0).length==(([]:List Z8)++a0).length) ( .leaf (.inl ((([]:List Z8)++a0),(20:Int))))) ( .chk (([a2]).length==1) ( .chk ((([]:List Z8)++a0).length==(([]:List Z8)++a0).length) ( .chk (decide (((([]:List Z8)++a0).length+([a2]).length)*64<=lim)&&decide ((([]:List Z8)++a0).length+([a2]).length<=maxLen)) ( .chk (((([]:List Z8)++a0)++[a2]).length==((([]:List Z8)++a0)++[a2]).length) ( .leaf (.inl (((([]:List Z8)++a0)++[a2]),(0:Int))))))))))))
noncomputable def Zbr (a0:List Z8) (a1:Int) (a2:Z8):Option ((List Z8)×Int):=ZO Zj2 (.b0 a0 a1 a2)
noncomputable def ZMx:Mod U:=⟨[37,30,138],269,fun x=>Zbr x.1 x.2.1 x.2.2.1,by decide⟩
noncomputable def ZIp:Zf2->Z08 U
 | .b0 a0 a1 a2=>Z0f Tryz.f261 [37,30,138] (a0,a1,a2,())
theorem ZBd:Z0g 261 Tryz.f261 (mc Zy7 msN) hsN AN 269 Zj2 ZIp
 | .b0 ..=>by kernel_rfl
theorem ZtS:Z0a Tryz.prog B0 261 ZMx:=okP ZBd (fun x=>.b0 x.1 x.2.1 x.2.2.1) (by kernel_rfl) Tryz.func261 (by kernel_rfl) (by kernel_rfl) (fun _=>rfl) (fun _=>rfl)
inductive Z7e where
 | b0 (a0:Z4)
noncomputable def Zed:Z7e->Tr U (Z8⊕Z7e)
 | .b0 a0=>.leaf (.inl (⟨a0.Kind,a0.ZQ,a0.Zt,a0.Map⟩:Z8))
noncomputable def Z7m (a0:Z4):Option Z8:=ZO Zed (.b0 a0)
noncomputable def Zyo:Mod U:=⟨[156],138,fun x=>Z7m x.1,by decide⟩
noncomputable def Zu8:Z7e->Z08 U
 | .b0 a0=>Z0f Tryz.f262 [156] (a0,())
theorem ZrZ:Z0g 262 Tryz.f262 msN hsN AN 138 Zed Zu8
 | .b0 ..=>by kernel_rfl
theorem ZkX:Z0a Tryz.prog B0 262 Zyo:=okP ZrZ (fun x=>.b0 x.1) (by kernel_rfl) Tryz.func262 (by kernel_rfl) (by kernel_rfl) (fun _=>rfl) (fun _=>rfl)
inductive Z8M where
 | b0 (a0:Z7) (a1:Z4) (a2 a3:Int)
 | b1 (a0:Int) (a1:Z7) (a2:Z4) (a3:Z7) (a4:Z4)
 | b2 (a0:Int) (a1:Z7) (a2:Z4) (a3:Z7) (a4:Z4)
 | b3 (a0:Z7) (a1:Z4) (a2:Z7) (a3:Z4)
 | b4 (a0:Z7) (a1:Z4) (a2:Z7) (a3:Z4)
 | b5 (a0:Z7) (a1:Z4) (a2:Z7) (a3:Z4)
noncomputable def Z1K:Z8M->Tr U ((Z7×Z4)⊕Z8M)
 | .b0 a0 a1 a2 a3=>.br (a1.Kind==0) ( .br (a1.Kind==0) ( .leaf (.inr (.b1 a2 ({ a0 with Own:=a1.Kind,Since:=a3 }:Z7) a1 ZI Z0x))) ( .leaf (.inr (.b2 a1.Kind ({ a0 with Own:=a1.Kind,Since:=a3 }:Z7) a1 ZI Z0x)))) ( .br (a1.Kind==1) ( .leaf (.inr (.b1 a2 ({ a0 with Own:=a1.Kind,Since:=a3 }:Z7) a1 ZI Z0x))) ( .leaf (.inr (.b2 a1.Kind ({ a0 with Own:=a1.Kind,Since:=a3 }:Z7) a1 ZI Z0x))))
 | .b1 a0 a1 a2 a3 a4=>.bind 30 (Zbj a0 (0:Int)) (fun(x1:Int)=>.bind 138 (Z7m ({ a2 with ZQ:=x1 }:Z4)) (fun(x2:Z8)=>.bind 269 (Zbr a1.Zo a0 x2) (fun(x3:(List Z8)×Int)=>.br (x3.2==0) ( .leaf (.inr (.b3 ({ a1 with Zo:=x3.1 }:Z7) ({ a2 with ZQ:=x1 }:Z4) a3 a4))) ( .leaf (.inr (.b3 a1 ({ a2 with ZQ:=x1 }:Z4) a3 a4))))))
 | .b2 a0 a1 a2 a3 a4=>.br (a0==3) ( .leaf (.inr (.b4 ({ a1 with Z5R:=a2.Z5R,Mark:=a2.Mark,Z29:=1 }:Z7) a2 a3 a4))) ( .br (a0==12) ( .leaf (.inr (.b4 ({ a1 with Z0q:=true }:Z7) a2 a3 a4))) ( .br (a0==20) ( .leaf (.inr (.b4 ({ a1 with Limit:=a2.Length }:Z7) a2 a3 a4))) ( .leaf (.inr (.b4 a1 a2 a3 a4)))))
 | .b3 a0 a1 a2 a3=>.br (a1.Kind==0) ( .br (a0.Other==15) ( .leaf (.inr (.b5 ({ a0 with Told:=false }:Z7) a1 a2 a3))) ( .leaf (.inr (.b4 ({ a0 with Told:=false }:Z7) a1 a2 a3)))) ( .leaf (.inr (.b4 ({ a0 with Told:=false }:Z7) a1 a2 a3)))
 | .b4 a0 a1 a2 a3=>.leaf (.inl (a0,a1))
 | .b5 a0 a1 a2 a3=>.leaf (.inr (.b4 ({ a0 with Other:=-1 }:Z7) a1 a2 a3))
noncomputable def Z92 (a0:Z7) (a1:Z4) (a2 a3:Int):Option (Z7×Z4):=ZO Z1K (.b0 a0 a1 a2 a3)
noncomputable def ZCp:Mod U:=⟨[39,156,30,3],216,fun x=>Z92 x.1 x.2.1 x.2.2.1 x.2.2.2.1,by decide⟩
def ZkL:Lay:=⟨[2,4,5,8,9],[KP,KP,KP,KP,KP],[.var k0,.var k1,.var k0,.var k1],⟨[OV 30,PQ 0,PQ 1,PQ 2,PQ 3],[VA 39 20,VA 156 15,VA 39 20,VA 156 15]⟩⟩
def Zj4:Lay:=⟨[4,5,8,9,18],[KP,KP,KP,KP,KP],[.var k0,.var k1,.var k0,.var k1],⟨[PQ 0,PQ 1,PQ 2,PQ 3,OV 3],[VA 39 20,VA 156 15,VA 39 20,VA 156 15]⟩⟩
def Z46:Lay:=⟨[4,5,8,9],[KP,KP,KP,KP],[.var k0,.var k1,.var k0,.var k1],⟨[PQ 0,PQ 1,PQ 2,PQ 3],[VA 39 20,VA 156 15,VA 39 20,VA 156 15]⟩⟩
def ZBb:Nat->Option Lay
 | 6=>some ZkL
 | 13=>some Zj4
 | 10=>some Z46
 | 21=>some Z46
 | 12=>some Z46
 | _=>none
noncomputable def ZxV:Z8M->Z08 U
 | .b0 a0 a1 a2 a3=>Z0f Tryz.f189 [39,156,30,3] (a0,a1,a2,a3,())
 | .b1 a0 a1 a2 a3 a4=>spL Tryz.f189 [1,1,1,0,1,0,1,0,0] ZkL (((a0,()),((),((),((),((),()))))),((a1,()),((a2,()),((a3,()),((a4,()),())))))
 | .b2 a0 a1 a2 a3 a4=>spL Tryz.f189 [1,1,1,0,1,0,1,1,0] Zj4 (((),((),((),((),((a0,()),()))))),((a1,()),((a2,()),((a3,()),((a4,()),())))))
 | .b3 a0 a1 a2 a3=>spL Tryz.f189 [1,1,1,0,1,0,1,0,1,1,1,0] Z46 (((),((),((),((),())))),((a0,()),((a1,()),((a2,()),((a3,()),())))))
 | .b4 a0 a1 a2 a3=>spL Tryz.f189 [1,1,1,1,0] Z46 (((),((),((),((),())))),((a0,()),((a1,()),((a2,()),((a3,()),())))))
 | .b5 a0 a1 a2 a3=>spL Tryz.f189 [1,1,1,0,1,0,1,0,1,1,1,1,1,0] Z46 (((),((),((),((),())))),((a0,()),((a1,()),((a2,()),((a3,()),())))))
theorem Zvy:Z0g 189 Tryz.f189 (mc ZEa (mc ZtS (mc ZkX msN))) hsN ZBb 216 Z1K ZxV:=by intro p;cases p<;>kernel_rfl
theorem Znf:Z0a Tryz.prog B0 189 ZCp:=okP Zvy (fun x=>.b0 x.1 x.2.1 x.2.2.1 x.2.2.2.1) (by kernel_rfl) Tryz.func189 (by kernel_rfl) (by kernel_rfl) (fun _=>rfl) (fun _=>rfl)
end Go.Proofs.YtjodhcdmhobmoaaGreatDoor
