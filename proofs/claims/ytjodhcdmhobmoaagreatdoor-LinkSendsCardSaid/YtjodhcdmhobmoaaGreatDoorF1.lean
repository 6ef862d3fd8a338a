/- A part of it. -/
import Derived.Test.YtjodhcdmhobmoaaGreatDoorSUn
import Derived.RangeFuncWrites
import Derived.RangeFuncBox
import Derived.RangeFuncLeaves
import Derived.WalkKit
import Derived.OwnWalkIn
import Derived.TacticsInMore
import Derived.RegionIn
import Derived.LoopNIn
import Derived.LoopIn
import Derived.Shelf.Abstract
import Derived.IntWalk
import Derived.Lib.Hide
set_option linter.unusedVariables false
set_option linter.unusedSimpArgs false
namespace Go.Proofs.YtjodhcdmhobmoaaGreatDoor
open Go Go.Proofs.YtjodhcdmhobmoaaGreatDoor.Le
set_option maxRecDepth 100000
noncomputable section
inductive Za where
 | b0 (a0 a1:Aw)
def Z6B:Za->Tr U (Bool⊕Za)
 | .b0 a0 a1=>.br (a0.Bq==a1.Bq) ( .chk (Jd U 5 a0.Payload) ( .chk (Jd U 5 a1.Payload) ( AA ((strOf U 5 a0.Payload).toList==(strOf U 5 a1.Payload).toList)))) ( AA false)
def zO (a0 a1:Aw):Option Bool:=AV Z6B (.b0 a0 a1)
def ZiT:Za->Ac U
 | .b0 a0 a1=>Ai Tryz.f26 [68,68] (a0,a1,())
theorem Zjk:AA1 26 [68,68] 4 (fun x=>zO x.1 x.2.1) rfl:=Aj Ag Ah AN ZiT Tryz.func26 (fun p=>by cases p<;>kernel_rfl) (by kernel_rfl) fun _=>rfl
inductive zI where
 | b0 (a0 a1:List Aw)
 | b1 (a0 a1:List Aw) (a2:Int)
def WN:zI->Tr U (Bool⊕zI)
 | .b0 a0 a1=>.br ((↑a0.length:Int) != (↑a1.length:Int)) ( AA false) ( AO (.b1 a0 a1 (0:Int)))
 | .b1 a0 a1 a2=>.br (decide (a2<(↑a0.length:Int))) ( .chk (decide (0<=a2/\a2<(↑a0.length:Int))) ( .bind 68 (a0[(Int.toNat a2)]?) (fun(x1:Aw)=>.chk (decide (0<=a2/\a2<(↑a1.length:Int))) ( .bind 68 (a1[(Int.toNat a2)]?) (fun(x2:Aw)=>.bind 4 (zO x1 x2) (fun(x3:Bool)=>.br (!x3) ( AA false) ( AO (.b1 a0 a1 (AP (a2+1)))))))))) ( AA true)
def zH (a0 a1:List Aw):Option Bool:=AV WN (.b0 a0 a1)
def Z5H:Lay:=⟨[0,1,5],[[.s 68 2],[.s 68 2],KP],[],⟨[OV 31,OV 31,OV 3],[]⟩⟩
def Zjd:Nat->Option Lay
 | 4=>some Z5H
 | _=>none
def ZhT:zI->Ac U
 | .b0 a0 a1=>Ai Tryz.f49 [31,31] (a0,a1,())
 | .b1 a0 a1 a2=>AA3 Tryz.f49 [1,1,0,1,0,0,0,0] Z5H (a0,a1,a2,())
theorem Zi9:AA1 49 [31,31] 4 (fun x=>zH x.1 x.2.1) rfl:=Aj (mc Zjk Ag) Ah Zjd ZhT Tryz.func49 (fun p=>by cases p<;>kernel_rfl) (by kernel_rfl) fun _=>rfl
inductive yG where
 | b0 (a0 a1:List AL)
 | b1 (a0 a1:List AL) (a2:Int)
def WA:yG->Tr U (Bool⊕yG)
 | .b0 a0 a1=>.br ((↑a0.length:Int) != (↑a1.length:Int)) ( AA false) ( AO (.b1 a0 a1 (0:Int)))
 | .b1 a0 a1 a2=>.br (decide (a2<(↑a0.length:Int))) ( .chk (decide (0<=a2/\a2<(↑a0.length:Int))) ( .bind 156 (a0[(Int.toNat a2)]?) (fun(x1:AL)=>.chk (decide (0<=a2/\a2<(↑a1.length:Int))) ( .bind 156 (a1[(Int.toNat a2)]?) (fun(x2:AL)=>.br (!(Gj x1 x2)) ( AA false) ( AO (.b1 a0 a1 (AP (a2+1))))))))) ( AA true)
def jU (a0 a1:List AL):Option Bool:=AV WA (.b0 a0 a1)
def Z5k:Lay:=⟨[0,1,5],[[.s 156 15],[.s 156 15],KP],[],⟨[OV 36,OV 36,OV 3],[]⟩⟩
def ZhH:Nat->Option Lay
 | 4=>some Z5k
 | _=>none
def ZgE:yG->Ac U
 | .b0 a0 a1=>Ai Tryz.f51 [36,36] (a0,a1,())
 | .b1 a0 a1 a2=>AA3 Tryz.f51 [1,1,0,1,0,0,0,0] Z5k (a0,a1,a2,())
theorem Z5G:AA1 51 [36,36] 4 (fun x=>jU x.1 x.2.1) rfl:=Aj Ag Ah ZhH ZgE Tryz.func51 (fun p=>by cases p<;>kernel_rfl) (by kernel_rfl) fun _=>rfl
inductive Zc where
 | b0 (a0 a1:Aa)
 | b1 (a0 a1:Aa)
 | b2 (a0:Int) (a1 a2:Aa)
def Wj:Zc->Tr U (Bool⊕Zc)
 | .b0 a0 a1=>.bind 4 (jU a0.BI a1.BI) (fun(x1:Bool)=>.br (!x1) ( AA false) ( .br ((↑a0.Bz.length:Int) != (↑a1.Bz.length:Int)) ( AA false) ( AO (.b1 a0 a1))))
 | .b1 a0 a1=>AO (.b2 (0:Int) a0 a1)
 | .b2 a0 a1 a2=>.br (decide (a0<(↑a1.Bz.length:Int))) ( .chk (decide (0<=a0/\a0<(↑a1.Bz.length:Int))) ( .bind 138 (a1.Bz[(Int.toNat a0)]?) (fun(x1:BN)=>.chk (decide (0<=a0/\a0<(↑a2.Bz.length:Int))) ( .bind 138 (a2.Bz[(Int.toNat a0)]?) (fun(x2:BN)=>.br (!((x1.Kind==x2.Kind)&&((x1.DD==x2.DD)&&((x1.BH.EK==x2.BH.EK)&&((x1.BH.EJ==x2.BH.EJ)&&((x1.BH.Df==x2.BH.Df)&&((x1.BH.Dh==x2.BH.Dh)&&((x1.BH.EO==x2.BH.EO)&&((x1.Map==x2.Map)&&true))))))))) ( AA false) ( AO (.b2 (AP (a0+1)) a1 a2))))))) ( .br (a1.Bl==a2.Bl) ( .br (a1.Own==a2.Own) ( .br (a1.Since==a2.Since) ( .br (a1.Other==a2.Other) ( .br (a1.Ir==a2.Ir) ( .br (a1.CQ==a2.CQ) ( .br (a1.MB==a2.MB) ( .br (a1.Hl==a2.Hl) ( .br (a1.Told==a2.Told) ( .br (a1.JK==a2.JK) ( .br (a1.Version==a2.Version) ( .br (a1.Length==a2.Length) ( .br (a1.Limit==a2.Limit) ( .br (a1.Bo==a2.Bo) ( .br (a1.JW==a2.JW) ( .br (a1.Mark==a2.Mark) ( .br (a1.EI==a2.EI) ( AA (a1.GR==a2.GR)) ( AA false)) ( AA false)) ( AA false)) ( AA false)) ( AA false)) ( AA false)) ( AA false)) ( AA false)) ( AA false)) ( AA false)) ( AA false)) ( AA false)) ( AA false)) ( AA false)) ( AA false)) ( AA false)) ( AA false))
def Zo (a0 a1:Aa):Option Bool:=AV Wj (.b0 a0 a1)
def Z6v:Lay:=⟨[2,3],[KP,KP],[.var k1,.var k1],⟨[PQ 0,PQ 1],[VA 39 20,VA 39 20]⟩⟩
def Z6k:Lay:=⟨[2,3,5],[KP,KP,KP],[.var k1,.var k1],⟨[PQ 0,PQ 1,OV 3],[VA 39 20,VA 39 20]⟩⟩
def Zl2:Nat->Option Lay
 | 3=>some Z6v
 | 4=>some Z6k
 | _=>none
def Zke:Zc->Ac U
 | .b0 a0 a1=>Ai Tryz.f50 [39,39] (a0,a1,())
 | .b1 a0 a1=>AA3 Tryz.f50 [1,1,0,0] Z6v (a0,a1,())
 | .b2 a0 a1 a2=>AA3 Tryz.f50 [1,1,0,1,0,0,0,0] Z6k (a0,a1,a2,())
theorem ZjS:AA1 50 [39,39] 4 (fun x=>Zo x.1 x.2.1) rfl:=Aj (mc Z5G Ag) Ah Zl2 Zke Tryz.func50 (fun p=>by cases p<;>kernel_rfl) (by kernel_rfl) fun _=>rfl
inductive Z1K where
 | b0 (a0 a1:A8)
 | b1 (a0:Int) (a1 a2:A8)
 | b2 (a0 a1:A8)
 | b3 (a0 a1:A8)
 | b4 (a0 a1:A8)
def NF:Z1K->Tr U (Bool⊕Z1K)
 | .b0 a0 a1=>.br ((↑a0.DJ.length:Int) != (↑a1.DJ.length:Int)) ( AA false) ( AO (.b1 (0:Int) a0 a1))
 | .b1 a0 a1 a2=>.br (decide (a0<(↑a1.DJ.length:Int))) ( .chk (decide (0<=a0/\a0<(↑a1.DJ.length:Int))) ( .bind 99 (a1.DJ[(Int.toNat a0)]?) (fun(x1:BR)=>.chk (decide (0<=a0/\a0<(↑a2.DJ.length:Int))) ( .bind 99 (a2.DJ[(Int.toNat a0)]?) (fun(x2:BR)=>.br (!((x1.Good==x2.Good)&&((x1.N8==x2.N8)&&true))) ( AA false) ( AO (.b1 (AP (a0+1)) a1 a2))))))) ( .br (a1.BB.SN != a2.BB.SN) ( AA false) ( .br (a1.BB.EF != a2.BB.EF) ( AA false) ( .bind 4 (zH a1.BB.Az a2.BB.Az) (fun(x3:Bool)=>.br (!x3) ( AA false) ( .br (!(a1.BB.Open==a2.BB.Open)) ( AA false) ( .br (!(a1.BB.Empty==a2.BB.Empty)) ( AA false) ( .br (a1.BB.Fp != a2.BB.Fp) ( AA false) ( .br (a1.BB.Taken != a2.BB.Taken) ( AA false) ( AO (.b2 a1 a2))))))))))
 | .b2 a0 a1=>.br (a0.Bl != a1.Bl) ( AA false) ( .br (!((a0.Ce.IC==a1.Ce.IC)&&((a0.Ce.NT==a1.Ce.NT)&&((a0.Ce.BH.EK==a1.Ce.BH.EK)&&((a0.Ce.BH.EJ==a1.Ce.BH.EJ)&&((a0.Ce.BH.Df==a1.Ce.BH.Df)&&((a0.Ce.BH.Dh==a1.Ce.BH.Dh)&&((a0.Ce.BH.EO==a1.Ce.BH.EO)&&((a0.Ce.Map==a1.Ce.Map)&&((a0.Ce.Hop==a1.Ce.Hop)&&((a0.Ce.Pj==a1.Ce.Pj)&&((a0.Ce.KL==a1.Ce.KL)&&true)))))))))))) ( AA false) ( .br (a0.Clock != a1.Clock) ( AA false) ( .br (a0.Event != a1.Event) ( AA false) ( .br (a0.Last != a1.Last) ( AA false) ( .br (a0.Ed != a1.Ed) ( AA false) ( .br (a0.Size != a1.Size) ( AA false) ( .br (a0.Sync != a1.Sync) ( AA false) ( .br (a0.JR != a1.JR) ( AA false) ( AO (.b3 a0 a1))))))))))
 | .b3 a0 a1=>.br (!(a0.Hw==a1.Hw)) ( AA false) ( .br (!(a0.J6==a1.J6)) ( AA false) ( .br (!(a0.Good==a1.Good)) ( AA false) ( .br (!(a0.Fp==a1.Fp)) ( AA false) ( .br (!(a0.More==a1.More)) ( AA false) ( .br (!((a0.GM.Dh==a1.GM.Dh)&&((a0.GM.OC==a1.GM.OC)&&((a0.GM.Full==a1.GM.Full)&&true)))) ( AA false) ( .br (!((a0.ED.Bl==a1.ED.Bl)&&((a0.ED.Key==a1.ED.Key)&&((a0.ED.Bo==a1.ED.Bo)&&((a0.ED.Jp==a1.ED.Jp)&&((a0.ED.NV==a1.ED.NV)&&((a0.ED.Tx==a1.ED.Tx)&&((a0.ED.Rx==a1.ED.Rx)&&true)))))))) ( AA false) ( AO (.b4 a0 a1))))))))
 | .b4 a0 a1=>.bind 4 (Zo a0.Ak a1.Ak) (fun(x1:Bool)=>.br x1 ( .br (a0.Key==a1.Key) ( .bind 4 (jU a0.BA a1.BA) (fun(x2:Bool)=>.br x2 ( .br (a0.Bc==a1.Bc) ( AA (a0.I4==a1.I4)) ( AA false)) ( AA false))) ( AA false)) ( AA false))
def Z2e (a0 a1:A8):Option Bool:=AV NF (.b0 a0 a1)
def Z9s:Lay:=⟨[2,3,5],[KP,KP,KP],[.var k2,.var k2],⟨[PQ 0,PQ 1,OV 3],[VA 44 66,VA 44 66]⟩⟩
def UE:Lay:=⟨[2,3],[KP,KP],[.var k2,.var k2],⟨[PQ 0,PQ 1],[VA 44 66,VA 44 66]⟩⟩
def Zwc:Nat->Option Lay
 | 4=>some Z9s
 | 11=>some UE
 | 13=>some UE
 | 15=>some UE
 | _=>none
def ZrR:Z1K->Ac U
 | .b0 a0 a1=>Ai Tryz.f13 [44,44] (a0,a1,())
 | .b1 a0 a1 a2=>AA3 Tryz.f13 [1,1,0,1,0,0,0,0] Z9s (a0,a1,a2,())
 | .b2 a0 a1=>AA3 Tryz.f13 [1,1,1,1,1,0,0] UE (a0,a1,())
 | .b3 a0 a1=>AA3 Tryz.f13 [1,1,1,1,1,1,0,0] UE (a0,a1,())
 | .b4 a0 a1=>AA3 Tryz.f13 [1,1,1,1,1,1,1,0] UE (a0,a1,())
theorem Zr2:AA1 13 [44,44] 4 (fun x=>Z2e x.1 x.2.1) rfl:=Aj (mc Zi9 (mc ZjS (mc Z5G Ag))) Ah Zwc ZrR Tryz.func13 (fun p=>by cases p<;>kernel_rfl) (by kernel_rfl) fun _=>rfl
theorem Z56:QY Tryz.prog 145 1 1 5:=rF Q9 (t:=62) (tb:=4) (e:=5) Tryz.func145 (by kernel_rfl) (by kernel_rfl) (by kernel_rfl) (by kernel_rfl) (by kernel_rfl) (by kernel_rfl) (by kernel_rfl) (by decide)
def N9 (a0:List Int):Option RD:=if a0.length*1<=lim/\a0.length<=maxLen then some ⟨a0⟩ else none
def Zgc:Shape:=⟨[OV 62],[]⟩
def wI:Shape:=⟨[.one (.own 5 0)],[.row 5 true]⟩
noncomputable def jD:HMod U:={ fa:=[[.s 5 1]],fb:=[],DZ:=Zgc,JX:=wI,one:=true,ky:=1344,N7:=fun(y:RD)=>(((),()),(y.q0,())),fn:=fun x=>N9 x.1.1.1,ok:=okS rfl }
theorem wK:Dv Tryz.prog B0 145 jD:=pU Z56 fun x y hx=>by
 simp only [jD,N9] at hx
 split at hx
 ·rename_i h
  cases hx
  exact⟨_,rfl,rfl,by simp [jD,HMod.out,wI,Shape.enc,JA,JS,IZ,DF,Ej,AU],by simp [jD,HMod.out,wI,Shape.enc,JA,JS,IZ,DF,Ej,BL,CW,Bg],by simpa using h.1,by simpa using h.2⟩
 ·cases hx
theorem Z4X:QY Tryz.prog 146 15 120 156:=rF Q9 (t:=36) (tb:=4) (e:=156) Tryz.func146 (by kernel_rfl) (by kernel_rfl) (by kernel_rfl) (by kernel_rfl) (by kernel_rfl) (by kernel_rfl) (by kernel_rfl) (by decide)
def Vt (a0:List AL):Option Qy:=if a0.length*120<=lim/\a0.length<=maxLen then some ⟨a0⟩ else none
def ZfQ:Shape:=⟨[OV 36],[]⟩
def wB:Shape:=⟨[.one (.own 156 0)],[.row 156 true]⟩
noncomputable def iR:HMod U:={ fa:=[[.s 156 15]],fb:=[],DZ:=ZfQ,JX:=wB,one:=true,ky:=1345,N7:=fun(y:Qy)=>(((),()),(y.q0,())),fn:=fun x=>Vt x.1.1.1,ok:=okS rfl }
theorem ZfS:Dv Tryz.prog B0 146 iR:=pU Z4X fun x y hx=>by
 simp only [iR,Vt] at hx
 split at hx
 ·rename_i h
  cases hx
  exact⟨_,rfl,rfl,by simp [iR,HMod.out,wB,Shape.enc,JA,JS,IZ,DF,Ej,AU],by simp [iR,HMod.out,wB,Shape.enc,JA,JS,IZ,DF,Ej,BL,CW,Bg],by simpa using h.1,by simpa using h.2⟩
 ·cases hx
theorem Z4Z:QY Tryz.prog 147 8 64 138:=rF Q9 (t:=37) (tb:=4) (e:=138) Tryz.func147 (by kernel_rfl) (by kernel_rfl) (by kernel_rfl) (by kernel_rfl) (by kernel_rfl) (by kernel_rfl) (by kernel_rfl) (by decide)
def iU (a0:List BN):Option Vu:=if a0.length*64<=lim/\a0.length<=maxLen then some ⟨a0⟩ else none
def ZfU:Shape:=⟨[OV 37],[]⟩
def wC:Shape:=⟨[.one (.own 138 0)],[.row 138 true]⟩
noncomputable def iT:HMod U:={ fa:=[[.s 138 8]],fb:=[],DZ:=ZfU,JX:=wC,one:=true,ky:=1346,N7:=fun(y:Vu)=>(((),()),(y.q0,())),fn:=fun x=>iU x.1.1.1,ok:=okS rfl }
theorem ZfW:Dv Tryz.prog B0 147 iT:=pU Z4Z fun x y hx=>by
 simp only [iT,iU] at hx
 split at hx
 ·rename_i h
  cases hx
  exact⟨_,rfl,rfl,by simp [iT,HMod.out,wC,Shape.enc,JA,JS,IZ,DF,Ej,AU],by simp [iT,HMod.out,wC,Shape.enc,JA,JS,IZ,DF,Ej,BL,CW,Bg],by simpa using h.1,by simpa using h.2⟩
 ·cases hx
theorem Z51:QY Tryz.prog 148 2 16 99:=rF Q9 (t:=42) (tb:=4) (e:=99) Tryz.func148 (by kernel_rfl) (by kernel_rfl) (by kernel_rfl) (by kernel_rfl) (by kernel_rfl) (by kernel_rfl) (by kernel_rfl) (by decide)
def iY (a0:List BR):Option Vw:=if a0.length*16<=lim/\a0.length<=maxLen then some ⟨a0⟩ else none
def ZfY:Shape:=⟨[OV 42],[]⟩
def wG:Shape:=⟨[.one (.own 99 0)],[.row 99 true]⟩
noncomputable def jA:HMod U:={ fa:=[[.s 99 2]],fb:=[],DZ:=ZfY,JX:=wG,one:=true,ky:=1347,N7:=fun(y:Vw)=>(((),()),(y.q0,())),fn:=fun x=>iY x.1.1.1,ok:=okS rfl }
theorem Zg6:Dv Tryz.prog B0 148 jA:=pU Z51 fun x y hx=>by
 simp only [jA,iY] at hx
 split at hx
 ·rename_i h
  cases hx
  exact⟨_,rfl,rfl,by simp [jA,HMod.out,wG,Shape.enc,JA,JS,IZ,DF,Ej,AU],by simp [jA,HMod.out,wG,Shape.enc,JA,JS,IZ,DF,Ej,BL,CW,Bg],by simpa using h.1,by simpa using h.2⟩
 ·cases hx
end
noncomputable def Z8i:Option Bool:=some true
noncomputable def Z8w:Af U:={ ts:=[],rt:=4,fn:=fun _=>Z8i,ok:=by decide }
theorem Zlg:rX Tryz.prog gl [11,14,15,17,19,22,27,28,37,38,39,40,41,42,52,53,55,57,58,62,63,64,65,66,67,68,78,79,122,123,124,125,126,133,134,135,136,137,143,149,150,152,153,154,155,156,158,159,160,161,218,219,222,223,230,231,232,235,236,237,238,287,321,379,380,381] (fun g=>!([62,63,64,158,159,160,235].contains g)) [(65,9),(62,5)] [(145,1,1,5),(146,15,120,156),(147,8,64,138),(148,2,16,99)]=true:=by kernel_rfl
theorem Zla:AA0 14 Z8w:=Zyf rfl Q9 Zlg (fun p hp=>by simp only [List.mem_cons,List.not_mem_nil,or_false] at hp;rcases hp with rfl|rfl|rfl|rfl<;>first|exact Z56|exact Z4X|exact Z4Z|exact Z51) (by rfl) (by decide) rfl Tryz.func14 (by kernel_rfl) (n:=60) (m:=Z8w) rfl (a:=true) (fun _=>rfl) (by kernel_rfl)
noncomputable section
inductive ZY where
 | b0 (a0:Int)
 | b1 (a0 a1 a2:Int)
def Tz:ZY->Tr U (Int⊕ZY)
 | .b0 a0=>AO (.b1 a0 (0:Int) (0:Int))
 | .b1 a0 a1 a2=>.br (decide (a2<8)) ( .chk (decide (0<=a2)) ( .chk (decide (0<=(AP ((7:Int) - a2)))) ( AO (.b1 a0 (bits .or .u16 a1 (IntKind.wrap .u16 ((bits .and .u16 (Int.fdiv a0 (2 ^ (min (Int.toNat a2) (IntKind.bits .u16)))) (257:Int))*2 ^ (min (Int.toNat (AP ((7:Int) - a2))) (IntKind.bits .u16))))) (AP (a2+1)))))) ( AA a1)
def Z00 (a0:Int):Option Int:=AV Tz (.b0 a0)
def Z6X:Lay:=⟨[0,3,5],[KP,KP,KP],[],⟨[OV 30,OV 30,OV 3],[]⟩⟩
def ZnA:Nat->Option Lay
 | 3=>some Z6X
 | _=>none
def ZlD:ZY->Ac U
 | .b0 a0=>Ai Tryz.f222 [30] (a0,())
 | .b1 a0 a1 a2=>AA3 Tryz.f222 [1,1,0,1,0,0,0] Z6X (a0,a1,a2,())
theorem Zmg:AA1 222 [30] 30 (fun x=>Z00 x.1) rfl:=Aj Ag Ah ZnA ZlD Tryz.func222 (fun p=>by cases p<;>kernel_rfl) (by kernel_rfl) fun _=>rfl
inductive Z0q where
 | b0 (a0 a1:Int)
 | b1 (a0 a1 a2:Int)
def X8:Z0q->Tr U (Int⊕Z0q)
 | .b0 a0 a1=>AO (.b1 a1 (bits .xor .u16 a0 a1) (0:Int))
 | .b1 a0 a1 a2=>.br (decide (a2<3)) ( .bind 30 (Z00 a1) (fun(x1:Int)=>AO (.b1 a0 (IntKind.wrap .u16 ((IntKind.wrap .u16 (x1*17))+a0)) (AP (a2+1))))) ( AA (bits .xor .u16 a1 a0))
def lX (a0 a1:Int):Option Int:=AV X8 (.b0 a0 a1)
def Z7y:Lay:=⟨[1,5,9],[KP,KP,KP],[],⟨[OV 30,OV 30,OV 3],[]⟩⟩
def Zpc:Nat->Option Lay
 | 3=>some Z7y
 | _=>none
def ZnO:Z0q->Ac U
 | .b0 a0 a1=>Ai Tryz.f133 [30,30] (a0,a1,())
 | .b1 a0 a1 a2=>AA3 Tryz.f133 [1,1,0,1,0,0,0] Z7y (a0,a1,a2,())
theorem Z8R:AA1 133 [30,30] 30 (fun x=>lX x.1 x.2.1) rfl:=Aj (mc Zmg Ag) Ah Zpc ZnO Tryz.func133 (fun p=>by cases p<;>kernel_rfl) (by kernel_rfl) fun _=>rfl
inductive Z0N where
 | b0 (a0:Int)
def Zaz:Z0N->Tr U (Int⊕Z0N)
 | .b0 a0=>AA (bits .xor .u16 (IntKind.wrap .u16 ((Int.fdiv a0 (2 ^ (16:Nat))))) (IntKind.wrap .u16 (a0)))
def nJ (a0:Int):Option Int:=AV Zaz (.b0 a0)
def Zom:Z0N->Ac U
 | .b0 a0=>Ai Tryz.f134 [22] (a0,())
theorem Z9h:AA1 134 [22] 30 (fun x=>nJ x.1) rfl:=Aj Ag Ah AN Zom Tryz.func134 (fun p=>by cases p<;>kernel_rfl) (by kernel_rfl) fun _=>rfl
inductive wH where
 | b0 (a0:Int)
def ZfR:wH->Tr U (Int⊕wH)
 | .b0 a0=>AA (bits .and .i64 (AP ((IntKind.wrap .u64 ((IntKind.wrap .u64 ((IntKind.wrap .u64 ((bits .and .u64 (IntKind.wrap .u64 ((Int.fdiv (IntKind.wrap .u64 ((bits .and .u64 (Int.fdiv (IntKind.wrap .u64 ((bits .and .u64 (Int.fdiv a0 (2 ^ (1:Nat))) (6148914691236517205:Int))+(bits .and .u64 a0 (6148914691236517205:Int)))) (2 ^ (2:Nat))) (3689348814741910323:Int))+(bits .and .u64 (IntKind.wrap .u64 ((bits .and .u64 (Int.fdiv a0 (2 ^ (1:Nat))) (6148914691236517205:Int))+(bits .and .u64 a0 (6148914691236517205:Int)))) (3689348814741910323:Int)))) (2 ^ (4:Nat)))+(IntKind.wrap .u64 ((bits .and .u64 (Int.fdiv (IntKind.wrap .u64 ((bits .and .u64 (Int.fdiv a0 (2 ^ (1:Nat))) (6148914691236517205:Int))+(bits .and .u64 a0 (6148914691236517205:Int)))) (2 ^ (2:Nat))) (3689348814741910323:Int))+(bits .and .u64 (IntKind.wrap .u64 ((bits .and .u64 (Int.fdiv a0 (2 ^ (1:Nat))) (6148914691236517205:Int))+(bits .and .u64 a0 (6148914691236517205:Int)))) (3689348814741910323:Int)))))) (1085102592571150095:Int))+(Int.fdiv (bits .and .u64 (IntKind.wrap .u64 ((Int.fdiv (IntKind.wrap .u64 ((bits .and .u64 (Int.fdiv (IntKind.wrap .u64 ((bits .and .u64 (Int.fdiv a0 (2 ^ (1:Nat))) (6148914691236517205:Int))+(bits .and .u64 a0 (6148914691236517205:Int)))) (2 ^ (2:Nat))) (3689348814741910323:Int))+(bits .and .u64 (IntKind.wrap .u64 ((bits .and .u64 (Int.fdiv a0 (2 ^ (1:Nat))) (6148914691236517205:Int))+(bits .and .u64 a0 (6148914691236517205:Int)))) (3689348814741910323:Int)))) (2 ^ (4:Nat)))+(IntKind.wrap .u64 ((bits .and .u64 (Int.fdiv (IntKind.wrap .u64 ((bits .and .u64 (Int.fdiv a0 (2 ^ (1:Nat))) (6148914691236517205:Int))+(bits .and .u64 a0 (6148914691236517205:Int)))) (2 ^ (2:Nat))) (3689348814741910323:Int))+(bits .and .u64 (IntKind.wrap .u64 ((bits .and .u64 (Int.fdiv a0 (2 ^ (1:Nat))) (6148914691236517205:Int))+(bits .and .u64 a0 (6148914691236517205:Int)))) (3689348814741910323:Int)))))) (1085102592571150095:Int)) (2 ^ (8:Nat)))))+(Int.fdiv (IntKind.wrap .u64 ((bits .and .u64 (IntKind.wrap .u64 ((Int.fdiv (IntKind.wrap .u64 ((bits .and .u64 (Int.fdiv (IntKind.wrap .u64 ((bits .and .u64 (Int.fdiv a0 (2 ^ (1:Nat))) (6148914691236517205:Int))+(bits .and .u64 a0 (6148914691236517205:Int)))) (2 ^ (2:Nat))) (3689348814741910323:Int))+(bits .and .u64 (IntKind.wrap .u64 ((bits .and .u64 (Int.fdiv a0 (2 ^ (1:Nat))) (6148914691236517205:Int))+(bits .and .u64 a0 (6148914691236517205:Int)))) (3689348814741910323:Int)))) (2 ^ (4:Nat)))+(IntKind.wrap .u64 ((bits .and .u64 (Int.fdiv (IntKind.wrap .u64 ((bits .and .u64 (Int.fdiv a0 (2 ^ (1:Nat))) (6148914691236517205:Int))+(bits .and .u64 a0 (6148914691236517205:Int)))) (2 ^ (2:Nat))) (3689348814741910323:Int))+(bits .and .u64 (IntKind.wrap .u64 ((bits .and .u64 (Int.fdiv a0 (2 ^ (1:Nat))) (6148914691236517205:Int))+(bits .and .u64 a0 (6148914691236517205:Int)))) (3689348814741910323:Int)))))) (1085102592571150095:Int))+(Int.fdiv (bits .and .u64 (IntKind.wrap .u64 ((Int.fdiv (IntKind.wrap .u64 ((bits .and .u64 (Int.fdiv (IntKind.wrap .u64 ((bits .and .u64 (Int.fdiv a0 (2 ^ (1:Nat))) (6148914691236517205:Int))+(bits .and .u64 a0 (6148914691236517205:Int)))) (2 ^ (2:Nat))) (3689348814741910323:Int))+(bits .and .u64 (IntKind.wrap .u64 ((bits .and .u64 (Int.fdiv a0 (2 ^ (1:Nat))) (6148914691236517205:Int))+(bits .and .u64 a0 (6148914691236517205:Int)))) (3689348814741910323:Int)))) (2 ^ (4:Nat)))+(IntKind.wrap .u64 ((bits .and .u64 (Int.fdiv (IntKind.wrap .u64 ((bits .and .u64 (Int.fdiv a0 (2 ^ (1:Nat))) (6148914691236517205:Int))+(bits .and .u64 a0 (6148914691236517205:Int)))) (2 ^ (2:Nat))) (3689348814741910323:Int))+(bits .and .u64 (IntKind.wrap .u64 ((bits .and .u64 (Int.fdiv a0 (2 ^ (1:Nat))) (6148914691236517205:Int))+(bits .and .u64 a0 (6148914691236517205:Int)))) (3689348814741910323:Int)))))) (1085102592571150095:Int)) (2 ^ (8:Nat))))) (2 ^ (16:Nat)))))+(Int.fdiv (IntKind.wrap .u64 ((IntKind.wrap .u64 ((bits .and .u64 (IntKind.wrap .u64 ((Int.fdiv (IntKind.wrap .u64 ((bits .and .u64 (Int.fdiv (IntKind.wrap .u64 ((bits .and .u64 (Int.fdiv a0 (2 ^ (1:Nat))) (6148914691236517205:Int))+(bits .and .u64 a0 (6148914691236517205:Int)))) (2 ^ (2:Nat))) (3689348814741910323:Int))+(bits .and .u64 (IntKind.wrap .u64 ((bits .and .u64 (Int.fdiv a0 (2 ^ (1:Nat))) (6148914691236517205:Int))+(bits .and .u64 a0 (6148914691236517205:Int)))) (3689348814741910323:Int)))) (2 ^ (4:Nat)))+(IntKind.wrap .u64 ((bits .and .u64 (Int.fdiv (IntKind.wrap .u64 ((bits .and .u64 (Int.fdiv a0 (2 ^ (1:Nat))) (6148914691236517205:Int))+(bits .and .u64 a0 (6148914691236517205:Int)))) (2 ^ (2:Nat))) (3689348814741910323:Int))+(bits .and .u64 (IntKind.wrap .u64 ((bits .and .u64 (Int.fdiv a0 (2 ^ (1:Nat))) (6148914691236517205:Int))+(bits .and .u64 a0 (6148914691236517205:Int)))) (3689348814741910323:Int)))))) (1085102592571150095:Int))+(Int.fdiv (bits .and .u64 (IntKind.wrap .u64 ((Int.fdiv (IntKind.wrap .u64 ((bits .and .u64 (Int.fdiv (IntKind.wrap .u64 ((bits .and .u64 (Int.fdiv a0 (2 ^ (1:Nat))) (6148914691236517205:Int))+(bits .and .u64 a0 (6148914691236517205:Int)))) (2 ^ (2:Nat))) (3689348814741910323:Int))+(bits .and .u64 (IntKind.wrap .u64 ((bits .and .u64 (Int.fdiv a0 (2 ^ (1:Nat))) (6148914691236517205:Int))+(bits .and .u64 a0 (6148914691236517205:Int)))) (3689348814741910323:Int)))) (2 ^ (4:Nat)))+(IntKind.wrap .u64 ((bits .and .u64 (Int.fdiv (IntKind.wrap .u64 ((bits .and .u64 (Int.fdiv a0 (2 ^ (1:Nat))) (6148914691236517205:Int))+(bits .and .u64 a0 (6148914691236517205:Int)))) (2 ^ (2:Nat))) (3689348814741910323:Int))+(bits .and .u64 (IntKind.wrap .u64 ((bits .and .u64 (Int.fdiv a0 (2 ^ (1:Nat))) (6148914691236517205:Int))+(bits .and .u64 a0 (6148914691236517205:Int)))) (3689348814741910323:Int)))))) (1085102592571150095:Int)) (2 ^ (8:Nat)))))+(Int.fdiv (IntKind.wrap .u64 ((bits .and .u64 (IntKind.wrap .u64 ((Int.fdiv (IntKind.wrap .u64 ((bits .and .u64 (Int.fdiv (IntKind.wrap .u64 ((bits .and .u64 (Int.fdiv a0 (2 ^ (1:Nat))) (6148914691236517205:Int))+(bits .and .u64 a0 (6148914691236517205:Int)))) (2 ^ (2:Nat))) (3689348814741910323:Int))+(bits .and .u64 (IntKind.wrap .u64 ((bits .and .u64 (Int.fdiv a0 (2 ^ (1:Nat))) (6148914691236517205:Int))+(bits .and .u64 a0 (6148914691236517205:Int)))) (3689348814741910323:Int)))) (2 ^ (4:Nat)))+(IntKind.wrap .u64 ((bits .and .u64 (Int.fdiv (IntKind.wrap .u64 ((bits .and .u64 (Int.fdiv a0 (2 ^ (1:Nat))) (6148914691236517205:Int))+(bits .and .u64 a0 (6148914691236517205:Int)))) (2 ^ (2:Nat))) (3689348814741910323:Int))+(bits .and .u64 (IntKind.wrap .u64 ((bits .and .u64 (Int.fdiv a0 (2 ^ (1:Nat))) (6148914691236517205:Int))+(bits .and .u64 a0 (6148914691236517205:Int)))) (3689348814741910323:Int)))))) (1085102592571150095:Int))+(Int.fdiv (bits .and .u64 (IntKind.wrap .u64 ((Int.fdiv (IntKind.wrap .u64 ((bits .and .u64 (Int.fdiv (IntKind.wrap .u64 ((bits .and .u64 (Int.fdiv a0 (2 ^ (1:Nat))) (6148914691236517205:Int))+(bits .and .u64 a0 (6148914691236517205:Int)))) (2 ^ (2:Nat))) (3689348814741910323:Int))+(bits .and .u64 (IntKind.wrap .u64 ((bits .and .u64 (Int.fdiv a0 (2 ^ (1:Nat))) (6148914691236517205:Int))+(bits .and .u64 a0 (6148914691236517205:Int)))) (3689348814741910323:Int)))) (2 ^ (4:Nat)))+(IntKind.wrap .u64 ((bits .and .u64 (Int.fdiv (IntKind.wrap .u64 ((bits .and .u64 (Int.fdiv a0 (2 ^ (1:Nat))) (6148914691236517205:Int))+(bits .and .u64 a0 (6148914691236517205:Int)))) (2 ^ (2:Nat))) (3689348814741910323:Int))+(bits .and .u64 (IntKind.wrap .u64 ((bits .and .u64 (Int.fdiv a0 (2 ^ (1:Nat))) (6148914691236517205:Int))+(bits .and .u64 a0 (6148914691236517205:Int)))) (3689348814741910323:Int)))))) (1085102592571150095:Int)) (2 ^ (8:Nat))))) (2 ^ (16:Nat))))) (2 ^ (32:Nat))))))) (127:Int))
def iQ (a0:Int):Option Int:=AV ZfR (.b0 a0)
def ZfO:wH->Ac U
 | .b0 a0=>Ai Tryz.f287 [25] (a0,())
theorem ZfP:AA1 287 [25] 3 (fun x=>iQ x.1) rfl:=Aj Ag Ah AN ZfO Tryz.func287 (fun p=>by cases p<;>kernel_rfl) (by kernel_rfl) fun _=>rfl
inductive Zr where
 | b0 (a0:Int)
def Z6T:Zr->Tr U (Int⊕Zr)
 | .b0 a0=>.bind 3 (iQ (bits .and .u64 a0 (137438953471:Int))) (fun(x1:Int)=>AA x1)
def Ti (a0:Int):Option Int:=AV Z6T (.b0 a0)
def Zkf:Zr->Ac U
 | .b0 a0=>Ai Tryz.f218 [26] (a0,())
theorem zZ:AA1 218 [26] 3 (fun x=>Ti x.1) rfl:=Aj (mc ZfP Ag) Ah AN Zkf Tryz.func218 (fun p=>by cases p<;>kernel_rfl) (by kernel_rfl) fun _=>rfl
inductive Z07 where
 | b0 (a0 a1:Int)
def Z7M:Z07->Tr U (Bool⊕Z07)
 | .b0 a0 a1=>.br (decide (a1>=0)) ( .br (decide (a1<37)) ( .chk (decide (0<=a1)) ( AA ((bits .and .u64 (Int.fdiv a0 (2 ^ (min (Int.toNat a1) (IntKind.bits .u64)))) (1:Int))==1))) ( AA false)) ( AA false)
def lG (a0 a1:Int):Option Bool:=AV Z7M (.b0 a0 a1)
def Zll:Z07->Ac U
 | .b0 a0 a1=>Ai Tryz.f223 [26,3] (a0,a1,())
theorem Z7x:AA1 223 [26,3] 4 (fun x=>lG x.1 x.2.1) rfl:=Aj Ag Ah AN Zll Tryz.func223 (fun p=>by cases p<;>kernel_rfl) (by kernel_rfl) fun _=>rfl
end
end Go.Proofs.YtjodhcdmhobmoaaGreatDoor
namespace Go.Proofs.YtjodhcdmhobmoaaGreatDoor
open Go Go.RowKit Go.Shelf
attribute [local go_sem] Oper.semAt_some
set_option maxRecDepth 100000
def hasB (m:Int) (c:Nat):Bool:=(bits .and .u64 (m / 2 ^ c) 1==1)
def Ew (m:Int) (k:Nat):List Nat:=(List.range k).filter (hasB m)
theorem Zex (F:Fence) (n:Nat) (hHAS:F.fn 223) (hro:F.round=none) (m:Int) (c:Nat) (hc:c<37) (W:World) {b:Bool} (hb:hasB m c=b):CallsIn F n Tryz.prog 223 #[.int .u64 m,.int .i64 c] W fun e W' =>e = .returned (.bool b)/\W' = W:=by
 refine callsIn_of_wp Tryz.func223 rfl hHAS ?_ hro
 simp only [Tryz.ntmps223,List.size_toArray,List.length_cons,List.length_nil,Nat.reduceAdd,Nat.reduceSub,Array.replicate_succ,Array.replicate_zero,List.push_toArray,List.append_toArray,List.nil_append,List.cons_append]
 have HB:=Lib.hid hb;clear hb
 gi_wp2
 go_ret
 exact⟨by rw [<- HB.out];rfl,rfl⟩
theorem Z38 (m:Int) (k:Nat):Ew m (k+1)=Ew m k++if hasB m k then [k] else []:=by
 unfold Ew
 rw [List.range_succ,List.filter_append]
 cases h:hasB m k<;>simp [h]
theorem ZC4 (m:Int) {k:Nat} (h:k<=37):Ew m k <+: Ew m 37:=by
 obtain⟨d,hd⟩:∃d,37=k+d:=⟨37 - k,by omega⟩
 rw [hd]
 unfold Ew
 rw [List.range_add,List.filter_append]
 exact List.prefix_append _ _
set_option maxHeartbeats 1000000 in
theorem all1_in (F:Fence) (n:Nat) (hHAS:F.fn 223) (hALL1:F.fn 347) (hro:F.round=none) (hn:1<=n) (m:Int) (l Bm:Nat) (J Jx:List Nat->World->Prop)
  (hY:∀pre x W,J pre W->pre.length<(Ew m 37).length->YieldAt F (n - 1) Tryz.prog l #[.int .i64 (x:Nat)] W fun e W' =>
   (e = .returned (.bool true)/\J (pre++[x]) W' /\ W'.cell? ⟨Bm,0,none⟩=W.cell? ⟨Bm,0,none⟩)\/(e = .returned (.bool false)/\Jx (pre++[x]) W'))
  (W:World) (hBm:W.cell? ⟨Bm,0,none⟩=some (.int .u64 m)) (h0:J [] W) :
  CallsIn F n Tryz.prog 347 #[.func (.yield l) #[] #[],.pointer (some ⟨Bm,0,none⟩)] W fun e W' =>(∃v,e = .returned v) /\
   ((∃ys,ys=Ew m 37/\J ys W')\/(∃pre,pre <+: Ew m 37/\Jx pre W')):=by
 refine callsIn_of_wp Tryz.func347 rfl hALL1 ?_ hro
 simp only [Tryz.ntmps347,List.size_toArray,List.length_cons,List.length_nil,Nat.reduceAdd,Nat.reduceSub,Array.replicate_succ,Array.replicate_zero,List.push_toArray,List.append_toArray,List.nil_append,List.cons_append]
 gi_wp2
 gi_loopw [4] (fun i wr=>∃k:Nat,k<=37/\i = .int .i64 k/\J (Ew m k) wr/\wr.cell? ⟨Bm,0,none⟩=some (.int .u64 m))
  (fun i _=>37 - (intOf i).toNat)
 case atStart=>exact⟨0,by omega,rfl,h0,hBm⟩
 case round=>
  obtain⟨k,hk,rfl,hJ,hcell⟩:=hrel
  by_cases hlt:k<37
  ·have hs:=Z38 m k
   have hpre:=ZC4 m (k:=k+1) (by omega)
   cases hb:hasB m k with
   | false=>
    rw [hb] at hs
    simp only [Bool.false_eq_true,if_false,List.append_nil] at hs
    have HS:=Lib.hid hs;clear hs hpre
    gi_wp2_with (gi_at_call 223;refine(Zex F (n - 1) hHAS hro m k hlt _ hb).mono ?_;rintro e w' ⟨rfl,rfl⟩)
    refine⟨fun f h=>(by cases h),?_⟩
    gi_wp2
    go_roundw
    case rel=>exact⟨k+1,by omega,by go_num,by rw [HS.out];exact hJ,hcell⟩
    case measure=>simp [intOf];omega
   | true=>
    rw [hb] at hs
    simp only [if_true] at hs
    have hlen:(Ew m k).length<(Ew m 37).length:=by
     have:=hpre.length_le
     rw [hs] at this
     simp at this
     omega
    obtain⟨fn,tmps,assign,body,hy,hR⟩:=hY (Ew m k) k wr hJ hlen
    have HS:=Lib.hid hs;have HP:=Lib.hid hpre;clear hs hpre hlen
    gi_wp2_with (gi_at_call 223;refine(Zex F (n - 1) hHAS hro m k hlt _ hb).mono ?_;rintro e w' ⟨rfl,rfl⟩)
    refine hR.mono ?_
    rintro e W3 (⟨rfl,hJ3,hk3⟩|⟨rfl,hJx3⟩)
    ·have hc3:=hk3.trans hcell
     clear hk3
     gi_wp2
     go_roundw
     case rel=>exact⟨k+1,by omega,by go_num,by rw [HS.out];exact hJ3,hc3⟩
     case measure=>simp [intOf];omega
    ·gi_wp2
     refine bodyPost_ret (results_none rfl _ _ _) rfl ?_
     exact⟨⟨_,rfl⟩,.inr ⟨Ew m k++[k],by rw [<- HS.out];exact HP.out,hJx3⟩⟩
  ·obtain rfl:k=37:=by omega
   gi_wp2
   go_end0
   exact⟨⟨_,rfl⟩,.inl ⟨_,rfl,hJ⟩⟩
def KpM (Bm:Nat) (A B:World):Prop:=B.cell? ⟨Bm,0,none⟩=A.cell? ⟨Bm,0,none⟩
theorem all_stops (F:Fence) (n:Nat) (hHAS:F.fn 223) (hALL1:F.fn 347) (hro:F.round=none) (hn:1<=n) (m:Int) (Bm:Nat) (w:World) (hBm:Bm<w.heap.size) (hc:w.cell? ⟨Bm,0,none⟩=some (.int .u64 m)) :
  SeqStopsK F n Tryz.prog 347 #[.pointer (some ⟨Bm,0,none⟩)] (fun x:Nat=>#[Value.int .i64 (x:Nat)]) (KpM Bm) (fun ys=>ys=Ew m 37) (fun pre=>pre <+: Ew m 37) (Ew m 37).length w:=fun l J Jx W hW _ _ hY h0=>
 all1_in F n hHAS hALL1 hro hn m l Bm J Jx hY W ((hW.cell (p:=⟨Bm,0,none⟩) hBm).trans hc) h0
theorem all_in (F:Fence) (n:Nat) (hALL:F.fn 288) (hro:F.round=none) (m:Int) (w:World) :
  CallsIn F n Tryz.prog 288 #[.int .u64 m] w fun e w' =>e = .returned (.func (.func 347) #[] #[.pointer (some ⟨w.heap.size,0,none⟩)])/\w' = w.alloc (.cells #[.int .u64 m] 26):=by
 refine callsIn_of_wp Tryz.func288 rfl hALL ?_ hro
 simp only [Tryz.ntmps288,List.size_toArray,List.length_cons,List.length_nil,Nat.reduceAdd,Nat.reduceSub,Array.replicate_succ,Array.replicate_zero,List.push_toArray,List.append_toArray,List.nil_append,List.cons_append]
 gi_wp2
 go_ret
 exact⟨rfl,rfl⟩
def MR (m i:Int):Int:=if 0<=i/\i<(Ew m 37).length then (((Ew m 37)[i.toNat]?.getD 0:Nat):Int) else -1
theorem boxed_own {W W' : World} {row:Option Nat} {B B0:Nat} {t:TypeId} {v:Value} (h:Boxed W B t v) (hg:W.grownBy W' row) (hr:∀r,row=some r->B0<=r/\∃o:Obj,W.heap[r]? = some o/\o.isCells=false):Boxed W' B t v:=by
 refine h.kept hg ?_
 intro e
 obtain⟨_,o,ho,hc⟩:=hr B e.symm
 rw [show W.heap[B]? = _ from h] at ho
 cases ho
 cases hc
theorem ZcG {W:World} {B l:Nat} {t:TypeId} {v:Value} {o o' : Obj} (h:Boxed W B t v) (hl:W.heap[l]? = some o) (hc:o.isCells=false):Boxed (W.putObj l o') B t v:=
 boxed_own (B0:=0) h (grownBy_putObj' W l o') (fun r e=>by cases e;exact⟨Nat.zero_le _,o,hl,hc⟩)
theorem Uf {W:World} {B b:Nat} {t:TypeId} {v u:Value} (h:Boxed W B t v) (hne:B≠b):Boxed (W.setCell ⟨b,0,none⟩ u) B t v:=
 (Below.heap_setCell W ⟨b,0,none⟩ u B hne).trans h
theorem Z2t {W w:World} {n b:Nat} {u:Value} (h:Below n w W) (hb:n<=b):Below n w (W.setCell ⟨b,0,none⟩ u):=h.setCell hb u
structure V8 (m i:Int) (w:World) (res:Int) (k:Nat) (W:World):Prop where
 b0:Boxed W w.heap.size 3 (.int .i64 i)
 b1:Boxed W (w.heap.size+1) 3 (.int .i64 res)
 b2:Boxed W (w.heap.size+1+1) 3 (.int .i64 k)
 b3:Boxed W (w.heap.size+1+1+1) 26 (.int .u64 m)
 below:Below w.heap.size w W
theorem V8.own {m i:Int} {w:World} {res:Int} {k:Nat} {W W' : World} {row:Option Nat} {B0:Nat} (hB:w.heap.size<=B0) (h:V8 m i w res k W) (hg:W.grownBy W' row) (hr:∀r,row=some r->B0<=r/\∃o:Obj,W.heap[r]? = some o/\o.isCells=false):V8 m i w res k W' :=
 ⟨boxed_own h.b0 hg hr,boxed_own h.b1 hg hr,boxed_own h.b2 hg hr,boxed_own h.b3 hg hr,h.below.grown hg h.below.size (fun k e=>Nat.le_trans hB (hr k e).1)⟩
set_option maxHeartbeats 2000000 in
theorem ZFe (F:Fence) (n:Nat) (hHAS:F.fn 223) (hALL1:F.fn 347) (hALL:F.fn 288) (hSELF:F.fn 224) (hro:F.round=none) (hn:3<=n) (m i:Int) (w:World) :
  CallsIn F n Tryz.prog 224 #[.int .u64 m,.int .i64 i] w fun e W' =>e = .returned (.int .i64 (MR m i))/\Below w.heap.size w W' :=by
 have h1:1<=n:=by omega
 refine callsIn_of_wp_marks Tryz.func224 rfl hSELF ?_ hro
 simp only [Tryz.ntmps224,List.size_toArray,List.length_cons,List.length_nil,Nat.reduceAdd,Nat.reduceSub,Array.replicate_succ,Array.replicate_zero,List.push_toArray,List.append_toArray,List.nil_append,List.cons_append]
 gi_wp2_with (gi_at_call 288;refine(all_in F (n - 1) hALL hro _ _).mono ?_;rintro e w' ⟨rfl,rfl⟩)
 have hI0:V8 m i w 0 0 ((((w.alloc (Obj.cells #[Value.int IntKind.i64 i] 3)).alloc (Obj.cells #[Value.int IntKind.i64 0] 3)).alloc (Obj.cells #[Value.int IntKind.i64 0] 3)).alloc (Obj.cells #[Value.int IntKind.u64 m] 26)):=by
  refine⟨(((Boxed.new _ _ _).alloc _).alloc _).alloc _,?_,?_,?_,((((Below.refl _ _).alloc (Nat.le_refl _) _).alloc (by simp) _).alloc (by simp;omega) _).alloc (by simp;omega) _⟩
  ·have:=((Boxed.new (w.alloc (Obj.cells #[Value.int IntKind.i64 i] 3)) 3 (.int .i64 0)).alloc (Obj.cells #[Value.int IntKind.i64 0] 3)).alloc (Obj.cells #[Value.int IntKind.u64 m] 26)
   simpa using this
  ·have:=(Boxed.new ((w.alloc (Obj.cells #[Value.int IntKind.i64 i] 3)).alloc (Obj.cells #[Value.int IntKind.i64 0] 3)) 3 (.int .i64 0)).alloc (Obj.cells #[Value.int IntKind.u64 m] 26)
   simpa using this
  ·have:=Boxed.new (((w.alloc (Obj.cells #[Value.int IntKind.i64 i] 3)).alloc (Obj.cells #[Value.int IntKind.i64 0] 3)).alloc (Obj.cells #[Value.int IntKind.i64 0] 3)) 26 (.int .u64 m)
   simpa using this
 generalize hW0:((((w.alloc (Obj.cells #[Value.int IntKind.i64 i] 3)).alloc (Obj.cells #[Value.int IntKind.i64 0] 3)).alloc (Obj.cells #[Value.int IntKind.i64 0] 3)).alloc (Obj.cells #[Value.int IntKind.u64 m] 26))=W0 at hI0
 have hs0:W0.heap.size=w.heap.size+4:=by rw [<- hW0];simp
 clear hW0
 refine wpIn_rangeFunc_ownG hro h1 (gf:=347) (lb:=#[.pointer (some ⟨w.heap.size+1+1+1,0,none⟩)]) rfl hALL1 (enters_of Tryz.func347 (by kernel_rfl) rfl)
  (all_stops F (n - 1) hHAS hALL1 hro (by omega) m (w.heap.size+1+1+1) W0 (by omega) hI0.b3.cell) (fun h k=>k.trans h)
  (fun W l o o' hl ho hc _=>World.cell?_of_block (World.putObj_heap_other (by simp only;omega))) (Below.refl _ _) (fun _=>rfl)
  (fun pre W=>V8 m i w 0 pre.length W/\¬(0<=i/\i<pre.length))
  (fun c pre W=>c = .ret/\∃(pre' : List Nat) (x:Nat),pre=pre' ++[x]/\i=(pre'.length:Int)/\V8 m i w (x:Nat) pre'.length W)
  (fun s A B row hs hg hr=>⟨hs.1.own (by omega) hg hr,hs.2⟩)
  (fun c s A B row hs hg hr=>by obtain⟨h1,p,x,h2,h3,h4⟩:=hs;exact⟨h1,p,x,h2,h3,h4.own (by omega) hg hr⟩)
  ⟨hI0,by simp⟩
  (fun x=>{ tmps:=#[.int .u64 m,.int .i64 i,undef,.pointer (some ⟨w.heap.size,0,none⟩),.pointer (some ⟨w.heap.size+1,0,none⟩),.pointer (some ⟨w.heap.size+1+1,0,none⟩),.int .i64 (x:Nat),.int .u64 m,.func (.func 347) #[] #[.pointer (some ⟨w.heap.size+1+1+1,0,none⟩)],.int .i64 (x:Nat),undef,undef,undef,undef,undef,undef],defers:=[] }) ?assign ?body ?done ?stop
 case assign=>
  intro l x W K hK
  gi_wp2
  exact hK
 case body=>
  rintro l pre x W ⟨hI,hno⟩ hlen
  have hc0:=hI.b0.cell
  have hf0:=hI.b0.frozen
  have hc1:=hI.b1.cell
  have hf1:=hI.b1.frozen
  have hc2:=hI.b2.cell
  have hf2:=hI.b2.frozen
  have hl37:pre.length<37:=by
   have:(Ew m 37).length<=37:=by unfold Ew;exact Nat.le_trans (List.length_filter_le _ _) (by simp)
   omega
  by_cases hx:i=(pre.length:Int)
  ·subst hx
   gi_wp2
   refine⟨KeepsFrom.of_grownBy (grownBy_setCell' W _ _) (fun j e=>by cases e;omega),rfl,pre,x,rfl,rfl,Uf hI.b0 (by omega),hI.b1.set _,Uf hI.b2 (by omega),Uf hI.b3 (by omega),Z2t hI.below (by omega)⟩
  ·have hx' : ((pre.length:Int)==i)=false:=by simp;omega
   gi_wp2
   refine⟨KeepsFrom.of_grownBy (grownBy_setCell' W _ _) (fun j e=>by cases e;omega),World.cell?_of_block (Below.heap_setCell W _ _ _ (by simp only;omega)),⟨Uf hI.b0 (by omega),Uf hI.b1 (by omega),?_,Uf hI.b3 (by omega),Z2t hI.below (by omega)⟩,by simp;omega⟩
   have:=hI.b2.set (.int .i64 (pre.length+1:Nat))
   simpa using this
 case done=>
  rintro D xs W hD rfl ⟨hI,hno⟩ hK
  have hc1:=hI.b1.cell
  have hf1:=hI.b1.frozen
  gi_wp2
  have hK' : (W.setCell ⟨w.heap.size+1,0,none⟩ (.int .i64 (-1))).heap[D]? = some (.deferred (some [])):=(Below.heap_setCell W _ _ D (by simp only;omega)).trans hK
  have hb:=hI.b1.set (.int .i64 (-1))
  refine⟨by simp,.inl ⟨_,_,rfl,run_takeDeferred hK',?_⟩⟩
  have hc5:=(ZcG (o' :=.deferred none) hb hK' rfl).cell
  refine⟨.int .i64 (-1),?_,?_,?_⟩
  ·simp [results,Tryz.f224,go_sem,hc5]
  ·unfold MR
   rw [if_neg hno]
  ·exact(Z2t hI.below (by omega)).trans (belowK_b (w:=w) (Nat.le_refl _) _ D _ _ (by omega) hK' rfl rfl)
 case stop=>
  rintro D c pre W hD hp ⟨rfl,pre',x,rfl,hi,hI⟩ hK
  have hc1:=hI.b1.cell
  gi_wp2
  refine⟨by simp,.inl ⟨_,_,rfl,run_takeDeferred hK,?_⟩⟩
  have hc5:=(ZcG (o' :=.deferred none) hI.b1 hK rfl).cell
  refine⟨.int .i64 (x:Nat),?_,?_,?_⟩
  ·simp [results,Tryz.f224,go_sem,hc5]
  ·obtain⟨t,ht⟩:=hp
   unfold MR
   rw [<- ht,hi]
   simp
   omega
  ·exact hI.below.trans (belowK_b (w:=w) (Nat.le_refl _) _ D _ _ (by omega) hK rfl rfl)
theorem ZCQ (m i:Int) : -1<=MR m i/\MR m i<37:=by
 unfold MR
 split
 ·rename_i h
  have hx:i.toNat<(Ew m 37).length:=by omega
  have hm:(Ew m 37)[i.toNat]∈Ew m 37:=List.getElem_mem hx
  rw [List.getElem?_eq_getElem hx,Option.getD_some]
  generalize (Ew m 37)[i.toNat]=c at hm
  have:c<37:=by
   unfold Ew at hm
   have:=(List.mem_filter.1 hm).1
   simpa using this
  omega
 ·omega
open Go.Proofs.YtjodhcdmhobmoaaGreatDoor.Le
noncomputable def lC (a0 a1:Int):Option Int:=some (MR a0 a1)
noncomputable def Znb:Af U:={ ts:=[26,3],rt:=3,fn:=fun x=>lC x.1 x.2.1,ok:=by decide }
theorem Z7b:AA0 224 Znb:=by
 refine⟨⟨Tryz.f224,Tryz.func224,by kernel_rfl,by kernel_rfl⟩,?_⟩
 rintro ⟨m,i,_⟩ a ha fz w vs hcells hg hr
 cases ha
 obtain⟨v0,vs,rfl,h1,hr⟩:=hr.Dq
 obtain⟨v1,vs,rfl,h2,hr⟩:=hr.Dq
 cases hr.FM
 cases h1 with
 | lit _ _=>cases h2 with
  | lit _ _=>
   refine(callsIn_wide.1 (ZFe Fence.wide 3 trivial trivial trivial trivial rfl (by omega) m i w)).mono ?_
   rintro e w' ⟨rfl,hb⟩
   refine⟨_,fz,rfl,hb,fun _ _ h=>h,fun _ _ h _=>h,fun b c h=>?_,.lit ?_ .nil,rfl⟩
   ·obtain⟨u,hu⟩:=hcells b c h
    exact⟨u,(hb.cell (p:=⟨b,c,none⟩) (cell_lt hu)).trans hu⟩
   ·have:=ZCQ m i
    simp [leaf,Lit.wf,IntKind.min,IntKind.max,IntKind.signed,IntKind.bits]
    omega
open Go Go.Proofs.YtjodhcdmhobmoaaGreatDoor.Le
noncomputable section
inductive Z2S where
 | b0 (a0 a1 a2:Int)
def Zcd:Z2S->Tr U (Int⊕Z2S)
 | .b0 a0 a1 a2=>.bind 30 (nJ a2) (fun(x1:Int)=>.bind 30 (lX a1 x1) (fun(x2:Int)=>.bind 4 (lG a0 (Int.tmod (AP (x2)) 37)) (fun(x3:Bool)=>.br x3 ( AA (Int.tmod (AP (x2)) 37)) ( .bind 3 (Ti a0) (fun(x4:Int)=>.bind 3 (lC a0 (Int.fdiv (AP (x4*(AP (x2)))) (2 ^ (16:Nat)))) (fun(x5:Int)=>AA x5))))))
def Z2w (a0 a1 a2:Int):Option Int:=AV Zcd (.b0 a0 a1 a2)
def ZuC:Z2S->Ac U
 | .b0 a0 a1 a2=>Ai Tryz.f135 [26,30,22] (a0,a1,a2,())
theorem Zx2:AA1 135 [26,30,22] 3 (fun x=>Z2w x.1 x.2.1 x.2.2.1) rfl:=Aj (mc Z8R (mc Z9h (mc zZ (mc Z7x (mc Z7b Ag))))) Ah AN ZuC Tryz.func135 (fun p=>by cases p<;>kernel_rfl) (by kernel_rfl) fun _=>rfl
inductive Z1J where
 | b0 (a0 a1:Int)
def ZuJ:Z1J->Tr U (Int⊕Z1J)
 | .b0 a0 a1=>AA (Int.tmod (AP ((AP ((Int.tmod a0 37)+(Int.tmod a1 37)))+74)) (37:Int))
def Z27 (a0 a1:Int):Option Int:=AV ZuJ (.b0 a0 a1)
def Zt7:Z1J->Ac U
 | .b0 a0 a1=>Ai Tryz.f136 [3,3] (a0,a1,())
theorem Zrp:AA1 136 [3,3] 3 (fun x=>Z27 x.1 x.2.1) rfl:=Aj Ag Ah AN Zt7 Tryz.func136 (fun p=>by cases p<;>kernel_rfl) (by kernel_rfl) fun _=>rfl
inductive Zu where
 | b0 (a0 a1:Int)
def Z72:Zu->Tr U (Int⊕Zu)
 | .b0 a0 a1=>.bind 4 (lG a0 (if (36:Int)<(if (0:Int)>a1 then (0:Int) else a1) then (36:Int) else (if (0:Int)>a1 then (0:Int) else a1))) (fun(x1:Bool)=>.br x1 ( AA (if (36:Int)<(if (0:Int)>a1 then (0:Int) else a1) then (36:Int) else (if (0:Int)>a1 then (0:Int) else a1))) ( .bind 3 (Ti a0) (fun(x2:Int)=>.br (x2==0) ( AA (-1:Int)) ( .bind 3 (Ti a0) (fun(x3:Int)=>.chk (x3 != 0) ( .bind 3 (lC a0 (Int.tmod (if (36:Int)<(if (0:Int)>a1 then (0:Int) else a1) then (36:Int) else (if (0:Int)>a1 then (0:Int) else a1)) x3)) (fun(x4:Int)=>AA x4)))))))
def Zx (a0 a1:Int):Option Int:=AV Z72 (.b0 a0 a1)
def ZjT:Zu->Ac U
 | .b0 a0 a1=>Ai Tryz.f137 [26,3] (a0,a1,())
theorem ZjM:AA1 137 [26,3] 3 (fun x=>Zx x.1 x.2.1) rfl:=Aj (mc zZ (mc Z7x (mc Z7b Ag))) Ah AN ZjT Tryz.func137 (fun p=>by cases p<;>kernel_rfl) (by kernel_rfl) fun _=>rfl
inductive Z1E where
 | b0 (a0:Ey) (a1 a2:Int)
def ZbK:Z1E->Tr U ((Int×Int)⊕Z1E)
 | .b0 a0 a1 a2=>.br (a0.KL==2) ( .bind 30 (nJ a0.IC) (fun(x1:Int)=>.bind 30 (lX a1 x1) (fun(x2:Int)=>.bind 3 (Z2w a0.Map a1 a0.IC) (fun(x3:Int)=>AA (x3,(AP ((Int.tmod x2 37)))))))) ( .bind 3 (Z27 a2 a0.Hop) (fun(x4:Int)=>.bind 3 (Zx a0.Map x4) (fun(x5:Int)=>AA (x5,x4))))
def Z26 (a0:Ey) (a1 a2:Int):Option (Int×Int):=AV ZbK (.b0 a0 a1 a2)
def Zsj:Z1E->Ac U
 | .b0 a0 a1 a2=>Ai Tryz.f53 [28,30,3] (a0,a1,a2,())
theorem Zr9:AA1 53 [28,30,3] 104 (fun x=>Z26 x.1 x.2.1 x.2.2.1) rfl:=Aj (mc Z8R (mc Z9h (mc Zx2 (mc Zrp (mc ZjM Ag))))) Ah AN Zsj Tryz.func53 (fun p=>by cases p<;>kernel_rfl) (by kernel_rfl) fun _=>rfl
inductive ZI where
 | b0 (a0:A8)
def Z7k:ZI->Tr U (Int⊕ZI)
 | .b0 a0=>.bind 104 (Z26 a0.Ce a0.Event a0.Last) (fun(x1:Int×Int)=>AA x1.1)
def kY (a0:A8):Option Int:=AV Z7k (.b0 a0)
def Zkx:ZI->Ac U
 | .b0 a0=>Ai Tryz.f15 [44] (a0,())
theorem Z6W:AA1 15 [44] 3 (fun x=>kY x.1) rfl:=Aj (mc Zr9 Ag) Ah AN Zkx Tryz.func15 (fun p=>by cases p<;>kernel_rfl) (by kernel_rfl) fun _=>rfl
inductive Ws where
 | b0 (a0:Int)
 | b1 (a0 a1 a2:Int)
def Wn:Ws->Tr U (Int⊕Ws)
 | .b0 a0=>AO (.b1 a0 (0:Int) (0:Int))
 | .b1 a0 a1 a2=>.br (decide (a2<8)) ( AO (.b1 (AP (Int.tdiv a0 2)) (AP ((AP ((2:Int)*a1))+(Int.tmod a0 2))) (AP (a2+1)))) ( AA a1)
def Wu (a0:Int):Option Int:=AV Wn (.b0 a0)
def Z6R:Lay:=⟨[0,3,4],[KP,KP,KP],[],⟨[OV 3,OV 3,OV 3],[]⟩⟩
def Zlv:Nat->Option Lay
 | 3=>some Z6R
 | _=>none
def Zl0:Ws->Ac U
 | .b0 a0=>Ai Tryz.f227 [3] (a0,())
 | .b1 a0 a1 a2=>AA3 Tryz.f227 [1,1,0,1,0,0,0,0] Z6R (a0,a1,a2,())
theorem ZkY:AA1 227 [3] 3 (fun x=>Wu x.1) rfl:=Aj Ag Ah Zlv Zl0 Tryz.func227 (fun p=>by cases p<;>kernel_rfl) (by kernel_rfl) fun _=>rfl
inductive XP where
 | b0 (a0 a1:Int)
 | b1 (a0 a1 a2:Int)
def UG:XP->Tr U (Int⊕XP)
 | .b0 a0 a1=>AO (.b1 a1 (bits .xor .u16 a0 a1) (0:Int))
 | .b1 a0 a1 a2=>.br (decide (a2<3)) ( .bind 3 (Wu (AP (Int.tdiv (AP (a1)) 256))) (fun(x1:Int)=>.bind 3 (Wu (Int.tmod (AP (a1)) 256)) (fun(x2:Int)=>AO (.b1 a0 (IntKind.wrap .u16 ((Int.tmod (AP ((AP ((17:Int)*(AP ((AP ((256:Int)*x1))+x2))))+(AP (a0)))) (65536:Int)))) (AP (a2+1)))))) ( AA (bits .xor .u16 a1 a0))
def X0 (a0 a1:Int):Option Int:=AV UG (.b0 a0 a1)
def Z7m:Lay:=⟨[1,5,6],[KP,KP,KP],[],⟨[OV 30,OV 30,OV 3],[]⟩⟩
def Zqc:Nat->Option Lay
 | 3=>some Z7m
 | _=>none
def ZnD:XP->Ac U
 | .b0 a0 a1=>Ai Tryz.f139 [30,30] (a0,a1,())
 | .b1 a0 a1 a2=>AA3 Tryz.f139 [1,1,0,1,0,0,0,0] Z7m (a0,a1,a2,())
theorem Z87:AA1 139 [30,30] 30 (fun x=>X0 x.1 x.2.1) rfl:=Aj (mc ZkY Ag) Ah Zqc ZnD Tryz.func139 (fun p=>by cases p<;>kernel_rfl) (by kernel_rfl) fun _=>rfl
inductive Xr where
 | b0 (a0:Int)
def Z0Q:Xr->Tr U (Int⊕Xr)
 | .b0 a0=>AA (bits .xor .u16 (IntKind.wrap .u16 ((IntKind.wrap .u32 (Int.tdiv a0 65536)))) (IntKind.wrap .u16 ((Int.tmod a0 65536))))
def YW (a0:Int):Option Int:=AV Z0Q (.b0 a0)
def ZpN:Xr->Ac U
 | .b0 a0=>Ai Tryz.f140 [22] (a0,())
theorem Z99:AA1 140 [22] 30 (fun x=>YW x.1) rfl:=Aj Ag Ah AN ZpN Tryz.func140 (fun p=>by cases p<;>kernel_rfl) (by kernel_rfl) fun _=>rfl
inductive YA where
 | b0 (a0:Int)
 | b1 (a0 a1 a2:Int)
def UT:YA->Tr U (Int⊕YA)
 | .b0 a0=>AO (.b1 a0 (1:Int) (0:Int))
 | .b1 a0 a1 a2=>.br (decide (a2<a0)) ( AO (.b1 a0 (IntKind.wrap .u64 (a1*2)) (AP (a2+1)))) ( AA a1)
def RS (a0:Int):Option Int:=AV UT (.b0 a0)
def Z8Q:Lay:=⟨[0,3,4],[KP,KP,KP],[],⟨[OV 3,OV 25,OV 3],[]⟩⟩
def Zrc:Nat->Option Lay
 | 3=>some Z8Q
 | _=>none
def Zpb:YA->Ac U
 | .b0 a0=>Ai Tryz.f220 [3] (a0,())
 | .b1 a0 a1 a2=>AA3 Tryz.f220 [1,1,0,1,0,0,0,0] Z8Q (a0,a1,a2,())
theorem Z0E:AA1 220 [3] 25 (fun x=>RS x.1) rfl:=Aj Ag Ah Zrc Zpb Tryz.func220 (fun p=>by cases p<;>kernel_rfl) (by kernel_rfl) fun _=>rfl
inductive bI where
 | b0 (a0 a1:Int)
def Z2A:bI->Tr U (Bool⊕bI)
 | .b0 a0 a1=>.br (decide (a1>=0)) ( .br (decide (a1<=36)) ( .bind 25 (RS a1) (fun(x1:Int)=>.chk (x1 != 0) ( AA ((Int.tmod (IntKind.wrap .u64 (Int.tdiv a0 x1)) 2)==1)))) ( AA false)) ( AA false)
def Ui (a0 a1:Int):Option Bool:=AV Z2A (.b0 a0 a1)
def Zwg:bI->Ac U
 | .b0 a0 a1=>Ai Tryz.f225 [26,3] (a0,a1,())
theorem Z24:AA1 225 [26,3] 4 (fun x=>Ui x.1 x.2.1) rfl:=Aj (mc Z0E Ag) Ah AN Zwg Tryz.func225 (fun p=>by cases p<;>kernel_rfl) (by kernel_rfl) fun _=>rfl
inductive aT where
 | b0 (a0:Int)
 | b1 (a0:Int) (a1:List Int) (a2:Int)
 | b2 (a0:Int) (a1:List Int) (a2:Int)
def Oi:aT->Tr U ((List Int)⊕aT)
 | .b0 a0=>.chk (([]:List Int).length==0) ( AO (.b1 a0 ([]:List Int) (0:Int)))
 | .b1 a0 a1 a2=>.br (decide (a2<=36)) ( .bind 4 (Ui a0 a2) (fun(x1:Bool)=>.br x1 ( .chk (([a2]).length==1) ( .chk (kL a1) ( .chk (kA (a1.length+([a2]).length) 8) ( .chk (kL (a1++[a2])) ( AO (.b2 a0 (a1++[a2]) a2)))))) ( .chk (kL a1) ( AO (.b2 a0 a1 a2))))) ( .chk (kL a1) ( AA a1))
 | .b2 a0 a1 a2=>.chk (kL a1) ( AO (.b1 a0 a1 (AP (a2+1))))
def U4 (a0:Int):Option (List Int):=AV Oi (.b0 a0)
def mJ:Lay:=⟨[0,3,4],[KP,[.own 3 1],KP],[.row true],⟨[OV 26,.one (.own 3 0),OV 3],[.row 3 true]⟩⟩
def Zve:Nat->Option Lay
 | 3=>some mJ
 | 4=>some mJ
 | _=>none
def ZrJ:aT->Ac U
 | .b0 a0=>Ai Tryz.f202 [26] (a0,())
 | .b1 a0 a1 a2=>AA3 Tryz.f202 [1,1,0,1,0,0,0,0] mJ (a0,a2,a1,())
 | .b2 a0 a1 a2=>AA3 Tryz.f202 [1,1,0,1,0,0,1,1] mJ (a0,a2,a1,())
theorem Z0O:AA1 202 [26] 226 (fun x=>U4 x.1) rfl:=Aj (mc Z24 Ag) Ah Zve ZrJ Tryz.func202 (fun p=>by cases p<;>kernel_rfl) (by kernel_rfl) fun _=>rfl
inductive YH where
 | b0 (a0:Int)
def Z14:YH->Tr U (Int⊕YH)
 | .b0 a0=>.bind 226 (U4 a0) (fun(x1:List Int)=>AA (↑x1.length:Int))
def UR (a0:Int):Option Int:=AV Z14 (.b0 a0)
def Zqe:YH->Ac U
 | .b0 a0=>Ai Tryz.f221 [26] (a0,())
theorem Z0g:AA1 221 [26] 3 (fun x=>UR x.1) rfl:=Aj (mc Z0O Ag) Ah AN Zqe Tryz.func221 (fun p=>by cases p<;>kernel_rfl) (by kernel_rfl) fun _=>rfl
inductive dM where
 | b0 (a0 a1:Int)
 | b1 (a0:Int) (a1:List Int)
def qA:dM->Tr U (Int⊕dM)
 | .b0 a0 a1=>.bind 226 (U4 a0) (fun(x1:List Int)=>.br (decide (a1<0)) ( AA (-1:Int)) ( .br (decide (a1>=(↑x1.length:Int))) ( AA (-1:Int)) ( AO (.b1 a1 x1))))
 | .b1 a0 a1=>.chk (decide (0<=a0/\a0<(↑a1.length:Int))) ( .bind 3 (a1[(Int.toNat a0)]?) (fun(x1:Int)=>AA x1))
def dI (a0 a1:Int):Option Int:=AV qA (.b0 a0 a1)
def Za3:Lay:=⟨[1,5],[KP,[.s 3 1]],[],⟨[OV 3,OV 226],[]⟩⟩
def ZzF:Nat->Option Lay
 | 4=>some Za3
 | _=>none
def ZwZ:dM->Ac U
 | .b0 a0 a1=>Ai Tryz.f226 [26,3] (a0,a1,())
 | .b1 a0 a1=>AA3 Tryz.f226 [1,1,1,0] Za3 (a0,a1,())
theorem Zbu:AA1 226 [26,3] 3 (fun x=>dI x.1 x.2.1) rfl:=Aj (mc Z0O Ag) Ah ZzF ZwZ Tryz.func226 (fun p=>by cases p<;>kernel_rfl) (by kernel_rfl) fun _=>rfl
inductive bP where
 | b0 (a0 a1 a2:Int)
def Z2P:bP->Tr U (Int⊕bP)
 | .b0 a0 a1 a2=>.bind 30 (YW a2) (fun(x1:Int)=>.bind 30 (X0 a1 x1) (fun(x2:Int)=>.bind 4 (Ui a0 (Int.tmod (AP (x2)) 37)) (fun(x3:Bool)=>.br x3 ( AA (Int.tmod (AP (x2)) 37)) ( .bind 3 (UR a0) (fun(x4:Int)=>.bind 3 (dI a0 (AP (Int.tdiv (AP (x4*(AP (x2)))) (65536:Int)))) (fun(x5:Int)=>AA x5))))))
def qI (a0 a1 a2:Int):Option Int:=AV Z2P (.b0 a0 a1 a2)
def ZwN:bP->Ac U
 | .b0 a0 a1 a2=>Ai Tryz.f138 [26,30,22] (a0,a1,a2,())
theorem ZvB:AA1 138 [26,30,22] 3 (fun x=>qI x.1 x.2.1 x.2.2.1) rfl:=Aj (mc Z87 (mc Z99 (mc Z0g (mc Z24 (mc Zbu Ag))))) Ah AN ZwN Tryz.func138 (fun p=>by cases p<;>kernel_rfl) (by kernel_rfl) fun _=>rfl
inductive Yi where
 | b0 (a0 a1:Int)
def ZbS:Yi->Tr U (Int⊕Yi)
 | .b0 a0 a1=>AA (Int.tmod (AP ((AP ((Int.tmod a0 37)+(Int.tmod a1 37)))+74)) (37:Int))
def oQ (a0 a1:Int):Option Int:=AV ZbS (.b0 a0 a1)
def ZrQ:Yi->Ac U
 | .b0 a0 a1=>Ai Tryz.f141 [3,3] (a0,a1,())
theorem Zsa:AA1 141 [3,3] 3 (fun x=>oQ x.1 x.2.1) rfl:=Aj Ag Ah AN ZrQ Tryz.func141 (fun p=>by cases p<;>kernel_rfl) (by kernel_rfl) fun _=>rfl
inductive Xm where
 | b0 (a0 a1:Int)
def Z1k:Xm->Tr U (Int⊕Xm)
 | .b0 a0 a1=>.bind 4 (Ui a0 (if (if (36:Int)<a1 then (36:Int) else a1)>0 then (if (36:Int)<a1 then (36:Int) else a1) else (0:Int))) (fun(x1:Bool)=>.br x1 ( AA (if (if (36:Int)<a1 then (36:Int) else a1)>0 then (if (36:Int)<a1 then (36:Int) else a1) else (0:Int))) ( .bind 3 (UR a0) (fun(x2:Int)=>.br (x2==0) ( AA (-1:Int)) ( .chk (x2 != 0) ( .bind 3 (dI a0 (Int.tmod (if (if (36:Int)<a1 then (36:Int) else a1)>0 then (if (36:Int)<a1 then (36:Int) else a1) else (0:Int)) x2)) (fun(x3:Int)=>AA x3))))))
def oC (a0 a1:Int):Option Int:=AV Z1k (.b0 a0 a1)
def Zpf:Xm->Ac U
 | .b0 a0 a1=>Ai Tryz.f142 [26,3] (a0,a1,())
theorem Zpz:AA1 142 [26,3] 3 (fun x=>oC x.1 x.2.1) rfl:=Aj (mc Z0g (mc Z24 (mc Zbu Ag))) Ah AN Zpf Tryz.func142 (fun p=>by cases p<;>kernel_rfl) (by kernel_rfl) fun _=>rfl
inductive aC where
 | b0 (a0:Ey) (a1 a2:Int)
def Z1Z:aC->Tr U ((Int×Int)⊕aC)
 | .b0 a0 a1 a2=>.br (a0.KL==2) ( .bind 3 (qI a0.Map a1 a0.IC) (fun(x1:Int)=>.bind 30 (YW a0.IC) (fun(x2:Int)=>.bind 30 (X0 a1 x2) (fun(x3:Int)=>AA (x1,(Int.tmod (AP (x3)) 37)))))) ( .bind 3 (oQ a2 a0.Hop) (fun(x4:Int)=>.bind 3 (oC a0.Map x4) (fun(x5:Int)=>AA (x5,x4))))
def Yz (a0:Ey) (a1 a2:Int):Option (Int×Int):=AV Z1Z (.b0 a0 a1 a2)
def ZqY:aC->Ac U
 | .b0 a0 a1 a2=>Ai Tryz.f54 [28,30,3] (a0,a1,a2,())
theorem Z9N:AA1 54 [28,30,3] 104 (fun x=>Yz x.1 x.2.1 x.2.2.1) rfl:=Aj (mc ZvB (mc Z87 (mc Z99 (mc Zsa (mc Zpz Ag))))) Ah AN ZqY Tryz.func54 (fun p=>by cases p<;>kernel_rfl) (by kernel_rfl) fun _=>rfl
inductive Wy where
 | b0 (a0:A8)
def Z0d:Wy->Tr U (Int⊕Wy)
 | .b0 a0=>.bind 104 (Yz a0.Ce a0.Event a0.Last) (fun(x1:Int×Int)=>AA x1.1)
def UA (a0:A8):Option Int:=AV Z0d (.b0 a0)
def Zmi:Wy->Ac U
 | .b0 a0=>Ai Tryz.f16 [44] (a0,())
theorem ZB:AA1 16 [44] 3 (fun x=>UA x.1) rfl:=Aj (mc Z9N Ag) Ah AN Zmi Tryz.func16 (fun p=>by cases p<;>kernel_rfl) (by kernel_rfl) fun _=>rfl
inductive Z0c where
 | b0 (a0 a1 a2:Int)
def Z88:Z0c->Tr U (Int⊕Z0c)
 | .b0 a0 a1 a2=>AA (if a2<(if a1>a0 then a1 else a0) then a2 else (if a1>a0 then a1 else a0))
def lK (a0 a1 a2:Int):Option Int:=AV Z88 (.b0 a0 a1 a2)
def ZlC:Z0c->Ac U
 | .b0 a0 a1 a2=>Ai Tryz.f143 [3,3,3] (a0,a1,a2,())
theorem Zlf:AA1 143 [3,3,3] 3 (fun x=>lK x.1 x.2.1 x.2.2.1) rfl:=Aj Ag Ah AN ZlC Tryz.func143 (fun p=>by cases p<;>kernel_rfl) (by kernel_rfl) fun _=>rfl
inductive zT where
 | b0 (a0 a1:Int)
def Z6Q:zT->Tr U (Int⊕zT)
 | .b0 a0 a1=>.bind 3 (lK a1 (0:Int) (1099511627776:Int)) (fun(x1:Int)=>.bind 3 (lK a0 (0:Int) (1000:Int)) (fun(x2:Int)=>AA (AP ((AP (Int.tdiv (AP ((AP ((AP (x1*x2))+1000000)) - 1)) (1000000:Int)))+32))))
def zQ (a0 a1:Int):Option Int:=AV Z6Q (.b0 a0 a1)
def ZiV:zT->Ac U
 | .b0 a0 a1=>Ai Tryz.f55 [3,3] (a0,a1,())
theorem Zjt:AA1 55 [3,3] 3 (fun x=>zQ x.1 x.2.1) rfl:=Aj (mc Zlf Ag) Ah AN ZiV Tryz.func55 (fun p=>by cases p<;>kernel_rfl) (by kernel_rfl) fun _=>rfl
inductive ZZ where
 | b0 (a0:A8)
def Z7Y:ZZ->Tr U (Hq⊕ZZ)
 | .b0 a0=>.br (a0.Bl != 1) ( AA (⟨a0.Ed,a0.Ed⟩:Hq)) ( .bind 3 (zQ (AP (a0.Ce.Pj+a0.Clock)) (AP ((AP (a0.Ed+a0.Size)) - a0.Sync))) (fun(x1:Int)=>AA (⟨(AP (a0.Ed - x1)),(AP ((AP (a0.Ed+a0.Size))+x1))⟩:Hq)))
def ZX (a0:A8):Option Hq:=AV Z7Y (.b0 a0)
def Zmf:ZZ->Ac U
 | .b0 a0=>Ai Tryz.f17 [44] (a0,())
theorem Zm5:AA1 17 [44] 52 (fun x=>ZX x.1) rfl:=Aj (mc Zjt Ag) Ah AN Zmf Tryz.func17 (fun p=>by cases p<;>kernel_rfl) (by kernel_rfl) fun _=>rfl
inductive XC where
 | b0 (a0 a1 a2:Int)
def ZQ:XC->Tr U (Int⊕XC)
 | .b0 a0 a1 a2=>.br (decide (a0<a1)) ( AA a1) ( .br (decide (a0>a2)) ( AA a2) ( AA a0))
def XM (a0 a1 a2:Int):Option Int:=AV ZQ (.b0 a0 a1 a2)
def ZlV:XC->Ac U
 | .b0 a0 a1 a2=>Ai Tryz.f144 [3,3,3] (a0,a1,a2,())
theorem Zm0:AA1 144 [3,3,3] 3 (fun x=>XM x.1 x.2.1 x.2.2.1) rfl:=Aj Ag Ah AN ZlV Tryz.func144 (fun p=>by cases p<;>kernel_rfl) (by kernel_rfl) fun _=>rfl
inductive Wq where
 | b0 (a0 a1:Int)
 | b1 (a0:Int)
def kS:Wq->Tr U (Int⊕Wq)
 | .b0 a0 a1=>.bind 3 (XM a1 (0:Int) (1099511627776:Int)) (fun(x1:Int)=>.bind 3 (XM a0 (0:Int) (1000:Int)) (fun(x2:Int)=>.br (decide ((Int.tmod (AP (x1*x2)) 1000000)>0)) ( AO (.b1 (AP ((AP (Int.tdiv (AP (x1*x2)) 1000000))+1)))) ( AO (.b1 (AP (Int.tdiv (AP (x1*x2)) 1000000))))))
 | .b1 a0=>AA (AP (a0+32))
def kU (a0 a1:Int):Option Int:=AV kS (.b0 a0 a1)
def Z6H:Lay:=⟨[6],[KP],[],⟨[OV 3],[]⟩⟩
def Zm3:Nat->Option Lay
 | 5=>some Z6H
 | _=>none
def ZkP:Wq->Ac U
 | .b0 a0 a1=>Ai Tryz.f56 [3,3] (a0,a1,())
 | .b1 a0=>AA3 Tryz.f56 [1,1,1,1,0] Z6H (a0,())
theorem ZkE:AA1 56 [3,3] 3 (fun x=>kU x.1 x.2.1) rfl:=Aj (mc Zm0 Ag) Ah Zm3 ZkP Tryz.func56 (fun p=>by cases p<;>kernel_rfl) (by kernel_rfl) fun _=>rfl
inductive X6 where
 | b0 (a0:A8)
def Z0H:X6->Tr U (Hq⊕X6)
 | .b0 a0=>.br (a0.Bl==0) ( AA (⟨a0.Ed,a0.Ed⟩:Hq)) ( .bind 3 (kU (AP (a0.Ce.Pj+a0.Clock)) (AP ((AP (a0.Ed+a0.Size)) - a0.Sync))) (fun(x1:Int)=>AA (⟨(AP (a0.Ed - x1)),(AP ((AP (a0.Ed+a0.Size))+x1))⟩:Hq)))
def mD (a0:A8):Option Hq:=AV Z0H (.b0 a0)
def Zmw:X6->Ac U
 | .b0 a0=>Ai Tryz.f18 [44] (a0,())
theorem ZnI:AA1 18 [44] 52 (fun x=>mD x.1) rfl:=Aj (mc ZkE Ag) Ah AN Zmw Tryz.func18 (fun p=>by cases p<;>kernel_rfl) (by kernel_rfl) fun _=>rfl
inductive ZC where
 | b0 (a0:Dc) (a1:Bool)
def Z7e:ZC->Tr U (Bool⊕ZC)
 | .b0 a0 a1=>.br a0.Full ( AA true) ( .br a1 ( AA true) ( .br (decide (a0.OC>=a0.Dh)) ( AA true) ( AA false)))
def ZE (a0:Dc) (a1:Bool):Option Bool:=AV Z7e (.b0 a0 a1)
def Zkv:ZC->Ac U
 | .b0 a0 a1=>Ai Tryz.f57 [35,4] (a0,a1,())
theorem Zkz:AA1 57 [35,4] 4 (fun x=>ZE x.1 x.2.1) rfl:=Aj Ag Ah AN Zkv Tryz.func57 (fun p=>by cases p<;>kernel_rfl) (by kernel_rfl) fun _=>rfl
inductive Z1S where
 | b0 (a0:BU)
def Zvf:Z1S->Tr U (Bool⊕Z1S)
 | .b0 a0=>AA ((↑a0.Az.length:Int)==0)
def Z2i (a0:BU):Option Bool:=AV Zvf (.b0 a0)
def ZtO:Z1S->Ac U
 | .b0 a0=>Ai Tryz.f58 [33] (a0,())
theorem Zsu:AA1 58 [33] 4 (fun x=>Z2i x.1) rfl:=Aj Ag Ah AN ZtO Tryz.func58 (fun p=>by cases p<;>kernel_rfl) (by kernel_rfl) fun _=>rfl
inductive Z0n where
 | b0 (a0:A8)
 | b1 (a0:A8)
def lV:Z0n->Tr U (Bool⊕Z0n)
 | .b0 a0=>.br (a0.Bc != 0) ( AA false) ( .br (a0.Bl != 1) ( AA false) ( .br (!a0.Hw) ( AA false) ( AO (.b1 a0))))
 | .b1 a0=>.br ((↑a0.BA.length:Int)==0) ( .br ((↑a0.Ak.Bz.length:Int)==0) ( .bind 4 (Z2i a0.BB) (fun(x1:Bool)=>.bind 4 (ZE a0.GM (!x1)) (fun(x2:Bool)=>AA (!x2)))) ( AA false)) ( AA false)
def Z0j (a0:A8):Option Bool:=AV lV (.b0 a0)
def Z7i:Lay:=⟨[1],[KP],[.var k2],⟨[PQ 0],[VA 44 66]⟩⟩
def Zoq:Nat->Option Lay
 | 3=>some Z7i
 | _=>none
def ZnE:Z0n->Ac U
 | .b0 a0=>Ai Tryz.f19 [44] (a0,())
 | .b1 a0=>AA3 Tryz.f19 [1,1,0] Z7i (a0,())
theorem ZmB:AA1 19 [44] 4 (fun x=>Z0j x.1) rfl:=Aj (mc Zkz (mc Zsu Ag)) Ah Zoq ZnE Tryz.func19 (fun p=>by cases p<;>kernel_rfl) (by kernel_rfl) fun _=>rfl
inductive aQ where
 | b0 (a0:Dc) (a1:Bool)
def Z1R:aQ->Tr U (Bool⊕aQ)
 | .b0 a0 a1=>.br a0.Full ( AA true) ( .br a1 ( AA true) ( AA (decide (a0.OC>=a0.Dh))))
def Yj (a0:Dc) (a1:Bool):Option Bool:=AV Z1R (.b0 a0 a1)
def ZtW:aQ->Ac U
 | .b0 a0 a1=>Ai Tryz.f59 [35,4] (a0,a1,())
theorem Zaw:AA1 59 [35,4] 4 (fun x=>Yj x.1 x.2.1) rfl:=Aj Ag Ah AN ZtW Tryz.func59 (fun p=>by cases p<;>kernel_rfl) (by kernel_rfl) fun _=>rfl
inductive Ym where
 | b0 (a0:BU)
def ZbV:Ym->Tr U (Bool⊕Ym)
 | .b0 a0=>AA ((↑a0.Az.length:Int)==0)
def pI (a0:BU):Option Bool:=AV ZbV (.b0 a0)
def ZqV:Ym->Ac U
 | .b0 a0=>Ai Tryz.f60 [33] (a0,())
theorem Zsg:AA1 60 [33] 4 (fun x=>pI x.1) rfl:=Aj Ag Ah AN ZqV Tryz.func60 (fun p=>by cases p<;>kernel_rfl) (by kernel_rfl) fun _=>rfl
inductive Xl where
 | b0 (a0:A8)
def Z0R:Xl->Tr U (Bool⊕Xl)
 | .b0 a0=>.br (a0.Bc==0) ( .br (a0.Bl==1) ( .br a0.Hw ( .br ((↑a0.BA.length:Int)==0) ( .br ((↑a0.Ak.Bz.length:Int)==0) ( .bind 4 (pI a0.BB) (fun(x1:Bool)=>.bind 4 (Yj a0.GM (!x1)) (fun(x2:Bool)=>AA (!x2)))) ( AA false)) ( AA false)) ( AA false)) ( AA false)) ( AA false)
def UN (a0:A8):Option Bool:=AV Z0R (.b0 a0)
def Zos:Xl->Ac U
 | .b0 a0=>Ai Tryz.f20 [44] (a0,())
theorem Z0k:AA1 20 [44] 4 (fun x=>UN x.1) rfl:=Aj (mc Zaw (mc Zsg Ag)) Ah AN Zos Tryz.func20 (fun p=>by cases p<;>kernel_rfl) (by kernel_rfl) fun _=>rfl
inductive Xj where
 | b0 (a0 a1 a2:Int)
def Z0s:Xj->Tr U (Bool⊕Xj)
 | .b0 a0 a1 a2=>.br (decide (a0>=a1)) ( AA (decide (a0<=a2))) ( AA false)
def Nh (a0 a1 a2:Int):Option Bool:=AV Z0s (.b0 a0 a1 a2)
def ZnG:Xj->Ac U
 | .b0 a0 a1 a2=>Ai Tryz.f129 [3,3,3] (a0,a1,a2,())
theorem Z8I:AA1 129 [3,3,3] 4 (fun x=>Nh x.1 x.2.1 x.2.2.1) rfl:=Aj Ag Ah AN ZnG Tryz.func129 (fun p=>by cases p<;>kernel_rfl) (by kernel_rfl) fun _=>rfl
inductive WM where
 | b0 (a0:DL)
 | b1 (a0:DL)
def jZ:WM->Tr U (Int⊕WM)
 | .b0 a0=>.bind 4 (Nh a0.EK (1:Int) (8:Int)) (fun(x1:Bool)=>.br (!x1) ( AA (5:Int)) ( .bind 4 (Nh a0.EJ (0:Int) (3200:Int)) (fun(x2:Bool)=>.br (!x2) ( AA (5:Int)) ( .bind 4 (Nh a0.Df (6:Int) (3200:Int)) (fun(x3:Bool)=>.br (!x3) ( AA (5:Int)) ( .bind 4 (Nh a0.Dh (0:Int) (499:Int)) (fun(x4:Bool)=>.br (!x4) ( AA (5:Int)) ( .bind 4 (Nh a0.EO (10:Int) (3200:Int)) (fun(x5:Bool)=>.br (!x5) ( AA (5:Int)) ( AO (.b1 a0)))))))))))
 | .b1 a0=>.br (decide (a0.EK>=a0.Df)) ( AA (11:Int)) ( .br (decide (a0.EJ>a0.Df)) ( AA (11:Int)) ( .br (decide ((AP (a0.EO*10000))<=(AP ((AP ((AP ((2:Int)*(AP (a0.Dh+1))))*a0.Df))*1250)))) ( AA (11:Int)) ( AA (0:Int))))
def WJ (a0:DL):Option Int:=AV jZ (.b0 a0)
def Z5P:Lay:=⟨[1],[KP],[.var k12],⟨[PQ 0],[VA 24 5]⟩⟩
def ZiK:Nat->Option Lay
 | 3=>some Z5P
 | _=>none
def ZhI:WM->Ac U
 | .b0 a0=>Ai Tryz.f127 [24] (a0,())
 | .b1 a0=>AA3 Tryz.f127 [1,1,0,0] Z5P (a0,())
theorem Z6a:AA1 127 [24] 45 (fun x=>WJ x.1) rfl:=Aj (mc Z8I Ag) Ah ZiK ZhI Tryz.func127 (fun p=>by cases p<;>kernel_rfl) (by kernel_rfl) fun _=>rfl
inductive Xv where
 | b0 (a0:Int)
def Z1m:Xv->Tr U (Int⊕Xv)
 | .b0 a0=>.bind 25 (RS (37:Int)) (fun(x1:Int)=>.br (decide (a0>=x1)) ( AA (5:Int)) ( .bind 3 (UR a0) (fun(x2:Int)=>.br (decide (x2<2)) ( AA (1:Int)) ( AA (0:Int)))))
def YJ (a0:Int):Option Int:=AV Z1m (.b0 a0)
def ZoE:Xv->Ac U
 | .b0 a0=>Ai Tryz.f128 [26] (a0,())
theorem Z9i:AA1 128 [26] 45 (fun x=>YJ x.1) rfl:=Aj (mc Z0E (mc Z0g Ag)) Ah AN ZoE Tryz.func128 (fun p=>by cases p<;>kernel_rfl) (by kernel_rfl) fun _=>rfl
inductive Xo where
 | b0 (a0:Ey)
 | b1 (a0:Ey)
 | b2 (a0:Ey)
def Z9W:Xo->Tr U (Int⊕Xo)
 | .b0 a0=>.br (a0.IC==0) ( AA (1:Int)) ( .br (a0.IC==2391391958) ( AA (1:Int)) ( AO (.b1 a0)))
 | .b1 a0=>.br (decide (a0.NT>=16777216)) ( AA (5:Int)) ( .bind 45 (WJ a0.BH) (fun(x1:Int)=>.br (x1 != 0) ( AA x1) ( .bind 45 (YJ a0.Map) (fun(x2:Int)=>.br (x2 != 0) ( AA x2) ( .bind 4 (Nh a0.Hop (5:Int) (16:Int)) (fun(x3:Bool)=>.br (!x3) ( AA (5:Int)) ( .bind 4 (Nh a0.Pj (0:Int) (500:Int)) (fun(x4:Bool)=>.br (!x4) ( AA (5:Int)) ( AO (.b2 a0))))))))))
 | .b2 a0=>.br (a0.KL != 1) ( .br (a0.KL != 2) ( AA (12:Int)) ( AA (0:Int))) ( AA (0:Int))
def Z1l (a0:Ey):Option Int:=AV Z9W (.b0 a0)
def lI:Lay:=⟨[1],[KP],[.var k3],⟨[PQ 0],[VA 28 11]⟩⟩
def ZtX:Nat->Option Lay
 | 3=>some lI
 | 13=>some lI
 | _=>none
def Zq9:Xo->Ac U
 | .b0 a0=>Ai Tryz.f43 [28] (a0,())
 | .b1 a0=>AA3 Tryz.f43 [1,1,0,0] lI (a0,())
 | .b2 a0=>AA3 Tryz.f43 [1,1,1,1,1,1,0,0] lI (a0,())
theorem Zo0:AA1 43 [28] 45 (fun x=>Z1l x.1) rfl:=Aj (mc Z6a (mc Z9i (mc Z8I Ag))) Ah ZtX Zq9 Tryz.func43 (fun p=>by cases p<;>kernel_rfl) (by kernel_rfl) fun _=>rfl
inductive XG where
 | b0 (a0 a1 a2:Int)
def Z7S:XG->Tr U (Int⊕XG)
 | .b0 a0 a1 a2=>AA (if (if a2<a0 then a2 else a0)>a1 then (if a2<a0 then a2 else a0) else a1)
def UB (a0 a1 a2:Int):Option Int:=AV Z7S (.b0 a0 a1 a2)
def Zmc:XG->Ac U
 | .b0 a0 a1 a2=>Ai Tryz.f192 [3,3,3] (a0,a1,a2,())
theorem kX:AA1 192 [3,3,3] 3 (fun x=>UB x.1 x.2.1 x.2.2.1) rfl:=Aj Ag Ah AN Zmc Tryz.func192 (fun p=>by cases p<;>kernel_rfl) (by kernel_rfl) fun _=>rfl
inductive Y2 where
 | b0 (a0:Int)
def Za2:Y2->Tr U (Int⊕Y2)
 | .b0 a0=>.bind 3 (UB a0 (0:Int) (4398046511104:Int)) (fun(x1:Int)=>AA x1)
def Z11 (a0:Int):Option Int:=AV Za2 (.b0 a0)
def ZoJ:Y2->Ac U
 | .b0 a0=>Ai Tryz.f130 [3] (a0,())
theorem Zqz:AA1 130 [3] 3 (fun x=>Z11 x.1) rfl:=Aj (mc kX Ag) Ah AN ZoJ Tryz.func130 (fun p=>by cases p<;>kernel_rfl) (by kernel_rfl) fun _=>rfl
inductive X4 where
 | b0 (a0:DL)
def Z90:X4->Tr U (Int⊕X4)
 | .b0 a0=>.bind 3 (UB a0.EJ (0:Int) (3200:Int)) (fun(x1:Int)=>AA (AP (x1*1250)))
def Z0h (a0:DL):Option Int:=AV Z90 (.b0 a0)
def Zmr:X4->Ac U
 | .b0 a0=>Ai Tryz.f131 [24] (a0,())
theorem Zmo:AA1 131 [24] 3 (fun x=>Z0h x.1) rfl:=Aj (mc kX Ag) Ah AN Zmr Tryz.func131 (fun p=>by cases p<;>kernel_rfl) (by kernel_rfl) fun _=>rfl
inductive aV where
 | b0 (a0:DL)
def Zb1:aV->Tr U (Int⊕aV)
 | .b0 a0=>.bind 3 (UB a0.EK (1:Int) (8:Int)) (fun(x1:Int)=>AA (AP (x1*1250)))
def Z1T (a0:DL):Option Int:=AV Zb1 (.b0 a0)
def Ztw:aV->Ac U
 | .b0 a0=>Ai Tryz.f132 [24] (a0,())
theorem ZtP:AA1 132 [24] 3 (fun x=>Z1T x.1) rfl:=Aj (mc kX Ag) Ah AN Ztw Tryz.func132 (fun p=>by cases p<;>kernel_rfl) (by kernel_rfl) fun _=>rfl
inductive YS where
 | b0 (a0:Int) (a1:DL)
def ZaL:YS->Tr U (Hq⊕YS)
 | .b0 a0 a1=>.bind 3 (Z11 a0) (fun(x1:Int)=>.bind 3 (Z0h a1) (fun(x2:Int)=>.bind 3 (Z1T a1) (fun(x3:Int)=>AA (⟨(AP ((AP (x1+1250))+x2)),(AP ((AP ((AP (x1+1250))+x2))+x3))⟩:Hq))))
def Z1h (a0:Int) (a1:DL):Option Hq:=AV ZaL (.b0 a0 a1)
def ZpI:YS->Ac U
 | .b0 a0 a1=>Ai Tryz.f44 [3,24] (a0,a1,())
theorem ZpR:AA1 44 [3,24] 52 (fun x=>Z1h x.1 x.2.1) rfl:=Aj (mc Zqz (mc Zmo (mc ZtP Ag))) Ah AN ZpI Tryz.func44 (fun p=>by cases p<;>kernel_rfl) (by kernel_rfl) fun _=>rfl
end
noncomputable section
inductive dA where
 | b0
def Zcx:dA->Tr U (BU⊕dA)
 | .b0 =>AA Jc
def Z2J  : Option BU:=AV Zcx (.b0)
def ZuN:dA->Ac U
 | .b0 =>Ai Tryz.f45 [] ()
theorem ZvK:AA1 45 [] 33 (fun x=>Z2J) rfl:=Aj Ag Ah AN ZuN Tryz.func45 (fun p=>by cases p<;>kernel_rfl) (by kernel_rfl) fun _=>rfl
inductive bC where
 | b0 (a0:Int)
def Zcw:bC->Tr U (Dc⊕bC)
 | .b0 a0=>AA (⟨(if (if (499:Int)<a0 then (499:Int) else a0)>0 then (if (499:Int)<a0 then (499:Int) else a0) else (0:Int)),0,true⟩:Dc)
def pM (a0:Int):Option Dc:=AV Zcw (.b0 a0)
def ZuQ:bC->Ac U
 | .b0 a0=>Ai Tryz.f46 [3] (a0,())
theorem ZaT:AA1 46 [3] 35 (fun x=>pM x.1) rfl:=Aj Ag Ah AN ZuQ Tryz.func46 (fun p=>by cases p<;>kernel_rfl) (by kernel_rfl) fun _=>rfl
inductive dB where
 | b0 (a0 a1 a2:Int)
def Zd6:dB->Tr U (Aa⊕dB)
 | .b0 a0 a1 a2=>.br (a0==1) ( AA (⟨1,-1,0,[],-1,0,[],false,a1,0,false,false,-1,27,(if (251:Int)<(if (27:Int)>a2 then (27:Int) else a2) then (251:Int) else (if (27:Int)>a2 then (27:Int) else a2)),0,0,0,0,0⟩:Aa)) ( AA (⟨0,-1,0,[],-1,0,[],false,a1,0,false,false,-1,27,(if (251:Int)<(if (27:Int)>a2 then (27:Int) else a2) then (251:Int) else (if (27:Int)>a2 then (27:Int) else a2)),0,0,0,0,0⟩:Aa))
def Z2v (a0 a1 a2:Int):Option Aa:=AV Zd6 (.b0 a0 a1 a2)
def ZuX:dB->Ac U
 | .b0 a0 a1 a2=>Ai Tryz.f47 [3,25,3] (a0,a1,a2,())
theorem ZvX:AA1 47 [3,25,3] 39 (fun x=>Z2v x.1 x.2.1 x.2.2.1) rfl:=Aj Ag Ah AN ZuX Tryz.func47 (fun p=>by cases p<;>kernel_rfl) (by kernel_rfl) fun _=>rfl
inductive Xu where
 | b0
def Z9I:Xu->Tr U ((List BR)⊕Xu)
 | .b0 =>.chk (decide (0<=(37:Int)/\(37:Int)<=37/\Int.toNat 37*16<=lim/\(37:Int)<=(↑maxLen:Int))) ( .chk (kL (List.replicate (Int.toNat 37) (⟨0,0⟩:BR))) ( AA (List.replicate (Int.toNat 37) (⟨0,0⟩:BR))))
def Z0V  : Option (List BR):=AV Z9I (.b0)
def Zov:Xu->Ac U
 | .b0 =>Ai Tryz.f48 [] ()
theorem ZoA:AA1 48 [] 42 (fun x=>Z0V) rfl:=Aj Ag Ah AN Zov Tryz.func48 (fun p=>by cases p<;>kernel_rfl) (by kernel_rfl) fun _=>rfl
inductive dD where
 | b0 (a0:Int) (a1:Ey) (a2 a3 a4 a5:Int)
 | b1 (a0:A8)
 | b2 (a0 a1 a2 a3 a4:Int) (a5:Ey) (a6:A8)
 | b3 (a0:A8)
 | b4 (a0 a1 a2 a3 a4:Int) (a5:Ey) (a6:A8)
def ZcI:dD->Tr U ((A8×Int)⊕dD)
 | .b0 a0 a1 a2 a3 a4 a5=>.br (a0 != 0) ( .br (a0 != 1) ( AO (.b1 Dp)) ( AO (.b2 a0 a2 a3 a4 a5 a1 Dp))) ( AO (.b2 a0 a2 a3 a4 a5 a1 Dp))
 | .b1 a0=>AA (Dp,1)
 | .b2 a0 a1 a2 a3 a4 a5 a6=>.bind 45 (Z1l a5) (fun(x1:Int)=>.br (x1 != 0) ( AA (Dp,x1)) ( .br (decide (a1<0)) ( AO (.b3 a6)) ( .br (decide (a1>500)) ( AO (.b3 a6)) ( .br (decide (a4<0)) ( AO (.b3 a6)) ( .br (decide (a4>1099511627776)) ( AO (.b3 a6)) ( AO (.b4 a0 a1 a2 a3 a4 a5 a6)))))))
 | .b3 a0=>AA (Dp,5)
 | .b4 a0 a1 a2 a3 a4 a5 a6=>.bind 52 (Z1h a4 a5.BH) (fun(x1:Hq)=>.bind 33 (Z2J) (fun(x2:BU)=>.bind 35 (pM a5.BH.Dh) (fun(x3:Dc)=>.bind 39 (Z2v a0 (63:Int) (251:Int)) (fun(x4:Aa)=>.bind 42 (Z0V) (fun(x5:List BR)=>.br (a0==1) ( AA ((⟨a0,a5,a1,0,0,x1.Start,(AP (x1.End - x1.Start)),a4,a4,false,false,false,false,false,x2,x3,x4,RJ,a2,x5,[],0,a3⟩:A8),(0:Int))) ( AA ((⟨a0,a5,a1,0,0,x1.Start,0,a4,a4,false,false,false,false,false,x2,x3,x4,RJ,a2,x5,[],0,a3⟩:A8),(0:Int))))))))
def qH (a0:Int) (a1:Ey) (a2 a3 a4 a5:Int):Option (A8×Int):=AV ZcI (.b0 a0 a1 a2 a3 a4 a5)
def nV:Lay:=⟨[12],[KP],[.var k2],⟨[PQ 0],[VA 44 66]⟩⟩
def nR:Lay:=⟨[0,2,3,4,5,7,12],[KP,KP,KP,KP,KP,KP,KP],[.var k3,.var k2],⟨[OV 3,OV 3,OV 29,OV 25,OV 3,PQ 0,PQ 1],[VA 28 11,VA 44 66]⟩⟩
def ZyQ:Nat->Option Lay
 | 2=>some nV
 | 3=>some nR
 | 7=>some nV
 | 8=>some nR
 | _=>none
def Zvl:dD->Ac U
 | .b0 a0 a1 a2 a3 a4 a5=>Ai Tryz.f12 [3,28,3,29,25,3] (a0,a1,a2,a3,a4,a5,())
 | .b1 a0=>AA3 Tryz.f12 [1,0,1,0,0] nV (a0,())
 | .b2 a0 a1 a2 a3 a4 a5 a6=>AA3 Tryz.f12 [1,1,0] nR (a0,a1,a2,a3,a4,a5,a6,())
 | .b3 a0=>AA3 Tryz.f12 [1,1,1,1,0,1,0,0] nV (a0,())
 | .b4 a0 a1 a2 a3 a4 a5 a6=>AA3 Tryz.f12 [1,1,1,1,1,0] nR (a0,a1,a2,a3,a4,a5,a6,())
theorem Zxc:AA1 12 [3,28,3,29,25,3] 46 (fun x=>qH x.1 x.2.1 x.2.2.1 x.2.2.2.1 x.2.2.2.2.1 x.2.2.2.2.2.1) rfl:=Aj (mc Zo0 (mc ZpR (mc ZvK (mc ZaT (mc ZvX (mc ZoA Ag)))))) Ah ZyQ Zvl Tryz.func12 (fun p=>by cases p<;>kernel_rfl) (by kernel_rfl) fun _=>rfl
inductive Yb where
 | b0 (a0:Aa)
def Z16:Yb->Tr U (Bool⊕Yb)
 | .b0 a0=>.br (decide (a0.EI>=1)) ( AA (decide (a0.EI<=3))) ( AA false)
def Y7 (a0:Aa):Option Bool:=AV Z16 (.b0 a0)
def ZoP:Yb->Ac U
 | .b0 a0=>Ai Tryz.f162 [39] (a0,())
theorem Z94:AA1 162 [39] 4 (fun x=>Y7 x.1) rfl:=Aj Ag Ah AN ZoP Tryz.func162 (fun p=>by cases p<;>kernel_rfl) (by kernel_rfl) fun _=>rfl
inductive XN where
 | b0 (a0:Int)
def Z09:XN->Tr U (Bool⊕XN)
 | .b0 a0=>.br (a0==3) ( AA true) ( .br (a0==4) ( AA true) ( .br (a0==5) ( AA true) ( .br (a0==6) ( AA true) ( AA (a0==13)))))
def lN (a0:Int):Option Bool:=AV Z09 (.b0 a0)
def Zma:XN->Ac U
 | .b0 a0=>Ai Tryz.f163 [3] (a0,())
theorem Zm6:AA1 163 [3] 4 (fun x=>lN x.1) rfl:=Aj Ag Ah AN Zma Tryz.func163 (fun p=>by cases p<;>kernel_rfl) (by kernel_rfl) fun _=>rfl
inductive X9 where
 | b0 (a0:Int)
 | b1 (a0:Be)
 | b2 (a0:Int) (a1:Be)
 | b3 (a0:Be)
 | b4 (a0:Int) (a1:Be)
 | b5 (a0:Be)
 | b6 (a0:Be)
def Nj:X9->Tr U (Be⊕X9)
 | .b0 a0=>.br (a0==0) ( AA (⟨true,true,false,true,false,false,false,false,false,false,false⟩:Be)) ( .br (a0==1) ( AA (⟨true,false,true,true,false,false,false,false,false,false,false⟩:Be)) ( .br (a0==2) ( AA (⟨true,false,false,false,true,false,false,false,false,false,false⟩:Be)) ( .br (a0==3) ( AA (⟨true,false,false,false,false,false,true,true,false,false,false⟩:Be)) ( .br (a0==4) ( AA (⟨true,false,false,false,false,false,true,false,false,false,false⟩:Be)) ( .br (a0==5) ( .br (a0==5) ( AO (.b1 MZ)) ( AO (.b2 a0 MZ))) ( .br (a0==6) ( .br (a0==6) ( AO (.b1 MZ)) ( AO (.b2 a0 MZ))) ( .br (a0==18) ( .br (a0==18) ( AO (.b1 MZ)) ( AO (.b2 a0 MZ))) ( .br (a0==19) ( AO (.b1 MZ)) ( AO (.b2 a0 MZ))))))))))
 | .b1 a0=>AA (⟨true,false,false,false,false,false,false,false,false,false,false⟩:Be)
 | .b2 a0 a1=>.br (a0==7) ( AA (⟨true,false,false,false,false,true,false,false,false,false,false⟩:Be)) ( .br (a0==8) ( .br (a0==8) ( AO (.b3 a1)) ( AO (.b4 a0 a1))) ( .br (a0==9) ( AO (.b3 a1)) ( AO (.b4 a0 a1))))
 | .b3 a0=>AA (⟨true,false,false,false,false,false,false,false,true,false,false⟩:Be)
 | .b4 a0 a1=>.br (a0==12) ( AA (⟨true,false,false,false,false,false,false,false,false,true,false⟩:Be)) ( .br (a0==13) ( AA (⟨true,false,false,false,true,true,false,false,false,false,false⟩:Be)) ( .br (a0==15) ( AA (⟨true,true,false,false,false,false,false,false,false,false,false⟩:Be)) ( .br (a0==20) ( .br (a0==20) ( AO (.b5 a1)) ( AO (.b6 a1))) ( .br (a0==21) ( AO (.b5 a1)) ( AO (.b6 a1))))))
 | .b5 a0=>AA (⟨true,false,false,false,false,false,false,false,false,false,true⟩:Be)
 | .b6 a0=>AA MZ
def EN (a0:Int):Option Be:=AV Nj (.b0 a0)
def QB:Lay:=⟨[2],[KP],[.var k3],⟨[PQ 0],[VA 262 11]⟩⟩
def kT:Lay:=⟨[2,3],[KP,KP],[.var k3],⟨[PQ 0,OV 3],[VA 262 11]⟩⟩
def Zpv:Nat->Option Lay
 | 16=>some QB
 | 17=>some kT
 | 21=>some QB
 | 22=>some kT
 | 30=>some QB
 | 31=>some QB
 | _=>none
def Zng:X9->Ac U
 | .b0 a0=>Ai Tryz.f240 [3] (a0,())
 | .b1 a0=>AA3 Tryz.f240 [1,0,1,0,1,1,1,1,1,1,1,1,1,1,1,0,0] QB (a0,())
 | .b2 a0 a1=>AA3 Tryz.f240 [1,0,1,0,1,1,1,1,1,1,1,1,1,1,1,1,0] kT (a0,a1,())
 | .b3 a0=>AA3 Tryz.f240 [1,0,1,0,1,1,1,1,1,1,1,1,1,1,1,1,1,1,1,0,0] QB (a0,())
 | .b4 a0 a1=>AA3 Tryz.f240 [1,0,1,0,1,1,1,1,1,1,1,1,1,1,1,1,1,1,1,1,0] kT (a0,a1,())
 | .b5 a0=>AA3 Tryz.f240 [1,0,1,0,1,1,1,1,1,1,1,1,1,1,1,1,1,1,1,1,1,1,1,1,1,1,1,0,0] QB (a0,())
 | .b6 a0=>AA3 Tryz.f240 [1,1,0] QB (a0,())
theorem QD:AA1 240 [3] 262 (fun x=>EN x.1) rfl:=Aj Ag Ah Zpv Zng Tryz.func240 (fun p=>by cases p<;>kernel_rfl) (by kernel_rfl) fun _=>rfl
inductive Yr where
 | b0 (a0:AL)
 | b1 (a0 a1:AL) (a2:Be)
 | b2 (a0 a1:AL) (a2:Be)
 | b3 (a0 a1:AL) (a2:Be)
 | b4 (a0 a1:AL) (a2:Be)
 | b5 (a0 a1:AL) (a2:Be)
 | b6 (a0 a1:AL) (a2:Be)
 | b7 (a0 a1:AL) (a2:Be)
 | b8 (a0 a1:AL) (a2:Be)
 | b9 (a0 a1:AL) (a2:Be)
def Gf:Yr->Tr U (AL⊕Yr)
 | .b0 a0=>.bind 262 (EN a0.Kind) (fun(x1:Be)=>.br x1.BH ( AO (.b1 ({ a0 with Kind:=0,BH:=BP }:AL) GZ x1)) ( AO (.b1 ({ a0 with Kind:=0 }:AL) GZ x1)))
 | .b1 a0 a1 a2=>.br a2.Map ( AO (.b2 ({ a0 with Map:=0 }:AL) a1 a2)) ( AO (.b2 a0 a1 a2))
 | .b2 a0 a1 a2=>.br a2.DD ( AO (.b3 ({ a0 with DD:=0 }:AL) a1 a2)) ( AO (.b3 a0 a1 a2))
 | .b3 a0 a1 a2=>.br a2.Bc ( AO (.b4 ({ a0 with Bc:=0 }:AL) a1 a2)) ( AO (.b4 a0 a1 a2))
 | .b4 a0 a1 a2=>.br a2.DI ( AO (.b5 ({ a0 with DI:=0 }:AL) a1 a2)) ( AO (.b5 a0 a1 a2))
 | .b5 a0 a1 a2=>.br a2.Bo ( AO (.b6 ({ a0 with Bo:=0 }:AL) a1 a2)) ( AO (.b6 a0 a1 a2))
 | .b6 a0 a1 a2=>.br a2.Mark ( AO (.b7 ({ a0 with Mark:=0 }:AL) a1 a2)) ( AO (.b7 a0 a1 a2))
 | .b7 a0 a1 a2=>.br a2.CQ ( AO (.b8 ({ a0 with CQ:=0 }:AL) a1 a2)) ( AO (.b8 a0 a1 a2))
 | .b8 a0 a1 a2=>.br a2.Version ( AO (.b9 ({ a0 with Version:=0 }:AL) a1 a2)) ( AO (.b9 a0 a1 a2))
 | .b9 a0 a1 a2=>.br a2.Length ( AA ({ a0 with Length:=0 }:AL)) ( AA a0)
def oW (a0:AL):Option AL:=AV Gf (.b0 a0)
def IP:Lay:=⟨[1,2,3],[KP,KP,KP],[.var k0,.var k0,.var k3],⟨[PQ 0,PQ 1,PQ 2],[VA 156 15,VA 156 15,VA 262 11]⟩⟩
def Zwa:Nat->Option Lay
 | 5=>some IP
 | 7=>some IP
 | 9=>some IP
 | 11=>some IP
 | 13=>some IP
 | 15=>some IP
 | 17=>some IP
 | 19=>some IP
 | 21=>some IP
 | _=>none
def ZrI:Yr->Ac U
 | .b0 a0=>Ai Tryz.f325 [156] (a0,())
 | .b1 a0 a1 a2=>AA3 Tryz.f325 [1,1,1,1,0,0] IP (a0,a1,a2,())
 | .b2 a0 a1 a2=>AA3 Tryz.f325 [1,1,1,1,1,0,0] IP (a0,a1,a2,())
 | .b3 a0 a1 a2=>AA3 Tryz.f325 [1,1,1,1,1,1,0,0] IP (a0,a1,a2,())
 | .b4 a0 a1 a2=>AA3 Tryz.f325 [1,1,1,1,1,1,1,0,0] IP (a0,a1,a2,())
 | .b5 a0 a1 a2=>AA3 Tryz.f325 [1,1,1,1,1,1,1,1,0,0] IP (a0,a1,a2,())
 | .b6 a0 a1 a2=>AA3 Tryz.f325 [1,1,1,1,1,1,1,1,1,0,0] IP (a0,a1,a2,())
 | .b7 a0 a1 a2=>AA3 Tryz.f325 [1,1,1,1,1,1,1,1,1,1,0,0] IP (a0,a1,a2,())
 | .b8 a0 a1 a2=>AA3 Tryz.f325 [1,1,1,1,1,1,1,1,1,1,1,0,0] IP (a0,a1,a2,())
 | .b9 a0 a1 a2=>AA3 Tryz.f325 [1,1,1,1,1,1,1,1,1,1,1,1,0,0] IP (a0,a1,a2,())
theorem Zsx:AA1 325 [156] 156 (fun x=>oW x.1) rfl:=Aj (mc QD Ag) Ah Zwa ZrI Tryz.func325 (fun p=>by cases p<;>kernel_rfl) (by kernel_rfl) fun _=>rfl
inductive X5 where
 | b0 (a0:Int)
def Z0A:X5->Tr U (Bool⊕X5)
 | .b0 a0=>.br (decide (a0>=0)) ( AA (decide (a0<=255))) ( AA false)
def UK (a0:Int):Option Bool:=AV Z0A (.b0 a0)
def ZmF:X5->Ac U
 | .b0 a0=>Ai Tryz.f326 [3] (a0,())
theorem ZmD:AA1 326 [3] 4 (fun x=>UK x.1) rfl:=Aj Ag Ah AN ZmF Tryz.func326 (fun p=>by cases p<;>kernel_rfl) (by kernel_rfl) fun _=>rfl
inductive Z1f where
 | b0 (a0:AL)
 | b1 (a0:AL) (a1:Be)
 | b2 (a0:AL) (a1:Be)
def UY:Z1f->Tr U (Int⊕Z1f)
 | .b0 a0=>.bind 262 (EN a0.Kind) (fun(x1:Be)=>.br (!x1.Hl) ( AA (12:Int)) ( .bind 156 (oW a0) (fun(x2:AL)=>.br (!((x2.Kind==0)&&((x2.BH.EK==0)&&((x2.BH.EJ==0)&&((x2.BH.Df==0)&&((x2.BH.Dh==0)&&((x2.BH.EO==0)&&((x2.Map==0)&&((x2.DD==0)&&((x2.Bc==0)&&((x2.DI==0)&&((x2.Bo==0)&&((x2.Mark==0)&&((x2.CQ==0)&&((x2.Version==0)&&((x2.Length==0)&&true)))))))))))))))) ( AA (1:Int)) ( .br x1.BH ( .bind 45 (WJ a0.BH) (fun(x3:Int)=>.br (x3 != 0) ( AA x3) ( AO (.b1 a0 x1)))) ( AO (.b1 a0 x1))))))
 | .b1 a0 a1=>.br a1.Map ( .bind 45 (YJ a0.Map) (fun(x1:Int)=>.br (x1 != 0) ( AA x1) ( AO (.b2 a0 a1)))) ( AO (.b2 a0 a1))
 | .b2 a0 a1=>.bind 4 (UK a0.Bc) (fun(x1:Bool)=>.br (!x1) ( AA (5:Int)) ( .bind 4 (UK a0.DI) (fun(x2:Bool)=>.br (!x2) ( AA (5:Int)) ( .bind 4 (UK a0.Version) (fun(x3:Bool)=>.br (!x3) ( AA (5:Int)) ( .br a1.Length ( .br (decide (a0.Length<27)) ( AA (5:Int)) ( .br (decide (a0.Length>251)) ( AA (5:Int)) ( AA (0:Int)))) ( AA (0:Int))))))))
def Og (a0:AL):Option Int:=AV UY (.b0 a0)
def lS:Lay:=⟨[1,3],[KP,KP],[.var k0,.var k3],⟨[PQ 0,PQ 1],[VA 156 15,VA 262 11]⟩⟩
def Zu7:Nat->Option Lay
 | 10=>some lS
 | 14=>some lS
 | _=>none
def Zoo:Z1f->Ac U
 | .b0 a0=>Ai Tryz.f239 [156] (a0,())
 | .b1 a0 a1=>AA3 Tryz.f239 [1,1,1,1,1,0,0] lS (a0,a1,())
 | .b2 a0 a1=>AA3 Tryz.f239 [1,1,1,1,1,1,0,0] lS (a0,a1,())
theorem Z0p:AA1 239 [156] 45 (fun x=>Og x.1) rfl:=Aj (mc Z6a (mc Z9i (mc QD (mc Zsx (mc ZmD Ag))))) Ah Zu7 Zoo Tryz.func239 (fun p=>by cases p<;>kernel_rfl) (by kernel_rfl) fun _=>rfl
inductive bM where
 | b0 (a0 a1:Int)
 | b1 (a0 a1:Int) (a2:List Int) (a3:Int)
def Ue:bM->Tr U (I8⊕bM)
 | .b0 a0 a1=>.chk (([]:List Int).length==0) ( AO (.b1 a0 a1 ([]:List Int) (0:Int)))
 | .b1 a0 a1 a2 a3=>.br (decide (a3<a1)) ( .chk (([(IntKind.wrap .u8 ((Int.tmod a0 256)))]).length==1) ( .chk (kL a2) ( .chk (kA (a2.length+([(IntKind.wrap .u8 ((Int.tmod a0 256)))]).length) 1) ( .chk (kL (a2++[(IntKind.wrap .u8 ((Int.tmod a0 256)))])) ( AO (.b1 (IntKind.wrap .u64 (Int.tdiv a0 256)) a1 (a2++[(IntKind.wrap .u8 ((Int.tmod a0 256)))]) (AP (a3+1)))))))) ( .chk (kL a2) ( AA (⟨a2⟩:I8)))
def Gz (a0 a1:Int):Option I8:=AV Ue (.b0 a0 a1)
def Za9:Shape:=⟨[OV 25,OV 3],[]⟩
def Zpk:Shape:=⟨[.one (.own 5 0)],[.row 5 true]⟩
noncomputable def Zye:HMod U:=⟨[KP,KP],[],Za9,Zpk,true,1349,fun(y:I8)=>(((),()),(y.q0,())),fun x=>Gz x.1.1.1 x.1.2.1.1,okS rfl⟩
def Zag:Lay:=⟨[0,1,5,6],[KP,KP,[.own 5 1],KP],[.row true],⟨[OV 25,OV 3,.one (.own 5 0),OV 3],[.row 5 true]⟩⟩
def ZyN:Nat->Option Lay
 | 3=>some Zag
 | _=>none
def Zvo:bM->Ac U
 | .b0 a0 a1=>Fe Tryz.f242 Za9 (((a0,()),((a1,()),())),())
 | .b1 a0 a1 a2 a3=>AA3 Tryz.f242 [1,1,0,1,0,0,0,0] Zag (a0,a1,a3,a2,())
theorem ZbI:Dv Tryz.prog B0 242 Zye:=okR Ag Ah ZyN [[.own 5 1]] [.row true] 0 Zvo Tryz.func242 (fun p=>by cases p<;>kernel_rfl) (by kernel_rfl) fun x=>by kernel_rfl
inductive Wi where
 | b0 (a0:DL)
def Zg:Wi->Tr U ((List Int)⊕Wi)
 | .b0 a0=>.bind 1349 (Gz (IntKind.wrap .u64 (a0.EK)) (1:Int)) (fun(y1:I8)=>.bind 1349 (Gz (IntKind.wrap .u64 (a0.EJ)) (2:Int)) (fun(y2:I8)=>.chk (kL y2.q0) ( .chk (kL y1.q0) ( .chk (kA (y1.q0.length+y2.q0.length) 1) ( .bind 1349 (Gz (IntKind.wrap .u64 (a0.Df)) (2:Int)) (fun(y3:I8)=>.chk (kL y3.q0) ( .chk (kL (y1.q0++y2.q0)) ( .chk (kA ((y1.q0++y2.q0).length+y3.q0.length) 1) ( .bind 1349 (Gz (IntKind.wrap .u64 (a0.Dh)) (2:Int)) (fun(y4:I8)=>.chk (kL y4.q0) ( .chk (kL ((y1.q0++y2.q0)++y3.q0)) ( .chk (kA (((y1.q0++y2.q0)++y3.q0).length+y4.q0.length) 1) ( .bind 1349 (Gz (IntKind.wrap .u64 (a0.EO)) (2:Int)) (fun(y5:I8)=>.chk (kL y5.q0) ( .chk (kL (((y1.q0++y2.q0)++y3.q0)++y4.q0)) ( .chk (kA ((((y1.q0++y2.q0)++y3.q0)++y4.q0).length+y5.q0.length) 1) ( .chk (kL ((((y1.q0++y2.q0)++y3.q0)++y4.q0)++y5.q0)) ( AA ((((y1.q0++y2.q0)++y3.q0)++y4.q0)++y5.q0)))))))))))))))))))
def kQ (a0:DL):Option (List Int):=AV Zg (.b0 a0)
def ZjY:Wi->Ac U
 | .b0 a0=>Ai Tryz.f241 [24] (a0,())
theorem ZjD:AA1 241 [24] 62 (fun x=>kQ x.1) rfl:=Aj Ag (hc [] ZbI Ah) AN ZjY Tryz.func241 (fun p=>by cases p<;>kernel_rfl) (by kernel_rfl) fun _=>rfl
inductive Xh where
 | b0 (a0:AL)
 | b1 (a0:List Int) (a1:AL) (a2:Be)
 | b2 (a0:List Int) (a1:AL) (a2:Be)
 | b3 (a0:List Int) (a1:AL) (a2:Be)
 | b4 (a0:List Int) (a1:AL) (a2:Be)
 | b5 (a0:List Int) (a1:AL) (a2:Be)
 | b6 (a0:List Int) (a1:AL) (a2:Be)
 | b7 (a0:List Int) (a1:AL) (a2:Be)
 | b8 (a0:List Int) (a1:AL) (a2:Be)
 | b9 (a0:List Int) (a1:AL) (a2:Be)
def Gx:Xh->Tr U (((List Int)×Int)⊕Xh)
 | .b0 a0=>.bind 45 (Og a0) (fun(x1:Int)=>.br (x1 != 0) ( .chk (([]:List Int).length==0) ( AA (([]:List Int),x1))) ( .bind 262 (EN a0.Kind) (fun(x2:Be)=>.br x2.BH ( .bind 62 (kQ a0.BH) (fun(x3:List Int)=>.chk (([(IntKind.wrap .u8 (a0.Kind))]).length==1) ( .chk (kA (1+x3.length) 1) ( .chk (kL ([(IntKind.wrap .u8 (a0.Kind))]++x3)) ( AO (.b1 ([(IntKind.wrap .u8 (a0.Kind))]++x3) a0 x2)))))) ( .chk (([(IntKind.wrap .u8 (a0.Kind))]).length==1) ( AO (.b1 ([(IntKind.wrap .u8 (a0.Kind))]) a0 x2))))))
 | .b1 a0 a1 a2=>.br a2.Map ( .bind 1349 (Gz a1.Map (5:Int)) (fun(y1:I8)=>.chk (kL y1.q0) ( .chk (kL a0) ( .chk (kA (a0.length+y1.q0.length) 1) ( .chk (kL (a0++y1.q0)) ( AO (.b2 (a0++y1.q0) a1 a2))))))) ( .chk (kL a0) ( AO (.b2 a0 a1 a2)))
 | .b2 a0 a1 a2=>.br a2.DD ( .bind 1349 (Gz (IntKind.wrap .u64 (a1.DD)) (2:Int)) (fun(y1:I8)=>.chk (kL y1.q0) ( .chk (kL a0) ( .chk (kA (a0.length+y1.q0.length) 1) ( .chk (kL (a0++y1.q0)) ( AO (.b3 (a0++y1.q0) a1 a2))))))) ( .chk (kL a0) ( AO (.b3 a0 a1 a2)))
 | .b3 a0 a1 a2=>.br a2.Bc ( .chk (([(IntKind.wrap .u8 (a1.Bc))]).length==1) ( .chk (kL a0) ( .chk (kA (a0.length+([(IntKind.wrap .u8 (a1.Bc))]).length) 1) ( .chk (kL (a0++[(IntKind.wrap .u8 (a1.Bc))])) ( AO (.b4 (a0++[(IntKind.wrap .u8 (a1.Bc))]) a1 a2)))))) ( .chk (kL a0) ( AO (.b4 a0 a1 a2)))
 | .b4 a0 a1 a2=>.br a2.DI ( .chk (([(IntKind.wrap .u8 (a1.DI))]).length==1) ( .chk (kL a0) ( .chk (kA (a0.length+([(IntKind.wrap .u8 (a1.DI))]).length) 1) ( .chk (kL (a0++[(IntKind.wrap .u8 (a1.DI))])) ( AO (.b5 (a0++[(IntKind.wrap .u8 (a1.DI))]) a1 a2)))))) ( .chk (kL a0) ( AO (.b5 a0 a1 a2)))
 | .b5 a0 a1 a2=>.br a2.Bo ( .bind 1349 (Gz a1.Bo (8:Int)) (fun(y1:I8)=>.chk (kL y1.q0) ( .chk (kL a0) ( .chk (kA (a0.length+y1.q0.length) 1) ( .chk (kL (a0++y1.q0)) ( AO (.b6 (a0++y1.q0) a1 a2))))))) ( .chk (kL a0) ( AO (.b6 a0 a1 a2)))
 | .b6 a0 a1 a2=>.br a2.Mark ( .bind 1349 (Gz a1.Mark (8:Int)) (fun(y1:I8)=>.chk (kL y1.q0) ( .chk (kL a0) ( .chk (kA (a0.length+y1.q0.length) 1) ( .chk (kL (a0++y1.q0)) ( AO (.b7 (a0++y1.q0) a1 a2))))))) ( .chk (kL a0) ( AO (.b7 a0 a1 a2)))
 | .b7 a0 a1 a2=>.br a2.CQ ( .bind 1349 (Gz a1.CQ (8:Int)) (fun(y1:I8)=>.chk (kL y1.q0) ( .chk (kL a0) ( .chk (kA (a0.length+y1.q0.length) 1) ( .chk (kL (a0++y1.q0)) ( AO (.b8 (a0++y1.q0) a1 a2))))))) ( .chk (kL a0) ( AO (.b8 a0 a1 a2)))
 | .b8 a0 a1 a2=>.br a2.Version ( .chk (([(IntKind.wrap .u8 (a1.Version))]).length==1) ( .chk (kL a0) ( .chk (kA (a0.length+([(IntKind.wrap .u8 (a1.Version))]).length) 1) ( .chk (kL (a0++[(IntKind.wrap .u8 (a1.Version))])) ( AO (.b9 (a0++[(IntKind.wrap .u8 (a1.Version))]) a1 a2)))))) ( .chk (kL a0) ( AO (.b9 a0 a1 a2)))
 | .b9 a0 a1 a2=>.br a2.Length ( .chk (([(IntKind.wrap .u8 (a1.Length))]).length==1) ( .chk (kL a0) ( .chk (kA (a0.length+([(IntKind.wrap .u8 (a1.Length))]).length) 1) ( .chk (kL (a0++[(IntKind.wrap .u8 (a1.Length))])) ( AA ((a0++[(IntKind.wrap .u8 (a1.Length))]),(0:Int))))))) ( .chk (kL a0) ( AA (a0,0)))
def QE (a0:AL):Option ((List Int)×Int):=AV Gx (.b0 a0)
def IK:Lay:=⟨[1,5,6],[KP,KP,[.own 5 1]],[.var k0,.var k3,.row true],⟨[PQ 0,PQ 1,.one (.own 5 2)],[VA 156 15,VA 262 11,.row 5 true]⟩⟩
def ZpM:Nat->Option Lay
 | 8=>some IK
 | 10=>some IK
 | 12=>some IK
 | 14=>some IK
 | 16=>some IK
 | 18=>some IK
 | 20=>some IK
 | 22=>some IK
 | 24=>some IK
 | _=>none
def Zmq:Xh->Ac U
 | .b0 a0=>Ai Tryz.f164 [156] (a0,())
 | .b1 a0 a1 a2=>AA3 Tryz.f164 [1,1,1,1,1,0,0] IK (a1,a2,a0,())
 | .b2 a0 a1 a2=>AA3 Tryz.f164 [1,1,1,1,1,1,0,0] IK (a1,a2,a0,())
 | .b3 a0 a1 a2=>AA3 Tryz.f164 [1,1,1,1,1,1,1,0,0] IK (a1,a2,a0,())
 | .b4 a0 a1 a2=>AA3 Tryz.f164 [1,1,1,1,1,1,1,1,0,0] IK (a1,a2,a0,())
 | .b5 a0 a1 a2=>AA3 Tryz.f164 [1,1,1,1,1,1,1,1,1,0,0] IK (a1,a2,a0,())
 | .b6 a0 a1 a2=>AA3 Tryz.f164 [1,1,1,1,1,1,1,1,1,1,0,0] IK (a1,a2,a0,())
 | .b7 a0 a1 a2=>AA3 Tryz.f164 [1,1,1,1,1,1,1,1,1,1,1,0,0] IK (a1,a2,a0,())
 | .b8 a0 a1 a2=>AA3 Tryz.f164 [1,1,1,1,1,1,1,1,1,1,1,1,0,0] IK (a1,a2,a0,())
 | .b9 a0 a1 a2=>AA3 Tryz.f164 [1,1,1,1,1,1,1,1,1,1,1,1,1,0,0] IK (a1,a2,a0,())
theorem Znw:AA1 164 [156] 120 (fun x=>QE x.1) rfl:=Aj (mc Z0p (mc QD (mc ZjD Ag))) (hc [] ZbI Ah) ZpM Zmq Tryz.func164 (fun p=>by cases p<;>kernel_rfl) (by kernel_rfl) fun _=>rfl
inductive bF where
 | b0 (a0:Int)
def Z2M:bF->Tr U (Bool⊕bF)
 | .b0 a0=>.br (a0==0) ( AA true) ( AA (a0==1))
def Uh (a0:Int):Option Bool:=AV Z2M (.b0 a0)
def Zv4:bF->Ac U
 | .b0 a0=>Ai Tryz.f243 [3] (a0,())
theorem Zw6:AA1 243 [3] 4 (fun x=>Uh x.1) rfl:=Aj Ag Ah AN Zv4 Tryz.func243 (fun p=>by cases p<;>kernel_rfl) (by kernel_rfl) fun _=>rfl
inductive WQ where
 | b0 (a0:Aw)
 | b1 (a0:Aw)
 | b2 (a0:Aw)
def RG:WQ->Tr U (Int⊕WQ)
 | .b0 a0=>.br (decide (a0.Bq<1)) ( AA (12:Int)) ( .br (decide (a0.Bq>3)) ( AA (12:Int)) ( AO (.b1 a0)))
 | .b1 a0=>.br ((↑a0.Payload.length:Int)==0) ( .br (a0.Bq != 1) ( AA (1:Int)) ( AO (.b2 a0))) ( AO (.b2 a0))
 | .b2 a0=>.br (decide ((↑a0.Payload.length:Int)>255)) ( AA (4:Int)) ( AA (0:Int))
def kC (a0:Aw):Option Int:=AV RG (.b0 a0)
def jE:Lay:=⟨[1],[KP],[.var [.keep,.s 5 1]],⟨[PQ 0],[VA 68 2]⟩⟩
def ZiQ:Nat->Option Lay
 | 3=>some jE
 | 5=>some jE
 | _=>none
def Zhw:WQ->Ac U
 | .b0 a0=>Ai Tryz.f244 [68] (a0,())
 | .b1 a0=>AA3 Tryz.f244 [1,1,0,0] jE (a0,())
 | .b2 a0=>AA3 Tryz.f244 [1,1,1,0,0] jE (a0,())
theorem Zhz:AA1 244 [68] 45 (fun x=>kC x.1) rfl:=Aj Ag Ah ZiQ Zhw Tryz.func244 (fun p=>by cases p<;>kernel_rfl) (by kernel_rfl) fun _=>rfl
inductive Y1 where
 | b0 (a0:BM)
 | b1 (a0:BM)
def YT:Y1->Tr U (Int⊕Y1)
 | .b0 a0=>.bind 4 (Uh a0.SN) (fun(x1:Bool)=>.br (!x1) ( AA (5:Int)) ( .bind 4 (Uh a0.EF) (fun(x2:Bool)=>.br (!x2) ( AA (5:Int)) ( .bind 4 (Uh a0.MD) (fun(x3:Bool)=>.br (!x3) ( AA (5:Int)) ( AO (.b1 a0)))))))
 | .b1 a0=>.bind 45 (kC a0.BG) (fun(x1:Int)=>AA x1)
def Nk (a0:BM):Option Int:=AV YT (.b0 a0)
def Z7N:Lay:=⟨[1],[KP],[.var k4],⟨[PQ 0],[VA 70 5]⟩⟩
def ZrM:Nat->Option Lay
 | 3=>some Z7N
 | _=>none
def Zot:Y1->Ac U
 | .b0 a0=>Ai Tryz.f167 [70] (a0,())
 | .b1 a0=>AA3 Tryz.f167 [1,1,0] Z7N (a0,())
theorem UH:AA1 167 [70] 45 (fun x=>Nk x.1) rfl:=Aj (mc Zw6 (mc Zhz Ag)) Ah ZrM Zot Tryz.func167 (fun p=>by cases p<;>kernel_rfl) (by kernel_rfl) fun _=>rfl
inductive XJ where
 | b0 (a0:Aw)
def Z7O:XJ->Tr U (Bool⊕XJ)
 | .b0 a0=>.br (a0.Bq==1) ( AA ((↑a0.Payload.length:Int)==0)) ( AA false)
def XA (a0:Aw):Option Bool:=AV Z7O (.b0 a0)
def Zlb:XJ->Ac U
 | .b0 a0=>Ai Tryz.f213 [68] (a0,())
theorem Z77:AA1 213 [68] 4 (fun x=>XA x.1) rfl:=Aj Ag Ah AN Zlb Tryz.func213 (fun p=>by cases p<;>kernel_rfl) (by kernel_rfl) fun _=>rfl
inductive Ya where
 | b0 (a0:BU) (a1:Aw)
 | b1 (a0:BU) (a1:Aw) (a2:BU)
def UM:Ya->Tr U ((BU×Int)⊕Ya)
 | .b0 a0 a1=>.bind 4 (XA a1) (fun(x1:Bool)=>.br x1 ( AA (a0,1)) ( .br (decide ((↑a1.Payload.length:Int)>251)) ( AA (a0,1)) ( .bind 45 (Nk (⟨0,0,0,a1⟩:BM)) (fun(x2:Int)=>.br (x2 != 0) ( AA (a0,1)) ( AO (.b1 a0 a1 Jc))))))
 | .b1 a0 a1 a2=>.br (decide ((↑a0.Az.length:Int)>=64)) ( AA (a0,8)) ( .chk (([]:List Aw).length==0) ( .chk (kA (0+a0.Az.length) 32) ( .chk (([a1]).length==1) ( .chk (kL (([]:List Aw)++a0.Az)) ( .chk (kA ((([]:List Aw)++a0.Az).length+([a1]).length) 32) ( .chk (kL ((([]:List Aw)++a0.Az)++[a1])) ( AA (({ a0 with Az:=((([]:List Aw)++a0.Az)++[a1]) }:BU),(0:Int)))))))))
def Y0 (a0:BU) (a1:Aw):Option (BU×Int):=AV UM (.b0 a0 a1)
def Z7G:Lay:=⟨[2,3,4],[KP,KP,KP],[.var k6,.var [.keep,.s 5 1],.var k6],⟨[PQ 0,PQ 1,PQ 2],[VA 33 7,VA 68 2,VA 33 7]⟩⟩
def Zt3:Nat->Option Lay
 | 3=>some Z7G
 | _=>none
def Zo9:Ya->Ac U
 | .b0 a0 a1=>Ai Tryz.f165 [33,68] (a0,a1,())
 | .b1 a0 a1 a2=>AA3 Tryz.f165 [1,1,0,0] Z7G (a0,a1,a2,())
theorem Z8W:AA1 165 [33,68] 189 (fun x=>Y0 x.1 x.2.1) rfl:=Aj (mc UH (mc Z77 Ag)) Ah Zt3 Zo9 Tryz.func165 (fun p=>by cases p<;>kernel_rfl) (by kernel_rfl) fun _=>rfl
inductive Xt where
 | b0 (a0:A8)
 | b1 (a0:List AL) (a1:Bool) (a2:Int) (a3 a4:A8)
 | b2 (a0:List AL) (a1:Bool) (a2:Int) (a3 a4:A8) (a5:AL)
 | b3 (a0:List AL) (a1:Bool) (a2:Int) (a3 a4:A8) (a5:AL)
 | b4 (a0:List AL) (a1:Bool) (a2:Int) (a3 a4:A8)
def Jw:Xt->Tr U (A8⊕Xt)
 | .b0 a0=>.chk (([]:List AL).length==0) ( AO (.b1 ([]:List AL) false (0:Int) a0 Dp))
 | .b1 a0 a1 a2 a3 a4=>.br (decide (a2<(↑a3.BA.length:Int))) ( .chk (decide (0<=a2/\a2<(↑a3.BA.length:Int))) ( .bind 156 (a3.BA[(Int.toNat a2)]?) (fun(x1:AL)=>.br a1 ( .chk (kL a0) ( AO (.b2 a0 a1 a2 a3 a4 x1))) ( .bind 4 (Y7 a3.Ak) (fun(x2:Bool)=>.br x2 ( .bind 4 (lN x1.Kind) (fun(x3:Bool)=>.br (!x3) ( .chk (kL a0) ( AO (.b2 a0 a1 a2 a3 a4 x1))) ( .chk (kL a0) ( AO (.b3 a0 a1 a2 a3 a4 x1))))) ( .chk (kL a0) ( AO (.b3 a0 a1 a2 a3 a4 x1)))))))) ( .chk (kL a0) ( AA ({ a3 with BA:=a0 }:A8)))
 | .b2 a0 a1 a2 a3 a4 a5=>.chk (([a5]).length==1) ( .chk (kL a0) ( .chk (kA (a0.length+([a5]).length) 120) ( .chk (kL (a0++[a5])) ( AO (.b4 (a0++[a5]) a1 a2 a3 a4)))))
 | .b3 a0 a1 a2 a3 a4 a5=>.bind 120 (QE a5) (fun(x1:(List Int)×Int)=>.br (x1.2 != 0) ( .chk (kL a0) ( AO (.b4 a0 a1 a2 a3 a4))) ( .bind 189 (Y0 a3.BB (⟨3,x1.1⟩:Aw)) (fun(x2:BU×Int)=>.br (x2.2 != 0) ( .chk (([a5]).length==1) ( .chk (kL a0) ( .chk (kA (a0.length+([a5]).length) 120) ( .chk (kL (a0++[a5])) ( AO (.b4 (a0++[a5]) true a2 a3 a4)))))) ( .chk (kL a0) ( AO (.b4 a0 a1 a2 ({ a3 with BB:=x2.1 }:A8) a4))))))
 | .b4 a0 a1 a2 a3 a4=>.chk (kL a0) ( AO (.b1 a0 a1 (AP (a2+1)) a3 a4))
def nX (a0:A8):Option A8:=AV Jw (.b0 a0)
def lL:Lay:=⟨[1,2,3,4,5],[KP,KP,[.own 156 15],KP,KP],[.var k2,.var k2,.row true],⟨[PQ 0,PQ 1,.one (.own 156 2),OV 4,OV 3],[VA 44 66,VA 44 66,.row 156 true]⟩⟩
def lQ:Lay:=⟨[1,2,3,4,5,6],[KP,KP,[.own 156 15],KP,KP,KP],[.var k2,.var k2,.row true,.var k0],⟨[PQ 0,PQ 1,.one (.own 156 2),OV 4,OV 3,PQ 3],[VA 44 66,VA 44 66,.row 156 true,VA 156 15]⟩⟩
def Zsm:Nat->Option Lay
 | 4=>some lL
 | 8=>some lQ
 | 9=>some lQ
 | 5=>some lL
 | _=>none
def Zqr:Xt->Ac U
 | .b0 a0=>Ai Tryz.f70 [44] (a0,())
 | .b1 a0 a1 a2 a3 a4=>AA3 Tryz.f70 [1,1,1,0,1,0,0,0,0] lL (a1,a2,a3,a4,a0,())
 | .b2 a0 a1 a2 a3 a4 a5=>AA3 Tryz.f70 [1,1,1,0,1,0,0,1,0,0,1,0,1,0,0] lQ (a1,a2,a3,a4,a0,a5,())
 | .b3 a0 a1 a2 a3 a4 a5=>AA3 Tryz.f70 [1,1,1,0,1,0,0,1,0,0,1,1,0] lQ (a1,a2,a3,a4,a0,a5,())
 | .b4 a0 a1 a2 a3 a4=>AA3 Tryz.f70 [1,1,1,0,1,0,0,1,1] lL (a1,a2,a3,a4,a0,())
theorem Zoc:AA1 70 [44] 44 (fun x=>nX x.1) rfl:=Aj (mc Z94 (mc Zm6 (mc Znw (mc Z8W Ag)))) Ah Zsm Zqr Tryz.func70 (fun p=>by cases p<;>kernel_rfl) (by kernel_rfl) fun _=>rfl
end
noncomputable section
inductive Xp where
 | b0
def ZaP:Xp->Tr U (Aw⊕Xp)
 | .b0 =>AA (⟨1,[]⟩:Aw)
def nZ  : Option Aw:=AV ZaP (.b0)
def ZpF:Xp->Ac U
 | .b0 =>Ai Tryz.f166 [] ()
theorem ZpA:AA1 166 [] 68 (fun x=>nZ) rfl:=Aj Ag Ah AN ZpF Tryz.func166 (fun p=>by cases p<;>kernel_rfl) (by kernel_rfl) fun _=>rfl
inductive aF where
 | b0 (a0:BU)
 | b1 (a0 a1:BU) (a2:BM)
 | b2 (a0:Int) (a1 a2:BU) (a3 a4:BM)
 | b3 (a0:Int) (a1 a2:BU) (a3 a4:BM)
 | b4 (a0 a1:BU) (a2 a3:BM)
def ND:aF->Tr U ((BU×BM)⊕aF)
 | .b0 a0=>.br (!a0.Open) ( AO (.b1 ({ a0 with Open:=true,Empty:=((↑a0.Az.length:Int)==0) }:BU) Jc F8)) ( AO (.b1 a0 Jc F8))
 | .b1 a0 a1 a2=>.bind 68 (nZ) (fun(x1:Aw)=>.br (!a0.Empty) ( .br (decide ((↑a0.Az.length:Int)>0)) ( AO (.b2 (↑a0.Az.length:Int) a0 a1 a2 (⟨a0.SN,a0.EF,0,x1⟩:BM))) ( AO (.b3 (↑a0.Az.length:Int) a0 a1 a2 (⟨a0.SN,a0.EF,0,x1⟩:BM)))) ( AO (.b3 (↑a0.Az.length:Int) a0 a1 a2 (⟨a0.SN,a0.EF,0,x1⟩:BM))))
 | .b2 a0 a1 a2 a3 a4=>.chk (decide (0<=(0:Int)/\(0:Int)<(↑a1.Az.length:Int))) ( .bind 68 (a1.Az[(Int.toNat 0)]?) (fun(x1:Aw)=>AO (.b3 (AP (a0 - 1)) a1 a2 a3 ({ a4 with BG:=x1 }:BM))))
 | .b3 a0 a1 a2 a3 a4=>.br (decide (a0>0)) ( AO (.b4 a1 a2 a3 ({ a4 with MD:=1 }:BM))) ( AO (.b4 a1 a2 a3 a4))
 | .b4 a0 a1 a2 a3=>AA (a0,a3)
def oN (a0:BU):Option (BU×BM):=AV ND (.b0 a0)
def Z8U:Lay:=⟨[1,2,3],[KP,KP,KP],[.var k6,.var k6,.var k4],⟨[PQ 0,PQ 1,PQ 2],[VA 33 7,VA 33 7,VA 70 5]⟩⟩
def lW:Lay:=⟨[1,2,3,4,5],[KP,KP,KP,KP,KP],[.var k6,.var k6,.var k4,.var k4],⟨[PQ 0,PQ 1,PQ 2,PQ 3,OV 3],[VA 33 7,VA 33 7,VA 70 5,VA 70 5]⟩⟩
def Z9o:Lay:=⟨[1,2,3,4],[KP,KP,KP,KP],[.var k6,.var k6,.var k4,.var k4],⟨[PQ 0,PQ 1,PQ 2,PQ 3],[VA 33 7,VA 33 7,VA 70 5,VA 70 5]⟩⟩
def Zvy:Nat->Option Lay
 | 4=>some Z8U
 | 7=>some lW
 | 9=>some lW
 | 11=>some Z9o
 | _=>none
def ZtH:aF->Ac U
 | .b0 a0=>Ai Tryz.f71 [33] (a0,())
 | .b1 a0 a1 a2=>AA3 Tryz.f71 [1,1,0] Z8U (a0,a1,a2,())
 | .b2 a0 a1 a2 a3 a4=>AA3 Tryz.f71 [1,1,1,1,0,1,0,0] lW (a0,a1,a2,a3,a4,())
 | .b3 a0 a1 a2 a3 a4=>AA3 Tryz.f71 [1,1,1,1,1,0,0] lW (a0,a1,a2,a3,a4,())
 | .b4 a0 a1 a2 a3=>AA3 Tryz.f71 [1,1,1,1,1,1,0] Z9o (a0,a1,a2,a3,())
theorem Zt2:AA1 71 [33] 75 (fun x=>oN x.1) rfl:=Aj (mc ZpA Ag) Ah Zvy ZtH Tryz.func71 (fun p=>by cases p<;>kernel_rfl) (by kernel_rfl) fun _=>rfl
inductive Y4 where
 | b0 (a0:Aw)
def Z10:Y4->Tr U (Bool⊕Y4)
 | .b0 a0=>.br (a0.Bq==1) ( AA ((↑a0.Payload.length:Int)==0)) ( AA false)
def RQ (a0:Aw):Option Bool:=AV Z10 (.b0 a0)
def Zp1:Y4->Ac U
 | .b0 a0=>Ai Tryz.f116 [68] (a0,())
theorem mG:AA1 116 [68] 4 (fun x=>RQ x.1) rfl:=Aj Ag Ah AN Zp1 Tryz.func116 (fun p=>by cases p<;>kernel_rfl) (by kernel_rfl) fun _=>rfl
inductive aA where
 | b0 (a0:BM) (a1:List Int)
def ZbZ:aA->Tr U (BM⊕aA)
 | .b0 a0 a1=>AA ({ a0 with BG:=(⟨a0.BG.Bq,a1⟩:Aw) }:BM)
def aI (a0:BM) (a1:List Int):Option BM:=AV ZbZ (.b0 a0 a1)
def Zs9:aA->Ac U
 | .b0 a0 a1=>Ai Tryz.f168 [70,62] (a0,a1,())
theorem Z9P:AA1 168 [70,62] 70 (fun x=>aI x.1 x.2.1) rfl:=Aj Ag Ah AN Zs9 Tryz.func168 (fun p=>by cases p<;>kernel_rfl) (by kernel_rfl) fun _=>rfl
inductive dL where
 | b0 (a0 a1:Int)
 | b1 (a0:Int)
def bK:dL->Tr U (Int⊕dL)
 | .b0 a0 a1=>.br (decide ((Int.tmod (AP ((AP ((Int.tmod a1 64)+64))*11)) (64:Int))>0)) ( .chk (decide (0<=(Int.tmod (AP ((AP ((Int.tmod a1 64)+64))*11)) (64:Int)))) ( .chk (decide (0<=(AP ((64:Int) - (Int.tmod (AP ((AP ((Int.tmod a1 64)+64))*11)) (64:Int)))))) ( AO (.b1 (bits .or .u64 (IntKind.wrap .u64 (a0*2 ^ (min (Int.toNat (Int.tmod (AP ((AP ((Int.tmod a1 64)+64))*11)) (64:Int))) (IntKind.bits .u64)))) (Int.fdiv a0 (2 ^ (min (Int.toNat (AP ((64:Int) - (Int.tmod (AP ((AP ((Int.tmod a1 64)+64))*11)) (64:Int))))) (IntKind.bits .u64))))))))) ( AO (.b1 a0))
 | .b1 a0=>AA (IntKind.wrap .u32 ((Int.tmod a0 4294967296)))
def U9 (a0 a1:Int):Option Int:=AV bK (.b0 a0 a1)
def ZaH:Lay:=⟨[6],[KP],[],⟨[OV 25],[]⟩⟩
def Zzm:Nat->Option Lay
 | 5=>some ZaH
 | _=>none
def ZuG:dL->Ac U
 | .b0 a0 a1=>Ai Tryz.f383 [29,3] (a0,a1,())
 | .b1 a0=>AA3 Tryz.f383 [1,1,1,1,0] ZaH (a0,())
theorem ZwT:AA1 383 [29,3] 22 (fun x=>U9 x.1 x.2.1) rfl:=Aj Ag Ah Zzm ZuG Tryz.func383 (fun p=>by cases p<;>kernel_rfl) (by kernel_rfl) fun _=>rfl
inductive Yv where
 | b0 (a0 a1:Int)
def Zbj:Yv->Tr U (Int⊕Yv)
 | .b0 a0 a1=>.chk (decide (0<=a1)) ( .chk (decide (0<=(AP ((32:Int) - a1)))) ( AA (bits .or .u32 (IntKind.wrap .u32 (a0*2 ^ (min (Int.toNat a1) (IntKind.bits .u32)))) (Int.fdiv a0 (2 ^ (min (Int.toNat (AP ((32:Int) - a1))) (IntKind.bits .u32)))))))
def Nr (a0 a1:Int):Option Int:=AV Zbj (.b0 a0 a1)
def Zsz:Yv->Ac U
 | .b0 a0 a1=>Ai Tryz.f384 [22,3] (a0,a1,())
theorem Zu5:AA1 384 [22,3] 22 (fun x=>Nr x.1 x.2.1) rfl:=Aj Ag Ah AN Zsz Tryz.func384 (fun p=>by cases p<;>kernel_rfl) (by kernel_rfl) fun _=>rfl
inductive YY where
 | b0 (a0 a1 a2:Int)
def Z0X:YY->Tr U (Int⊕YY)
 | .b0 a0 a1 a2=>.bind 22 (U9 a0 a1) (fun(x1:Int)=>.bind 22 (Nr (IntKind.wrap .u32 (a2+x1)) (7:Int)) (fun(x2:Int)=>.bind 22 (Nr x1 (16:Int)) (fun(x3:Int)=>AA (bits .xor .u32 (IntKind.wrap .u32 (x2*2654435761)) x3))))
def nS (a0 a1 a2:Int):Option Int:=AV Z0X (.b0 a0 a1 a2)
def ZpE:YY->Ac U
 | .b0 a0 a1 a2=>Ai Tryz.f359 [29,3,22] (a0,a1,a2,())
theorem ZoY:AA1 359 [29,3,22] 22 (fun x=>nS x.1 x.2.1 x.2.2.1) rfl:=Aj (mc ZwT (mc Zu5 Ag)) Ah AN ZpE Tryz.func359 (fun p=>by cases p<;>kernel_rfl) (by kernel_rfl) fun _=>rfl
inductive cO where
 | b0 (a0 a1:Int)
 | b1 (a0 a1 a2 a3:Int)
def Ri:cO->Tr U (Int⊕cO)
 | .b0 a0 a1=>AO (.b1 a0 (IntKind.wrap .u32 ((IntKind.wrap .u64 (Int.tdiv a1 4294967296)))) (IntKind.wrap .u32 ((Int.tmod a1 4294967296))) (0:Int))
 | .b1 a0 a1 a2 a3=>.br (decide (a3<8)) ( .bind 22 (nS a0 a3 a2) (fun(x1:Int)=>AO (.b1 a0 a2 (bits .xor .u32 a1 x1) (AP (a3+1))))) ( AA (IntKind.wrap .u64 ((IntKind.wrap .u64 ((IntKind.wrap .u64 (a1))*4294967296))+(IntKind.wrap .u64 (a2)))))
def QP (a0 a1:Int):Option Int:=AV Ri (.b0 a0 a1)
def Zat:Lay:=⟨[0,5,6,7],[KP,KP,KP,KP],[],⟨[OV 29,OV 22,OV 22,OV 3],[]⟩⟩
def Zym:Nat->Option Lay
 | 4=>some Zat
 | _=>none
def Zwr:cO->Ac U
 | .b0 a0 a1=>Ai Tryz.f327 [29,25] (a0,a1,())
 | .b1 a0 a1 a2 a3=>AA3 Tryz.f327 [1,1,1,0,1,0,0,0,0] Zat (a0,a1,a2,a3,())
theorem Zba:AA1 327 [29,25] 25 (fun x=>QP x.1 x.2.1) rfl:=Aj (mc ZoY Ag) Ah Zym Zwr Tryz.func327 (fun p=>by cases p<;>kernel_rfl) (by kernel_rfl) fun _=>rfl
inductive dN where
 | b0 (a0 a1:Int)
 | b1 (a0 a1:Int) (a2:List Int) (a3:Int)
def Ud:dN->Tr U (KN⊕dN)
 | .b0 a0 a1=>.chk (([]:List Int).length==0) ( AO (.b1 a0 a1 ([]:List Int) (0:Int)))
 | .b1 a0 a1 a2 a3=>.br (decide (a3<a0)) ( .chk (([(IntKind.wrap .u8 ((Int.tmod a1 256)))]).length==1) ( .chk (kL a2) ( .chk (kA (a2.length+([(IntKind.wrap .u8 ((Int.tmod a1 256)))]).length) 1) ( .chk (kL (a2++[(IntKind.wrap .u8 ((Int.tmod a1 256)))])) ( AO (.b1 a0 (IntKind.wrap .u64 (Int.tdiv a1 256)) (a2++[(IntKind.wrap .u8 ((Int.tmod a1 256)))]) (AP (a3+1)))))))) ( .chk (kL a2) ( AA (⟨a2⟩:KN)))
def Lh (a0 a1:Int):Option KN:=AV Ud (.b0 a0 a1)
def Z9S:Shape:=⟨[OV 3,OV 25],[]⟩
def Zpd:Shape:=⟨[.one (.own 5 0)],[.row 5 true]⟩
noncomputable def ZyT:HMod U:=⟨[KP,KP],[],Z9S,Zpd,true,1351,fun(y:KN)=>(((),()),(y.q0,())),fun x=>Lh x.1.1.1 x.1.2.1.1,okS rfl⟩
def Z9Z:Lay:=⟨[0,1,5,6],[KP,KP,[.own 5 1],KP],[.row true],⟨[OV 3,OV 25,.one (.own 5 0),OV 3],[.row 5 true]⟩⟩
def ZxM:Nat->Option Lay
 | 3=>some Z9Z
 | _=>none
def ZwU:dN->Ac U
 | .b0 a0 a1=>Fe Tryz.f328 Z9S (((a0,()),((a1,()),())),())
 | .b1 a0 a1 a2 a3=>AA3 Tryz.f328 [1,1,0,1,0,0,0,0] Z9Z (a0,a1,a3,a2,())
theorem o6:Dv Tryz.prog B0 328 ZyT:=okR Ag Ah ZxM [[.own 5 1]] [.row true] 0 ZwU Tryz.func328 (fun p=>by cases p<;>kernel_rfl) (by kernel_rfl) fun x=>by kernel_rfl
inductive XT where
 | b0 (a0 a1 a2:Int)
 | b1 (a0 a1:Int) (a2:List Int) (a3 a4:Int)
def UJ:XT->Tr U ((List Int)⊕XT)
 | .b0 a0 a1 a2=>.bind 25 (QP a0 a1) (fun(x1:Int)=>.chk (([]:List Int).length==0) ( AO (.b1 a0 a2 ([]:List Int) x1 (0:Int))))
 | .b1 a0 a1 a2 a3 a4=>.chk (kL a2) ( .br (decide ((↑a2.length:Int)<a1)) ( .bind 25 (QP a0 (IntKind.wrap .u64 (a3+(IntKind.wrap .u64 (a4))))) (fun(x1:Int)=>.bind 1351 (Lh (8:Int) x1) (fun(y2:KN)=>.chk (kL y2.q0) ( .chk (kL a2) ( .chk (kA (a2.length+y2.q0.length) 1) ( .chk (kL (a2++y2.q0)) ( AO (.b1 a0 a1 (a2++y2.q0) a3 (AP (a4+1)))))))))) ( .chk (kL a2) ( .chk (decide (0<=a1/\a1<=(↑a2.length:Int))) ( .chk (kL a2) ( .chk (decide (0+((Int.toNat a1) - 0)<=a2.length)) ( AA ((a2.drop 0).take ((Int.toNat a1) - 0))))))))
def XU (a0 a1 a2:Int):Option (List Int):=AV UJ (.b0 a0 a1 a2)
def Z7q:Lay:=⟨[0,2,7,8,9],[KP,KP,[.own 5 1],KP,KP],[.row true],⟨[OV 29,OV 3,.one (.own 5 0),OV 25,OV 3],[.row 5 true]⟩⟩
def ZoV:Nat->Option Lay
 | 4=>some Z7q
 | _=>none
def ZmW:XT->Ac U
 | .b0 a0 a1 a2=>Ai Tryz.f246 [29,25,3] (a0,a1,a2,())
 | .b1 a0 a1 a2 a3 a4=>AA3 Tryz.f246 [1,1,1,0,1,0,0,0,0] Z7q (a0,a1,a3,a4,a2,())
theorem Z8x:AA1 246 [29,25,3] 62 (fun x=>XU x.1 x.2.1 x.2.2.1) rfl:=Aj (mc Zba Ag) (hc [] o6 Ah) ZoV ZmW Tryz.func246 (fun p=>by cases p<;>kernel_rfl) (by kernel_rfl) fun _=>rfl
inductive YL where
 | b0 (a0:List Int)
 | b1 (a0:List Int) (a1 a2:Int)
def UQ:YL->Tr U (Int⊕YL)
 | .b0 a0=>AO (.b1 a0 (0:Int) (AP ((↑a0.length:Int) - 1)))
 | .b1 a0 a1 a2=>.br (decide (a2>=0)) ( .chk (decide (0<=a2/\a2<(↑a0.length:Int))) ( .bind 5 (a0[(Int.toNat a2)]?) (fun(x1:Int)=>AO (.b1 a0 (IntKind.wrap .u64 ((IntKind.wrap .u64 (a1*256))+(IntKind.wrap .u64 (x1)))) (AP (a2 - 1)))))) ( AA a1)
def nT (a0:List Int):Option Int:=AV UQ (.b0 a0)
def Z89:Lay:=⟨[0,3,4],[[.s 5 1],KP,KP],[],⟨[OV 62,OV 25,OV 3],[]⟩⟩
def ZrD:Nat->Option Lay
 | 3=>some Z89
 | _=>none
def Zpt:YL->Ac U
 | .b0 a0=>Ai Tryz.f360 [62] (a0,())
 | .b1 a0 a1 a2=>AA3 Tryz.f360 [1,1,0,1,0,0,0,0] Z89 (a0,a1,a2,())
theorem ZpT:AA1 360 [62] 25 (fun x=>nT x.1) rfl:=Aj Ag Ah ZrD Zpt Tryz.func360 (fun p=>by cases p<;>kernel_rfl) (by kernel_rfl) fun _=>rfl
inductive dE where
 | b0 (a0:Int) (a1:List Int)
 | b1 (a0:Int) (a1:List Int) (a2 a3:Int)
def Uc:dE->Tr U (Int⊕dE)
 | .b0 a0 a1=>.bind 25 (QP a0 (IntKind.wrap .u64 ((↑a1.length:Int)))) (fun(x1:Int)=>AO (.b1 a0 a1 x1 (0:Int)))
 | .b1 a0 a1 a2 a3=>.br (decide (a3<(↑a1.length:Int))) ( .chk (decide (0<=(if (↑a1.length:Int)<(AP (a3+8)) then (↑a1.length:Int) else (AP (a3+8)))/\(if (↑a1.length:Int)<(AP (a3+8)) then (↑a1.length:Int) else (AP (a3+8)))<=(↑a1.length:Int))) ( .chk (decide (0<=a3/\a3<=(↑(Int.toNat (if (↑a1.length:Int)<(AP (a3+8)) then (↑a1.length:Int) else (AP (a3+8)))):Int))) ( .bind 25 (nT ((a1.drop (Int.toNat a3)).take ((Int.toNat (if (↑a1.length:Int)<(AP (a3+8)) then (↑a1.length:Int) else (AP (a3+8)))) - (Int.toNat a3)))) (fun(x1:Int)=>.bind 25 (QP a0 (bits .xor .u64 a2 x1)) (fun(x2:Int)=>AO (.b1 a0 a1 x2 (AP (a3+8)))))))) ( AA a2)
def bH (a0:Int) (a1:List Int):Option Int:=AV Uc (.b0 a0 a1)
def ZaF:Lay:=⟨[0,1,5,6],[KP,[.s 5 1],KP,KP],[],⟨[OV 29,OV 62,OV 25,OV 3],[]⟩⟩
def Zzj:Nat->Option Lay
 | 3=>some ZaF
 | _=>none
def Zwx:dE->Ac U
 | .b0 a0 a1=>Ai Tryz.f329 [29,62] (a0,a1,())
 | .b1 a0 a1 a2 a3=>AA3 Tryz.f329 [1,1,0,1,0,0,0,0] ZaF (a0,a1,a2,a3,())
theorem Zc5:AA1 329 [29,62] 25 (fun x=>bH x.1 x.2.1) rfl:=Aj (mc Zba (mc ZpT Ag)) Ah Zzj Zwx Tryz.func329 (fun p=>by cases p<;>kernel_rfl) (by kernel_rfl) fun _=>rfl
inductive Xq where
 | b0 (a0:Int) (a1 a2:List Int)
def Z0U:Xq->Tr U (RP⊕Xq)
 | .b0 a0 a1 a2=>.bind 1351 (Lh (8:Int) a0) (fun(y1:KN)=>.bind 1351 (Lh (4:Int) (IntKind.wrap .u64 ((↑a1.length:Int)))) (fun(y2:KN)=>.chk (kL y2.q0) ( .chk (kL y1.q0) ( .chk (kA (y1.q0.length+y2.q0.length) 1) ( .chk (kL (y1.q0++y2.q0)) ( .chk (kA ((y1.q0++y2.q0).length+a1.length) 1) ( .chk (kL ((y1.q0++y2.q0)++a1)) ( .chk (kA (((y1.q0++y2.q0)++a1).length+a2.length) 1) ( .chk (kL (((y1.q0++y2.q0)++a1)++a2)) ( AA (⟨(((y1.q0++y2.q0)++a1)++a2)⟩:RP)))))))))))
def nI (a0:Int) (a1 a2:List Int):Option RP:=AV Z0U (.b0 a0 a1 a2)
def Z8h:Shape:=⟨[OV 25,OV 62,OV 62],[]⟩
def ZlY:Shape:=⟨[.one (.own 5 0)],[.row 5 true]⟩
noncomputable def Ztb:HMod U:=⟨[KP,[.s 5 1],[.s 5 1]],[],Z8h,ZlY,true,1352,fun(y:RP)=>(((),()),(y.q0,())),fun x=>nI x.1.1.1 x.1.2.1.1 x.1.2.2.1.1,okS rfl⟩
def Zpu:Xq->Ac U
 | .b0 a0 a1 a2=>Fe Tryz.f330 Z8h (((a0,()),((a1,()),((a2,()),()))),())
theorem Zor:Dv Tryz.prog B0 330 Ztb:=okR Ag (hc [] o6 Ah) AN [[.own 5 1]] [.row true] 0 Zpu Tryz.func330 (fun p=>by cases p<;>kernel_rfl) (by kernel_rfl) fun x=>by kernel_rfl
inductive dK where
 | b0 (a0 a1:Int) (a2 a3:List Int)
def Z2C:dK->Tr U ((List Int)⊕dK)
 | .b0 a0 a1 a2 a3=>.bind 1352 (nI a1 a2 a3) (fun(y1:RP)=>.chk (kL y1.q0) ( .bind 25 (bH a0 y1.q0) (fun(x2:Int)=>.bind 1351 (Lh (4:Int) x2) (fun(y3:KN)=>.chk (kL y3.q0) ( AA y3.q0)))))
def bZ (a0 a1:Int) (a2 a3:List Int):Option (List Int):=AV Z2C (.b0 a0 a1 a2 a3)
def Zv0:dK->Ac U
 | .b0 a0 a1 a2 a3=>Ai Tryz.f247 [29,25,62,62] (a0,a1,a2,a3,())
theorem Zb4:AA1 247 [29,25,62,62] 62 (fun x=>bZ x.1 x.2.1 x.2.2.1 x.2.2.2.1) rfl:=Aj (mc Zc5 Ag) (hc [] o6 (hc [] Zor Ah)) AN Zv0 Tryz.func247 (fun p=>by cases p<;>kernel_rfl) (by kernel_rfl) fun _=>rfl
inductive bT where
 | b0 (a0 a1:List Int)
 | b1 (a0 a1 a2:List Int) (a3:Int)
 | b2 (a0 a1 a2:List Int) (a3:Int)
def Rk:bT->Tr U (Om⊕bT)
 | .b0 a0 a1=>.chk (([]:List Int).length==0) ( AO (.b1 a0 a1 ([]:List Int) (0:Int)))
 | .b1 a0 a1 a2 a3=>.br (decide (a3<(↑a0.length:Int))) ( .br (decide (a3<(↑a1.length:Int))) ( .chk (kL a2) ( AO (.b2 a0 a1 a2 a3))) ( .chk (kL a2) ( AA (⟨a2⟩:Om)))) ( .chk (kL a2) ( AA (⟨a2⟩:Om)))
 | .b2 a0 a1 a2 a3=>.chk (decide (0<=a3/\a3<(↑a0.length:Int))) ( .bind 5 (a0[(Int.toNat a3)]?) (fun(x1:Int)=>.chk (decide (0<=a3/\a3<(↑a1.length:Int))) ( .bind 5 (a1[(Int.toNat a3)]?) (fun(x2:Int)=>.chk (([(bits .xor .u8 x1 x2)]).length==1) ( .chk (kL a2) ( .chk (kA (a2.length+([(bits .xor .u8 x1 x2)]).length) 1) ( .chk (kL (a2++[(bits .xor .u8 x1 x2)])) ( AO (.b1 a0 a1 (a2++[(bits .xor .u8 x1 x2)]) (AP (a3+1)))))))))))
def bU (a0 a1:List Int):Option Om:=AV Rk (.b0 a0 a1)
def Z9L:Shape:=⟨[OV 62,OV 62],[]⟩
def Zqb:Shape:=⟨[.one (.own 5 0)],[.row 5 true]⟩
noncomputable def Zz1:HMod U:=⟨[[.s 5 1],[.s 5 1]],[],Z9L,Zqb,true,1350,fun(y:Om)=>(((),()),(y.q0,())),fun x=>bU x.1.1.1 x.1.2.1.1,okS rfl⟩
def mX:Lay:=⟨[0,1,5,6],[[.s 5 1],[.s 5 1],[.own 5 1],KP],[.row true],⟨[OV 62,OV 62,.one (.own 5 0),OV 3],[.row 5 true]⟩⟩
def ZyH:Nat->Option Lay
 | 3=>some mX
 | 5=>some mX
 | _=>none
def Zvw:bT->Ac U
 | .b0 a0 a1=>Fe Tryz.f245 Z9L (((a0,()),((a1,()),())),())
 | .b1 a0 a1 a2 a3=>AA3 Tryz.f245 [1,1,0,1,0,0,0,0] mX (a0,a1,a3,a2,())
 | .b2 a0 a1 a2 a3=>AA3 Tryz.f245 [1,1,0,1,0,0,1,0,0] mX (a0,a1,a3,a2,())
theorem Zb2:Dv Tryz.prog B0 245 Zz1:=okR Ag Ah ZyH [[.own 5 1]] [.row true] 0 Zvw Tryz.func245 (fun p=>by cases p<;>kernel_rfl) (by kernel_rfl) fun x=>by kernel_rfl
inductive Yd where
 | b0 (a0 a1:Int) (a2 a3:List Int)
def Z1Y:Yd->Tr U ((List Int)⊕Yd)
 | .b0 a0 a1 a2 a3=>.bind 62 (XU a0 a1 (↑a3.length:Int)) (fun(x1:List Int)=>.bind 1350 (bU a3 x1) (fun(y2:Om)=>.chk (kL y2.q0) ( .bind 62 (bZ a0 a1 a2 y2.q0) (fun(x3:List Int)=>.chk (kL y2.q0) ( .chk (kA (y2.q0.length+x3.length) 1) ( .chk (kL (y2.q0++x3)) ( AA (y2.q0++x3))))))))
def oG (a0 a1:Int) (a2 a3:List Int):Option (List Int):=AV Z1Y (.b0 a0 a1 a2 a3)
def Zsn:Yd->Ac U
 | .b0 a0 a1 a2 a3=>Ai Tryz.f169 [29,25,62,62] (a0,a1,a2,a3,())
theorem Zst:AA1 169 [29,25,62,62] 62 (fun x=>oG x.1 x.2.1 x.2.2.1 x.2.2.2.1) rfl:=Aj (mc Z8x (mc Zb4 Ag)) (hc [] Zb2 Ah) AN Zsn Tryz.func169 (fun p=>by cases p<;>kernel_rfl) (by kernel_rfl) fun _=>rfl
inductive YM where
 | b0 (a0:C9) (a1 a2:Int)
 | b1 (a0 a1:Int) (a2:C9)
def nP:YM->Tr U (Int⊕YM)
 | .b0 a0 a1 a2=>.br (a1==1) ( AO (.b1 a2 (1:Int) a0)) ( AO (.b1 a2 (0:Int) a0))
 | .b1 a0 a1 a2=>AA (bits .xor .u64 a2.Bo (IntKind.wrap .u64 ((IntKind.wrap .u64 ((2:Int)*a0))+a1)))
def YP (a0:C9) (a1 a2:Int):Option Int:=AV nP (.b0 a0 a1 a2)
def Z83:Lay:=⟨[2,3,7],[KP,KP,KP],[.var k7],⟨[OV 25,PQ 0,OV 25],[VA 41 7]⟩⟩
def ZsS:Nat->Option Lay
 | 4=>some Z83
 | _=>none
def Zps:YM->Ac U
 | .b0 a0 a1 a2=>Ai Tryz.f170 [41,3,25] (a0,a1,a2,())
 | .b1 a0 a1 a2=>AA3 Tryz.f170 [1,1,1,0] Z83 (a0,a1,a2,())
theorem Z9u:AA1 170 [41,3,25] 25 (fun x=>YP x.1 x.2.1 x.2.2.1) rfl:=Aj Ag Ah ZsS Zps Tryz.func170 (fun p=>by cases p<;>kernel_rfl) (by kernel_rfl) fun _=>rfl
inductive aU where
 | b0 (a0:C9) (a1:BM)
 | b1 (a0:C9) (a1 a2:BM)
def Yh:aU->Tr U ((BM×Int)⊕aU)
 | .b0 a0 a1=>.bind 45 (Nk a1) (fun(x1:Int)=>.br (x1 != 0) ( AA (F8,x1)) ( .br (!a0.Jp) ( AA (a1,0)) ( .bind 4 (RQ a1.BG) (fun(x2:Bool)=>.br x2 ( AA (a1,0)) ( AO (.b1 a0 a1 F8))))))
 | .b1 a0 a1 a2=>.br (decide ((↑a1.BG.Payload.length:Int)>251)) ( AA (F8,4)) ( .bind 25 (YP a0 a0.Bl a0.Tx) (fun(x1:Int)=>.chk (([(IntKind.wrap .u8 (a1.BG.Bq))]).length==1) ( .bind 62 (oG a0.Key x1 ([(IntKind.wrap .u8 (a1.BG.Bq))]) a1.BG.Payload) (fun(x2:List Int)=>.bind 70 (aI a1 x2) (fun(x3:BM)=>AA (x3,0))))))
def oU (a0:C9) (a1:BM):Option (BM×Int):=AV Yh (.b0 a0 a1)
def Z8S:Lay:=⟨[2,3,4],[KP,KP,KP],[.var k7,.var k4,.var k4],⟨[PQ 0,PQ 1,PQ 2],[VA 41 7,VA 70 5,VA 70 5]⟩⟩
def Zxp:Nat->Option Lay
 | 6=>some Z8S
 | _=>none
def Zro:aU->Ac U
 | .b0 a0 a1=>Ai Tryz.f72 [41,70] (a0,a1,())
 | .b1 a0 a1 a2=>AA3 Tryz.f72 [1,1,1,0,0] Z8S (a0,a1,a2,())
theorem Zrh:AA1 72 [41,70] 71 (fun x=>oU x.1 x.2.1) rfl:=Aj (mc mG (mc UH (mc Z9P (mc Zst (mc Z9u Ag))))) Ah Zxp Zro Tryz.func72 (fun p=>by cases p<;>kernel_rfl) (by kernel_rfl) fun _=>rfl
inductive XO where
 | b0 (a0:BM)
def Z0u:XO->Tr U (((List Int)×Int)⊕XO)
 | .b0 a0=>.bind 45 (Nk a0) (fun(x1:Int)=>.br (x1 != 0) ( .chk (([]:List Int).length==0) ( AA (([]:List Int),x1))) ( .chk (([(IntKind.wrap .u8 ((AP ((AP ((AP (a0.BG.Bq+(AP ((4:Int)*a0.EF))))+(AP ((8:Int)*a0.SN))))+(AP ((16:Int)*a0.MD)))))),(IntKind.wrap .u8 ((↑a0.BG.Payload.length:Int)))]).length==2) ( .chk (kA (2+a0.BG.Payload.length) 1) ( .chk (kL ([(IntKind.wrap .u8 ((AP ((AP ((AP (a0.BG.Bq+(AP ((4:Int)*a0.EF))))+(AP ((8:Int)*a0.SN))))+(AP ((16:Int)*a0.MD)))))),(IntKind.wrap .u8 ((↑a0.BG.Payload.length:Int)))]++a0.BG.Payload)) ( AA (([(IntKind.wrap .u8 ((AP ((AP ((AP (a0.BG.Bq+(AP ((4:Int)*a0.EF))))+(AP ((8:Int)*a0.SN))))+(AP ((16:Int)*a0.MD)))))),(IntKind.wrap .u8 ((↑a0.BG.Payload.length:Int)))]++a0.BG.Payload),(0:Int)))))))
def mF (a0:BM):Option ((List Int)×Int):=AV Z0u (.b0 a0)
def Zmz:XO->Ac U
 | .b0 a0=>Ai Tryz.f73 [70] (a0,())
theorem Znz:AA1 73 [70] 120 (fun x=>mF x.1) rfl:=Aj (mc UH Ag) Ah AN Zmz Tryz.func73 (fun p=>by cases p<;>kernel_rfl) (by kernel_rfl) fun _=>rfl
inductive aS where
 | b0 (a0:Int)
def Z1H:aS->Tr U ((List Int)⊕aS)
 | .b0 a0=>.chk (([(IntKind.wrap .u8 ((Int.tmod a0 256))),(IntKind.wrap .u8 ((Int.tmod (IntKind.wrap .u32 (Int.tdiv a0 256)) (256:Int)))),(IntKind.wrap .u8 ((IntKind.wrap .u32 (Int.tdiv a0 65536))))]).length==3) ( AA ([(IntKind.wrap .u8 ((Int.tmod a0 256))),(IntKind.wrap .u8 ((Int.tmod (IntKind.wrap .u32 (Int.tdiv a0 256)) (256:Int)))),(IntKind.wrap .u8 ((IntKind.wrap .u32 (Int.tdiv a0 65536))))]))
def aK (a0:Int):Option (List Int):=AV Z1H (.b0 a0)
def Zrg:aS->Ac U
 | .b0 a0=>Ai Tryz.f172 [22] (a0,())
theorem Za1:AA1 172 [22] 62 (fun x=>aK x.1) rfl:=Aj Ag Ah AN Zrg Tryz.func172 (fun p=>by cases p<;>kernel_rfl) (by kernel_rfl) fun _=>rfl
inductive Yo where
 | b0 (a0 a1:Int)
def Z20:Yo->Tr U (Int⊕Yo)
 | .b0 a0 a1=>.br ((bits .xor .u32 (Int.tmod a0 2) a1)==1) ( AA (bits .xor .u32 (IntKind.wrap .u32 (Int.tdiv a0 2)) (14311424:Int))) ( AA (IntKind.wrap .u32 (Int.tdiv a0 2)))
def oM (a0 a1:Int):Option Int:=AV Z20 (.b0 a0 a1)
def Zto:Yo->Ac U
 | .b0 a0 a1=>Ai Tryz.f250 [22,22] (a0,a1,())
theorem Ztd:AA1 250 [22,22] 22 (fun x=>oM x.1 x.2.1) rfl:=Aj Ag Ah AN Zto Tryz.func250 (fun p=>by cases p<;>kernel_rfl) (by kernel_rfl) fun _=>rfl
inductive dJ where
 | b0 (a0:Int) (a1:List Int)
 | b1 (a0:List Int) (a1 a2:Int)
 | b2 (a0:List Int) (a1 a2 a3 a4:Int)
def Ld:dJ->Tr U (Int⊕dJ)
 | .b0 a0 a1=>AO (.b1 a1 (Int.tmod a0 16777216) (0:Int))
 | .b1 a0 a1 a2=>.br (decide (a2<(↑a0.length:Int))) ( .chk (decide (0<=a2/\a2<(↑a0.length:Int))) ( .bind 5 (a0[(Int.toNat a2)]?) (fun(x1:Int)=>AO (.b2 a0 a1 a2 (IntKind.wrap .u32 (x1)) (0:Int))))) ( AA a1)
 | .b2 a0 a1 a2 a3 a4=>.br (decide (a4<8)) ( .bind 22 (oM a1 (Int.tmod a3 2)) (fun(x1:Int)=>AO (.b2 a0 x1 a2 (IntKind.wrap .u32 (Int.tdiv a3 2)) (AP (a4+1))))) ( AO (.b1 a0 a1 (AP (a2+1))))
def dC (a0:Int) (a1:List Int):Option Int:=AV Ld (.b0 a0 a1)
def Zad:Lay:=⟨[1,5,6],[[.s 5 1],KP,KP],[],⟨[OV 62,OV 22,OV 3],[]⟩⟩
def ZaA:Lay:=⟨[1,5,6,7,8],[[.s 5 1],KP,KP,KP,KP],[],⟨[OV 62,OV 22,OV 3,OV 22,OV 3],[]⟩⟩
def Zzi:Nat->Option Lay
 | 3=>some Zad
 | 7=>some ZaA
 | _=>none
def Zvc:dJ->Ac U
 | .b0 a0 a1=>Ai Tryz.f173 [22,62] (a0,a1,())
 | .b1 a0 a1 a2=>AA3 Tryz.f173 [1,1,0,1,0,0,0,0] Zad (a0,a1,a2,())
 | .b2 a0 a1 a2 a3 a4=>AA3 Tryz.f173 [1,1,0,1,0,0,1,0,0,1,1,0,0,0,0] ZaA (a0,a1,a2,a3,a4,())
theorem Zb8:AA1 173 [22,62] 22 (fun x=>dC x.1 x.2.1) rfl:=Aj (mc Ztd Ag) Ah Zzi Zvc Tryz.func173 (fun p=>by cases p<;>kernel_rfl) (by kernel_rfl) fun _=>rfl
inductive XX where
 | b0 (a0:Int) (a1:List Int)
def Z0l:XX->Tr U ((List Int)⊕XX)
 | .b0 a0 a1=>.chk (([]:List Int).length==0) ( .chk (kA (0+a1.length) 1) ( .bind 22 (dC a0 a1) (fun(x1:Int)=>.bind 62 (aK x1) (fun(x2:List Int)=>.chk (kL (([]:List Int)++a1)) ( .chk (kA ((([]:List Int)++a1).length+x2.length) 1) ( .chk (kL ((([]:List Int)++a1)++x2)) ( AA ((([]:List Int)++a1)++x2))))))))
def mW (a0:Int) (a1:List Int):Option (List Int):=AV Z0l (.b0 a0 a1)
def Zn7:XX->Ac U
 | .b0 a0 a1=>Ai Tryz.f75 [22,62] (a0,a1,())
theorem Zn1:AA1 75 [22,62] 62 (fun x=>mW x.1 x.2.1) rfl:=Aj (mc Za1 (mc Zb8 Ag)) Ah AN Zn7 Tryz.func75 (fun p=>by cases p<;>kernel_rfl) (by kernel_rfl) fun _=>rfl
inductive YN where
 | b0 (a0:Int)
def Z15:YN->Tr U (Int⊕YN)
 | .b0 a0=>AA (AP ((64:Int)+(if (if (39:Int)<a0 then (39:Int) else a0)>0 then (if (39:Int)<a0 then (39:Int) else a0) else (0:Int))))
def nN (a0:Int):Option Int:=AV Z15 (.b0 a0)
def ZpY:YN->Ac U
 | .b0 a0=>Ai Tryz.f248 [3] (a0,())
theorem Zpe:AA1 248 [3] 3 (fun x=>nN x.1) rfl:=Aj Ag Ah AN ZpY Tryz.func248 (fun p=>by cases p<;>kernel_rfl) (by kernel_rfl) fun _=>rfl
inductive Yy where
 | b0 (a0:Int)
def Z1P:Yy->Tr U (Int⊕Yy)
 | .b0 a0=>.br (decide (a0>=64)) ( AA (bits .xor .i64 (Int.tmod (AP (a0*2)) 128) (17:Int))) ( AA (Int.tmod (AP (a0*2)) 128))
def oI (a0:Int):Option Int:=AV Z1P (.b0 a0)
def ZsF:Yy->Ac U
 | .b0 a0=>Ai Tryz.f249 [3] (a0,())
theorem ZqW:AA1 249 [3] 3 (fun x=>oI x.1) rfl:=Aj Ag Ah AN ZsF Tryz.func249 (fun p=>by cases p<;>kernel_rfl) (by kernel_rfl) fun _=>rfl
inductive Wv where
 | b0 (a0 a1:Int)
 | b1 (a0:Int) (a1:List Int) (a2 a3:Int)
 | b2 (a0:Int) (a1:List Int) (a2 a3 a4 a5 a6:Int)
def Ku:Wv->Tr U ((List Int)⊕Wv)
 | .b0 a0 a1=>.bind 3 (nN a0) (fun(x1:Int)=>.chk (([]:List Int).length==0) ( AO (.b1 a1 ([]:List Int) x1 (0:Int))))
 | .b1 a0 a1 a2 a3=>.br (decide (a3<a0)) ( .chk (kL a1) ( AO (.b2 a0 a1 a2 a3 (0:Int) (1:Int) (0:Int)))) ( .chk (kL a1) ( AA a1))
 | .b2 a0 a1 a2 a3 a4 a5 a6=>.br (decide (a6<8)) ( .bind 3 (oI a2) (fun(x1:Int)=>.chk (kL a1) ( AO (.b2 a0 a1 x1 a3 (AP (a4+(AP (a5*(AP (Int.tdiv a2 64)))))) (AP (a5*2)) (AP (a6+1)))))) ( .chk (([(IntKind.wrap .u8 (a4))]).length==1) ( .chk (kL a1) ( .chk (kA (a1.length+([(IntKind.wrap .u8 (a4))]).length) 1) ( .chk (kL (a1++[(IntKind.wrap .u8 (a4))])) ( AO (.b1 a0 (a1++[(IntKind.wrap .u8 (a4))]) a2 (AP (a3+1))))))))
def kV (a0 a1:Int):Option (List Int):=AV Ku (.b0 a0 a1)
def Z6D:Lay:=⟨[1,5,6,7],[KP,[.own 5 1],KP,KP],[.row true],⟨[OV 3,.one (.own 5 0),OV 3,OV 3],[.row 5 true]⟩⟩
def Z6G:Lay:=⟨[1,5,6,7,8,9,10],[KP,[.own 5 1],KP,KP,KP,KP,KP],[.row true],⟨[OV 3,.one (.own 5 0),OV 3,OV 3,OV 3,OV 3,OV 3],[.row 5 true]⟩⟩
def Zld:Nat->Option Lay
 | 4=>some Z6D
 | 8=>some Z6G
 | _=>none
def ZkA:Wv->Ac U
 | .b0 a0 a1=>Ai Tryz.f171 [3,3] (a0,a1,())
 | .b1 a0 a1 a2 a3=>AA3 Tryz.f171 [1,1,1,0,1,0,0,0,0] Z6D (a0,a2,a3,a1,())
 | .b2 a0 a1 a2 a3 a4 a5 a6=>AA3 Tryz.f171 [1,1,1,0,1,0,0,1,0,0,1,0,1,0,0,0,0] Z6G (a0,a2,a3,a4,a5,a6,a1,())
theorem ZkS:AA1 171 [3,3] 62 (fun x=>kV x.1 x.2.1) rfl:=Aj (mc Zpe (mc ZqW Ag)) Ah Zld ZkA Tryz.func171 (fun p=>by cases p<;>kernel_rfl) (by kernel_rfl) fun _=>rfl
inductive Y6 where
 | b0 (a0:Int) (a1:List Int)
 | b1 (a0 a1 a2:List Int) (a3:Int)
def UX:Y6->Tr U (QH⊕Y6)
 | .b0 a0 a1=>.bind 62 (kV a0 (↑a1.length:Int)) (fun(x1:List Int)=>.chk (([]:List Int).length==0) ( AO (.b1 a1 x1 ([]:List Int) (0:Int))))
 | .b1 a0 a1 a2 a3=>.br (decide (a3<(↑a0.length:Int))) ( .chk (decide (0<=a3/\a3<(↑a0.length:Int))) ( .bind 5 (a0[(Int.toNat a3)]?) (fun(x1:Int)=>.chk (decide (0<=a3/\a3<(↑a1.length:Int))) ( .bind 5 (a1[(Int.toNat a3)]?) (fun(x2:Int)=>.chk (([(bits .xor .u8 x1 x2)]).length==1) ( .chk (kL a2) ( .chk (kA (a2.length+([(bits .xor .u8 x1 x2)]).length) 1) ( .chk (kL (a2++[(bits .xor .u8 x1 x2)])) ( AO (.b1 a0 a1 (a2++[(bits .xor .u8 x1 x2)]) (AP (a3+1)))))))))))) ( .chk (kL a2) ( AA (⟨a2⟩:QH)))
def YD (a0:Int) (a1:List Int):Option QH:=AV UX (.b0 a0 a1)
def Z7W:Shape:=⟨[OV 3,OV 62],[]⟩
def Zlq:Shape:=⟨[.one (.own 5 0)],[.row 5 true]⟩
noncomputable def Zrq:HMod U:=⟨[KP,[.s 5 1]],[],Z7W,Zlq,true,1348,fun(y:QH)=>(((),()),(y.q0,())),fun x=>YD x.1.1.1 x.1.2.1.1,okS rfl⟩
def Z8e:Lay:=⟨[1,5,6,7],[[.s 5 1],[.s 5 1],[.own 5 1],KP],[.row true],⟨[OV 62,OV 62,.one (.own 5 0),OV 3],[.row 5 true]⟩⟩
def ZsG:Nat->Option Lay
 | 4=>some Z8e
 | _=>none
def ZqI:Y6->Ac U
 | .b0 a0 a1=>Fe Tryz.f74 Z7W (((a0,()),((a1,()),())),())
 | .b1 a0 a1 a2 a3=>AA3 Tryz.f74 [1,1,1,0,1,0,0,0,0] Z8e (a0,a1,a3,a2,())
theorem Z9v:Dv Tryz.prog B0 74 Zrq:=okR (mc ZkS Ag) Ah ZsG [[.own 5 1]] [.row true] 0 ZqI Tryz.func74 (fun p=>by cases p<;>kernel_rfl) (by kernel_rfl) fun x=>by kernel_rfl
end
noncomputable section
inductive Yp where
 | b0 (a0:A8)
 | b1 (a0 a1:A8) (a2:BM)
def U5:Yp->Tr U ((A8×(List Int))⊕Yp)
 | .b0 a0=>.br (a0.Bc != 0) ( .chk (([]:List Int).length==0) ( AA (a0,([]:List Int)))) ( .bind 44 (nX a0) (fun(x1:A8)=>.bind 75 (oN x1.BB) (fun(x2:BU×BM)=>.br x1.ED.Jp ( .bind 71 (oU x1.ED x2.2) (fun(x3:BM×Int)=>.br (x3.2==0) ( AO (.b1 ({ x1 with More:=(x2.2.MD==1),BB:=x2.1 }:A8) Dp x3.1)) ( AO (.b1 ({ x1 with More:=(x2.2.MD==1),BB:=x2.1 }:A8) Dp x2.2)))) ( AO (.b1 ({ x1 with More:=(x2.2.MD==1),BB:=x2.1 }:A8) Dp x2.2)))))
 | .b1 a0 a1 a2=>.bind 120 (mF a2) (fun(x1:(List Int)×Int)=>.bind 3 (UA a0) (fun(x2:Int)=>.bind 62 (mW a0.Ce.NT x1.1) (fun(x3:List Int)=>.bind 1348 (YD x2 x3) (fun(y4:QH)=>.chk (kL y4.q0) ( AA (a0,y4.q0))))))
def UZ (a0:A8):Option (A8×(List Int)):=AV U5 (.b0 a0)
def Z9q:Lay:=⟨[1,2,5],[KP,KP,KP],[.var k2,.var k2,.var k4],⟨[PQ 0,PQ 1,PQ 2],[VA 44 66,VA 44 66,VA 70 5]⟩⟩
def Zux:Nat->Option Lay
 | 11=>some Z9q
 | _=>none
def ZrV:Yp->Ac U
 | .b0 a0=>Ai Tryz.f24 [44] (a0,())
 | .b1 a0 a1 a2=>AA3 Tryz.f24 [1,1,1,1,1,1,1,0] Z9q (a0,a1,a2,())
theorem ZaO:AA1 24 [44] 63 (fun x=>UZ x.1) rfl:=Aj (mc ZB (mc Zoc (mc Zt2 (mc Zrh (mc Znz (mc Zn1 Ag)))))) (hc [] Z9v Ah) Zux ZrV Tryz.func24 (fun p=>by cases p<;>kernel_rfl) (by kernel_rfl) fun _=>rfl
inductive Ye where
 | b0 (a0:Dc)
def ZaS:Ye->Tr U ((Dc×Int)⊕Ye)
 | .b0 a0=>.bind 4 (Yj a0 false) (fun(x1:Bool)=>.br x1 ( AA (a0,9)) ( AA (({ a0 with OC:=(AP (a0.OC+1)) }:Dc),(0:Int))))
def Z2b (a0:Dc):Option (Dc×Int):=AV ZaS (.b0 a0)
def ZtI:Ye->Ac U
 | .b0 a0=>Ai Tryz.f91 [35] (a0,())
theorem Zsk:AA1 91 [35] 129 (fun x=>Z2b x.1) rfl:=Aj (mc Zaw Ag) Ah AN ZtI Tryz.func91 (fun p=>by cases p<;>kernel_rfl) (by kernel_rfl) fun _=>rfl
inductive X3 where
 | b0 (a0:Dc) (a1:Bool)
def Z9C:X3->Tr U (Dc⊕X3)
 | .b0 a0 a1=>.br a1 ( AA (⟨a0.Dh,0,false⟩:Dc)) ( AA ({ a0 with OC:=0 }:Dc))
def Z0I (a0:Dc) (a1:Bool):Option Dc:=AV Z9C (.b0 a0 a1)
def ZmQ:X3->Ac U
 | .b0 a0 a1=>Ai Tryz.f92 [35,4] (a0,a1,())
theorem ZmO:AA1 92 [35,4] 35 (fun x=>Z0I x.1 x.2.1) rfl:=Aj Ag Ah AN ZmQ Tryz.func92 (fun p=>by cases p<;>kernel_rfl) (by kernel_rfl) fun _=>rfl
inductive XV where
 | b0 (a0:List BR) (a1:Int) (a2:Bool)
 | b1 (a0:Int) (a1:Bool) (a2:List BR)
 | b2 (a0:Int) (a1:Bool) (a2:List BR)
 | b3 (a0:Int) (a1:Bool) (a2:List BR)
 | b4 (a0:Int) (a1:List BR)
def Z9e:XV->Tr U ((List BR)⊕XV)
 | .b0 a0 a1 a2=>.chk (([]:List BR).length==0) ( .chk (kA (0+a0.length) 16) ( .br (decide (a1<0)) ( .chk (kL (([]:List BR)++a0)) ( AA (([]:List BR)++a0))) ( .br (decide (a1>=(↑a0.length:Int))) ( .chk (kL (([]:List BR)++a0)) ( AA (([]:List BR)++a0))) ( .chk (kL (([]:List BR)++a0)) ( AO (.b1 a1 a2 (([]:List BR)++a0)))))))
 | .b1 a0 a1 a2=>.br a1 ( .chk (kL a2) ( .chk (decide (0<=a0/\a0<(↑a2.length:Int))) ( .chk (kL a2) ( .bind 99 (a2[(Int.toNat a0)]?) (fun(x1:BR)=>.br (decide (x1.Good<65536)) ( .chk (kL a2) ( AO (.b2 a0 a1 a2))) ( .chk (kL a2) ( AO (.b3 a0 a1 a2)))))))) ( .chk (kL a2) ( AO (.b3 a0 a1 a2)))
 | .b2 a0 a1 a2=>.chk (kL a2) ( .chk (decide (0<=a0/\a0<(↑a2.length:Int))) ( .chk (kL a2) ( .bind 99 (a2[(Int.toNat a0)]?) (fun(x1:BR)=>.chk (kL a2) ( .chk (decide (0<=a0/\a0<(↑a2.length:Int))) ( .chk (a2.length==a2.length&&decide (0<=(Int.toNat a0))) ( .bind 99 (a2[(Int.toNat a0)]?) (fun(x2:BR)=>.chk ((a2.set (Int.toNat a0) (⟨(AP (x1.Good+1)),x2.N8⟩:BR)).length==a2.length) ( AO (.b3 a0 a1 (a2.set (Int.toNat a0) (⟨(AP (x1.Good+1)),x2.N8⟩:BR))))))))))))
 | .b3 a0 a1 a2=>.br (!a1) ( .chk (kL a2) ( .chk (decide (0<=a0/\a0<(↑a2.length:Int))) ( .chk (kL a2) ( .bind 99 (a2[(Int.toNat a0)]?) (fun(x1:BR)=>.br (decide (x1.N8<65536)) ( .chk (kL a2) ( AO (.b4 a0 a2))) ( .chk (kL a2) ( AA a2))))))) ( .chk (kL a2) ( AA a2))
 | .b4 a0 a1=>.chk (kL a1) ( .chk (decide (0<=a0/\a0<(↑a1.length:Int))) ( .chk (kL a1) ( .bind 99 (a1[(Int.toNat a0)]?) (fun(x1:BR)=>.chk (kL a1) ( .chk (decide (0<=a0/\a0<(↑a1.length:Int))) ( .chk (a1.length==a1.length&&decide (0<=(Int.toNat a0))) ( .bind 99 (a1[(Int.toNat a0)]?) (fun(x2:BR)=>.chk ((a1.set (Int.toNat a0) (⟨x2.Good,(AP (x1.N8+1))⟩:BR)).length==a1.length) ( AA (a1.set (Int.toNat a0) (⟨x2.Good,(AP (x1.N8+1))⟩:BR)))))))))))
def Xa (a0:List BR) (a1:Int) (a2:Bool):Option (List BR):=AV Z9e (.b0 a0 a1 a2)
def Tq:Lay:=⟨[1,2,7],[KP,KP,[.own 99 2]],[.row true],⟨[OV 3,OV 4,.one (.own 99 0)],[.row 99 true]⟩⟩
def Z7v:Lay:=⟨[1,7],[KP,[.own 99 2]],[.row true],⟨[OV 3,.one (.own 99 0)],[.row 99 true]⟩⟩
def Zp0:Nat->Option Lay
 | 4=>some Tq
 | 5=>some Tq
 | 6=>some Tq
 | 7=>some Z7v
 | _=>none
def ZnV:XV->Ac U
 | .b0 a0 a1 a2=>Ai Tryz.f93 [42,3,4] (a0,a1,a2,())
 | .b1 a0 a1 a2=>AA3 Tryz.f93 [1,1,1,0,0] Tq (a0,a1,a2,())
 | .b2 a0 a1 a2=>AA3 Tryz.f93 [1,1,1,0,1,0] Tq (a0,a1,a2,())
 | .b3 a0 a1 a2=>AA3 Tryz.f93 [1,1,1,1,0,0] Tq (a0,a1,a2,())
 | .b4 a0 a1=>AA3 Tryz.f93 [1,1,1,1,0,1,0] Z7v (a0,a1,())
theorem Z8a:AA1 93 [42,3,4] 42 (fun x=>Xa x.1 x.2.1 x.2.2.1) rfl:=Aj Ag Ah Zp0 ZnV Tryz.func93 (fun p=>by cases p<;>kernel_rfl) (by kernel_rfl) fun _=>rfl
inductive Yu where
 | b0 (a0 a1:Int)
 | b1 (a0:Int)
def Zbi:Yu->Tr U (Int⊕Yu)
 | .b0 a0 a1=>.br (decide ((AP ((AP (a1)) - (AP (a0)))) < -32768)) ( AO (.b1 (AP ((AP ((AP (a1)) - (AP (a0))))+65536)))) ( AO (.b1 (AP ((AP (a1)) - (AP (a0))))))
 | .b1 a0=>.br (decide (a0>32767)) ( AA (AP (a0 - 65536))) ( AA a0)
def Z2h (a0 a1:Int):Option Int:=AV Zbi (.b0 a0 a1)
def Z9p:Lay:=⟨[5],[KP],[],⟨[OV 3],[]⟩⟩
def Zug:Nat->Option Lay
 | 4=>some Z9p
 | _=>none
def Zru:Yu->Ac U
 | .b0 a0 a1=>Ai Tryz.f333 [30,30] (a0,a1,())
 | .b1 a0=>AA3 Tryz.f333 [1,1,1,0,0] Z9p (a0,())
theorem Zs2:AA1 333 [30,30] 3 (fun x=>Z2h x.1 x.2.1) rfl:=Aj Ag Ah Zug Zru Tryz.func333 (fun p=>by cases p<;>kernel_rfl) (by kernel_rfl) fun _=>rfl
inductive XZ where
 | b0 (a0 a1:Int)
def Z9F:XZ->Tr U (Bool⊕XZ)
 | .b0 a0 a1=>.bind 3 (Z2h a1 a0) (fun(x1:Int)=>AA (decide (x1>=0)))
def mQ (a0 a1:Int):Option Bool:=AV Z9F (.b0 a0 a1)
def ZnN:XZ->Ac U
 | .b0 a0 a1=>Ai Tryz.f258 [30,30] (a0,a1,())
theorem Z8G:AA1 258 [30,30] 4 (fun x=>mQ x.1 x.2.1) rfl:=Aj (mc Zs2 Ag) Ah AN ZnN Tryz.func258 (fun p=>by cases p<;>kernel_rfl) (by kernel_rfl) fun _=>rfl
inductive bV where
 | b0 (a0:List BN) (a1:Int)
 | b1 (a0:List BN) (a1:Int) (a2 a3:List BN) (a4:Int)
 | b2 (a0:List BN) (a1:Int) (a2 a3:List BN) (a4:Int)
def Zca:bV->Tr U (((List BN)×(List BN))⊕bV)
 | .b0 a0 a1=>.chk ((([]:List BN).length==0)&&(([]:List BN).length==0)) ( AO (.b1 a0 a1 ([]:List BN) ([]:List BN) (0:Int)))
 | .b1 a0 a1 a2 a3 a4=>.br (decide (a4<(↑a0.length:Int))) ( .chk (decide (0<=a4/\a4<(↑a0.length:Int))) ( .bind 138 (a0[(Int.toNat a4)]?) (fun(x1:BN)=>.bind 4 (mQ a1 x1.DD) (fun(x2:Bool)=>.br x2 ( .chk (decide (0<=a4/\a4<(↑a0.length:Int))) ( .bind 138 (a0[(Int.toNat a4)]?) (fun(x3:BN)=>.chk (([x3]).length==1) ( .chk (kL a3) ( .chk (kA (a3.length+([x3]).length) 64) ( .chk (kL a2&&kL (a3++[x3])) ( AO (.b2 a0 a1 a2 (a3++[x3]) a4)))))))) ( .chk (decide (0<=a4/\a4<(↑a0.length:Int))) ( .bind 138 (a0[(Int.toNat a4)]?) (fun(x4:BN)=>.chk (([x4]).length==1) ( .chk (kL a2) ( .chk (kA (a2.length+([x4]).length) 64) ( .chk (kL (a2++[x4])&&kL a3) ( AO (.b2 a0 a1 (a2++[x4]) a3 a4)))))))))))) ( .chk (kL a2) ( .chk (kL a3) ( AA (a2,a3))))
 | .b2 a0 a1 a2 a3 a4=>.chk (kL a2&&kL a3) ( AO (.b1 a0 a1 a2 a3 (AP (a4+1))))
def Z2r (a0:List BN) (a1:Int):Option ((List BN)×(List BN)):=AV Zca (.b0 a0 a1)
def nG:Lay:=⟨[0,1,4,5,6],[[.s 138 8],KP,[.own 138 8],[.own 138 8],KP],[.row true,.row true],⟨[OV 37,OV 30,.one (.own 138 0),.one (.own 138 1),OV 3],[.row 138 true,.row 138 true]⟩⟩
def ZzM:Nat->Option Lay
 | 3=>some nG
 | 4=>some nG
 | _=>none
def Zw3:bV->Ac U
 | .b0 a0 a1=>Ai Tryz.f186 [37,30] (a0,a1,())
 | .b1 a0 a1 a2 a3 a4=>AA3 Tryz.f186 [1,1,0,1,0,0,0,0] nG (a0,a1,a4,a2,a3,())
 | .b2 a0 a1 a2 a3 a4=>AA3 Tryz.f186 [1,1,0,1,0,0,1,1] nG (a0,a1,a4,a2,a3,())
theorem Zxo:AA1 186 [37,30] 208 (fun x=>Z2r x.1 x.2.1) rfl:=Aj (mc Z8G Ag) Ah ZzM Zw3 Tryz.func186 (fun p=>by cases p<;>kernel_rfl) (by kernel_rfl) fun _=>rfl
inductive aZ where
 | b0 (a0:Aa) (a1:Int)
 | b1 (a0 a1:Aa)
 | b2 (a0:List BN) (a1 a2:Aa)
 | b3 (a0:List BN) (a1:Int) (a2 a3:Aa)
 | b4 (a0:List BN) (a1:Int) (a2 a3:Aa)
 | b5 (a0:List BN) (a1:Int) (a2 a3:Aa)
def Zcc:aZ->Tr U ((Aa×(List BN))⊕aZ)
 | .b0 a0 a1=>.bind 208 (Z2r a0.Bz a1) (fun(x1:(List BN)×(List BN))=>.br (a0.Bl==0) ( .br (decide ((↑x1.2.length:Int)>0)) ( .br (!a0.Told) ( AO (.b1 ({ a0 with Bz:=x1.1 }:Aa) ES)) ( AO (.b2 x1.2 ({ a0 with Bz:=x1.1 }:Aa) ES))) ( AO (.b2 x1.2 ({ a0 with Bz:=x1.1 }:Aa) ES))) ( AO (.b2 x1.2 ({ a0 with Bz:=x1.1 }:Aa) ES)))
 | .b1 a0 a1=>.br (a0.GR==0) ( .chk (([]:List BN).length==0) ( AA (({ a0 with GR:=40 }:Aa),([]:List BN)))) ( .chk (([]:List BN).length==0) ( AA (a0,([]:List BN))))
 | .b2 a0 a1 a2=>AO (.b3 a0 (0:Int) a1 a2)
 | .b3 a0 a1 a2 a3=>.br (decide (a1<(↑a0.length:Int))) ( .chk (decide (0<=a1/\a1<(↑a0.length:Int))) ( .bind 138 (a0[(Int.toNat a1)]?) (fun(x1:BN)=>.br (a2.Own==x1.Kind) ( AO (.b4 a0 a1 ({ a2 with Own:=-1 }:Aa) a3)) ( AO (.b4 a0 a1 a2 a3))))) ( AA (a2,a0))
 | .b4 a0 a1 a2 a3=>.chk (decide (0<=a1/\a1<(↑a0.length:Int))) ( .bind 138 (a0[(Int.toNat a1)]?) (fun(x1:BN)=>.br (a2.Other==x1.Kind) ( AO (.b5 a0 a1 ({ a2 with Other:=-1 }:Aa) a3)) ( AO (.b5 a0 a1 a2 a3))))
 | .b5 a0 a1 a2 a3=>AO (.b3 a0 (AP (a1+1)) a2 a3)
def Z2R (a0:Aa) (a1:Int):Option (Aa×(List BN)):=AV Zcc (.b0 a0 a1)
def Z9Y:Lay:=⟨[2,4],[KP,KP],[.var k1,.var k1],⟨[PQ 0,PQ 1],[VA 39 20,VA 39 20]⟩⟩
def Zak:Lay:=⟨[2,4,7],[KP,KP,[.s 138 8]],[.var k1,.var k1],⟨[PQ 0,PQ 1,OV 37],[VA 39 20,VA 39 20]⟩⟩
def UW:Lay:=⟨[2,4,7,8],[KP,KP,[.s 138 8],KP],[.var k1,.var k1],⟨[PQ 0,PQ 1,OV 37,OV 3],[VA 39 20,VA 39 20]⟩⟩
def Zzx:Nat->Option Lay
 | 4=>some Z9Y
 | 7=>some Zak
 | 8=>some UW
 | 12=>some UW
 | 9=>some UW
 | _=>none
def Zvb:aZ->Ac U
 | .b0 a0 a1=>Ai Tryz.f94 [39,30] (a0,a1,())
 | .b1 a0 a1=>AA3 Tryz.f94 [1,1,1,0,1,0,0,0] Z9Y (a0,a1,())
 | .b2 a0 a1 a2=>AA3 Tryz.f94 [1,1,1,1,0,0] Zak (a0,a1,a2,())
 | .b3 a0 a1 a2 a3=>AA3 Tryz.f94 [1,1,1,1,0,1,0,0,0,0] UW (a0,a1,a2,a3,())
 | .b4 a0 a1 a2 a3=>AA3 Tryz.f94 [1,1,1,1,0,1,0,0,1,0,0,1,0] UW (a0,a1,a2,a3,())
 | .b5 a0 a1 a2 a3=>AA3 Tryz.f94 [1,1,1,1,0,1,0,0,1,1] UW (a0,a1,a2,a3,())
theorem Zxk:AA1 94 [39,30] 135 (fun x=>Z2R x.1 x.2.1) rfl:=Aj (mc Zxo Ag) Ah Zzx Zvb Tryz.func94 (fun p=>by cases p<;>kernel_rfl) (by kernel_rfl) fun _=>rfl
inductive aW where
 | b0 (a0:Dc) (a1:Int)
def ZcE:aW->Tr U (Dc⊕aW)
 | .b0 a0 a1=>.bind 35 (pM a1) (fun(x1:Dc)=>AA x1)
def Z2m (a0:Dc) (a1:Int):Option Dc:=AV ZcE (.b0 a0 a1)
def ZwA:aW->Ac U
 | .b0 a0 a1=>Ai Tryz.f187 [35,3] (a0,a1,())
theorem Zxl:AA1 187 [35,3] 35 (fun x=>Z2m x.1 x.2.1) rfl:=Aj (mc ZaT Ag) Ah AN ZwA Tryz.func187 (fun p=>by cases p<;>kernel_rfl) (by kernel_rfl) fun _=>rfl
inductive YK where
 | b0 (a0:A8) (a1:BN)
 | b1 (a0:A8) (a1:BN) (a2:A8)
def ZaM:YK->Tr U (A8⊕YK)
 | .b0 a0 a1=>.br (a1.Kind==1) ( AA ({ a0 with Ce:=({ a0.Ce with Map:=a1.Map }:Ey) }:A8)) ( .br (a0.Bl==1) ( AO (.b1 ({ a0 with Ce:=({ a0.Ce with BH:=a1.BH }:Ey),Ed:=(AP (a0.Ed+(AP ((1250:Int)*a1.BH.EJ)))),Size:=(AP (a0.Size+(AP ((1250:Int)*a1.BH.EK)))) }:A8) a1 Dp)) ( AO (.b1 ({ a0 with Ce:=({ a0.Ce with BH:=a1.BH }:Ey),Ed:=(AP (a0.Ed+(AP ((1250:Int)*a1.BH.EJ)))) }:A8) a1 Dp)))
 | .b1 a0 a1 a2=>.bind 35 (Z2m a0.GM a1.BH.Dh) (fun(x1:Dc)=>AA ({ a0 with GM:=x1 }:A8))
def Z1v (a0:A8) (a1:BN):Option A8:=AV ZaM (.b0 a0 a1)
def Z7Q:Lay:=⟨[2,3,4],[KP,KP,KP],[.var k2,.var k13,.var k2],⟨[PQ 0,PQ 1,PQ 2],[VA 44 66,VA 138 8,VA 44 66]⟩⟩
def ZsP:Nat->Option Lay
 | 8=>some Z7Q
 | _=>none
def Zq1:YK->Ac U
 | .b0 a0 a1=>Ai Tryz.f95 [44,138] (a0,a1,())
 | .b1 a0 a1 a2=>AA3 Tryz.f95 [1,1,1,1,1,0] Z7Q (a0,a1,a2,())
theorem ZpC:AA1 95 [44,138] 44 (fun x=>Z1v x.1 x.2.1) rfl:=Aj (mc Zxl Ag) Ah ZsP Zq1 Tryz.func95 (fun p=>by cases p<;>kernel_rfl) (by kernel_rfl) fun _=>rfl
inductive YI where
 | b0 (a0:Int)
def Za7:YI->Tr U (Bool⊕YI)
 | .b0 a0=>.br (a0==0) ( AA true) ( AA (a0==1))
def QI (a0:Int):Option Bool:=AV Za7 (.b0 a0)
def Zph:YI->Ac U
 | .b0 a0=>Ai Tryz.f259 [3] (a0,())
theorem UF:AA1 259 [3] 4 (fun x=>QI x.1) rfl:=Aj Ag Ah AN Zph Tryz.func259 (fun p=>by cases p<;>kernel_rfl) (by kernel_rfl) fun _=>rfl
inductive dH where
 | b0 (a0:Aa) (a1:AL)
def Zc9:dH->Tr U (Bool⊕dH)
 | .b0 a0 a1=>.bind 4 (QI a1.Kind) (fun(x1:Bool)=>.br (!x1) ( AA true) ( AA ((↑a0.Bz.length:Int)==0)))
def qB (a0:Aa) (a1:AL):Option Bool:=AV Zc9 (.b0 a0 a1)
def Zxr:dH->Ac U
 | .b0 a0 a1=>Ai Tryz.f188 [39,156] (a0,a1,())
theorem Zbh:AA1 188 [39,156] 4 (fun x=>qB x.1 x.2.1) rfl:=Aj (mc UF Ag) Ah AN Zxr Tryz.func188 (fun p=>by cases p<;>kernel_rfl) (by kernel_rfl) fun _=>rfl
inductive aX where
 | b0 (a0 a1:Int)
def Zcr:aX->Tr U (Int⊕aX)
 | .b0 a0 a1=>AA (IntKind.wrap .u16 ((Int.tmod (AP ((AP ((AP (a0))+(Int.tmod a1 65536)))+65536)) (65536:Int))))
def pX (a0 a1:Int):Option Int:=AV Zcr (.b0 a0 a1)
def Zw4:aX->Ac U
 | .b0 a0 a1=>Ai Tryz.f190 [30,3] (a0,a1,())
theorem ZaU:AA1 190 [30,3] 30 (fun x=>pX x.1 x.2.1) rfl:=Aj Ag Ah AN Zw4 Tryz.func190 (fun p=>by cases p<;>kernel_rfl) (by kernel_rfl) fun _=>rfl
inductive aN where
 | b0 (a0 a1:Int)
def Zbp:aN->Tr U (Int⊕aN)
 | .b0 a0 a1=>.bind 30 (pX a0 (AP ((6:Int)+(if (if (499:Int)<a1 then (499:Int) else a1)>0 then (if (499:Int)<a1 then (499:Int) else a1) else (0:Int))))) (fun(x1:Int)=>AA x1)
def Z23 (a0 a1:Int):Option Int:=AV Zbp (.b0 a0 a1)
def ZsM:aN->Ac U
 | .b0 a0 a1=>Ai Tryz.f260 [30,3] (a0,a1,())
theorem ZtU:AA1 260 [30,3] 30 (fun x=>Z23 x.1 x.2.1) rfl:=Aj (mc ZaU Ag) Ah AN ZsM Tryz.func260 (fun p=>by cases p<;>kernel_rfl) (by kernel_rfl) fun _=>rfl
inductive Y8 where
 | b0 (a0:Int) (a1:BN)
 | b1 (a0:Int) (a1:BN)
def Zax:Y8->Tr U (Int⊕Y8)
 | .b0 a0 a1=>.br (a1.Kind != 0) ( .br (a1.Kind != 1) ( AA (12:Int)) ( AO (.b1 a0 a1))) ( AO (.b1 a0 a1))
 | .b1 a0 a1=>.bind 4 (mQ a0 a1.DD) (fun(x1:Bool)=>.br x1 ( AA (18:Int)) ( AA (0:Int)))
def Z1z (a0:Int) (a1:BN):Option Int:=AV Zax (.b0 a0 a1)
def Z8d:Lay:=⟨[0,3],[KP,KP],[.var k13],⟨[OV 30,PQ 0],[VA 138 8]⟩⟩
def ZsA:Nat->Option Lay
 | 3=>some Z8d
 | _=>none
def Zqk:Y8->Ac U
 | .b0 a0 a1=>Ai Tryz.f334 [30,138] (a0,a1,())
 | .b1 a0 a1=>AA3 Tryz.f334 [1,1,0,0] Z8d (a0,a1,())
theorem Zoe:AA1 334 [30,138] 45 (fun x=>Z1z x.1 x.2.1) rfl:=Aj (mc Z8G Ag) Ah ZsA Zqk Tryz.func334 (fun p=>by cases p<;>kernel_rfl) (by kernel_rfl) fun _=>rfl
inductive bQ where
 | b0 (a0:List BN) (a1:Int) (a2:BN)
def Zcn:bQ->Tr U (((List BN)×Int)⊕bQ)
 | .b0 a0 a1 a2=>.chk (([]:List BN).length==0) ( .chk (kA (0+a0.length) 64) ( .bind 45 (Z1z a1 a2) (fun(x1:Int)=>.br (x1 != 0) ( .chk (kL (([]:List BN)++a0)) ( AA ((([]:List BN)++a0),x1))) ( .br (decide ((↑a0.length:Int)>0)) ( .chk (kL (([]:List BN)++a0)) ( AA ((([]:List BN)++a0),(20:Int)))) ( .chk (([a2]).length==1) ( .chk (kL (([]:List BN)++a0)) ( .chk (kA ((([]:List BN)++a0).length+([a2]).length) 64) ( .chk (kL ((([]:List BN)++a0)++[a2])) ( AA (((([]:List BN)++a0)++[a2]),(0:Int)))))))))))
def pW (a0:List BN) (a1:Int) (a2:BN):Option ((List BN)×Int):=AV Zcn (.b0 a0 a1 a2)
def Zx5:bQ->Ac U
 | .b0 a0 a1 a2=>Ai Tryz.f261 [37,30,138] (a0,a1,a2,())
theorem Zb7:AA1 261 [37,30,138] 269 (fun x=>pW x.1 x.2.1 x.2.2.1) rfl:=Aj (mc Zoe Ag) Ah AN Zx5 Tryz.func261 (fun p=>by cases p<;>kernel_rfl) (by kernel_rfl) fun _=>rfl
inductive Xc where
 | b0 (a0:AL)
def Z9t:Xc->Tr U (BN⊕Xc)
 | .b0 a0=>AA (⟨a0.Kind,a0.DD,a0.BH,a0.Map⟩:BN)
def mM (a0:AL):Option BN:=AV Z9t (.b0 a0)
def Zmy:Xc->Ac U
 | .b0 a0=>Ai Tryz.f262 [156] (a0,())
theorem Z8N:AA1 262 [156] 138 (fun x=>mM x.1) rfl:=Aj Ag Ah AN Zmy Tryz.func262 (fun p=>by cases p<;>kernel_rfl) (by kernel_rfl) fun _=>rfl
inductive YR where
 | b0 (a0:Aa) (a1:AL) (a2 a3:Int)
 | b1 (a0:Int) (a1:Aa) (a2:AL) (a3:Aa) (a4:AL)
 | b2 (a0:Int) (a1:Aa) (a2:AL) (a3:Aa) (a4:AL)
 | b3 (a0:Aa) (a1:AL) (a2:Aa) (a3:AL)
 | b4 (a0:Aa) (a1:AL) (a2:Aa) (a3:AL)
 | b5 (a0:Aa) (a1:AL) (a2:Aa) (a3:AL)
def Zap:YR->Tr U ((Aa×AL)⊕YR)
 | .b0 a0 a1 a2 a3=>.br (a1.Kind==0) ( .br (a1.Kind==0) ( AO (.b1 a2 ({ a0 with Own:=a1.Kind,Since:=a3 }:Aa) a1 ES GZ)) ( AO (.b2 a1.Kind ({ a0 with Own:=a1.Kind,Since:=a3 }:Aa) a1 ES GZ))) ( .br (a1.Kind==1) ( AO (.b1 a2 ({ a0 with Own:=a1.Kind,Since:=a3 }:Aa) a1 ES GZ)) ( AO (.b2 a1.Kind ({ a0 with Own:=a1.Kind,Since:=a3 }:Aa) a1 ES GZ)))
 | .b1 a0 a1 a2 a3 a4=>.bind 30 (Z23 a0 (0:Int)) (fun(x1:Int)=>.bind 138 (mM ({ a2 with DD:=x1 }:AL)) (fun(x2:BN)=>.bind 269 (pW a1.Bz a0 x2) (fun(x3:(List BN)×Int)=>.br (x3.2==0) ( AO (.b3 ({ a1 with Bz:=x3.1 }:Aa) ({ a2 with DD:=x1 }:AL) a3 a4)) ( AO (.b3 a1 ({ a2 with DD:=x1 }:AL) a3 a4)))))
 | .b2 a0 a1 a2 a3 a4=>.br (a0==3) ( AO (.b4 ({ a1 with Bo:=a2.Bo,Mark:=a2.Mark,EI:=1 }:Aa) a2 a3 a4)) ( .br (a0==12) ( AO (.b4 ({ a1 with JK:=true }:Aa) a2 a3 a4)) ( .br (a0==20) ( AO (.b4 ({ a1 with Limit:=a2.Length }:Aa) a2 a3 a4)) ( AO (.b4 a1 a2 a3 a4))))
 | .b3 a0 a1 a2 a3=>.br (a1.Kind==0) ( .br (a0.Other==15) ( AO (.b5 ({ a0 with Told:=false }:Aa) a1 a2 a3)) ( AO (.b4 ({ a0 with Told:=false }:Aa) a1 a2 a3))) ( AO (.b4 ({ a0 with Told:=false }:Aa) a1 a2 a3))
 | .b4 a0 a1 a2 a3=>AA (a0,a1)
 | .b5 a0 a1 a2 a3=>AO (.b4 ({ a0 with Other:=-1 }:Aa) a1 a2 a3)
def nH (a0:Aa) (a1:AL) (a2 a3:Int):Option (Aa×AL):=AV Zap (.b0 a0 a1 a2 a3)
def Z8f:Lay:=⟨[2,4,5,8,9],[KP,KP,KP,KP,KP],[.var k1,.var k0,.var k1,.var k0],⟨[OV 30,PQ 0,PQ 1,PQ 2,PQ 3],[VA 39 20,VA 156 15,VA 39 20,VA 156 15]⟩⟩
def Z7T:Lay:=⟨[4,5,8,9,18],[KP,KP,KP,KP,KP],[.var k1,.var k0,.var k1,.var k0],⟨[PQ 0,PQ 1,PQ 2,PQ 3,OV 3],[VA 39 20,VA 156 15,VA 39 20,VA 156 15]⟩⟩
def Tv:Lay:=⟨[4,5,8,9],[KP,KP,KP,KP],[.var k1,.var k0,.var k1,.var k0],⟨[PQ 0,PQ 1,PQ 2,PQ 3],[VA 39 20,VA 156 15,VA 39 20,VA 156 15]⟩⟩
def Ztm:Nat->Option Lay
 | 6=>some Z8f
 | 13=>some Z7T
 | 10=>some Tv
 | 21=>some Tv
 | 12=>some Tv
 | _=>none
def Zqm:YR->Ac U
 | .b0 a0 a1 a2 a3=>Ai Tryz.f189 [39,156,30,3] (a0,a1,a2,a3,())
 | .b1 a0 a1 a2 a3 a4=>AA3 Tryz.f189 [1,1,1,0,1,0,1,0,0] Z8f (a0,a1,a2,a3,a4,())
 | .b2 a0 a1 a2 a3 a4=>AA3 Tryz.f189 [1,1,1,0,1,0,1,1,0] Z7T (a0,a1,a2,a3,a4,())
 | .b3 a0 a1 a2 a3=>AA3 Tryz.f189 [1,1,1,0,1,0,1,0,1,1,1,0] Tv (a0,a1,a2,a3,())
 | .b4 a0 a1 a2 a3=>AA3 Tryz.f189 [1,1,1,1,0] Tv (a0,a1,a2,a3,())
 | .b5 a0 a1 a2 a3=>AA3 Tryz.f189 [1,1,1,0,1,0,1,0,1,1,1,1,1,0] Tv (a0,a1,a2,a3,())
theorem Z96:AA1 189 [39,156,30,3] 216 (fun x=>nH x.1 x.2.1 x.2.2.1 x.2.2.2.1) rfl:=Aj (mc ZtU (mc Zb7 (mc Z8N Ag))) Ah Ztm Zqm Tryz.func189 (fun p=>by cases p<;>kernel_rfl) (by kernel_rfl) fun _=>rfl
inductive Y3 where
 | b0 (a0:Aa) (a1 a2:Int)
 | b1 (a0 a1:Int) (a2:List AL) (a3 a4:Aa)
 | b2 (a0 a1:Int) (a2:List AL) (a3 a4:Aa)
 | b3 (a0:List AL) (a1 a2:Aa)
 | b4 (a0 a1:Int) (a2:List AL) (a3 a4:Aa) (a5:AL)
def ZaE:Y3->Tr U ((Aa×(List AL))⊕Y3)
 | .b0 a0 a1 a2=>.chk (([]:List AL).length==0) ( AO (.b1 a1 a2 ([]:List AL) a0 ES))
 | .b1 a0 a1 a2 a3 a4=>.br (a3.GR==0) ( .br (decide (a3.Own<0)) ( .br (decide ((↑a3.BI.length:Int)>0)) ( .chk (decide (0<=(0:Int)/\(0:Int)<(↑a3.BI.length:Int))) ( .bind 156 (a3.BI[(Int.toNat 0)]?) (fun(x1:AL)=>.bind 4 (qB a3 x1) (fun(x2:Bool)=>.br x2 ( .chk (kL a2) ( AO (.b2 a0 a1 a2 a3 a4))) ( .chk (kL a2) ( AO (.b3 a2 a3 a4))))))) ( .chk (kL a2) ( AO (.b3 a2 a3 a4)))) ( .chk (kL a2) ( AO (.b3 a2 a3 a4)))) ( .chk (kL a2) ( AO (.b3 a2 a3 a4)))
 | .b2 a0 a1 a2 a3 a4=>.chk (decide (0<=(0:Int)/\(0:Int)<(↑a3.BI.length:Int))) ( .bind 156 (a3.BI[(Int.toNat 0)]?) (fun(x1:AL)=>.chk (decide (0<=(1:Int)/\(1:Int)<=(↑a3.BI.length:Int))) ( .chk (([]:List AL).length==0) ( .chk (kA (0+((a3.BI.drop (Int.toNat 1)).take (a3.BI.length - (Int.toNat 1))).length) 120) ( .br (x1.Kind==12) ( .br a3.JK ( .chk (kL (([]:List AL)++((a3.BI.drop (Int.toNat 1)).take (a3.BI.length - (Int.toNat 1))))) ( .chk (kL a2) ( AO (.b1 a0 a1 a2 ({ a3 with BI:=(([]:List AL)++((a3.BI.drop (Int.toNat 1)).take (a3.BI.length - (Int.toNat 1)))) }:Aa) a4)))) ( .br (x1.Kind==3) ( .br (a3.EI != 0) ( .chk (kL (([]:List AL)++((a3.BI.drop (Int.toNat 1)).take (a3.BI.length - (Int.toNat 1))))) ( .chk (kL a2) ( AO (.b1 a0 a1 a2 ({ a3 with BI:=(([]:List AL)++((a3.BI.drop (Int.toNat 1)).take (a3.BI.length - (Int.toNat 1)))) }:Aa) a4)))) ( .chk (kL a2&&((([]:List AL)++((a3.BI.drop (Int.toNat 1)).take (a3.BI.length - (Int.toNat 1)))).length==(([]:List AL)++((a3.BI.drop (Int.toNat 1)).take (a3.BI.length - (Int.toNat 1)))).length)) ( AO (.b4 a0 a1 a2 ({ a3 with BI:=(([]:List AL)++((a3.BI.drop (Int.toNat 1)).take (a3.BI.length - (Int.toNat 1)))) }:Aa) a4 x1)))) ( .chk (kL a2&&((([]:List AL)++((a3.BI.drop (Int.toNat 1)).take (a3.BI.length - (Int.toNat 1)))).length==(([]:List AL)++((a3.BI.drop (Int.toNat 1)).take (a3.BI.length - (Int.toNat 1)))).length)) ( AO (.b4 a0 a1 a2 ({ a3 with BI:=(([]:List AL)++((a3.BI.drop (Int.toNat 1)).take (a3.BI.length - (Int.toNat 1)))) }:Aa) a4 x1))))) ( .br (x1.Kind==3) ( .br (a3.EI != 0) ( .chk (kL (([]:List AL)++((a3.BI.drop (Int.toNat 1)).take (a3.BI.length - (Int.toNat 1))))) ( .chk (kL a2) ( AO (.b1 a0 a1 a2 ({ a3 with BI:=(([]:List AL)++((a3.BI.drop (Int.toNat 1)).take (a3.BI.length - (Int.toNat 1)))) }:Aa) a4)))) ( .chk (kL a2&&((([]:List AL)++((a3.BI.drop (Int.toNat 1)).take (a3.BI.length - (Int.toNat 1)))).length==(([]:List AL)++((a3.BI.drop (Int.toNat 1)).take (a3.BI.length - (Int.toNat 1)))).length)) ( AO (.b4 a0 a1 a2 ({ a3 with BI:=(([]:List AL)++((a3.BI.drop (Int.toNat 1)).take (a3.BI.length - (Int.toNat 1)))) }:Aa) a4 x1)))) ( .chk (kL a2&&((([]:List AL)++((a3.BI.drop (Int.toNat 1)).take (a3.BI.length - (Int.toNat 1)))).length==(([]:List AL)++((a3.BI.drop (Int.toNat 1)).take (a3.BI.length - (Int.toNat 1)))).length)) ( AO (.b4 a0 a1 a2 ({ a3 with BI:=(([]:List AL)++((a3.BI.drop (Int.toNat 1)).take (a3.BI.length - (Int.toNat 1)))) }:Aa) a4 x1)))))))))
 | .b3 a0 a1 a2=>.chk (kL a0) ( AA (a1,a0))
 | .b4 a0 a1 a2 a3 a4 a5=>.chk (kL a3.BI) ( .bind 216 (nH a3 a5 a0 a1) (fun(x1:Aa×AL)=>.chk (([x1.2]).length==1) ( .chk (kL a2) ( .chk (kA (a2.length+([x1.2]).length) 120) ( .chk (kL (a2++[x1.2])) ( AO (.b1 a0 a1 (a2++[x1.2]) x1.1 a4)))))))
def Z1y (a0:Aa) (a1 a2:Int):Option (Aa×(List AL)):=AV ZaE (.b0 a0 a1 a2)
def lF:Lay:=⟨[1,2,3,6,8],[KP,KP,KP,KP,[.own 156 15]],[.var k1,.var k1,.row true],⟨[OV 30,OV 3,PQ 0,PQ 1,.one (.own 156 2)],[VA 39 20,VA 39 20,.row 156 true]⟩⟩
def Z85:Lay:=⟨[3,6,8],[KP,KP,[.own 156 15]],[.var k1,.var k1,.row true],⟨[PQ 0,PQ 1,.one (.own 156 2)],[VA 39 20,VA 39 20,.row 156 true]⟩⟩
def Z8z:Lay:=⟨[1,2,3,6,8,9],[KP,KP,KP,KP,[.own 156 15],KP],[.var [.keep,.keep,.keep,.own 156 15,.keep,.keep,.s 138 8,.keep,.keep,.keep,.keep,.keep,.keep,.keep,.keep,.keep,.keep,.keep,.keep,.keep],.var k1,.row true,.var k0,.row true],⟨[OV 30,OV 3,PQ 0,PQ 1,.one (.own 156 2),PQ 3],[.var 39 20 (.agg [VC 3 1,VC 3 1,VC 3 1,.own 156 4,VC 3 1,VC 3 1,VC 37 1,VC 4 1,VC 25 1,VC 25 1,VC 4 1,VC 4 1,VC 3 1,VC 3 1,VC 3 1,VC 25 1,VC 25 1,VC 25 1,VC 3 1,VC 3 1]),VA 39 20,.row 156 true,VA 156 15,.row 156 true]⟩⟩
def ZsK:Nat->Option Lay
 | 2=>some lF
 | 3=>some lF
 | 8=>some Z85
 | 6=>some Z8z
 | _=>none
def ZoS:Y3->Ac U
 | .b0 a0 a1 a2=>Ai Tryz.f96 [39,30,3] (a0,a1,a2,())
 | .b1 a0 a1 a2 a3 a4=>AA3 Tryz.f96 [1,1,0,0,0,0,0] lF (a0,a1,a3,a4,a2,())
 | .b2 a0 a1 a2 a3 a4=>AA3 Tryz.f96 [1,1,0,0,0,1,0,0] lF (a0,a1,a3,a4,a2,())
 | .b3 a0 a1 a2=>AA3 Tryz.f96 [1,1,1,0] Z85 (a1,a2,a0,())
 | .b4 a0 a1 a2 a3 a4 a5=>AA3 Tryz.f96 [1,1,0,0,0,1,0,1,1,1,0] Z8z (a0,a1,a3.Bl,a3.Own,a3.Since,a3.Other,a3.Ir,a3.Bz,a3.Told,a3.CQ,a3.MB,a3.Hl,a3.JK,a3.Version,a3.Length,a3.Limit,a3.Bo,a3.JW,a3.Mark,a3.EI,a3.GR,a4,a2,a5,a3.BI,())
theorem Zqi:AA1 96 [39,30,3] 140 (fun x=>Z1y x.1 x.2.1 x.2.2.1) rfl:=Aj (mc Zbh (mc Z96 Ag)) Ah ZsK ZoS Tryz.func96 (fun p=>by cases p<;>kernel_rfl) (by kernel_rfl) fun _=>rfl
inductive Xn where
 | b0 (a0:A8)
def Zay:Xn->Tr U (Int⊕Xn)
 | .b0 a0=>.bind 30 (pX a0.Event a0.Ce.BH.Dh) (fun(x1:Int)=>AA x1)
def nO (a0:A8):Option Int:=AV Zay (.b0 a0)
def Zqx:Xn->Ac U
 | .b0 a0=>Ai Tryz.f97 [44] (a0,())
theorem Z9k:AA1 97 [44] 30 (fun x=>nO x.1) rfl:=Aj (mc ZaU Ag) Ah AN Zqx Tryz.func97 (fun p=>by cases p<;>kernel_rfl) (by kernel_rfl) fun _=>rfl
end
end Go.Proofs.YtjodhcdmhobmoaaGreatDoor
