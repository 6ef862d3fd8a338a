/- A part of it. -/
import Derived.Test.YtjodhcdmhobmoaaGreatDoorDUn
set_option linter.unusedVariables false
set_option linter.unusedSimpArgs false
namespace Go.Proofs.YtjodhcdmhobmoaaGreatDoor
open Tryz
open Go Go.Proofs.YtjodhcdmhobmoaaGreatDoor.Le
set_option maxRecDepth 100000
noncomputable section
inductive ZJ where
 | b0 (a b:BB)
def Z6L:ZJ->Tr U (Bool⊕ZJ)
 | .b0 a b=>.br (a.CQ==b.CQ) (.chk (Lm U 5 a.Payload) (.chk (Lm U 5 b.Payload) (AA ((strOf U 5 a.Payload).toList==(strOf U 5 b.Payload).toList)))) (AA false)
def ZF (a b:BB):Option Bool:=AY Z6L (.b0 a b)
def ZjI:ZJ->Ae U
 | .b0 a b=>Am f26 [68,68] (a,b,())
theorem Zjm:AA1 26 [68,68] 4 (fun x=>ZF x.1 x.2.1) rfl:=Ap Af Ah AN ZjI func26 (fun p=>by cases p<;>kernel_rfl) (by kernel_rfl) fun _=>rfl
inductive Zz where
 | b0 (a b:List BB)
 | b1 (a b:List BB) (c:Int)
def We:Zz->Tr U (Bool⊕Zz)
 | .b0 a b=>.br ((↑a.length:Int) != (↑b.length:Int)) (AA false) (AP (.b1 a b (0:Int)))
 | .b1 b c a=>let g:=Int.toNat a;.br (decide (a<(↑b.length:Int))) (.chk (kI a b) (.bind 68 (b[g]?) (fun(d:BB)=>.chk (kI a c) (.bind 68 (c[g]?) (fun(e:BB)=>.bind 4 (ZF d e) (fun(f:Bool)=>.br (!f) (AA false) (AP (.b1 b c (AV (a+1)))))))))) (AA true)
def Ze (a b:List BB):Option Bool:=AY We (.b0 a b)
def Z5Y:Lay:=⟨[0,1,5],[[.s 68 2],[.s 68 2],KP],[],⟨[OV 31,OV 31,OV 3],[]⟩⟩
def Zjx:Nat->Option Lay
 | 4=>some Z5Y
 | _=>none
def ZhK:Zz->Ae U
 | .b0 a b=>Am f49 [31,31] (a,b,())
 | .b1 a b c=>AA3 f49 [1,1,0,1,0,0,0,0] Z5Y (a,b,c,())
theorem ZhX:AA1 49 [31,31] 4 (fun x=>Ze x.1 x.2.1) rfl:=Ap (mc Zjm Af) Ah Zjx ZhK func49 (fun p=>by cases p<;>kernel_rfl) (by kernel_rfl) fun _=>rfl
inductive zK where
 | b0 (a b:List AL)
 | b1 (a b:List AL) (c:Int)
def WR:zK->Tr U (Bool⊕zK)
 | .b0 a b=>.br ((↑a.length:Int) != (↑b.length:Int)) (AA false) (AP (.b1 a b (0:Int)))
 | .b1 b c a=>let f:=Int.toNat a;.br (decide (a<(↑b.length:Int))) (.chk (kI a b) (.bind 156 (b[f]?) (fun(d:AL)=>.chk (kI a c) (.bind 156 (c[f]?) (fun(e:AL)=>.br (!(Gi d e)) (AA false) (AP (.b1 b c (AV (a+1))))))))) (AA true)
def jR (a b:List AL):Option Bool:=AY WR (.b0 a b)
def Z5m:Lay:=⟨[0,1,5],[[.s 156 15],[.s 156 15],KP],[],⟨[OV 36,OV 36,OV 3],[]⟩⟩
def Ziq:Nat->Option Lay
 | 4=>some Z5m
 | _=>none
def ZgM:zK->Ae U
 | .b0 a b=>Am f51 [36,36] (a,b,())
 | .b1 a b c=>AA3 f51 [1,1,0,1,0,0,0,0] Z5m (a,b,c,())
theorem Z61:AA1 51 [36,36] 4 (fun x=>jR x.1 x.2.1) rfl:=Ap Af Ah Ziq ZgM func51 (fun p=>by cases p<;>kernel_rfl) (by kernel_rfl) fun _=>rfl
inductive ZW where
 | b0 (a b:A7)
 | b1 (a b:A7)
 | b2 (a:Int) (b c:A7)
def XA:ZW->Tr U (Bool⊕ZW)
 | .b0 a b=>.bind 4 (jR a.Aa b.Aa) (fun(c:Bool)=>.br (!c) (AA false) (.br ((↑a.Ak.length:Int) != (↑b.Ak.length:Int)) (AA false) (AP (.b1 a b))))
 | .b1 a b=>AP (.b2 (0:Int) a b)
 | .b2 e a b=>let g:=Int.toNat e;let f:=AA false;.br (decide (e<(↑a.Ak.length:Int))) (.chk (kI e a.Ak) (.bind 138 (a.Ak[g]?) (fun(c:BF)=>.chk (kI e b.Ak) (.bind 138 (b.Ak[g]?) (fun(d:BF)=>.br (!((c.Kind==d.Kind)&&((c.CP==d.CP)&&((c.BG.EX==d.BG.EX)&&((c.BG.EW==d.BG.EW)&&((c.BG.Dp==d.BG.Dp)&&((c.BG.Dq==d.BG.Dq)&&((c.BG.Ei==d.BG.Ei)&&((c.Map==d.Map)&&true))))))))) f (AP (.b2 (AV (e+1)) a b))))))) (.br (a.BR==b.BR) (.br (a.Own==b.Own) (.br (a.Since==b.Since) (.br (a.Other==b.Other) (.br (a.Gz==b.Gz) (.br (a.DK==b.DK) (.br (a.Ic==b.Ic) (.br (a.Fg==b.Fg) (.br (a.Told==b.Told) (.br (a.FX==b.FX) (.br (a.Version==b.Version) (.br (a.Length==b.Length) (.br (a.Limit==b.Limit) (.br (a.CE==b.CE) (.br (a.GK==b.GK) (.br (a.Mark==b.Mark) (.br (a.CJ==b.CJ) (AA (a.ER==b.ER)) f) f) f) f) f) f) f) f) f) f) f) f) f) f) f) f) f)
def Z04 (a b:A7):Option Bool:=AY XA (.b0 a b)
def Z6q:Lay:=⟨[2,3],[KP,KP],[.var k1,.var k1],⟨[PQ 0,PQ 1],[VA 39 20,VA 39 20]⟩⟩
def Z6v:Lay:=⟨[2,3,5],[KP,KP,KP],[.var k1,.var k1],⟨[PQ 0,PQ 1,OV 3],[VA 39 20,VA 39 20]⟩⟩
def ZlH:Nat->Option Lay
 | 3=>some Z6q
 | 4=>some Z6v
 | _=>none
def Zkx:ZW->Ae U
 | .b0 a b=>Am f50 [39,39] (a,b,())
 | .b1 a b=>AA3 f50 [1,1,0,0] Z6q (a,b,())
 | .b2 a b c=>AA3 f50 [1,1,0,1,0,0,0,0] Z6v (a,b,c,())
theorem Zkn:AA1 50 [39,39] 4 (fun x=>Z04 x.1 x.2.1) rfl:=Ap (mc Z61 Af) Ah ZlH Zkx func50 (fun p=>by cases p<;>kernel_rfl) (by kernel_rfl) fun _=>rfl
inductive Z2d where
 | b0 (a b:Ac)
 | b1 (a:Int) (b c:Ac)
 | b2 (a b:Ac)
 | b3 (a b:Ac)
 | b4 (a b:Ac)
def NG:Z2d->Tr U (Bool⊕Z2d)
 | .b0 a b=>.br ((↑a.BI.length:Int) != (↑b.BI.length:Int)) (AA false) (AP (.b1 (0:Int) a b))
 | .b1 c a b=>let h:=Int.toNat c;let g:=AA false;.br (decide (c<(↑a.BI.length:Int))) (.chk (kI c a.BI) (.bind 99 (a.BI[h]?) (fun(d:BC)=>.chk (kI c b.BI) (.bind 99 (b.BI[h]?) (fun(e:BC)=>.br (!((d.Good==e.Good)&&((d.FN==e.FN)&&true))) g (AP (.b1 (AV (c+1)) a b))))))) (.br (a.Ag.SN != b.Ag.SN) g (.br (a.Ag.Ee != b.Ag.Ee) g (.bind 4 (Ze a.Ag.Aq b.Ag.Aq) (fun(f:Bool)=>.br (!f) g (.br (!(a.Ag.Open==b.Ag.Open)) g (.br (!(a.Ag.Empty==b.Ag.Empty)) g (.br (a.Ag.Ec != b.Ag.Ec) g (.br (a.Ag.Taken != b.Ag.Taken) g (AP (.b2 a b))))))))))
 | .b2 a b=>let c:=AA false;.br (a.BR != b.BR) c (.br (!((a.CZ.P5==b.CZ.P5)&&((a.CZ.Qz==b.CZ.Qz)&&((a.CZ.BG.EX==b.CZ.BG.EX)&&((a.CZ.BG.EW==b.CZ.BG.EW)&&((a.CZ.BG.Dp==b.CZ.BG.Dp)&&((a.CZ.BG.Dq==b.CZ.BG.Dq)&&((a.CZ.BG.Ei==b.CZ.BG.Ei)&&((a.CZ.Map==b.CZ.Map)&&((a.CZ.Hop==b.CZ.Hop)&&((a.CZ.iM==b.CZ.iM)&&((a.CZ.SG==b.CZ.SG)&&true)))))))))))) c (.br (a.Clock != b.Clock) c (.br (a.Event != b.Event) c (.br (a.Last != b.Last) c (.br (a.Fq != b.Fq) c (.br (a.Size != b.Size) c (.br (a.Sync != b.Sync) c (.br (a.Hf != b.Hf) c (AP (.b3 a b))))))))))
 | .b3 a b=>let c:=AA false;.br (!(a.Gq==b.Gq)) c (.br (!(a.Hm==b.Hm)) c (.br (!(a.Good==b.Good)) c (.br (!(a.Ec==b.Ec)) c (.br (!(a.More==b.More)) c (.br (!((a.FZ.Dq==b.FZ.Dq)&&((a.FZ.SS==b.FZ.SS)&&((a.FZ.Full==b.FZ.Full)&&true)))) c (.br (!((a.Dk.BR==b.Dk.BR)&&((a.Dk.Key==b.Dk.Key)&&((a.Dk.CE==b.Dk.CE)&&((a.Dk.Jq==b.Dk.Jq)&&((a.Dk.Jl==b.Dk.Jl)&&((a.Dk.Tx==b.Dk.Tx)&&((a.Dk.Rx==b.Dk.Rx)&&true)))))))) c (AP (.b4 a b))))))))
 | .b4 a b=>let e:=AA false;.bind 4 (Z04 a.AB b.AB) (fun(c:Bool)=>.br c (.br (a.Key==b.Key) (.bind 4 (jR a.Aw b.Aw) (fun(d:Bool)=>.br d (.br (a.Bq==b.Bq) (AA (a.Eg==b.Eg)) e) e)) e) e)
def Z2j (a b:Ac):Option Bool:=AY NG (.b0 a b)
def Z8Y:Lay:=⟨[2,3,5],[KP,KP,KP],[.var k2,.var k2],⟨[PQ 0,PQ 1,OV 3],[VA 44 66,VA 44 66]⟩⟩
def UY:Lay:=⟨[2,3],[KP,KP],[.var k2,.var k2],⟨[PQ 0,PQ 1],[VA 44 66,VA 44 66]⟩⟩
def Zv8:Nat->Option Lay
 | 4=>some Z8Y
 | 11=>some UY
 | 13=>some UY
 | 15=>some UY
 | _=>none
def ZrY:Z2d->Ae U
 | .b0 a b=>Am f13 [44,44] (a,b,())
 | .b1 a b c=>AA3 f13 [1,1,0,1,0,0,0,0] Z8Y (a,b,c,())
 | .b2 a b=>AA3 f13 [1,1,1,1,1,0,0] UY (a,b,())
 | .b3 a b=>AA3 f13 [1,1,1,1,1,1,0,0] UY (a,b,())
 | .b4 a b=>AA3 f13 [1,1,1,1,1,1,1,0] UY (a,b,())
theorem Zr9:AA1 13 [44,44] 4 (fun x=>Z2j x.1 x.2.1) rfl:=Ap (mc ZhX (mc Zkn (mc Z61 Af))) Ah Zv8 ZrY func13 (fun p=>by cases p<;>kernel_rfl) (by kernel_rfl) fun _=>rfl
theorem Z5a:Q8 Tryz.prog 145 1 1 5:=rC Qc (t:=62) (tb:=4) (e:=5) func145 (by kernel_rfl) (by kernel_rfl) (by kernel_rfl) (by kernel_rfl) (by kernel_rfl) (by kernel_rfl) (by kernel_rfl) (by decide)
def RX (a:List Int):Option UB:=if a.length*1<=lim/\a.length<=maxLen then some ⟨a⟩ else none
def ZfU:Shape:=⟨[OV 62],[]⟩
def wR:Shape:=⟨[.one (.own 5 0)],[.row 5 true]⟩
noncomputable def jI:HMod U:={ fa:=[[.s 5 1]],fb:=[],D7:=ZfU,JP:=wR,one:=true,ky:=1344,NZ:=fun(y:UB)=>(((),()),(y.q0,())),fn:=fun x=>RX x.1.1.1,ok:=okS rfl }
theorem Z5F:DU Tryz.prog B0 145 jI:=pU Z5a fun x y q=>by
 simp only[jI,RX]at q;split at q
 ·rename_i h;cases q;exact⟨_,rfl,rfl,by simp[jI,HMod.out,wR,Shape.enc,Iu,JM,I4,EK,Hw,AU],by simp[jI,HMod.out,wR,Shape.enc,Iu,JM,I4,EK,Hw,BO,CU,Bg],by simpa using h.1,by simpa using h.2⟩
 ·cases q
theorem Z4Y:Q8 Tryz.prog 146 15 120 156:=rC Qc (t:=36) (tb:=4) (e:=156) func146 (by kernel_rfl) (by kernel_rfl) (by kernel_rfl) (by kernel_rfl) (by kernel_rfl) (by kernel_rfl) (by kernel_rfl) (by decide)
def RS (a:List AL):Option QD:=if a.length*120<=lim/\a.length<=maxLen then some ⟨a⟩ else none
def Zfs:Shape:=⟨[OV 36],[]⟩
def wE:Shape:=⟨[.one (.own 156 0)],[.row 156 true]⟩
noncomputable def iU:HMod U:={ fa:=[[.s 156 15]],fb:=[],D7:=Zfs,JP:=wE,one:=true,ky:=1345,NZ:=fun(y:QD)=>(((),()),(y.q0,())),fn:=fun x=>RS x.1.1.1,ok:=okS rfl }
theorem Z5b:DU Tryz.prog B0 146 iU:=pU Z4Y fun x y q=>by
 simp only[iU,RS]at q;split at q
 ·rename_i h;cases q;exact⟨_,rfl,rfl,by simp[iU,HMod.out,wE,Shape.enc,Iu,JM,I4,EK,Hw,AU],by simp[iU,HMod.out,wE,Shape.enc,Iu,JM,I4,EK,Hw,BO,CU,Bg],by simpa using h.1,by simpa using h.2⟩
 ·cases q
theorem Z51:Q8 Tryz.prog 147 8 64 138:=rC Qc (t:=37) (tb:=4) (e:=138) func147 (by kernel_rfl) (by kernel_rfl) (by kernel_rfl) (by kernel_rfl) (by kernel_rfl) (by kernel_rfl) (by kernel_rfl) (by decide)
def QG (a:List BF):Option QE:=if a.length*64<=lim/\a.length<=maxLen then some ⟨a⟩ else none
def ZfH:Shape:=⟨[OV 37],[]⟩
def wK:Shape:=⟨[.one (.own 138 0)],[.row 138 true]⟩
noncomputable def iW:HMod U:={ fa:=[[.s 138 8]],fb:=[],D7:=ZfH,JP:=wK,one:=true,ky:=1346,NZ:=fun(y:QE)=>(((),()),(y.q0,())),fn:=fun x=>QG x.1.1.1,ok:=okS rfl }
theorem wU:DU Tryz.prog B0 147 iW:=pU Z51 fun x y q=>by
 simp only[iW,QG]at q;split at q
 ·rename_i h;cases q;exact⟨_,rfl,rfl,by simp[iW,HMod.out,wK,Shape.enc,Iu,JM,I4,EK,Hw,AU],by simp[iW,HMod.out,wK,Shape.enc,Iu,JM,I4,EK,Hw,BO,CU,Bg],by simpa using h.1,by simpa using h.2⟩
 ·cases q
theorem Z53:Q8 Tryz.prog 148 2 16 99:=rC Qc (t:=42) (tb:=4) (e:=99) func148 (by kernel_rfl) (by kernel_rfl) (by kernel_rfl) (by kernel_rfl) (by kernel_rfl) (by kernel_rfl) (by kernel_rfl) (by decide)
def jC (a:List BC):Option WJ:=if a.length*16<=lim/\a.length<=maxLen then some ⟨a⟩ else none
def ZfN:Shape:=⟨[OV 42],[]⟩
def wP:Shape:=⟨[.one (.own 99 0)],[.row 99 true]⟩
noncomputable def jB:HMod U:={ fa:=[[.s 99 2]],fb:=[],D7:=ZfN,JP:=wP,one:=true,ky:=1347,NZ:=fun(y:WJ)=>(((),()),(y.q0,())),fn:=fun x=>jC x.1.1.1,ok:=okS rfl }
theorem Zg0:DU Tryz.prog B0 148 jB:=pU Z53 fun x y q=>by
 simp only[jB,jC]at q;split at q
 ·rename_i h;cases q;exact⟨_,rfl,rfl,by simp[jB,HMod.out,wP,Shape.enc,Iu,JM,I4,EK,Hw,AU],by simp[jB,HMod.out,wP,Shape.enc,Iu,JM,I4,EK,Hw,BO,CU,Bg],by simpa using h.1,by simpa using h.2⟩
 ·cases q
end
noncomputable def Z8v:Option Bool:=some true
noncomputable def Z8s:Aj U:={ ts:=[],rt:=4,fn:=fun _=>Z8v,ok:=by decide }
theorem Zm1:rQ Tryz.prog gl [11,14,15,17,19,22,27,28,37,38,39,40,41,42,52,53,55,57,58,62,63,64,65,66,67,68,78,79,122,123,124,125,126,133,134,135,136,137,143,149,150,152,153,154,155,156,158,159,160,161,218,219,222,223,230,231,232,235,236,237,238,287,321,379,380,381] (fun g=>!([62,63,64,158,159,160,235].contains g)) [(65,9),(62,5)] [(145,1,1,5),(146,15,120,156),(147,8,64,138),(148,2,16,99)]=true:=by kernel_rfl
theorem Zmj:AA0 14 Z8s:=ZwG rfl Qc Zm1 (fun p q=>by simp only[List.mem_cons,List.not_mem_nil,or_false]at q;rcases q with rfl|rfl|rfl|rfl<;>first|exact Z5a|exact Z4Y|exact Z51|exact Z53) (by rfl) (by decide) rfl func14 (by kernel_rfl) (n:=60) (m:=Z8s) rfl (a:=true) (fun _=>rfl) (by kernel_rfl)
noncomputable section
inductive Xa where
 | b0 (a b c:Int)
def Z13:Xa->Tr U (Bool⊕Xa)
 | .b0 a b c=>.br (decide (a>=b)) (AA (decide (a<=c))) (AA false)
def Nh (a b c:Int):Option Bool:=AY Z13 (.b0 a b c)
def Znx:Xa->Ae U
 | .b0 a b c=>Am f129 [3,3,3] (a,b,c,())
theorem Z8i:AA1 129 [3,3,3] 4 (fun x=>Nh x.1 x.2.1 x.2.2.1) rfl:=Ap Af Ah AN Znx func129 (fun p=>by cases p<;>kernel_rfl) (by kernel_rfl) fun _=>rfl
inductive WZ where
 | b0 (a:DT)
 | b1 (a:DT)
def jV:WZ->Tr U (Int⊕WZ)
 | .b0 a=>let g:=AA (5:Int);.bind 4 (Nh a.EX (1:Int) (8:Int)) (fun(b:Bool)=>.br (!b) g (.bind 4 (Nh a.EW (0:Int) (3200:Int)) (fun(c:Bool)=>.br (!c) g (.bind 4 (Nh a.Dp (6:Int) (3200:Int)) (fun(d:Bool)=>.br (!d) g (.bind 4 (Nh a.Dq (0:Int) (499:Int)) (fun(e:Bool)=>.br (!e) g (.bind 4 (Nh a.Ei (10:Int) (3200:Int)) (fun(f:Bool)=>.br (!f) g (AP (.b1 a)))))))))))
 | .b1 a=>let b:=AA (11:Int);.br (decide (a.EX>=a.Dp)) b (.br (decide (a.EW>a.Dp)) b (.br (decide ((AV (a.Ei*10000))<=(AV ((AV ((AV ((2:Int)*(AV (a.Dq+1))))*a.Dp))*1250)))) b (AA (0:Int))))
def WW (a:DT):Option Int:=AY jV (.b0 a)
def Z60:Lay:=⟨[1],[KP],[.var k17],⟨[PQ 0],[VA 24 5]⟩⟩
def Zjt:Nat->Option Lay
 | 3=>some Z60
 | _=>none
def Zi4:WZ->Ae U
 | .b0 a=>Am f127 [24] (a,())
 | .b1 a=>AA3 f127 [1,1,0,0] Z60 (a,())
theorem Z6j:AA1 127 [24] 45 (fun x=>WW x.1) rfl:=Ap (mc Z8i Af) Ah Zjt Zi4 func127 (fun p=>by cases p<;>kernel_rfl) (by kernel_rfl) fun _=>rfl
inductive YB where
 | b0 (a:Int)
 | b1 (a b c:Int)
def U6:YB->Tr U (Int⊕YB)
 | .b0 a=>AP (.b1 a (1:Int) (0:Int))
 | .b1 a b c=>.br (decide (c<a)) (AP (.b1 a (IntKind.wrap .u64 (b*2)) (AV (c+1)))) (AA b)
def Ry (a:Int):Option Int:=AY U6 (.b0 a)
def Z8n:Lay:=⟨[0,3,4],[KP,KP,KP],[],⟨[OV 3,OV 25,OV 3],[]⟩⟩
def Zro:Nat->Option Lay
 | 3=>some Z8n
 | _=>none
def Zpv:YB->Ae U
 | .b0 a=>Am f220 [3] (a,())
 | .b1 a b c=>AA3 f220 [1,1,0,1,0,0,0,0] Z8n (a,b,c,())
theorem Z0H:AA1 220 [3] 25 (fun x=>Ry x.1) rfl:=Ap Af Ah Zro Zpv func220 (fun p=>by cases p<;>kernel_rfl) (by kernel_rfl) fun _=>rfl
inductive dG where
 | b0 (a b:Int)
def Z2r:dG->Tr U (Bool⊕dG)
 | .b0 c a=>.br (decide (a>=0)) (.br (decide (a<=36)) (.bind 25 (Ry a) (fun(b:Int)=>.chk (b != 0) (AA ((Int.tmod (IntKind.wrap .u64 (Int.tdiv c b)) 2)==1)))) (AA false)) (AA false)
def Un (a b:Int):Option Bool:=AY Z2r (.b0 a b)
def Zwj:dG->Ae U
 | .b0 a b=>Am f225 [26,3] (a,b,())
theorem Z2h:AA1 225 [26,3] 4 (fun x=>Un x.1 x.2.1) rfl:=Ap (mc Z0H Af) Ah AN Zwj func225 (fun p=>by cases p<;>kernel_rfl) (by kernel_rfl) fun _=>rfl
inductive aQ where
 | b0 (a:Int)
 | b1 (a:Int) (b:List Int) (c:Int)
 | b2 (a:Int) (b:List Int) (c:Int)
def Ou:aQ->Tr U ((List Int)⊕aQ)
 | .b0 a=>.chk true (AP (.b1 a ([]:List Int) (0:Int)))
 | .b1 c a b=>.br (decide (b<=36)) (.bind 4 (Un c b) (fun(d:Bool)=>.br d (.chk true (kl a (.chk (kA (a.length+1) 8) (kl (a++[b]) (AP (.b2 c (a++[b]) b)))))) (kl a (AP (.b2 c a b))))) (kl a (AA a))
 | .b2 b a c=>kl a (AP (.b1 b a (AV (c+1))))
def Ul (a:Int):Option (List Int):=AY Ou (.b0 a)
def mD:Lay:=⟨[0,3,4],[KP,[.own 3 1],KP],[.row true],⟨[OV 26,.one (.own 3 0),OV 3],[.row 3 true]⟩⟩
def Zwx:Nat->Option Lay
 | 3=>some mD
 | 4=>some mD
 | _=>none
def ZsP:aQ->Ae U
 | .b0 a=>Am f202 [26] (a,())
 | .b1 a b c=>AA3 f202 [1,1,0,1,0,0,0,0] mD (a,c,b,())
 | .b2 a b c=>AA3 f202 [1,1,0,1,0,0,1,1] mD (a,c,b,())
theorem Z1B:AA1 202 [26] 226 (fun x=>Ul x.1) rfl:=Ap (mc Z2h Af) Ah Zwx ZsP func202 (fun p=>by cases p<;>kernel_rfl) (by kernel_rfl) fun _=>rfl
inductive Xy where
 | b0 (a:Int)
def Z1N:Xy->Tr U (Int⊕Xy)
 | .b0 a=>.bind 226 (Ul a) (fun(b:List Int)=>AA (↑b.length:Int))
def Ud (a:Int):Option Int:=AY Z1N (.b0 a)
def Zox:Xy->Ae U
 | .b0 a=>Am f221 [26] (a,())
theorem Z0J:AA1 221 [26] 3 (fun x=>Ud x.1) rfl:=Ap (mc Z1B Af) Ah AN Zox func221 (fun p=>by cases p<;>kernel_rfl) (by kernel_rfl) fun _=>rfl
inductive YH where
 | b0 (a:Int)
def Z1p:YH->Tr U (Int⊕YH)
 | .b0 a=>.bind 25 (Ry (37:Int)) (fun(b:Int)=>.br (decide (a>=b)) (AA (5:Int)) (.bind 3 (Ud a) (fun(c:Int)=>.br (decide (c<2)) (AA (1:Int)) (AA (0:Int)))))
def Xx (a:Int):Option Int:=AY Z1p (.b0 a)
def Zq4:YH->Ae U
 | .b0 a=>Am f128 [26] (a,())
theorem Z8H:AA1 128 [26] 45 (fun x=>Xx x.1) rfl:=Ap (mc Z0H (mc Z0J Af)) Ah AN Zq4 func128 (fun p=>by cases p<;>kernel_rfl) (by kernel_rfl) fun _=>rfl
inductive Y9 where
 | b0 (a:Fa)
 | b1 (a:Fa)
 | b2 (a:Fa)
def Zad:Y9->Tr U (Int⊕Y9)
 | .b0 a=>let b:=AA (1:Int);.br (a.P5==0) b (.br (a.P5==2391391958) b (AP (.b1 a)))
 | .b1 a=>let f:=AA (5:Int);.br (decide (a.Qz>=16777216)) f (.bind 45 (WW a.BG) (fun(b:Int)=>.br (b != 0) (AA b) (.bind 45 (Xx a.Map) (fun(c:Int)=>.br (c != 0) (AA c) (.bind 4 (Nh a.Hop (5:Int) (16:Int)) (fun(d:Bool)=>.br (!d) f (.bind 4 (Nh a.iM (0:Int) (500:Int)) (fun(e:Bool)=>.br (!e) f (AP (.b2 a))))))))))
 | .b2 a=>let b:=AA (0:Int);.br (a.SG != 1) (.br (a.SG != 2) (AA (12:Int)) b) b
def Z15 (a:Fa):Option Int:=AY Zad (.b0 a)
def lF:Lay:=⟨[1],[KP],[.var k3],⟨[PQ 0],[VA 28 11]⟩⟩
def Zt4:Nat->Option Lay
 | 3=>some lF
 | 13=>some lF
 | _=>none
def Zpo:Y9->Ae U
 | .b0 a=>Am f43 [28] (a,())
 | .b1 a=>AA3 f43 [1,1,0,0] lF (a,())
 | .b2 a=>AA3 f43 [1,1,1,1,1,1,0,0] lF (a,())
theorem Zpb:AA1 43 [28] 45 (fun x=>Z15 x.1) rfl:=Ap (mc Z6j (mc Z8H (mc Z8i Af))) Ah Zt4 Zpo func43 (fun p=>by cases p<;>kernel_rfl) (by kernel_rfl) fun _=>rfl
inductive XL where
 | b0 (a b c:Int)
def Z7R:XL->Tr U (Int⊕XL)
 | .b0 a c b=>let d:=if b<a then b else a;AA (if d>c then d else c)
def UW (a b c:Int):Option Int:=AY Z7R (.b0 a b c)
def ZmD:XL->Ae U
 | .b0 a b c=>Am f192 [3,3,3] (a,b,c,())
theorem kY:AA1 192 [3,3,3] 3 (fun x=>UW x.1 x.2.1 x.2.2.1) rfl:=Ap Af Ah AN ZmD func192 (fun p=>by cases p<;>kernel_rfl) (by kernel_rfl) fun _=>rfl
inductive Y6 where
 | b0 (a:Int)
def Z9Y:Y6->Tr U (Int⊕Y6)
 | .b0 a=>.bind 3 (UW a (0:Int) (4398046511104:Int)) (fun(b:Int)=>AA b)
def Z1i (a:Int):Option Int:=AY Z9Y (.b0 a)
def Zql:Y6->Ae U
 | .b0 a=>Am f130 [3] (a,())
theorem ZpU:AA1 130 [3] 3 (fun x=>Z1i x.1) rfl:=Ap (mc kY Af) Ah AN Zql func130 (fun p=>by cases p<;>kernel_rfl) (by kernel_rfl) fun _=>rfl
inductive Xn where
 | b0 (a:DT)
def Z8O:Xn->Tr U (Int⊕Xn)
 | .b0 a=>.bind 3 (UW a.EW (0:Int) (3200:Int)) (fun(b:Int)=>AA (AV (b*1250)))
def Z0G (a:DT):Option Int:=AY Z8O (.b0 a)
def Zn2:Xn->Ae U
 | .b0 a=>Am f131 [24] (a,())
theorem Zo4:AA1 131 [24] 3 (fun x=>Z0G x.1) rfl:=Ap (mc kY Af) Ah AN Zn2 func131 (fun p=>by cases p<;>kernel_rfl) (by kernel_rfl) fun _=>rfl
inductive Yn where
 | b0 (a:DT)
def ZaB:Yn->Tr U (Int⊕Yn)
 | .b0 a=>.bind 3 (UW a.EX (1:Int) (8:Int)) (fun(b:Int)=>AA (AV (b*1250)))
def Z1R (a:DT):Option Int:=AY ZaB (.b0 a)
def Zrx:Yn->Ae U
 | .b0 a=>Am f132 [24] (a,())
theorem ZrF:AA1 132 [24] 3 (fun x=>Z1R x.1) rfl:=Ap (mc kY Af) Ah AN Zrx func132 (fun p=>by cases p<;>kernel_rfl) (by kernel_rfl) fun _=>rfl
inductive Y8 where
 | b0 (a:Int) (b:DT)
def Z9W:Y8->Tr U (Ot⊕Y8)
 | .b0 d a=>.bind 3 (Z1i d) (fun(b:Int)=>.bind 3 (Z0G a) (fun(c:Int)=>let f:=AV ((AV (b+1250))+c);.bind 3 (Z1R a) (fun(e:Int)=>AA (⟨f,(AV (f+e))⟩:Ot))))
def Z1f (a:Int) (b:DT):Option Ot:=AY Z9W (.b0 a b)
def Zoq:Y8->Ae U
 | .b0 a b=>Am f44 [3,24] (a,b,())
theorem Zqz:AA1 44 [3,24] 52 (fun x=>Z1f x.1 x.2.1) rfl:=Ap (mc ZpU (mc Zo4 (mc ZrF Af))) Ah AN Zoq func44 (fun p=>by cases p<;>kernel_rfl) (by kernel_rfl) fun _=>rfl
inductive bF where
 | b0
def Zcd:bF->Tr U (Bd⊕bF)
 | .b0 =>AA Ld
def Z2F  : Option Bd:=AY Zcd (.b0)
def ZuN:bF->Ae U
 | .b0 =>Am f45 [] ()
theorem Zvv:AA1 45 [] 33 (fun x=>Z2F) rfl:=Ap Af Ah AN ZuN func45 (fun p=>by cases p<;>kernel_rfl) (by kernel_rfl) fun _=>rfl
inductive cZ where
 | b0 (a:Int)
def Zc1:cZ->Tr U (Du⊕cZ)
 | .b0 a=>let b:=(if (499:Int)<a then (499:Int) else a);AA (⟨(if b>0 then b else (0:Int)),0,true⟩:Du)
def qM (a:Int):Option Du:=AY Zc1 (.b0 a)
def Zux:cZ->Ae U
 | .b0 a=>Am f46 [3] (a,())
theorem Zbd:AA1 46 [3] 35 (fun x=>qM x.1) rfl:=Ap Af Ah AN Zux func46 (fun p=>by cases p<;>kernel_rfl) (by kernel_rfl) fun _=>rfl
inductive dK where
 | b0 (a b c:Int)
def ZbQ:dK->Tr U (A7⊕dK)
 | .b0 c b a=>let e:=(if (27:Int)>a then (27:Int) else a);let d:=(if (251:Int)<e then (251:Int) else e);.br (c==1) (AA (⟨1,-1,0,[],-1,0,[],false,b,0,false,false,-1,27,d,0,0,0,0,0⟩:A7)) (AA (⟨0,-1,0,[],-1,0,[],false,b,0,false,false,-1,27,d,0,0,0,0,0⟩:A7))
def Z2z (a b c:Int):Option A7:=AY ZbQ (.b0 a b c)
def Zvo:dK->Ae U
 | .b0 a b c=>Am f47 [3,25,3] (a,b,c,())
theorem Zwg:AA1 47 [3,25,3] 39 (fun x=>Z2z x.1 x.2.1 x.2.2.1) rfl:=Ap Af Ah AN Zvo func47 (fun p=>by cases p<;>kernel_rfl) (by kernel_rfl) fun _=>rfl
inductive YM where
 | b0
def Zae:YM->Tr U ((List BC)⊕YM)
 | .b0 =>.chk (decide (0<=(37:Int)/\(37:Int)<=37/\Int.toNat 37*16<=lim/\(37:Int)<=(↑maxLen:Int))) (kl (List.replicate (Int.toNat 37) (⟨0,0⟩:BC)) (AA (List.replicate (Int.toNat 37) (⟨0,0⟩:BC))))
def Z1w  : Option (List BC):=AY Zae (.b0)
def ZoS:YM->Ae U
 | .b0 =>Am f48 [] ()
theorem Zop:AA1 48 [] 42 (fun x=>Z1w) rfl:=Ap Af Ah AN ZoS func48 (fun p=>by cases p<;>kernel_rfl) (by kernel_rfl) fun _=>rfl
inductive bV where
 | b0 (a:Int) (b:Fa) (c d e f:Int)
 | b1 (a:Ac)
 | b2 (a b c d e:Int) (f:Fa) (g:Ac)
 | b3 (a:Ac)
 | b4 (a b c d e:Int) (f:Fa) (g:Ac)
def Zcl:bV->Tr U ((Ac×Int)⊕bV)
 | .b0 a b c d e f=>let g:=AP (bV.b2 a c d e f b EG);.br (a != 0) (.br (a != 1) (AP (.b1 EG)) g) g
 | .b1 a=>AA (EG,1)
 | .b2 f b g h c d a=>let i:=AP (bV.b3 a);.bind 45 (Z15 d) (fun(e:Int)=>.br (e != 0) (AA (EG,e)) (.br (decide (b<0)) i (.br (decide (b>500)) i (.br (decide (c<0)) i (.br (decide (c>1099511627776)) i (AP (.b4 f b g h c d a)))))))
 | .b3 a=>AA (EG,5)
 | .b4 b e f g a c l=>.bind 52 (Z1f a c.BG) (fun(d:Ot)=>.bind 33 (Z2F) (fun(h:Bd)=>.bind 35 (qM c.BG.Dq) (fun(i:Du)=>.bind 39 (Z2z b (63:Int) (251:Int)) (fun(j:A7)=>.bind 42 (Z1w) (fun(k:List BC)=>.br (b==1) (AA ((⟨b,c,e,0,0,d.Start,(AV (d.End - d.Start)),a,a,false,false,false,false,false,h,i,j,Oj,f,k,[],0,g⟩:Ac),(0:Int))) (AA ((⟨b,c,e,0,0,d.Start,0,a,a,false,false,false,false,false,h,i,j,Oj,f,k,[],0,g⟩:Ac),(0:Int))))))))
def qG (a:Int) (b:Fa) (c d e f:Int):Option (Ac×Int):=AY Zcl (.b0 a b c d e f)
def nI:Lay:=⟨[12],[KP],[.var k2],⟨[PQ 0],[VA 44 66]⟩⟩
def mY:Lay:=⟨[0,2,3,4,5,7,12],[KP,KP,KP,KP,KP,KP,KP],[.var k3,.var k2],⟨[OV 3,OV 3,OV 29,OV 25,OV 3,PQ 0,PQ 1],[VA 28 11,VA 44 66]⟩⟩
def Zxa:Nat->Option Lay
 | 2=>some nI
 | 3=>some mY
 | 7=>some nI
 | 8=>some mY
 | _=>none
def Zuu:bV->Ae U
 | .b0 a b c d e f=>Am f12 [3,28,3,29,25,3] (a,b,c,d,e,f,())
 | .b1 a=>AA3 f12 [1,0,1,0,0] nI (a,())
 | .b2 a b c d e f g=>AA3 f12 [1,1,0] mY (a,b,c,d,e,f,g,())
 | .b3 a=>AA3 f12 [1,1,1,1,0,1,0,0] nI (a,())
 | .b4 a b c d e f g=>AA3 f12 [1,1,1,1,1,0] mY (a,b,c,d,e,f,g,())
theorem ZuW:AA1 12 [3,28,3,29,25,3] 46 (fun x=>qG x.1 x.2.1 x.2.2.1 x.2.2.2.1 x.2.2.2.2.1 x.2.2.2.2.2.1) rfl:=Ap (mc Zpb (mc Zqz (mc Zvv (mc Zbd (mc Zwg (mc Zop Af)))))) Ah Zxa Zuu func12 (fun p=>by cases p<;>kernel_rfl) (by kernel_rfl) fun _=>rfl
inductive Yy where
 | b0 (a:Du) (b:Bool)
def ZbD:Yy->Tr U (Bool⊕Yy)
 | .b0 a b=>.br a.Full (AA true) (.br b (AA true) (AA (decide (a.SS>=a.Dq))))
def oW (a:Du) (b:Bool):Option Bool:=AY ZbD (.b0 a b)
def Zr6:Yy->Ae U
 | .b0 a b=>Am f59 [35,4] (a,b,())
theorem Zaq:AA1 59 [35,4] 4 (fun x=>oW x.1 x.2.1) rfl:=Ap Af Ah AN Zr6 func59 (fun p=>by cases p<;>kernel_rfl) (by kernel_rfl) fun _=>rfl
inductive Yk where
 | b0 (a:Bd)
def Zb9:Yk->Tr U (Bool⊕Yk)
 | .b0 a=>AA ((↑a.Aq.length:Int)==0)
def Z2e (a:Bd):Option Bool:=AY Zb9 (.b0 a)
def Zrr:Yk->Ae U
 | .b0 a=>Am f60 [33] (a,())
theorem Ztm:AA1 60 [33] 4 (fun x=>Z2e x.1) rfl:=Ap Af Ah AN Zrr func60 (fun p=>by cases p<;>kernel_rfl) (by kernel_rfl) fun _=>rfl
inductive YU where
 | b0 (a:Ac)
def Z9Z:YU->Tr U (Bool⊕YU)
 | .b0 a=>let d:=AA false;.br (a.Bq==0) (.br (a.BR==1) (.br a.Gq (.br ((↑a.Aw.length:Int)==0) (.br ((↑a.AB.Ak.length:Int)==0) (.bind 4 (Z2e a.Ag) (fun(b:Bool)=>.bind 4 (oW a.FZ (!b)) (fun(c:Bool)=>AA (!c)))) d) d) d) d) d
def oG (a:Ac):Option Bool:=AY Z9Z (.b0 a)
def Zq1:YU->Ae U
 | .b0 a=>Am f20 [44] (a,())
theorem Z9g:AA1 20 [44] 4 (fun x=>oG x.1) rfl:=Ap (mc Zaq (mc Ztm Af)) Ah AN Zq1 func20 (fun p=>by cases p<;>kernel_rfl) (by kernel_rfl) fun _=>rfl
inductive XE where
 | b0 (a:Int)
 | b1 (a b c:Int)
def Z7z:XE->Tr U (Int⊕XE)
 | .b0 a=>AP (.b1 a (0:Int) (0:Int))
 | .b1 a b c=>.br (decide (c<8)) (AP (.b1 (AV (Int.tdiv a 2)) (AV ((AV ((2:Int)*b))+(Int.tmod a 2))) (AV (c+1)))) (AA b)
def kX (a:Int):Option Int:=AY Z7z (.b0 a)
def Z6N:Lay:=⟨[0,3,4],[KP,KP,KP],[],⟨[OV 3,OV 3,OV 3],[]⟩⟩
def ZlN:Nat->Option Lay
 | 3=>some Z6N
 | _=>none
def Zl9:XE->Ae U
 | .b0 a=>Am f227 [3] (a,())
 | .b1 a b c=>AA3 f227 [1,1,0,1,0,0,0,0] Z6N (a,b,c,())
theorem Zlq:AA1 227 [3] 3 (fun x=>kX x.1) rfl:=Ap Af Ah ZlN Zl9 func227 (fun p=>by cases p<;>kernel_rfl) (by kernel_rfl) fun _=>rfl
inductive X6 where
 | b0 (a b:Int)
 | b1 (a b c:Int)
def Z8I:X6->Tr U (Int⊕X6)
 | .b0 b a=>AP (.b1 a (bits .xor .u16 b a) (0:Int))
 | .b1 a b c=>.br (decide (c<3)) (.bind 3 (kX (AV (Int.tdiv (AV (b)) 256))) (fun(d:Int)=>.bind 3 (kX (Int.tmod (AV (b)) 256)) (fun(e:Int)=>AP (.b1 a (IntKind.wrap .u16 ((Int.tmod (AV ((AV ((17:Int)*(AV ((AV ((256:Int)*d))+e))))+(AV (a)))) (65536:Int)))) (AV (c+1)))))) (AA (bits .xor .u16 b a))
def lW (a b:Int):Option Int:=AY Z8I (.b0 a b)
def Z7s:Lay:=⟨[1,5,6],[KP,KP,KP],[],⟨[OV 30,OV 30,OV 3],[]⟩⟩
def ZpY:Nat->Option Lay
 | 3=>some Z7s
 | _=>none
def Zn4:X6->Ae U
 | .b0 a b=>Am f139 [30,30] (a,b,())
 | .b1 a b c=>AA3 f139 [1,1,0,1,0,0,0,0] Z7s (a,b,c,())
theorem Z87:AA1 139 [30,30] 30 (fun x=>lW x.1 x.2.1) rfl:=Ap (mc Zlq Af) Ah ZpY Zn4 func139 (fun p=>by cases p<;>kernel_rfl) (by kernel_rfl) fun _=>rfl
inductive YL where
 | b0 (a:Int)
def Zah:YL->Tr U (Int⊕YL)
 | .b0 a=>AA (bits .xor .u16 (IntKind.wrap .u16 ((IntKind.wrap .u32 (Int.tdiv a 65536)))) (IntKind.wrap .u16 ((Int.tmod a 65536))))
def nK (a:Int):Option Int:=AY Zah (.b0 a)
def Zov:YL->Ae U
 | .b0 a=>Am f140 [22] (a,())
theorem Z97:AA1 140 [22] 30 (fun x=>nK x.1) rfl:=Ap Af Ah AN Zov func140 (fun p=>by cases p<;>kernel_rfl) (by kernel_rfl) fun _=>rfl
inductive bZ where
 | b0 (a b:Int)
 | b1 (a:Int) (b:List Int)
def Zc5:bZ->Tr U (Int⊕bZ)
 | .b0 c a=>let d:=AA (-1:Int);.bind 226 (Ul c) (fun(b:List Int)=>.br (decide (a<0)) d (.br (decide (a>=(↑b.length:Int))) d (AP (.b1 a b))))
 | .b1 a b=>.chk (kI a b) (.bind 3 (b[(Int.toNat a)]?) (fun(c:Int)=>AA c))
def qC (a b:Int):Option Int:=AY Zc5 (.b0 a b)
def Z9T:Lay:=⟨[1,5],[KP,[.s 3 1]],[],⟨[OV 3,OV 226],[]⟩⟩
def Zxu:Nat->Option Lay
 | 4=>some Z9T
 | _=>none
def Zw3:bZ->Ae U
 | .b0 a b=>Am f226 [26,3] (a,b,())
 | .b1 a b=>AA3 f226 [1,1,1,0] Z9T (a,b,())
theorem ZaY:AA1 226 [26,3] 3 (fun x=>qC x.1 x.2.1) rfl:=Ap (mc Z1B Af) Ah Zxu Zw3 func226 (fun p=>by cases p<;>kernel_rfl) (by kernel_rfl) fun _=>rfl
inductive dM where
 | b0 (a b c:Int)
def ZcE:dM->Tr U (Int⊕dM)
 | .b0 a c d=>.bind 30 (nK d) (fun(e:Int)=>.bind 30 (lW c e) (fun(b:Int)=>let i:=Int.tmod (AV (b)) 37;.bind 4 (Un a i) (fun(f:Bool)=>.br f (AA i) (.bind 3 (Ud a) (fun(g:Int)=>.bind 3 (qC a (AV (Int.tdiv (AV (g*(AV (b)))) (65536:Int)))) (fun(h:Int)=>AA h))))))
def Z2E (a b c:Int):Option Int:=AY ZcE (.b0 a b c)
def Zw0:dM->Ae U
 | .b0 a b c=>Am f138 [26,30,22] (a,b,c,())
theorem Zww:AA1 138 [26,30,22] 3 (fun x=>Z2E x.1 x.2.1 x.2.2.1) rfl:=Ap (mc Z87 (mc Z97 (mc Z0J (mc Z2h (mc ZaY Af))))) Ah AN Zw0 func138 (fun p=>by cases p<;>kernel_rfl) (by kernel_rfl) fun _=>rfl
inductive Yu where
 | b0 (a b:Int)
def Zbn:Yu->Tr U (Int⊕Yu)
 | .b0 a b=>AA (Int.tmod (AV ((AV ((Int.tmod a 37)+(Int.tmod b 37)))+74)) (37:Int))
def Z1U (a b:Int):Option Int:=AY Zbn (.b0 a b)
def ZsO:Yu->Ae U
 | .b0 a b=>Am f141 [3,3] (a,b,())
theorem ZqW:AA1 141 [3,3] 3 (fun x=>Z1U x.1 x.2.1) rfl:=Ap Af Ah AN ZsO func141 (fun p=>by cases p<;>kernel_rfl) (by kernel_rfl) fun _=>rfl
inductive YT where
 | b0 (a b:Int)
def Z9A:YT->Tr U (Int⊕YT)
 | .b0 b a=>let g:=(if (36:Int)<a then (36:Int) else a);let f:=(if g>0 then g else (0:Int));.bind 4 (Un b f) (fun(d:Bool)=>.br d (AA f) (.bind 3 (Ud b) (fun(c:Int)=>.br (c==0) (AA (-1:Int)) (.chk (c != 0) (.bind 3 (qC b (Int.tmod f c)) (fun(e:Int)=>AA e))))))
def Z1k (a b:Int):Option Int:=AY Z9A (.b0 a b)
def Zpk:YT->Ae U
 | .b0 a b=>Am f142 [26,3] (a,b,())
theorem ZpE:AA1 142 [26,3] 3 (fun x=>Z1k x.1 x.2.1) rfl:=Ap (mc Z0J (mc Z2h (mc ZaY Af))) Ah AN Zpk func142 (fun p=>by cases p<;>kernel_rfl) (by kernel_rfl) fun _=>rfl
inductive Yx where
 | b0 (a:Fa) (b c:Int)
def Zb7:Yx->Tr U ((Int×Int)⊕Yx)
 | .b0 a b d=>.br (a.SG==2) (.bind 3 (Z2E a.Map b a.P5) (fun(e:Int)=>.bind 30 (nK a.P5) (fun(f:Int)=>.bind 30 (lW b f) (fun(g:Int)=>AA (e,(Int.tmod (AV (g)) 37)))))) (.bind 3 (Z1U d a.Hop) (fun(c:Int)=>.bind 3 (Z1k a.Map c) (fun(h:Int)=>AA (h,c))))
def oL (a:Fa) (b c:Int):Option (Int×Int):=AY Zb7 (.b0 a b c)
def ZrO:Yx->Ae U
 | .b0 a b c=>Am f54 [28,30,3] (a,b,c,())
theorem Zac:AA1 54 [28,30,3] 104 (fun x=>oL x.1 x.2.1 x.2.2.1) rfl:=Ap (mc Zww (mc Z87 (mc Z97 (mc ZqW (mc ZpE Af))))) Ah AN ZrO func54 (fun p=>by cases p<;>kernel_rfl) (by kernel_rfl) fun _=>rfl
inductive XK where
 | b0 (a:Ac)
def Z7Q:XK->Tr U (Int⊕XK)
 | .b0 a=>.bind 104 (oL a.CZ a.Event a.Last) (fun(b:Int×Int)=>AA b.1)
def kZ (a:Ac):Option Int:=AY Z7Q (.b0 a)
def Zmq:XK->Ae U
 | .b0 a=>Am f16 [44] (a,())
theorem Z7v:AA1 16 [44] 3 (fun x=>kZ x.1) rfl:=Ap (mc Zac Af) Ah AN Zmq func16 (fun p=>by cases p<;>kernel_rfl) (by kernel_rfl) fun _=>rfl
inductive Ya where
 | b0 (a:A7)
def Z1d:Ya->Tr U (Bool⊕Ya)
 | .b0 a=>.br (decide (a.CJ>=1)) (AA (decide (a.CJ<=3))) (AA false)
def Y2 (a:A7):Option Bool:=AY Z1d (.b0 a)
def ZoO:Ya->Ae U
 | .b0 a=>Am f162 [39] (a,())
theorem Z8R:AA1 162 [39] 4 (fun x=>Y2 x.1) rfl:=Ap Af Ah AN ZoO func162 (fun p=>by cases p<;>kernel_rfl) (by kernel_rfl) fun _=>rfl
inductive XQ where
 | b0 (a:Int)
def Z8r:XQ->Tr U (Bool⊕XQ)
 | .b0 a=>let b:=AA true;.br (a==3) b (.br (a==4) b (.br (a==5) b (.br (a==6) b (AA (a==13)))))
def Z0D (a:Int):Option Bool:=AY Z8r (.b0 a)
def Zmz:XQ->Ae U
 | .b0 a=>Am f163 [3] (a,())
theorem Zm3:AA1 163 [3] 4 (fun x=>Z0D x.1) rfl:=Ap Af Ah AN Zmz func163 (fun p=>by cases p<;>kernel_rfl) (by kernel_rfl) fun _=>rfl
inductive Xb where
 | b0 (a:Int)
 | b1 (a:Bl)
 | b2 (a:Int) (b:Bl)
 | b3 (a:Bl)
 | b4 (a:Int) (b:Bl)
 | b5 (a:Bl)
 | b6 (a:Bl)
def Kz:Xb->Tr U (Bl⊕Xb)
 | .b0 a=>let c:=AP (Xb.b1 MW);let b:=AP (Xb.b2 a MW);.br (a==0) (AA (⟨true,true,false,true,false,false,false,false,false,false,false⟩:Bl)) (.br (a==1) (AA (⟨true,false,true,true,false,false,false,false,false,false,false⟩:Bl)) (.br (a==2) (AA (⟨true,false,false,false,true,false,false,false,false,false,false⟩:Bl)) (.br (a==3) (AA (⟨true,false,false,false,false,false,true,true,false,false,false⟩:Bl)) (.br (a==4) (AA (⟨true,false,false,false,false,false,true,false,false,false,false⟩:Bl)) (.br (a==5) (.br (a==5) c b) (.br (a==6) (.br (a==6) c b) (.br (a==18) (.br (a==18) c b) (.br (a==19) c b))))))))
 | .b1 a=>AA (⟨true,false,false,false,false,false,false,false,false,false,false⟩:Bl)
 | .b2 a b=>let d:=AP (Xb.b3 b);let c:=AP (Xb.b4 a b);.br (a==7) (AA (⟨true,false,false,false,false,true,false,false,false,false,false⟩:Bl)) (.br (a==8) (.br (a==8) d c) (.br (a==9) d c))
 | .b3 a=>AA (⟨true,false,false,false,false,false,false,false,true,false,false⟩:Bl)
 | .b4 a b=>let d:=AP (Xb.b6 b);let c:=AP (Xb.b5 b);.br (a==12) (AA (⟨true,false,false,false,false,false,false,false,false,true,false⟩:Bl)) (.br (a==13) (AA (⟨true,false,false,false,true,true,false,false,false,false,false⟩:Bl)) (.br (a==15) (AA (⟨true,true,false,false,false,false,false,false,false,false,false⟩:Bl)) (.br (a==20) (.br (a==20) c d) (.br (a==21) c d))))
 | .b5 a=>AA (⟨true,false,false,false,false,false,false,false,false,false,true⟩:Bl)
 | .b6 a=>AA MW
def EF (a:Int):Option Bl:=AY Kz (.b0 a)
def QQ:Lay:=⟨[2],[KP],[.var k3],⟨[PQ 0],[VA 262 11]⟩⟩
def kU:Lay:=⟨[2,3],[KP,KP],[.var k3],⟨[PQ 0,OV 3],[VA 262 11]⟩⟩
def Zpt:Nat->Option Lay
 | 16=>some QQ
 | 17=>some kU
 | 21=>some QQ
 | 22=>some kU
 | 30=>some QQ
 | 31=>some QQ
 | _=>none
def ZmM:Xb->Ae U
 | .b0 a=>Am f240 [3] (a,())
 | .b1 a=>AA3 f240 [1,0,1,0,1,1,1,1,1,1,1,1,1,1,1,0,0] QQ (a,())
 | .b2 a b=>AA3 f240 [1,0,1,0,1,1,1,1,1,1,1,1,1,1,1,1,0] kU (a,b,())
 | .b3 a=>AA3 f240 [1,0,1,0,1,1,1,1,1,1,1,1,1,1,1,1,1,1,1,0,0] QQ (a,())
 | .b4 a b=>AA3 f240 [1,0,1,0,1,1,1,1,1,1,1,1,1,1,1,1,1,1,1,1,0] kU (a,b,())
 | .b5 a=>AA3 f240 [1,0,1,0,1,1,1,1,1,1,1,1,1,1,1,1,1,1,1,1,1,1,1,1,1,1,1,0,0] QQ (a,())
 | .b6 a=>AA3 f240 [1,1,0] QQ (a,())
theorem QR:AA1 240 [3] 262 (fun x=>EF x.1) rfl:=Ap Af Ah Zpt ZmM func240 (fun p=>by cases p<;>kernel_rfl) (by kernel_rfl) fun _=>rfl
inductive aA where
 | b0 (a:AL)
 | b1 (a b:AL) (c:Bl)
 | b2 (a b:AL) (c:Bl)
 | b3 (a b:AL) (c:Bl)
 | b4 (a b:AL) (c:Bl)
 | b5 (a b:AL) (c:Bl)
 | b6 (a b:AL) (c:Bl)
 | b7 (a b:AL) (c:Bl)
 | b8 (a b:AL) (c:Bl)
 | b9 (a b:AL) (c:Bl)
def GZ:aA->Tr U (AL⊕aA)
 | .b0 a=>.bind 262 (EF a.Kind) (fun(b:Bl)=>.br b.BG (AP (.b1 ({ a with Kind:=0,BG:=Ba }:AL) Fp b)) (AP (.b1 ({ a with Kind:=0 }:AL) Fp b)))
 | .b1 b c a=>.br a.Map (AP (.b2 ({ b with Map:=0 }:AL) c a)) (AP (.b2 b c a))
 | .b2 b c a=>.br a.CP (AP (.b3 ({ b with CP:=0 }:AL) c a)) (AP (.b3 b c a))
 | .b3 b c a=>.br a.Bq (AP (.b4 ({ b with Bq:=0 }:AL) c a)) (AP (.b4 b c a))
 | .b4 b c a=>.br a.Dx (AP (.b5 ({ b with Dx:=0 }:AL) c a)) (AP (.b5 b c a))
 | .b5 b c a=>.br a.CE (AP (.b6 ({ b with CE:=0 }:AL) c a)) (AP (.b6 b c a))
 | .b6 b c a=>.br a.Mark (AP (.b7 ({ b with Mark:=0 }:AL) c a)) (AP (.b7 b c a))
 | .b7 b c a=>.br a.DK (AP (.b8 ({ b with DK:=0 }:AL) c a)) (AP (.b8 b c a))
 | .b8 b c a=>.br a.Version (AP (.b9 ({ b with Version:=0 }:AL) c a)) (AP (.b9 b c a))
 | .b9 a c b=>.br b.Length (AA ({ a with Length:=0 }:AL)) (AA a)
def o6 (a:AL):Option AL:=AY GZ (.b0 a)
def IU:Lay:=⟨[1,2,3],[KP,KP,KP],[.var k0,.var k0,.var k3],⟨[PQ 0,PQ 1,PQ 2],[VA 156 15,VA 156 15,VA 262 11]⟩⟩
def ZuG:Nat->Option Lay
 | 5=>some IU
 | 7=>some IU
 | 9=>some IU
 | 11=>some IU
 | 13=>some IU
 | 15=>some IU
 | 17=>some IU
 | 19=>some IU
 | 21=>some IU
 | _=>none
def ZsB:aA->Ae U
 | .b0 a=>Am f325 [156] (a,())
 | .b1 a b c=>AA3 f325 [1,1,1,1,0,0] IU (a,b,c,())
 | .b2 a b c=>AA3 f325 [1,1,1,1,1,0,0] IU (a,b,c,())
 | .b3 a b c=>AA3 f325 [1,1,1,1,1,1,0,0] IU (a,b,c,())
 | .b4 a b c=>AA3 f325 [1,1,1,1,1,1,1,0,0] IU (a,b,c,())
 | .b5 a b c=>AA3 f325 [1,1,1,1,1,1,1,1,0,0] IU (a,b,c,())
 | .b6 a b c=>AA3 f325 [1,1,1,1,1,1,1,1,1,0,0] IU (a,b,c,())
 | .b7 a b c=>AA3 f325 [1,1,1,1,1,1,1,1,1,1,0,0] IU (a,b,c,())
 | .b8 a b c=>AA3 f325 [1,1,1,1,1,1,1,1,1,1,1,0,0] IU (a,b,c,())
 | .b9 a b c=>AA3 f325 [1,1,1,1,1,1,1,1,1,1,1,1,0,0] IU (a,b,c,())
theorem ZrH:AA1 325 [156] 156 (fun x=>o6 x.1) rfl:=Ap (mc QR Af) Ah ZuG ZsB func325 (fun p=>by cases p<;>kernel_rfl) (by kernel_rfl) fun _=>rfl
end
noncomputable section
inductive Xk where
 | b0 (a:Int)
def Z0N:Xk->Tr U (Bool⊕Xk)
 | .b0 a=>.br (decide (a>=0)) (AA (decide (a<=255))) (AA false)
def U1 (a:Int):Option Bool:=AY Z0N (.b0 a)
def ZnT:Xk->Ae U
 | .b0 a=>Am f326 [3] (a,())
theorem ZnS:AA1 326 [3] 4 (fun x=>U1 x.1) rfl:=Ap Af Ah AN ZnT func326 (fun p=>by cases p<;>kernel_rfl) (by kernel_rfl) fun _=>rfl
inductive Z1D where
 | b0 (a:AL)
 | b1 (a:AL) (b:Bl)
 | b2 (a:AL) (b:Bl)
def Ue:Z1D->Tr U (Int⊕Z1D)
 | .b0 b=>.bind 262 (EF b.Kind) (fun(c:Bl)=>let e:=AP (Z1D.b1 b c);.br (!c.Fg) (AA (12:Int)) (.bind 156 (o6 b) (fun(a:AL)=>.br (!((a.Kind==0)&&((a.BG.EX==0)&&((a.BG.EW==0)&&((a.BG.Dp==0)&&((a.BG.Dq==0)&&((a.BG.Ei==0)&&((a.Map==0)&&((a.CP==0)&&((a.Bq==0)&&((a.Dx==0)&&((a.CE==0)&&((a.Mark==0)&&((a.DK==0)&&((a.Version==0)&&((a.Length==0)&&true)))))))))))))))) (AA (1:Int)) (.br c.BG (.bind 45 (WW b.BG) (fun(d:Int)=>.br (d != 0) (AA d) e)) e))))
 | .b1 a b=>let d:=AP (Z1D.b2 a b);.br b.Map (.bind 45 (Xx a.Map) (fun(c:Int)=>.br (c != 0) (AA c) d)) d
 | .b2 a b=>let g:=AA (0:Int);let f:=AA (5:Int);.bind 4 (U1 a.Bq) (fun(c:Bool)=>.br (!c) f (.bind 4 (U1 a.Dx) (fun(d:Bool)=>.br (!d) f (.bind 4 (U1 a.Version) (fun(e:Bool)=>.br (!e) f (.br b.Length (.br (decide (a.Length<27)) f (.br (decide (a.Length>251)) f g)) g))))))
def Nj (a:AL):Option Int:=AY Ue (.b0 a)
def lS:Lay:=⟨[1,3],[KP,KP],[.var k0,.var k3],⟨[PQ 0,PQ 1],[VA 156 15,VA 262 11]⟩⟩
def Zrf:Nat->Option Lay
 | 10=>some lS
 | 14=>some lS
 | _=>none
def ZoV:Z1D->Ae U
 | .b0 a=>Am f239 [156] (a,())
 | .b1 a b=>AA3 f239 [1,1,1,1,1,0,0] lS (a,b,())
 | .b2 a b=>AA3 f239 [1,1,1,1,1,1,0,0] lS (a,b,())
theorem Z0Y:AA1 239 [156] 45 (fun x=>Nj x.1) rfl:=Ap (mc Z6j (mc Z8H (mc QR (mc ZrH (mc ZnS Af))))) Ah Zrf ZoV func239 (fun p=>by cases p<;>kernel_rfl) (by kernel_rfl) fun _=>rfl
inductive dC where
 | b0 (a b:Int)
 | b1 (a b:Int) (c:List Int) (d:Int)
def Zc7:dC->Tr U (I8⊕dC)
 | .b0 a b=>.chk true (AP (.b1 a b ([]:List Int) (0:Int)))
 | .b1 b c a d=>let e:=a++[(IntKind.wrap .u8 ((Int.tmod b 256)))];.br (decide (d<c)) (.chk true (kl a (.chk (kA (a.length+1) 1) (kl e (AP (.b1 (IntKind.wrap .u64 (Int.tdiv b 256)) c e (AV (d+1)))))))) (kl a (AA (⟨a⟩:I8)))
def Lj (a b:Int):Option I8:=AY Zc7 (.b0 a b)
def Zaa:Shape:=⟨[OV 25,OV 3],[]⟩
def Zow:Shape:=⟨[.one (.own 5 0)],[.row 5 true]⟩
noncomputable def Zz0:HMod U:=⟨[KP,KP],[],Zaa,Zow,true,1349,fun(y:I8)=>(((),()),(y.q0,())),fun x=>Lj x.1.1.1 x.1.2.1.1,okS rfl⟩
def Z9I:Lay:=⟨[0,1,5,6],[KP,KP,[.own 5 1],KP],[.row true],⟨[OV 25,OV 3,.one (.own 5 0),OV 3],[.row 5 true]⟩⟩
def ZyQ:Nat->Option Lay
 | 3=>some Z9I
 | _=>none
def Zvm:dC->Ae U
 | .b0 a b=>E5 f242 Zaa (((a,()),((b,()),())),())
 | .b1 a b c d=>AA3 f242 [1,1,0,1,0,0,0,0] Z9I (a,b,d,c,())
theorem ZaK:DU Tryz.prog B0 242 Zz0:=okR Af Ah ZyQ [[.own 5 1]] [.row true] 0 Zvm func242 (fun p=>by cases p<;>kernel_rfl) (by kernel_rfl) fun x=>by kernel_rfl
inductive Ws where
 | b0 (a:DT)
def Z7a:Ws->Tr U ((List Int)⊕Ws)
 | .b0 a=>.bind 1349 (Lj (IntKind.wrap .u64 (a.EX)) (1:Int)) (fun(z:I8)=>.bind 1349 (Lj (IntKind.wrap .u64 (a.EW)) (2:Int)) (fun(A:I8)=>let d:=z.q0++A.q0;kl A.q0 (kl z.q0 (.chk (kA (z.q0.length+A.q0.length) 1) (.bind 1349 (Lj (IntKind.wrap .u64 (a.Dp)) (2:Int)) (fun(C:I8)=>let b:=d++C.q0;kl C.q0 (kl d (.chk (kA (d.length+C.q0.length) 1) (.bind 1349 (Lj (IntKind.wrap .u64 (a.Dq)) (2:Int)) (fun(D:I8)=>let c:=b++D.q0;kl D.q0 (kl b (.chk (kA (b.length+D.q0.length) 1) (.bind 1349 (Lj (IntKind.wrap .u64 (a.Ei)) (2:Int)) (fun(q:I8)=>kl q.q0 (kl c (.chk (kA (c.length+q.q0.length) 1) (kl (c++q.q0) (AA (c++q.q0)))))))))))))))))))
def ZQ (a:DT):Option (List Int):=AY Z7a (.b0 a)
def Zkv:Ws->Ae U
 | .b0 a=>Am f241 [24] (a,())
theorem ZkE:AA1 241 [24] 62 (fun x=>ZQ x.1) rfl:=Ap Af (hc [] ZaK Ah) AN Zkv func241 (fun p=>by cases p<;>kernel_rfl) (by kernel_rfl) fun _=>rfl
inductive X8 where
 | b0 (a:AL)
 | b1 (a:List Int) (b:AL) (c:Bl)
 | b2 (a:List Int) (b:AL) (c:Bl)
 | b3 (a:List Int) (b:AL) (c:Bl)
 | b4 (a:List Int) (b:AL) (c:Bl)
 | b5 (a:List Int) (b:AL) (c:Bl)
 | b6 (a:List Int) (b:AL) (c:Bl)
 | b7 (a:List Int) (b:AL) (c:Bl)
 | b8 (a:List Int) (b:AL) (c:Bl)
 | b9 (a:List Int) (b:AL) (c:Bl)
def Z8P:X8->Tr U (((List Int)×Int)⊕X8)
 | .b0 a=>let e:=IntKind.wrap .u8 (a.Kind);.bind 45 (Nj a) (fun(d:Int)=>.br (d != 0) (.chk true (AA (([]:List Int),d))) (.bind 262 (EF a.Kind) (fun(b:Bl)=>.br b.BG (.bind 62 (ZQ a.BG) (fun(c:List Int)=>.chk true (.chk (kA (1+c.length) 1) (kl ([e]++c) (AP (.b1 ([e]++c) a b)))))) (.chk true (AP (.b1 ([e]) a b))))))
 | .b1 a b c=>.br c.Map (.bind 1349 (Lj b.Map (5:Int)) (fun(q:I8)=>kl q.q0 (kl a (.chk (kA (a.length+q.q0.length) 1) (kl (a++q.q0) (AP (.b2 (a++q.q0) b c))))))) (kl a (AP (.b2 a b c)))
 | .b2 a b c=>.br c.CP (.bind 1349 (Lj (IntKind.wrap .u64 (b.CP)) (2:Int)) (fun(q:I8)=>kl q.q0 (kl a (.chk (kA (a.length+q.q0.length) 1) (kl (a++q.q0) (AP (.b3 (a++q.q0) b c))))))) (kl a (AP (.b3 a b c)))
 | .b3 a b c=>let d:=a++[(IntKind.wrap .u8 (b.Bq))];.br c.Bq (.chk true (kl a (.chk (kA (a.length+1) 1) (kl d (AP (.b4 d b c)))))) (kl a (AP (.b4 a b c)))
 | .b4 a b c=>let d:=a++[(IntKind.wrap .u8 (b.Dx))];.br c.Dx (.chk true (kl a (.chk (kA (a.length+1) 1) (kl d (AP (.b5 d b c)))))) (kl a (AP (.b5 a b c)))
 | .b5 a b c=>.br c.CE (.bind 1349 (Lj b.CE (8:Int)) (fun(q:I8)=>kl q.q0 (kl a (.chk (kA (a.length+q.q0.length) 1) (kl (a++q.q0) (AP (.b6 (a++q.q0) b c))))))) (kl a (AP (.b6 a b c)))
 | .b6 a b c=>.br c.Mark (.bind 1349 (Lj b.Mark (8:Int)) (fun(q:I8)=>kl q.q0 (kl a (.chk (kA (a.length+q.q0.length) 1) (kl (a++q.q0) (AP (.b7 (a++q.q0) b c))))))) (kl a (AP (.b7 a b c)))
 | .b7 a b c=>.br c.DK (.bind 1349 (Lj b.DK (8:Int)) (fun(q:I8)=>kl q.q0 (kl a (.chk (kA (a.length+q.q0.length) 1) (kl (a++q.q0) (AP (.b8 (a++q.q0) b c))))))) (kl a (AP (.b8 a b c)))
 | .b8 a b c=>let d:=a++[(IntKind.wrap .u8 (b.Version))];.br c.Version (.chk true (kl a (.chk (kA (a.length+1) 1) (kl d (AP (.b9 d b c)))))) (kl a (AP (.b9 a b c)))
 | .b9 a b c=>let d:=a++[(IntKind.wrap .u8 (b.Length))];.br c.Length (.chk true (kl a (.chk (kA (a.length+1) 1) (kl d (AA (d,(0:Int))))))) (kl a (AA (a,0)))
def mP (a:AL):Option ((List Int)×Int):=AY Z8P (.b0 a)
def IP:Lay:=⟨[1,5,6],[KP,KP,[.own 5 1]],[.var k0,.var k3,.row true],⟨[PQ 0,PQ 1,.one (.own 5 2)],[VA 156 15,VA 262 11,.row 5 true]⟩⟩
def ZpV:Nat->Option Lay
 | 8=>some IP
 | 10=>some IP
 | 12=>some IP
 | 14=>some IP
 | 16=>some IP
 | 18=>some IP
 | 20=>some IP
 | 22=>some IP
 | 24=>some IP
 | _=>none
def ZmP:X8->Ae U
 | .b0 a=>Am f164 [156] (a,())
 | .b1 a b c=>AA3 f164 [1,1,1,1,1,0,0] IP (b,c,a,())
 | .b2 a b c=>AA3 f164 [1,1,1,1,1,1,0,0] IP (b,c,a,())
 | .b3 a b c=>AA3 f164 [1,1,1,1,1,1,1,0,0] IP (b,c,a,())
 | .b4 a b c=>AA3 f164 [1,1,1,1,1,1,1,1,0,0] IP (b,c,a,())
 | .b5 a b c=>AA3 f164 [1,1,1,1,1,1,1,1,1,0,0] IP (b,c,a,())
 | .b6 a b c=>AA3 f164 [1,1,1,1,1,1,1,1,1,1,0,0] IP (b,c,a,())
 | .b7 a b c=>AA3 f164 [1,1,1,1,1,1,1,1,1,1,1,0,0] IP (b,c,a,())
 | .b8 a b c=>AA3 f164 [1,1,1,1,1,1,1,1,1,1,1,1,0,0] IP (b,c,a,())
 | .b9 a b c=>AA3 f164 [1,1,1,1,1,1,1,1,1,1,1,1,1,0,0] IP (b,c,a,())
theorem Zny:AA1 164 [156] 120 (fun x=>mP x.1) rfl:=Ap (mc Z0Y (mc QR (mc ZkE Af))) (hc [] ZaK Ah) ZpV ZmP func164 (fun p=>by cases p<;>kernel_rfl) (by kernel_rfl) fun _=>rfl
inductive bM where
 | b0 (a:Int)
def Z2L:bM->Tr U (Bool⊕bM)
 | .b0 a=>.br (a==0) (AA true) (AA (a==1))
def Ut (a:Int):Option Bool:=AY Z2L (.b0 a)
def ZtT:bM->Ae U
 | .b0 a=>Am f243 [3] (a,())
theorem Zwn:AA1 243 [3] 4 (fun x=>Ut x.1) rfl:=Ap Af Ah AN ZtT func243 (fun p=>by cases p<;>kernel_rfl) (by kernel_rfl) fun _=>rfl
inductive W9 where
 | b0 (a:BB)
 | b1 (a:BB)
 | b2 (a:BB)
def Rf:W9->Tr U (Int⊕W9)
 | .b0 a=>let b:=AA (12:Int);.br (decide (a.CQ<1)) b (.br (decide (a.CQ>3)) b (AP (.b1 a)))
 | .b1 a=>let b:=AP (W9.b2 a);.br ((↑a.Payload.length:Int)==0) (.br (a.CQ != 1) (AA (1:Int)) b) b
 | .b2 a=>.br (decide ((↑a.Payload.length:Int)>255)) (AA (4:Int)) (AA (0:Int))
def jX (a:BB):Option Int:=AY Rf (.b0 a)
def jH:Lay:=⟨[1],[KP],[.var [.keep,.s 5 1]],⟨[PQ 0],[VA 68 2]⟩⟩
def Zjs:Nat->Option Lay
 | 3=>some jH
 | 5=>some jH
 | _=>none
def ZhE:W9->Ae U
 | .b0 a=>Am f244 [68] (a,())
 | .b1 a=>AA3 f244 [1,1,0,0] jH (a,())
 | .b2 a=>AA3 f244 [1,1,1,0,0] jH (a,())
theorem ZiX:AA1 244 [68] 45 (fun x=>jX x.1) rfl:=Ap Af Ah Zjs ZhE func244 (fun p=>by cases p<;>kernel_rfl) (by kernel_rfl) fun _=>rfl
inductive YZ where
 | b0 (a:Be)
 | b1 (a:Be)
def YI:YZ->Tr U (Int⊕YZ)
 | .b0 a=>let e:=AA (5:Int);.bind 4 (Ut a.SN) (fun(b:Bool)=>.br (!b) e (.bind 4 (Ut a.Ee) (fun(c:Bool)=>.br (!c) e (.bind 4 (Ut a.MD) (fun(d:Bool)=>.br (!d) e (AP (.b1 a)))))))
 | .b1 a=>.bind 45 (jX a.BU) (fun(b:Int)=>AA b)
def Om (a:Be):Option Int:=AY YI (.b0 a)
def Z8t:Lay:=⟨[1],[KP],[.var k5],⟨[PQ 0],[VA 70 5]⟩⟩
def ZtE:Nat->Option Lay
 | 3=>some Z8t
 | _=>none
def Zqa:YZ->Ae U
 | .b0 a=>Am f167 [70] (a,())
 | .b1 a=>AA3 f167 [1,1,0] Z8t (a,())
theorem U4:AA1 167 [70] 45 (fun x=>Om x.1) rfl:=Ap (mc Zwn (mc ZiX Af)) Ah ZtE Zqa func167 (fun p=>by cases p<;>kernel_rfl) (by kernel_rfl) fun _=>rfl
inductive XO where
 | b0 (a:BB)
def Z0F:XO->Tr U (Bool⊕XO)
 | .b0 a=>.br (a.CQ==1) (AA ((↑a.Payload.length:Int)==0)) (AA false)
def XT (a:BB):Option Bool:=AY Z0F (.b0 a)
def Zmg:XO->Ae U
 | .b0 a=>Am f213 [68] (a,())
theorem Z7A:AA1 213 [68] 4 (fun x=>XT x.1) rfl:=Ap Af Ah AN Zmg func213 (fun p=>by cases p<;>kernel_rfl) (by kernel_rfl) fun _=>rfl
inductive YD where
 | b0 (a:Bd) (b:BB)
 | b1 (a:Bd) (b:BB) (c:Bd)
def YE:YD->Tr U ((Bd×Int)⊕YD)
 | .b0 a b=>let e:=AA (a,1);.bind 4 (XT b) (fun(c:Bool)=>.br c e (.br (decide ((↑b.Payload.length:Int)>251)) e (.bind 45 (Om (⟨0,0,0,b⟩:Be)) (fun(d:Int)=>.br (d != 0) e (AP (.b1 a b Ld))))))
 | .b1 a b c=>let d:=([]:List BB)++a.Aq;.br (decide ((↑a.Aq.length:Int)>=64)) (AA (a,8)) (.chk true (.chk (kA (0+a.Aq.length) 32) (.chk true (kl d (.chk (kA (d.length+1) 32) (kl (d++[b]) (AA (({ a with Aq:=(d++[b]) }:Bd),(0:Int)))))))))
def YN (a:Bd) (b:BB):Option (Bd×Int):=AY YE (.b0 a b)
def Z8C:Lay:=⟨[2,3,4],[KP,KP,KP],[.var k6,.var [.keep,.s 5 1],.var k6],⟨[PQ 0,PQ 1,PQ 2],[VA 33 7,VA 68 2,VA 33 7]⟩⟩
def Ztl:Nat->Option Lay
 | 3=>some Z8C
 | _=>none
def ZpT:YD->Ae U
 | .b0 a b=>Am f165 [33,68] (a,b,())
 | .b1 a b c=>AA3 f165 [1,1,0,0] Z8C (a,b,c,())
theorem Z98:AA1 165 [33,68] 189 (fun x=>YN x.1 x.2.1) rfl:=Ap (mc U4 (mc Z7A Af)) Ah Ztl ZpT func165 (fun p=>by cases p<;>kernel_rfl) (by kernel_rfl) fun _=>rfl
inductive Yd where
 | b0 (a:Ac)
 | b1 (a:List AL) (b:Bool) (c:Int) (d e:Ac)
 | b2 (a:List AL) (b:Bool) (c:Int) (d e:Ac) (f:AL)
 | b3 (a:List AL) (b:Bool) (c:Int) (d e:Ac) (f:AL)
 | b4 (a:List AL) (b:Bool) (c:Int) (d e:Ac)
def Z9G:Yd->Tr U (Ac⊕Yd)
 | .b0 a=>.chk true (AP (.b1 ([]:List AL) false (0:Int) a EG))
 | .b1 a d c b f=>.br (decide (c<(↑b.Aw.length:Int))) (.chk (kI c b.Aw) (.bind 156 (b.Aw[(Int.toNat c)]?) (fun(e:AL)=>let j:=kl a (AP (Yd.b3 a d c b f e));let i:=kl a (AP (Yd.b2 a d c b f e));.br d i (.bind 4 (Y2 b.AB) (fun(g:Bool)=>.br g (.bind 4 (Z0D e.Kind) (fun(h:Bool)=>.br (!h) i j)) j))))) (kl a (AA ({ b with Aw:=a }:Ac)))
 | .b2 a c d e f b=>.chk true (kl a (.chk (kA (a.length+1) 120) (kl (a++[b]) (AP (.b4 (a++[b]) c d e f)))))
 | .b3 a f c b d e=>.bind 120 (mP e) (fun(g:(List Int)×Int)=>.br (g.2 != 0) (kl a (AP (.b4 a f c b d))) (.bind 189 (YN b.Ag (⟨3,g.1⟩:BB)) (fun(h:Bd×Int)=>.br (h.2 != 0) (.chk true (kl a (.chk (kA (a.length+1) 120) (kl (a++[e]) (AP (.b4 (a++[e]) true c b d)))))) (kl a (AP (.b4 a f c ({ b with Ag:=h.1 }:Ac) d))))))
 | .b4 a b c d e=>kl a (AP (.b1 a b (AV (c+1)) d e))
def Z19 (a:Ac):Option Ac:=AY Z9G (.b0 a)
def lD:Lay:=⟨[1,2,3,4,5],[KP,KP,[.own 156 15],KP,KP],[.var k2,.var k2,.row true],⟨[PQ 0,PQ 1,.one (.own 156 2),OV 4,OV 3],[VA 44 66,VA 44 66,.row 156 true]⟩⟩
def lK:Lay:=⟨[1,2,3,4,5,6],[KP,KP,[.own 156 15],KP,KP,KP],[.var k2,.var k2,.row true,.var k0],⟨[PQ 0,PQ 1,.one (.own 156 2),OV 4,OV 3,PQ 3],[VA 44 66,VA 44 66,.row 156 true,VA 156 15]⟩⟩
def ZrA:Nat->Option Lay
 | 4=>some lD
 | 8=>some lK
 | 9=>some lK
 | 5=>some lD
 | _=>none
def Zqp:Yd->Ae U
 | .b0 a=>Am f70 [44] (a,())
 | .b1 a b c d e=>AA3 f70 [1,1,1,0,1,0,0,0,0] lD (b,c,d,e,a,())
 | .b2 a b c d e f=>AA3 f70 [1,1,1,0,1,0,0,1,0,0,1,0,1,0,0] lK (b,c,d,e,a,f,())
 | .b3 a b c d e f=>AA3 f70 [1,1,1,0,1,0,0,1,0,0,1,1,0] lK (b,c,d,e,a,f,())
 | .b4 a b c d e=>AA3 f70 [1,1,1,0,1,0,0,1,1] lD (b,c,d,e,a,())
theorem ZpQ:AA1 70 [44] 44 (fun x=>Z19 x.1) rfl:=Ap (mc Z8R (mc Zm3 (mc Zny (mc Z98 Af)))) Ah ZrA Zqp func70 (fun p=>by cases p<;>kernel_rfl) (by kernel_rfl) fun _=>rfl
inductive YK where
 | b0
def Za6:YK->Tr U (BB⊕YK)
 | .b0 =>AA (⟨1,[]⟩:BB)
def Z1c  : Option BB:=AY Za6 (.b0)
def ZqE:YK->Ae U
 | .b0 =>Am f166 [] ()
theorem Zqx:AA1 166 [] 68 (fun x=>Z1c) rfl:=Ap Af Ah AN ZqE func166 (fun p=>by cases p<;>kernel_rfl) (by kernel_rfl) fun _=>rfl
inductive Yq where
 | b0 (a:Bd)
 | b1 (a b:Bd) (c:Be)
 | b2 (a:Int) (b c:Bd) (d e:Be)
 | b3 (a:Int) (b c:Bd) (d e:Be)
 | b4 (a b:Bd) (c d:Be)
def ZaV:Yq->Tr U ((Bd×Be)⊕Yq)
 | .b0 a=>.br (!a.Open) (AP (.b1 ({ a with Open:=true,Empty:=((↑a.Aq.length:Int)==0) }:Bd) Ld IA)) (AP (.b1 a Ld IA))
 | .b1 a b c=>let f:=(↑a.Aq.length:Int);.bind 68 (Z1c) (fun(d:BB)=>let g:=(⟨a.SN,a.Ee,0,d⟩:Be);let e:=AP (Yq.b3 f a b c g);.br (!a.Empty) (.br (decide (f>0)) (AP (.b2 f a b c g)) e) e)
 | .b2 b a c d e=>.chk (kI (0:Int) a.Aq) (.bind 68 (a.Aq[(Int.toNat 0)]?) (fun(f:BB)=>AP (.b3 (AV (b - 1)) a c d ({ e with BU:=f }:Be))))
 | .b3 e a b c d=>.br (decide (e>0)) (AP (.b4 a b c ({ d with MD:=1 }:Be))) (AP (.b4 a b c d))
 | .b4 a c d b=>AA (a,b)
def Z1W (a:Bd):Option (Bd×Be):=AY ZaV (.b0 a)
def Z8G:Lay:=⟨[1,2,3],[KP,KP,KP],[.var k6,.var k6,.var k5],⟨[PQ 0,PQ 1,PQ 2],[VA 33 7,VA 33 7,VA 70 5]⟩⟩
def mV:Lay:=⟨[1,2,3,4,5],[KP,KP,KP,KP,KP],[.var k6,.var k6,.var k5,.var k5],⟨[PQ 0,PQ 1,PQ 2,PQ 3,OV 3],[VA 33 7,VA 33 7,VA 70 5,VA 70 5]⟩⟩
def Z8W:Lay:=⟨[1,2,3,4],[KP,KP,KP,KP],[.var k6,.var k6,.var k5,.var k5],⟨[PQ 0,PQ 1,PQ 2,PQ 3],[VA 33 7,VA 33 7,VA 70 5,VA 70 5]⟩⟩
def ZvO:Nat->Option Lay
 | 4=>some Z8G
 | 7=>some mV
 | 9=>some mV
 | 11=>some Z8W
 | _=>none
def ZqZ:Yq->Ae U
 | .b0 a=>Am f71 [33] (a,())
 | .b1 a b c=>AA3 f71 [1,1,0] Z8G (a,b,c,())
 | .b2 a b c d e=>AA3 f71 [1,1,1,1,0,1,0,0] mV (a,b,c,d,e,())
 | .b3 a b c d e=>AA3 f71 [1,1,1,1,1,0,0] mV (a,b,c,d,e,())
 | .b4 a b c d=>AA3 f71 [1,1,1,1,1,1,0] Z8W (a,b,c,d,())
theorem Zth:AA1 71 [33] 75 (fun x=>Z1W x.1) rfl:=Ap (mc Zqx Af) Ah ZvO ZqZ func71 (fun p=>by cases p<;>kernel_rfl) (by kernel_rfl) fun _=>rfl
inductive Yb where
 | b0 (a:BB)
def Z9L:Yb->Tr U (Bool⊕Yb)
 | .b0 a=>.br (a.CQ==1) (AA ((↑a.Payload.length:Int)==0)) (AA false)
def U7 (a:BB):Option Bool:=AY Z9L (.b0 a)
def Zpy:Yb->Ae U
 | .b0 a=>Am f116 [68] (a,())
theorem l9:AA1 116 [68] 4 (fun x=>U7 x.1) rfl:=Ap Af Ah AN Zpy func116 (fun p=>by cases p<;>kernel_rfl) (by kernel_rfl) fun _=>rfl
inductive Yg where
 | b0 (a:Be) (b:List Int)
def Zbt:Yg->Tr U (Be⊕Yg)
 | .b0 a b=>AA ({ a with BU:=(⟨a.BU.CQ,b⟩:BB) }:Be)
def oN (a:Be) (b:List Int):Option Be:=AY Zbt (.b0 a b)
def ZtF:Yg->Ae U
 | .b0 a b=>Am f168 [70,62] (a,b,())
theorem Z9R:AA1 168 [70,62] 70 (fun x=>oN x.1 x.2.1) rfl:=Ap Af Ah AN ZtF func168 (fun p=>by cases p<;>kernel_rfl) (by kernel_rfl) fun _=>rfl
inductive dL where
 | b0 (a b:Int)
 | b1 (a:Int)
def aZ:dL->Tr U (Int⊕dL)
 | .b0 b a=>let e:=IntKind.bits .u64;let c:=(Int.tmod (AV ((AV ((Int.tmod a 64)+64))*11)) (64:Int));let d:=AV ((64:Int) - c);.br (decide (c>0)) (.chk (decide (0<=c)) (.chk (decide (0<=d)) (AP (.b1 (bits .or .u64 (IntKind.wrap .u64 (b*2 ^ (min (Int.toNat c) e))) (Int.fdiv b (2 ^ (min (Int.toNat d) e)))))))) (AP (.b1 b))
 | .b1 a=>AA (IntKind.wrap .u32 ((Int.tmod a 4294967296)))
def Ur (a b:Int):Option Int:=AY aZ (.b0 a b)
def Z9s:Lay:=⟨[6],[KP],[],⟨[OV 25],[]⟩⟩
def ZxS:Nat->Option Lay
 | 5=>some Z9s
 | _=>none
def ZvP:dL->Ae U
 | .b0 a b=>Am f383 [29,3] (a,b,())
 | .b1 a=>AA3 f383 [1,1,1,1,0] Z9s (a,())
theorem ZuQ:AA1 383 [29,3] 22 (fun x=>Ur x.1 x.2.1) rfl:=Ap Af Ah ZxS ZvP func383 (fun p=>by cases p<;>kernel_rfl) (by kernel_rfl) fun _=>rfl
inductive aG where
 | b0 (a b:Int)
def Zb8:aG->Tr U (Int⊕aG)
 | .b0 b a=>let d:=IntKind.bits .u32;let c:=AV ((32:Int) - a);.chk (decide (0<=a)) (.chk (decide (0<=c)) (AA (bits .or .u32 (IntKind.wrap .u32 (b*2 ^ (min (Int.toNat a) d))) (Int.fdiv b (2 ^ (min (Int.toNat c) d))))))
def Nu (a b:Int):Option Int:=AY Zb8 (.b0 a b)
def Zt9:aG->Ae U
 | .b0 a b=>Am f384 [22,3] (a,b,())
theorem ZrB:AA1 384 [22,3] 22 (fun x=>Nu x.1 x.2.1) rfl:=Ap Af Ah AN Zt9 func384 (fun p=>by cases p<;>kernel_rfl) (by kernel_rfl) fun _=>rfl
inductive YA where
 | b0 (a b c:Int)
def Z1H:YA->Tr U (Int⊕YA)
 | .b0 b c d=>.bind 22 (Ur b c) (fun(a:Int)=>.bind 22 (Nu (IntKind.wrap .u32 (d+a)) (7:Int)) (fun(e:Int)=>.bind 22 (Nu a (16:Int)) (fun(f:Int)=>AA (bits .xor .u32 (IntKind.wrap .u32 (e*2654435761)) f))))
def nC (a b c:Int):Option Int:=AY Z1H (.b0 a b c)
def ZoK:YA->Ae U
 | .b0 a b c=>Am f359 [29,3,22] (a,b,c,())
theorem Zp2:AA1 359 [29,3,22] 22 (fun x=>nC x.1 x.2.1 x.2.2.1) rfl:=Ap (mc ZuQ (mc ZrB Af)) Ah AN ZoK func359 (fun p=>by cases p<;>kernel_rfl) (by kernel_rfl) fun _=>rfl
inductive dJ where
 | b0 (a b:Int)
 | b1 (a b c d:Int)
def SH:dJ->Tr U (Int⊕dJ)
 | .b0 b a=>AP (.b1 b (IntKind.wrap .u32 ((IntKind.wrap .u64 (Int.tdiv a 4294967296)))) (IntKind.wrap .u32 ((Int.tmod a 4294967296))) (0:Int))
 | .b1 c d a b=>.br (decide (b<8)) (.bind 22 (nC c b a) (fun(e:Int)=>AP (.b1 c a (bits .xor .u32 d e) (AV (b+1))))) (AA (IntKind.wrap .u64 ((IntKind.wrap .u64 ((IntKind.wrap .u64 (d))*4294967296))+(IntKind.wrap .u64 (a)))))
def QX (a b:Int):Option Int:=AY SH (.b0 a b)
def Z9F:Lay:=⟨[0,5,6,7],[KP,KP,KP,KP],[],⟨[OV 29,OV 22,OV 22,OV 3],[]⟩⟩
def ZyT:Nat->Option Lay
 | 4=>some Z9F
 | _=>none
def ZuC:dJ->Ae U
 | .b0 a b=>Am f327 [29,25] (a,b,())
 | .b1 a b c d=>AA3 f327 [1,1,1,0,1,0,0,0,0] Z9F (a,b,c,d,())
theorem Zbl:AA1 327 [29,25] 25 (fun x=>QX x.1 x.2.1) rfl:=Ap (mc Zp2 Af) Ah ZyT ZuC func327 (fun p=>by cases p<;>kernel_rfl) (by kernel_rfl) fun _=>rfl
inductive bU where
 | b0 (a b:Int)
 | b1 (a b:Int) (c:List Int) (d:Int)
def Uz:bU->Tr U (KN⊕bU)
 | .b0 a b=>.chk true (AP (.b1 a b ([]:List Int) (0:Int)))
 | .b1 c b a d=>let e:=a++[(IntKind.wrap .u8 ((Int.tmod b 256)))];.br (decide (d<c)) (.chk true (kl a (.chk (kA (a.length+1) 1) (kl e (AP (.b1 c (IntKind.wrap .u64 (Int.tdiv b 256)) e (AV (d+1)))))))) (kl a (AA (⟨a⟩:KN)))
def Ox (a b:Int):Option KN:=AY Uz (.b0 a b)
def Zai:Shape:=⟨[OV 3,OV 25],[]⟩
def ZpL:Shape:=⟨[.one (.own 5 0)],[.row 5 true]⟩
noncomputable def Zy1:HMod U:=⟨[KP,KP],[],Zai,ZpL,true,1351,fun(y:KN)=>(((),()),(y.q0,())),fun x=>Ox x.1.1.1 x.1.2.1.1,okS rfl⟩
def Z9E:Lay:=⟨[0,1,5,6],[KP,KP,[.own 5 1],KP],[.row true],⟨[OV 3,OV 25,.one (.own 5 0),OV 3],[.row 5 true]⟩⟩
def ZxM:Nat->Option Lay
 | 3=>some Z9E
 | _=>none
def Zw9:bU->Ae U
 | .b0 a b=>E5 f328 Zai (((a,()),((b,()),())),())
 | .b1 a b c d=>AA3 f328 [1,1,0,1,0,0,0,0] Z9E (a,b,d,c,())
theorem oZ:DU Tryz.prog B0 328 Zy1:=okR Af Ah ZxM [[.own 5 1]] [.row true] 0 Zw9 func328 (fun p=>by cases p<;>kernel_rfl) (by kernel_rfl) fun x=>by kernel_rfl
inductive Xg where
 | b0 (a b c:Int)
 | b1 (a b:Int) (c:List Int) (d e:Int)
def Z92:Xg->Tr U ((List Int)⊕Xg)
 | .b0 a b c=>.bind 25 (QX a b) (fun(d:Int)=>.chk true (AP (.b1 a c ([]:List Int) d (0:Int))))
 | .b1 c b a d e=>let h:=(↑a.length:Int);let g:=(Int.toNat b) - 0;kl a (.br (decide (h<b)) (.bind 25 (QX c (IntKind.wrap .u64 (d+(IntKind.wrap .u64 (e))))) (fun(f:Int)=>.bind 1351 (Ox (8:Int) f) (fun(q:KN)=>kl q.q0 (kl a (.chk (kA (a.length+q.q0.length) 1) (kl (a++q.q0) (AP (.b1 c b (a++q.q0) d (AV (e+1)))))))))) (kl a (.chk (decide (0<=b/\b<=h)) (kl a (.chk (decide (0+g<=a.length)) (AA ((a.drop 0).take g)))))))
def mQ (a b c:Int):Option (List Int):=AY Z92 (.b0 a b c)
def Z7k:Lay:=⟨[0,2,7,8,9],[KP,KP,[.own 5 1],KP,KP],[.row true],⟨[OV 29,OV 3,.one (.own 5 0),OV 25,OV 3],[.row 5 true]⟩⟩
def Zp8:Nat->Option Lay
 | 4=>some Z7k
 | _=>none
def Znm:Xg->Ae U
 | .b0 a b c=>Am f246 [29,25,3] (a,b,c,())
 | .b1 a b c d e=>AA3 f246 [1,1,1,0,1,0,0,0,0] Z7k (a,b,d,e,c,())
theorem Z7X:AA1 246 [29,25,3] 62 (fun x=>mQ x.1 x.2.1 x.2.2.1) rfl:=Ap (mc Zbl Af) (hc [] oZ Ah) Zp8 Znm func246 (fun p=>by cases p<;>kernel_rfl) (by kernel_rfl) fun _=>rfl
inductive YV where
 | b0 (a:List Int)
 | b1 (a:List Int) (b c:Int)
def U8:YV->Tr U (Int⊕YV)
 | .b0 a=>AP (.b1 a (0:Int) (AV ((↑a.length:Int) - 1)))
 | .b1 b c a=>.br (decide (a>=0)) (.chk (kI a b) (.bind 5 (b[(Int.toNat a)]?) (fun(d:Int)=>AP (.b1 b (IntKind.wrap .u64 ((IntKind.wrap .u64 (c*256))+(IntKind.wrap .u64 (d)))) (AV (a - 1)))))) (AA c)
def nY (a:List Int):Option Int:=AY U8 (.b0 a)
def Z8a:Lay:=⟨[0,3,4],[[.s 5 1],KP,KP],[],⟨[OV 62,OV 25,OV 3],[]⟩⟩
def ZsD:Nat->Option Lay
 | 3=>some Z8a
 | _=>none
def Zqi:YV->Ae U
 | .b0 a=>Am f360 [62] (a,())
 | .b1 a b c=>AA3 f360 [1,1,0,1,0,0,0,0] Z8a (a,b,c,())
theorem Zpr:AA1 360 [62] 25 (fun x=>nY x.1) rfl:=Ap Af Ah ZsD Zqi func360 (fun p=>by cases p<;>kernel_rfl) (by kernel_rfl) fun _=>rfl
end
noncomputable section
inductive dD where
 | b0 (a:Int) (b:List Int)
 | b1 (a:Int) (b:List Int) (c d:Int)
def Um:dD->Tr U (Int⊕dD)
 | .b0 a b=>.bind 25 (QX a (IntKind.wrap .u64 ((↑b.length:Int)))) (fun(c:Int)=>AP (.b1 a b c (0:Int)))
 | .b1 c b d a=>let k:=Int.toNat a;let i:=AV (a+8);let h:=(↑b.length:Int);let g:=if h<i then h else i;let j:=Int.toNat g;.br (decide (a<h)) (.chk (decide (0<=g/\g<=h)) (.chk (decide (0<=a/\a<=(↑j:Int))) (.bind 25 (nY ((b.drop k).take (j - k))) (fun(e:Int)=>.bind 25 (QX c (bits .xor .u64 d e)) (fun(f:Int)=>AP (.b1 c b f i)))))) (AA d)
def SE (a:Int) (b:List Int):Option Int:=AY Um (.b0 a b)
def Z9t:Lay:=⟨[0,1,5,6],[KP,[.s 5 1],KP,KP],[],⟨[OV 29,OV 62,OV 25,OV 3],[]⟩⟩
def ZyS:Nat->Option Lay
 | 3=>some Z9t
 | _=>none
def Zuz:dD->Ae U
 | .b0 a b=>Am f329 [29,62] (a,b,())
 | .b1 a b c d=>AA3 f329 [1,1,0,1,0,0,0,0] Z9t (a,b,c,d,())
theorem Zbk:AA1 329 [29,62] 25 (fun x=>SE x.1 x.2.1) rfl:=Ap (mc Zbl (mc Zpr Af)) Ah ZyS Zuz func329 (fun p=>by cases p<;>kernel_rfl) (by kernel_rfl) fun _=>rfl
inductive Y4 where
 | b0 (a:Int) (b c:List Int)
def Za7:Y4->Tr U (Rt⊕Y4)
 | .b0 c a b=>.bind 1351 (Ox (8:Int) c) (fun(q:KN)=>.bind 1351 (Ox (4:Int) (IntKind.wrap .u64 ((↑a.length:Int)))) (fun(z:KN)=>let d:=q.q0++z.q0;let e:=(d++a)++b;kl z.q0 (kl q.q0 (.chk (kA (q.q0.length+z.q0.length) 1) (kl d (.chk (kA (d.length+a.length) 1) (kl (d++a) (.chk (kA ((d++a).length+b.length) 1) (kl e (AA (⟨e⟩:Rt)))))))))))
def Z1G (a:Int) (b c:List Int):Option Rt:=AY Za7 (.b0 a b c)
def Z8q:Shape:=⟨[OV 25,OV 62,OV 62],[]⟩
def Zm6:Shape:=⟨[.one (.own 5 0)],[.row 5 true]⟩
noncomputable def Zsw:HMod U:=⟨[KP,[.s 5 1],[.s 5 1]],[],Z8q,Zm6,true,1352,fun(y:Rt)=>(((),()),(y.q0,())),fun x=>Z1G x.1.1.1 x.1.2.1.1 x.1.2.2.1.1,okS rfl⟩
def ZoB:Y4->Ae U
 | .b0 a b c=>E5 f330 Z8q (((a,()),((b,()),((c,()),()))),())
theorem Zqw:DU Tryz.prog B0 330 Zsw:=okR Af (hc [] oZ Ah) AN [[.own 5 1]] [.row true] 0 ZoB func330 (fun p=>by cases p<;>kernel_rfl) (by kernel_rfl) fun x=>by kernel_rfl
inductive aX where
 | b0 (a b:Int) (c d:List Int)
def Zcx:aX->Tr U ((List Int)⊕aX)
 | .b0 a b c d=>.bind 1352 (Z1G b c d) (fun(q:Rt)=>kl q.q0 (.bind 25 (SE a q.q0) (fun(e:Int)=>.bind 1351 (Ox (4:Int) e) (fun(z:KN)=>kl z.q0 (AA z.q0)))))
def pX (a b:Int) (c d:List Int):Option (List Int):=AY Zcx (.b0 a b c d)
def Zu6:aX->Ae U
 | .b0 a b c d=>Am f247 [29,25,62,62] (a,b,c,d,())
theorem ZaG:AA1 247 [29,25,62,62] 62 (fun x=>pX x.1 x.2.1 x.2.2.1 x.2.2.2.1) rfl:=Ap (mc Zbk Af) (hc [] oZ (hc [] Zqw Ah)) AN Zu6 func247 (fun p=>by cases p<;>kernel_rfl) (by kernel_rfl) fun _=>rfl
inductive bD where
 | b0 (a b:List Int)
 | b1 (a b c:List Int) (d:Int)
 | b2 (a b c:List Int) (d:Int)
def Zct:bD->Tr U (PD⊕bD)
 | .b0 a b=>.chk true (AP (.b1 a b ([]:List Int) (0:Int)))
 | .b1 c d a b=>let e:=kl a (AA (⟨a⟩:PD));.br (decide (b<(↑c.length:Int))) (.br (decide (b<(↑d.length:Int))) (kl a (AP (.b2 c d a b))) e) e
 | .b2 c d b a=>let h:=Int.toNat a;.chk (kI a c) (.bind 5 (c[h]?) (fun(e:Int)=>.chk (kI a d) (.bind 5 (d[h]?) (fun(f:Int)=>let g:=b++[(bits .xor .u8 e f)];.chk true (kl b (.chk (kA (b.length+1) 1) (kl g (AP (.b1 c d g (AV (a+1)))))))))))
def pW (a b:List Int):Option PD:=AY Zct (.b0 a b)
def Za4:Shape:=⟨[OV 62,OV 62],[]⟩
def Zqy:Shape:=⟨[.one (.own 5 0)],[.row 5 true]⟩
noncomputable def Zx5:HMod U:=⟨[[.s 5 1],[.s 5 1]],[],Za4,Zqy,true,1350,fun(y:PD)=>(((),()),(y.q0,())),fun x=>pW x.1.1.1 x.1.2.1.1,okS rfl⟩
def nG:Lay:=⟨[0,1,5,6],[[.s 5 1],[.s 5 1],[.own 5 1],KP],[.row true],⟨[OV 62,OV 62,.one (.own 5 0),OV 3],[.row 5 true]⟩⟩
def ZxG:Nat->Option Lay
 | 3=>some nG
 | 5=>some nG
 | _=>none
def ZuY:bD->Ae U
 | .b0 a b=>E5 f245 Za4 (((a,()),((b,()),())),())
 | .b1 a b c d=>AA3 f245 [1,1,0,1,0,0,0,0] nG (a,b,d,c,())
 | .b2 a b c d=>AA3 f245 [1,1,0,1,0,0,1,0,0] nG (a,b,d,c,())
theorem Zb4:DU Tryz.prog B0 245 Zx5:=okR Af Ah ZxG [[.own 5 1]] [.row true] 0 ZuY func245 (fun p=>by cases p<;>kernel_rfl) (by kernel_rfl) fun x=>by kernel_rfl
inductive Yl where
 | b0 (a b:Int) (c d:List Int)
def Zb0:Yl->Tr U ((List Int)⊕Yl)
 | .b0 b c e d=>.bind 62 (mQ b c (↑d.length:Int)) (fun(f:List Int)=>.bind 1350 (pW d f) (fun(q:PD)=>kl q.q0 (.bind 62 (pX b c e q.q0) (fun(a:List Int)=>kl q.q0 (.chk (kA (q.q0.length+a.length) 1) (kl (q.q0++a) (AA (q.q0++a))))))))
def Z2c (a b:Int) (c d:List Int):Option (List Int):=AY Zb0 (.b0 a b c d)
def ZsA:Yl->Ae U
 | .b0 a b c d=>Am f169 [29,25,62,62] (a,b,c,d,())
theorem ZqO:AA1 169 [29,25,62,62] 62 (fun x=>Z2c x.1 x.2.1 x.2.2.1 x.2.2.2.1) rfl:=Ap (mc Z7X (mc ZaG Af)) (hc [] Zb4 Ah) AN ZsA func169 (fun p=>by cases p<;>kernel_rfl) (by kernel_rfl) fun _=>rfl
inductive Xw where
 | b0 (a:Cm) (b c:Int)
 | b1 (a b:Int) (c:Cm)
def Z9v:Xw->Tr U (Int⊕Xw)
 | .b0 a c b=>.br (c==1) (AP (.b1 b (1:Int) a)) (AP (.b1 b (0:Int) a))
 | .b1 a b c=>AA (bits .xor .u64 c.CE (IntKind.wrap .u64 ((IntKind.wrap .u64 ((2:Int)*a))+b)))
def mX (a:Cm) (b c:Int):Option Int:=AY Z9v (.b0 a b c)
def Z8z:Lay:=⟨[2,3,7],[KP,KP,KP],[.var k8],⟨[OV 25,PQ 0,OV 25],[VA 41 7]⟩⟩
def Zso:Nat->Option Lay
 | 4=>some Z8z
 | _=>none
def Zq2:Xw->Ae U
 | .b0 a b c=>Am f170 [41,3,25] (a,b,c,())
 | .b1 a b c=>AA3 f170 [1,1,1,0] Z8z (a,b,c,())
theorem Z91:AA1 170 [41,3,25] 25 (fun x=>mX x.1 x.2.1 x.2.2.1) rfl:=Ap Af Ah Zso Zq2 func170 (fun p=>by cases p<;>kernel_rfl) (by kernel_rfl) fun _=>rfl
inductive aJ where
 | b0 (a:Cm) (b:Be)
 | b1 (a:Cm) (b c:Be)
def Zax:aJ->Tr U ((Be×Int)⊕aJ)
 | .b0 b a=>.bind 45 (Om a) (fun(c:Int)=>.br (c != 0) (AA (IA,c)) (.br (!b.Jq) (AA (a,0)) (.bind 4 (U7 a.BU) (fun(d:Bool)=>.br d (AA (a,0)) (AP (.b1 b a IA))))))
 | .b1 a b f=>.br (decide ((↑b.BU.Payload.length:Int)>251)) (AA (IA,4)) (.bind 25 (mX a a.BR a.Tx) (fun(c:Int)=>.chk true (.bind 62 (Z2c a.Key c ([(IntKind.wrap .u8 (b.BU.CQ))]) b.BU.Payload) (fun(d:List Int)=>.bind 70 (oN b d) (fun(e:Be)=>AA (e,0))))))
def Z2b (a:Cm) (b:Be):Option (Be×Int):=AY Zax (.b0 a b)
def Z8M:Lay:=⟨[2,3,4],[KP,KP,KP],[.var k8,.var k5,.var k5],⟨[PQ 0,PQ 1,PQ 2],[VA 41 7,VA 70 5,VA 70 5]⟩⟩
def ZuP:Nat->Option Lay
 | 6=>some Z8M
 | _=>none
def ZsC:aJ->Ae U
 | .b0 a b=>Am f72 [41,70] (a,b,())
 | .b1 a b c=>AA3 f72 [1,1,1,0,0] Z8M (a,b,c,())
theorem Zs1:AA1 72 [41,70] 71 (fun x=>Z2b x.1 x.2.1) rfl:=Ap (mc l9 (mc U4 (mc Z9R (mc ZqO (mc Z91 Af))))) Ah ZuP ZsC func72 (fun p=>by cases p<;>kernel_rfl) (by kernel_rfl) fun _=>rfl
inductive Xh where
 | b0 (a:Be)
def Z9i:Xh->Tr U (((List Int)×Int)⊕Xh)
 | .b0 a=>let c:=[(IntKind.wrap .u8 ((AV ((AV ((AV (a.BU.CQ+(AV ((4:Int)*a.Ee))))+(AV ((8:Int)*a.SN))))+(AV ((16:Int)*a.MD)))))),(IntKind.wrap .u8 ((↑a.BU.Payload.length:Int)))]++a.BU.Payload;.bind 45 (Om a) (fun(b:Int)=>.br (b != 0) (.chk true (AA (([]:List Int),b))) (.chk true (.chk (kA (2+a.BU.Payload.length) 1) (kl c (AA (c,(0:Int)))))))
def Z0T (a:Be):Option ((List Int)×Int):=AY Z9i (.b0 a)
def Zne:Xh->Ae U
 | .b0 a=>Am f73 [70] (a,())
theorem Zn3:AA1 73 [70] 120 (fun x=>Z0T x.1) rfl:=Ap (mc U4 Af) Ah AN Zne func73 (fun p=>by cases p<;>kernel_rfl) (by kernel_rfl) fun _=>rfl
inductive aK where
 | b0 (a:Int)
def ZaT:aK->Tr U ((List Int)⊕aK)
 | .b0 a=>.chk true (AA ([(IntKind.wrap .u8 ((Int.tmod a 256))),(IntKind.wrap .u8 ((Int.tmod (IntKind.wrap .u32 (Int.tdiv a 256)) (256:Int)))),(IntKind.wrap .u8 ((IntKind.wrap .u32 (Int.tdiv a 65536))))]))
def oV (a:Int):Option (List Int):=AY ZaT (.b0 a)
def Zrb:aK->Ae U
 | .b0 a=>Am f172 [22] (a,())
theorem Z9q:AA1 172 [22] 62 (fun x=>oV x.1) rfl:=Ap Af Ah AN Zrb func172 (fun p=>by cases p<;>kernel_rfl) (by kernel_rfl) fun _=>rfl
inductive Yz where
 | b0 (a b:Int)
def Zbf:Yz->Tr U (Int⊕Yz)
 | .b0 a b=>let c:=IntKind.wrap .u32 (Int.tdiv a 2);.br ((bits .xor .u32 (Int.tmod a 2) b)==1) (AA (bits .xor .u32 c (14311424:Int))) (AA c)
def Z24 (a b:Int):Option Int:=AY Zbf (.b0 a b)
def ZsG:Yz->Ae U
 | .b0 a b=>Am f250 [22,22] (a,b,())
theorem Zt7:AA1 250 [22,22] 22 (fun x=>Z24 x.1 x.2.1) rfl:=Ap Af Ah AN ZsG func250 (fun p=>by cases p<;>kernel_rfl) (by kernel_rfl) fun _=>rfl
inductive dA where
 | b0 (a:Int) (b:List Int)
 | b1 (a:List Int) (b c:Int)
 | b2 (a:List Int) (b c d e:Int)
def ZbS:dA->Tr U (Int⊕dA)
 | .b0 a b=>AP (.b1 b (Int.tmod a 16777216) (0:Int))
 | .b1 a c b=>.br (decide (b<(↑a.length:Int))) (.chk (kI b a) (.bind 5 (a[(Int.toNat b)]?) (fun(d:Int)=>AP (.b2 a c b (IntKind.wrap .u32 (d)) (0:Int))))) (AA c)
 | .b2 a b c d e=>.br (decide (e<8)) (.bind 22 (Z24 b (Int.tmod d 2)) (fun(f:Int)=>AP (.b2 a f c (IntKind.wrap .u32 (Int.tdiv d 2)) (AV (e+1))))) (AP (.b1 a b (AV (c+1))))
def qB (a:Int) (b:List Int):Option Int:=AY ZbS (.b0 a b)
def Za9:Lay:=⟨[1,5,6],[[.s 5 1],KP,KP],[],⟨[OV 62,OV 22,OV 3],[]⟩⟩
def Z9B:Lay:=⟨[1,5,6,7,8],[[.s 5 1],KP,KP,KP,KP],[],⟨[OV 62,OV 22,OV 3,OV 22,OV 3],[]⟩⟩
def ZwL:Nat->Option Lay
 | 3=>some Za9
 | 7=>some Z9B
 | _=>none
def Zue:dA->Ae U
 | .b0 a b=>Am f173 [22,62] (a,b,())
 | .b1 a b c=>AA3 f173 [1,1,0,1,0,0,0,0] Za9 (a,b,c,())
 | .b2 a b c d e=>AA3 f173 [1,1,0,1,0,0,1,0,0,1,1,0,0,0,0] Z9B (a,b,c,d,e,())
theorem ZbB:AA1 173 [22,62] 22 (fun x=>qB x.1 x.2.1) rfl:=Ap (mc Zt7 Af) Ah ZwL Zue func173 (fun p=>by cases p<;>kernel_rfl) (by kernel_rfl) fun _=>rfl
inductive Xd where
 | b0 (a:Int) (b:List Int)
def Z8S:Xd->Tr U ((List Int)⊕Xd)
 | .b0 c a=>let e:=([]:List Int)++a;.chk true (.chk (kA (0+a.length) 1) (.bind 22 (qB c a) (fun(d:Int)=>.bind 62 (oV d) (fun(b:List Int)=>kl e (.chk (kA (e.length+b.length) 1) (kl (e++b) (AA (e++b))))))))
def Z0U (a:Int) (b:List Int):Option (List Int):=AY Z8S (.b0 a b)
def Znd:Xd->Ae U
 | .b0 a b=>Am f75 [22,62] (a,b,())
theorem Znf:AA1 75 [22,62] 62 (fun x=>Z0U x.1 x.2.1) rfl:=Ap (mc Z9q (mc ZbB Af)) Ah AN Znd func75 (fun p=>by cases p<;>kernel_rfl) (by kernel_rfl) fun _=>rfl
inductive YJ where
 | b0 (a:Int)
def Z9K:YJ->Tr U (Int⊕YJ)
 | .b0 a=>let b:=(if (39:Int)<a then (39:Int) else a);AA (AV ((64:Int)+(if b>0 then b else (0:Int))))
def Z1s (a:Int):Option Int:=AY Z9K (.b0 a)
def Zqn:YJ->Ae U
 | .b0 a=>Am f248 [3] (a,())
theorem Zod:AA1 248 [3] 3 (fun x=>Z1s x.1) rfl:=Ap Af Ah AN Zqn func248 (fun p=>by cases p<;>kernel_rfl) (by kernel_rfl) fun _=>rfl
inductive Yw where
 | b0 (a:Int)
def ZaZ:Yw->Tr U (Int⊕Yw)
 | .b0 a=>let b:=Int.tmod (AV (a*2)) 128;.br (decide (a>=64)) (AA (bits .xor .i64 b (17:Int))) (AA b)
def Z1T (a:Int):Option Int:=AY ZaZ (.b0 a)
def Ztk:Yw->Ae U
 | .b0 a=>Am f249 [3] (a,())
theorem ZtG:AA1 249 [3] 3 (fun x=>Z1T x.1) rfl:=Ap Af Ah AN Ztk func249 (fun p=>by cases p<;>kernel_rfl) (by kernel_rfl) fun _=>rfl
inductive XC where
 | b0 (a b:Int)
 | b1 (a:Int) (b:List Int) (c d:Int)
 | b2 (a:Int) (b:List Int) (c d e f g:Int)
def Z7f:XC->Tr U ((List Int)⊕XC)
 | .b0 a b=>.bind 3 (Z1s a) (fun(c:Int)=>.chk true (AP (.b1 b ([]:List Int) c (0:Int))))
 | .b1 b a d c=>.br (decide (c<b)) (kl a (AP (.b2 b a d c (0:Int) (1:Int) (0:Int)))) (kl a (AA a))
 | .b2 d a b e c f g=>let i:=a++[(IntKind.wrap .u8 (c))];.br (decide (g<8)) (.bind 3 (Z1T b) (fun(h:Int)=>kl a (AP (.b2 d a h e (AV (c+(AV (f*(AV (Int.tdiv b 64)))))) (AV (f*2)) (AV (g+1)))))) (.chk true (kl a (.chk (kA (a.length+1) 1) (kl i (AP (.b1 d i b (AV (e+1))))))))
def Z07 (a b:Int):Option (List Int):=AY Z7f (.b0 a b)
def Z6I:Lay:=⟨[1,5,6,7],[KP,[.own 5 1],KP,KP],[.row true],⟨[OV 3,.one (.own 5 0),OV 3,OV 3],[.row 5 true]⟩⟩
def Z6K:Lay:=⟨[1,5,6,7,8,9,10],[KP,[.own 5 1],KP,KP,KP,KP,KP],[.row true],⟨[OV 3,.one (.own 5 0),OV 3,OV 3,OV 3,OV 3,OV 3],[.row 5 true]⟩⟩
def ZlS:Nat->Option Lay
 | 4=>some Z6I
 | 8=>some Z6K
 | _=>none
def Zl0:XC->Ae U
 | .b0 a b=>Am f171 [3,3] (a,b,())
 | .b1 a b c d=>AA3 f171 [1,1,1,0,1,0,0,0,0] Z6I (a,c,d,b,())
 | .b2 a b c d e f g=>AA3 f171 [1,1,1,0,1,0,0,1,0,0,1,0,1,0,0,0,0] Z6K (a,c,d,e,f,g,b,())
theorem Zlp:AA1 171 [3,3] 62 (fun x=>Z07 x.1 x.2.1) rfl:=Ap (mc Zod (mc ZtG Af)) Ah ZlS Zl0 func171 (fun p=>by cases p<;>kernel_rfl) (by kernel_rfl) fun _=>rfl
inductive YQ where
 | b0 (a:Int) (b:List Int)
 | b1 (a b c:List Int) (d:Int)
def Z9y:YQ->Tr U (QT⊕YQ)
 | .b0 b a=>.bind 62 (Z07 b (↑a.length:Int)) (fun(c:List Int)=>.chk true (AP (.b1 a c ([]:List Int) (0:Int))))
 | .b1 c d a b=>let h:=Int.toNat b;.br (decide (b<(↑c.length:Int))) (.chk (kI b c) (.bind 5 (c[h]?) (fun(e:Int)=>.chk (kI b d) (.bind 5 (d[h]?) (fun(f:Int)=>let g:=a++[(bits .xor .u8 e f)];.chk true (kl a (.chk (kA (a.length+1) 1) (kl g (AP (.b1 c d g (AV (b+1)))))))))))) (kl a (AA (⟨a⟩:QT)))
def oD (a:Int) (b:List Int):Option QT:=AY Z9y (.b0 a b)
def Z88:Shape:=⟨[OV 3,OV 62],[]⟩
def ZmG:Shape:=⟨[.one (.own 5 0)],[.row 5 true]⟩
noncomputable def Ztv:HMod U:=⟨[KP,[.s 5 1]],[],Z88,ZmG,true,1348,fun(y:QT)=>(((),()),(y.q0,())),fun x=>oD x.1.1.1 x.1.2.1.1,okS rfl⟩
def Z7M:Lay:=⟨[1,5,6,7],[[.s 5 1],[.s 5 1],[.own 5 1],KP],[.row true],⟨[OV 62,OV 62,.one (.own 5 0),OV 3],[.row 5 true]⟩⟩
def ZsE:Nat->Option Lay
 | 4=>some Z7M
 | _=>none
def Zoa:YQ->Ae U
 | .b0 a b=>E5 f74 Z88 (((a,()),((b,()),())),())
 | .b1 a b c d=>AA3 f74 [1,1,1,0,1,0,0,0,0] Z7M (a,b,d,c,())
theorem Z8K:DU Tryz.prog B0 74 Ztv:=okR (mc Zlp Af) Ah ZsE [[.own 5 1]] [.row true] 0 Zoa func74 (fun p=>by cases p<;>kernel_rfl) (by kernel_rfl) fun x=>by kernel_rfl
inductive Ym where
 | b0 (a:Ac)
 | b1 (a b:Ac) (c:Be)
def ZaN:Ym->Tr U ((Ac×(List Int))⊕Ym)
 | .b0 c=>.br (c.Bq != 0) (.chk true (AA (c,([]:List Int)))) (.bind 44 (Z19 c) (fun(b:Ac)=>.bind 75 (Z1W b.Ag) (fun(a:Bd×Be)=>let e:=({ b with More:=(a.2.MD==1),Ag:=a.1 }:Ac);let f:=AP (Ym.b1 e EG a.2);.br b.Dk.Jq (.bind 71 (Z2b b.Dk a.2) (fun(d:Be×Int)=>.br (d.2==0) (AP (.b1 e EG d.1)) f)) f)))
 | .b1 a f b=>.bind 120 (Z0T b) (fun(c:(List Int)×Int)=>.bind 3 (kZ a) (fun(d:Int)=>.bind 62 (Z0U a.CZ.Qz c.1) (fun(e:List Int)=>.bind 1348 (oD d e) (fun(q:QT)=>kl q.q0 (AA (a,q.q0))))))
def oU (a:Ac):Option (Ac×(List Int)):=AY ZaN (.b0 a)
def Z9c:Lay:=⟨[1,2,5],[KP,KP,KP],[.var k2,.var k2,.var k5],⟨[PQ 0,PQ 1,PQ 2],[VA 44 66,VA 44 66,VA 70 5]⟩⟩
def Zw2:Nat->Option Lay
 | 11=>some Z9c
 | _=>none
def Zr0:Ym->Ae U
 | .b0 a=>Am f24 [44] (a,())
 | .b1 a b c=>AA3 f24 [1,1,1,1,1,1,1,0] Z9c (a,b,c,())
theorem Zsp:AA1 24 [44] 63 (fun x=>oU x.1) rfl:=Ap (mc Z7v (mc ZpQ (mc Zth (mc Zs1 (mc Zn3 (mc Znf Af)))))) (hc [] Z8K Ah) Zw2 Zr0 func24 (fun p=>by cases p<;>kernel_rfl) (by kernel_rfl) fun _=>rfl
inductive aU where
 | b0 (a:Du)
def ZaO:aU->Tr U ((Du×Int)⊕aU)
 | .b0 a=>.bind 4 (oW a false) (fun(b:Bool)=>.br b (AA (a,9)) (AA (({ a with SS:=(AV (a.SS+1)) }:Du),(0:Int))))
def Z1Y (a:Du):Option (Du×Int):=AY ZaO (.b0 a)
def ZtC:aU->Ae U
 | .b0 a=>Am f91 [35] (a,())
theorem Zru:AA1 91 [35] 129 (fun x=>Z1Y x.1) rfl:=Ap (mc Zaq Af) Ah AN ZtC func91 (fun p=>by cases p<;>kernel_rfl) (by kernel_rfl) fun _=>rfl
inductive Xi where
 | b0 (a:Du) (b:Bool)
def Z9b:Xi->Tr U (Du⊕Xi)
 | .b0 a b=>.br b (AA (⟨a.Dq,0,false⟩:Du)) (AA ({ a with SS:=0 }:Du))
def Z11 (a:Du) (b:Bool):Option Du:=AY Z9b (.b0 a b)
def ZnU:Xi->Ae U
 | .b0 a b=>Am f92 [35,4] (a,b,())
theorem ZmX:AA1 92 [35,4] 35 (fun x=>Z11 x.1 x.2.1) rfl:=Ap Af Ah AN ZnU func92 (fun p=>by cases p<;>kernel_rfl) (by kernel_rfl) fun _=>rfl
inductive X3 where
 | b0 (a:List BC) (b:Int) (c:Bool)
 | b1 (a:Int) (b:Bool) (c:List BC)
 | b2 (a:Int) (b:Bool) (c:List BC)
 | b3 (a:Int) (b:Bool) (c:List BC)
 | b4 (a:Int) (b:List BC)
def Z9e:X3->Tr U ((List BC)⊕X3)
 | .b0 a b c=>let d:=([]:List BC)++a;let e:=kl d (AA d);.chk true (.chk (kA (0+a.length) 16) (.br (decide (b<0)) e (.br (decide (b>=(↑a.length:Int))) e (kl d (AP (.b1 b c d))))))
 | .b1 b c a=>let e:=kl a (AP (X3.b3 b c a));.br c (kl a (.chk (kI b a) (kl a (.bind 99 (a[(Int.toNat b)]?) (fun(d:BC)=>.br (decide (d.Good<65536)) (kl a (AP (.b2 b c a))) e))))) e
 | .b2 b e a=>let g:=Int.toNat b;kl a (.chk (kI b a) (kl a (.bind 99 (a[g]?) (fun(c:BC)=>kl a (.chk (kI b a) (.chk (a.length==a.length&&decide (0<=g)) (.bind 99 (a[g]?) (fun(d:BC)=>let f:=(a.set g (⟨(AV (c.Good+1)),d.FN⟩:BC));.chk (f.length==a.length) (AP (.b3 b e f))))))))))
 | .b3 b c a=>let e:=kl a (AA a);.br (!c) (kl a (.chk (kI b a) (kl a (.bind 99 (a[(Int.toNat b)]?) (fun(d:BC)=>.br (decide (d.FN<65536)) (kl a (AP (.b4 b a))) e))))) e
 | .b4 b a=>let f:=Int.toNat b;kl a (.chk (kI b a) (kl a (.bind 99 (a[f]?) (fun(c:BC)=>kl a (.chk (kI b a) (.chk (a.length==a.length&&decide (0<=f)) (.bind 99 (a[f]?) (fun(d:BC)=>let e:=(a.set f (⟨d.Good,(AV (c.FN+1))⟩:BC));.chk (e.length==a.length) (AA e)))))))))
def Xo (a:List BC) (b:Int) (c:Bool):Option (List BC):=AY Z9e (.b0 a b c)
def UR:Lay:=⟨[1,2,7],[KP,KP,[.own 99 2]],[.row true],⟨[OV 3,OV 4,.one (.own 99 0)],[.row 99 true]⟩⟩
def Z7h:Lay:=⟨[1,7],[KP,[.own 99 2]],[.row true],⟨[OV 3,.one (.own 99 0)],[.row 99 true]⟩⟩
def Zqk:Nat->Option Lay
 | 4=>some UR
 | 5=>some UR
 | 6=>some UR
 | 7=>some Z7h
 | _=>none
def ZnI:X3->Ae U
 | .b0 a b c=>Am f93 [42,3,4] (a,b,c,())
 | .b1 a b c=>AA3 f93 [1,1,1,0,0] UR (a,b,c,())
 | .b2 a b c=>AA3 f93 [1,1,1,0,1,0] UR (a,b,c,())
 | .b3 a b c=>AA3 f93 [1,1,1,1,0,0] UR (a,b,c,())
 | .b4 a b=>AA3 f93 [1,1,1,1,0,1,0] Z7h (a,b,())
theorem Z7P:AA1 93 [42,3,4] 42 (fun x=>Xo x.1 x.2.1 x.2.2.1) rfl:=Ap Af Ah Zqk ZnI func93 (fun p=>by cases p<;>kernel_rfl) (by kernel_rfl) fun _=>rfl
inductive Yi where
 | b0 (a b:Int)
 | b1 (a:Int)
def aC:Yi->Tr U (Int⊕Yi)
 | .b0 a b=>let c:=AV ((AV (b)) - (AV (a)));.br (decide (c < -32768)) (AP (.b1 (AV (c+65536)))) (AP (.b1 c))
 | .b1 a=>.br (decide (a>32767)) (AA (AV (a - 65536))) (AA a)
def pJ (a b:Int):Option Int:=AY aC (.b0 a b)
def Z9l:Lay:=⟨[5],[KP],[],⟨[OV 3],[]⟩⟩
def ZtS:Nat->Option Lay
 | 4=>some Z9l
 | _=>none
def Zrn:Yi->Ae U
 | .b0 a b=>Am f333 [30,30] (a,b,())
 | .b1 a=>AA3 f333 [1,1,1,0,0] Z9l (a,())
theorem ZqX:AA1 333 [30,30] 3 (fun x=>pJ x.1 x.2.1) rfl:=Ap Af Ah ZtS Zrn func333 (fun p=>by cases p<;>kernel_rfl) (by kernel_rfl) fun _=>rfl
inductive XY where
 | b0 (a b:Int)
def Z0R:XY->Tr U (Bool⊕XY)
 | .b0 a b=>.bind 3 (pJ b a) (fun(c:Int)=>AA (decide (c>=0)))
def Xc (a b:Int):Option Bool:=AY Z0R (.b0 a b)
def Zo5:XY->Ae U
 | .b0 a b=>Am f258 [30,30] (a,b,())
theorem Z8m:AA1 258 [30,30] 4 (fun x=>Xc x.1 x.2.1) rfl:=Ap (mc ZqX Af) Ah AN Zo5 func258 (fun p=>by cases p<;>kernel_rfl) (by kernel_rfl) fun _=>rfl
inductive dE where
 | b0 (a:List BF) (b:Int)
 | b1 (a:List BF) (b:Int) (c d:List BF) (e:Int)
 | b2 (a:List BF) (b:Int) (c d:List BF) (e:Int)
def Zc4:dE->Tr U (((List BF)×(List BF))⊕dE)
 | .b0 a b=>let c:=([]:List BF);.chk (true&&true) (AP (.b1 a b c c (0:Int)))
 | .b1 a e c d b=>let k:=kI b a;let j:=a[(Int.toNat b)]?;.br (decide (b<(↑a.length:Int))) (.chk k (.bind 138 j (fun(h:BF)=>.bind 4 (Xc e h.CP) (fun(i:Bool)=>.br i (.chk k (.bind 138 j (fun(f:BF)=>.chk true (kl d (.chk (kA (d.length+1) 64) (.chk (kL c&&kL (d++[f])) (AP (.b2 a e c (d++[f]) b)))))))) (.chk k (.bind 138 j (fun(g:BF)=>.chk true (kl c (.chk (kA (c.length+1) 64) (.chk (kL (c++[g])&&kL d) (AP (.b2 a e (c++[g]) d b)))))))))))) (kl c (kl d (AA (c,d))))
 | .b2 c d a b e=>.chk (kL a&&kL b) (AP (.b1 c d a b (AV (e+1))))
def Z2I (a:List BF) (b:Int):Option ((List BF)×(List BF)):=AY Zc4 (.b0 a b)
def nS:Lay:=⟨[0,1,4,5,6],[[.s 138 8],KP,[.own 138 8],[.own 138 8],KP],[.row true,.row true],⟨[OV 37,OV 30,.one (.own 138 0),.one (.own 138 1),OV 3],[.row 138 true,.row 138 true]⟩⟩
def Zy2:Nat->Option Lay
 | 3=>some nS
 | 4=>some nS
 | _=>none
def ZtR:dE->Ae U
 | .b0 a b=>Am f186 [37,30] (a,b,())
 | .b1 a b c d e=>AA3 f186 [1,1,0,1,0,0,0,0] nS (a,b,e,c,d,())
 | .b2 a b c d e=>AA3 f186 [1,1,0,1,0,0,1,1] nS (a,b,e,c,d,())
theorem Zu5:AA1 186 [37,30] 208 (fun x=>Z2I x.1 x.2.1) rfl:=Ap (mc Z8m Af) Ah Zy2 ZtR func186 (fun p=>by cases p<;>kernel_rfl) (by kernel_rfl) fun _=>rfl
inductive bH where
 | b0 (a:A7) (b:Int)
 | b1 (a b:A7)
 | b2 (a:List BF) (b c:A7)
 | b3 (a:List BF) (b:Int) (c d:A7)
 | b4 (a:List BF) (b:Int) (c d:A7)
 | b5 (a:List BF) (b:Int) (c d:A7)
def ZcG:bH->Tr U ((A7×(List BF))⊕bH)
 | .b0 b c=>.bind 208 (Z2I b.Ak c) (fun(a:(List BF)×(List BF))=>let e:=({ b with Ak:=a.1 }:A7);let d:=AP (bH.b2 a.2 e Dv);.br (b.BR==0) (.br (decide ((↑a.2.length:Int)>0)) (.br (!b.Told) (AP (.b1 e Dv)) d) d) d)
 | .b1 a b=>let c:=([]:List BF);.br (a.ER==0) (.chk true (AA (({ a with ER:=40 }:A7),c))) (.chk true (AA (a,c)))
 | .b2 a b c=>AP (.b3 a (0:Int) b c)
 | .b3 a b c d=>.br (decide (b<(↑a.length:Int))) (.chk (kI b a) (.bind 138 (a[(Int.toNat b)]?) (fun(e:BF)=>.br (c.Own==e.Kind) (AP (.b4 a b ({ c with Own:=-1 }:A7) d)) (AP (.b4 a b c d))))) (AA (c,a))
 | .b4 a b c d=>.chk (kI b a) (.bind 138 (a[(Int.toNat b)]?) (fun(e:BF)=>.br (c.Other==e.Kind) (AP (.b5 a b ({ c with Other:=-1 }:A7) d)) (AP (.b5 a b c d))))
 | .b5 a b c d=>AP (.b3 a (AV (b+1)) c d)
def Z2K (a:A7) (b:Int):Option (A7×(List BF)):=AY ZcG (.b0 a b)
def Za1:Lay:=⟨[2,4],[KP,KP],[.var k1,.var k1],⟨[PQ 0,PQ 1],[VA 39 20,VA 39 20]⟩⟩
def Za3:Lay:=⟨[2,4,7],[KP,KP,[.s 138 8]],[.var k1,.var k1],⟨[PQ 0,PQ 1,OV 37],[VA 39 20,VA 39 20]⟩⟩
def Ua:Lay:=⟨[2,4,7,8],[KP,KP,[.s 138 8],KP],[.var k1,.var k1],⟨[PQ 0,PQ 1,OV 37,OV 3],[VA 39 20,VA 39 20]⟩⟩
def Zy0:Nat->Option Lay
 | 4=>some Za1
 | 7=>some Za3
 | 8=>some Ua
 | 12=>some Ua
 | 9=>some Ua
 | _=>none
def ZvK:bH->Ae U
 | .b0 a b=>Am f94 [39,30] (a,b,())
 | .b1 a b=>AA3 f94 [1,1,1,0,1,0,0,0] Za1 (a,b,())
 | .b2 a b c=>AA3 f94 [1,1,1,1,0,0] Za3 (a,b,c,())
 | .b3 a b c d=>AA3 f94 [1,1,1,1,0,1,0,0,0,0] Ua (a,b,c,d,())
 | .b4 a b c d=>AA3 f94 [1,1,1,1,0,1,0,0,1,0,0,1,0] Ua (a,b,c,d,())
 | .b5 a b c d=>AA3 f94 [1,1,1,1,0,1,0,0,1,1] Ua (a,b,c,d,())
theorem ZuK:AA1 94 [39,30] 135 (fun x=>Z2K x.1 x.2.1) rfl:=Ap (mc Zu5 Af) Ah Zy0 ZvK func94 (fun p=>by cases p<;>kernel_rfl) (by kernel_rfl) fun _=>rfl
end
noncomputable section
inductive aY where
 | b0 (a:Du) (b:Int)
def ZbE:aY->Tr U (Du⊕aY)
 | .b0 c a=>.bind 35 (qM a) (fun(b:Du)=>AA b)
def Z2D (a:Du) (b:Int):Option Du:=AY ZbE (.b0 a b)
def Zwu:aY->Ae U
 | .b0 a b=>Am f187 [35,3] (a,b,())
theorem Zvh:AA1 187 [35,3] 35 (fun x=>Z2D x.1 x.2.1) rfl:=Ap (mc Zbd Af) Ah AN Zwu func187 (fun p=>by cases p<;>kernel_rfl) (by kernel_rfl) fun _=>rfl
inductive Yc where
 | b0 (a:Ac) (b:BF)
 | b1 (a:Ac) (b:BF) (c:Ac)
def Z9r:Yc->Tr U (Ac⊕Yc)
 | .b0 a b=>let d:=({ a.CZ with BG:=b.BG }:Fa);let c:=AV (a.Fq+(AV ((1250:Int)*b.BG.EW)));.br (b.Kind==1) (AA ({ a with CZ:=({ a.CZ with Map:=b.Map }:Fa) }:Ac)) (.br (a.BR==1) (AP (.b1 ({ a with CZ:=d,Fq:=c,Size:=(AV (a.Size+(AV ((1250:Int)*b.BG.EX)))) }:Ac) b EG)) (AP (.b1 ({ a with CZ:=d,Fq:=c }:Ac) b EG)))
 | .b1 a b d=>.bind 35 (Z2D a.FZ b.BG.Dq) (fun(c:Du)=>AA ({ a with FZ:=c }:Ac))
def Z1o (a:Ac) (b:BF):Option Ac:=AY Z9r (.b0 a b)
def Z7T:Lay:=⟨[2,3,4],[KP,KP,KP],[.var k2,.var k14,.var k2],⟨[PQ 0,PQ 1,PQ 2],[VA 44 66,VA 138 8,VA 44 66]⟩⟩
def Zsi:Nat->Option Lay
 | 8=>some Z7T
 | _=>none
def Zou:Yc->Ae U
 | .b0 a b=>Am f95 [44,138] (a,b,())
 | .b1 a b c=>AA3 f95 [1,1,1,1,1,0] Z7T (a,b,c,())
theorem ZqI:AA1 95 [44,138] 44 (fun x=>Z1o x.1 x.2.1) rfl:=Ap (mc Zvh Af) Ah Zsi Zou func95 (fun p=>by cases p<;>kernel_rfl) (by kernel_rfl) fun _=>rfl
inductive Xt where
 | b0 (a:Int)
def Z1u:Xt->Tr U (Bool⊕Xt)
 | .b0 a=>.br (a==0) (AA true) (AA (a==1))
def Nk (a:Int):Option Bool:=AY Z1u (.b0 a)
def ZoL:Xt->Ae U
 | .b0 a=>Am f259 [3] (a,())
theorem U0:AA1 259 [3] 4 (fun x=>Nk x.1) rfl:=Ap Af Ah AN ZoL func259 (fun p=>by cases p<;>kernel_rfl) (by kernel_rfl) fun _=>rfl
inductive aW where
 | b0 (a:A7) (b:AL)
def Z2t:aW->Tr U (Bool⊕aW)
 | .b0 a b=>.bind 4 (Nk b.Kind) (fun(c:Bool)=>.br (!c) (AA true) (AA ((↑a.Ak.length:Int)==0)))
def bW (a:A7) (b:AL):Option Bool:=AY Z2t (.b0 a b)
def Zwi:aW->Ae U
 | .b0 a b=>Am f188 [39,156] (a,b,())
theorem Zbu:AA1 188 [39,156] 4 (fun x=>bW x.1 x.2.1) rfl:=Ap (mc U0 Af) Ah AN Zwi func188 (fun p=>by cases p<;>kernel_rfl) (by kernel_rfl) fun _=>rfl
inductive bG where
 | b0 (a b:Int)
def Z2U:bG->Tr U (Int⊕bG)
 | .b0 a b=>AA (IntKind.wrap .u16 ((Int.tmod (AV ((AV ((AV (a))+(Int.tmod b 65536)))+65536)) (65536:Int))))
def bK (a b:Int):Option Int:=AY Z2U (.b0 a b)
def Zv0:bG->Ae U
 | .b0 a b=>Am f190 [30,3] (a,b,())
theorem Zbb:AA1 190 [30,3] 30 (fun x=>bK x.1 x.2.1) rfl:=Ap Af Ah AN Zv0 func190 (fun p=>by cases p<;>kernel_rfl) (by kernel_rfl) fun _=>rfl
inductive Yh where
 | b0 (a b:Int)
def Z23:Yh->Tr U (Int⊕Yh)
 | .b0 b a=>let d:=(if (499:Int)<a then (499:Int) else a);.bind 30 (bK b (AV ((6:Int)+(if d>0 then d else (0:Int))))) (fun(c:Int)=>AA c)
def aP (a b:Int):Option Int:=AY Z23 (.b0 a b)
def ZqU:Yh->Ae U
 | .b0 a b=>Am f260 [30,3] (a,b,())
theorem Zs2:AA1 260 [30,3] 30 (fun x=>aP x.1 x.2.1) rfl:=Ap (mc Zbb Af) Ah AN ZqU func260 (fun p=>by cases p<;>kernel_rfl) (by kernel_rfl) fun _=>rfl
inductive YG where
 | b0 (a:Int) (b:BF)
 | b1 (a:Int) (b:BF)
def YX:YG->Tr U (Int⊕YG)
 | .b0 b a=>let c:=AP (YG.b1 b a);.br (a.Kind != 0) (.br (a.Kind != 1) (AA (12:Int)) c) c
 | .b1 a b=>.bind 4 (Xc a b.CP) (fun(c:Bool)=>.br c (AA (18:Int)) (AA (0:Int)))
def YF (a:Int) (b:BF):Option Int:=AY YX (.b0 a b)
def Z81:Lay:=⟨[0,3],[KP,KP],[.var k14],⟨[OV 30,PQ 0],[VA 138 8]⟩⟩
def Zrw:Nat->Option Lay
 | 3=>some Z81
 | _=>none
def Zp6:YG->Ae U
 | .b0 a b=>Am f334 [30,138] (a,b,())
 | .b1 a b=>AA3 f334 [1,1,0,0] Z81 (a,b,())
theorem Zot:AA1 334 [30,138] 45 (fun x=>YF x.1 x.2.1) rfl:=Ap (mc Z8m Af) Ah Zrw Zp6 func334 (fun p=>by cases p<;>kernel_rfl) (by kernel_rfl) fun _=>rfl
inductive dH where
 | b0 (a:List BF) (b:Int) (c:BF)
def Z2y:dH->Tr U (((List BF)×Int)⊕dH)
 | .b0 a d b=>let e:=([]:List BF)++a;.chk true (.chk (kA (0+a.length) 64) (.bind 45 (YF d b) (fun(c:Int)=>.br (c != 0) (kl e (AA (e,c))) (.br (decide ((↑a.length:Int)>0)) (kl e (AA (e,(20:Int)))) (.chk true (kl e (.chk (kA (e.length+1) 64) (kl (e++[b]) (AA ((e++[b]),(0:Int)))))))))))
def VB (a:List BF) (b:Int) (c:BF):Option ((List BF)×Int):=AY Z2y (.b0 a b c)
def Zwq:dH->Ae U
 | .b0 a b c=>Am f261 [37,30,138] (a,b,c,())
theorem ZaX:AA1 261 [37,30,138] 269 (fun x=>VB x.1 x.2.1 x.2.2.1) rfl:=Ap (mc Zot Af) Ah AN Zwq func261 (fun p=>by cases p<;>kernel_rfl) (by kernel_rfl) fun _=>rfl
inductive Xf where
 | b0 (a:AL)
def Z8X:Xf->Tr U (BF⊕Xf)
 | .b0 a=>AA (⟨a.Kind,a.CP,a.BG,a.Map⟩:BF)
def X9 (a:AL):Option BF:=AY Z8X (.b0 a)
def Znt:Xf->Ae U
 | .b0 a=>Am f262 [156] (a,())
theorem Z7I:AA1 262 [156] 138 (fun x=>X9 x.1) rfl:=Ap Af Ah AN Znt func262 (fun p=>by cases p<;>kernel_rfl) (by kernel_rfl) fun _=>rfl
inductive Y5 where
 | b0 (a:A7) (b:AL) (c d:Int)
 | b1 (a:Int) (b:A7) (c:AL) (d:A7) (e:AL)
 | b2 (a:Int) (b:A7) (c:AL) (d:A7) (e:AL)
 | b3 (a:A7) (b:AL) (c:A7) (d:AL)
 | b4 (a:A7) (b:AL) (c:A7) (d:AL)
 | b5 (a:A7) (b:AL) (c:A7) (d:AL)
def NC:Y5->Tr U ((A7×AL)⊕Y5)
 | .b0 b a d c=>let h:=a.Kind==0;let e:=({ b with Own:=a.Kind,Since:=c }:A7);let g:=AP (Y5.b1 d e a Dv Fp);let f:=AP (Y5.b2 a.Kind e a Dv Fp);.br h (.br h g f) (.br (a.Kind==1) g f)
 | .b1 d a b e f=>.bind 30 (aP d (0:Int)) (fun(c:Int)=>let i:=({ b with CP:=c }:AL);.bind 138 (X9 i) (fun(h:BF)=>.bind 269 (VB a.Ak d h) (fun(g:(List BF)×Int)=>.br (g.2==0) (AP (.b3 ({ a with Ak:=g.1 }:A7) i e f)) (AP (.b3 a i e f)))))
 | .b2 e b a c d=>.br (e==3) (AP (.b4 ({ b with CE:=a.CE,Mark:=a.Mark,CJ:=1 }:A7) a c d)) (.br (e==12) (AP (.b4 ({ b with FX:=true }:A7) a c d)) (.br (e==20) (AP (.b4 ({ b with Limit:=a.Length }:A7) a c d)) (AP (.b4 b a c d))))
 | .b3 a b c d=>let e:=({ a with Told:=false }:A7);let f:=AP (Y5.b4 e b c d);.br (b.Kind==0) (.br (a.Other==15) (AP (.b5 e b c d)) f) f
 | .b4 a b c d=>AA (a,b)
 | .b5 a b c d=>AP (.b4 ({ a with Other:=-1 }:A7) b c d)
def YR (a:A7) (b:AL) (c d:Int):Option (A7×AL):=AY NC (.b0 a b c d)
def Z8f:Lay:=⟨[2,4,5,8,9],[KP,KP,KP,KP,KP],[.var k1,.var k0,.var k1,.var k0],⟨[OV 30,PQ 0,PQ 1,PQ 2,PQ 3],[VA 39 20,VA 156 15,VA 39 20,VA 156 15]⟩⟩
def Z7H:Lay:=⟨[4,5,8,9,18],[KP,KP,KP,KP,KP],[.var k1,.var k0,.var k1,.var k0],⟨[PQ 0,PQ 1,PQ 2,PQ 3,OV 3],[VA 39 20,VA 156 15,VA 39 20,VA 156 15]⟩⟩
def UU:Lay:=⟨[4,5,8,9],[KP,KP,KP,KP],[.var k1,.var k0,.var k1,.var k0],⟨[PQ 0,PQ 1,PQ 2,PQ 3],[VA 39 20,VA 156 15,VA 39 20,VA 156 15]⟩⟩
def ZqT:Nat->Option Lay
 | 6=>some Z8f
 | 13=>some Z7H
 | 10=>some UU
 | 21=>some UU
 | 12=>some UU
 | _=>none
def ZpC:Y5->Ae U
 | .b0 a b c d=>Am f189 [39,156,30,3] (a,b,c,d,())
 | .b1 a b c d e=>AA3 f189 [1,1,1,0,1,0,1,0,0] Z8f (a,b,c,d,e,())
 | .b2 a b c d e=>AA3 f189 [1,1,1,0,1,0,1,1,0] Z7H (a,b,c,d,e,())
 | .b3 a b c d=>AA3 f189 [1,1,1,0,1,0,1,0,1,1,1,0] UU (a,b,c,d,())
 | .b4 a b c d=>AA3 f189 [1,1,1,1,0] UU (a,b,c,d,())
 | .b5 a b c d=>AA3 f189 [1,1,1,0,1,0,1,0,1,1,1,1,1,0] UU (a,b,c,d,())
theorem Z96:AA1 189 [39,156,30,3] 216 (fun x=>YR x.1 x.2.1 x.2.2.1 x.2.2.2.1) rfl:=Ap (mc Zs2 (mc ZaX (mc Z7I Af))) Ah ZqT ZpC func189 (fun p=>by cases p<;>kernel_rfl) (by kernel_rfl) fun _=>rfl
inductive Y7 where
 | b0 (a:A7) (b c:Int)
 | b1 (a b:Int) (c:List AL) (d e:A7)
 | b2 (a b:Int) (c:List AL) (d e:A7)
 | b3 (a:List AL) (b c:A7)
 | b4 (a b:Int) (c:List AL) (d e:A7) (f:AL)
def Za0:Y7->Tr U ((A7×(List AL))⊕Y7)
 | .b0 a b c=>.chk true (AP (.b1 b c ([]:List AL) a Dv))
 | .b1 d e b a c=>let h:=kl b (AP (Y7.b3 b a c));.br (a.ER==0) (.br (decide (a.Own<0)) (.br (decide ((↑a.Aa.length:Int)>0)) (.chk (kI (0:Int) a.Aa) (.bind 156 (a.Aa[(Int.toNat 0)]?) (fun(f:AL)=>.bind 4 (bW a f) (fun(g:Bool)=>.br g (kl b (AP (.b2 d e b a c))) h)))) h) h) h
 | .b2 c d b a e=>let l:=Int.toNat 1;let j:=(a.Aa.drop l).take (a.Aa.length - l);let g:=([]:List AL)++j;let k:=({ a with Aa:=g }:A7);.chk (kI (0:Int) a.Aa) (.bind 156 (a.Aa[(Int.toNat 0)]?) (fun(f:AL)=>let i:=Tr.chk (kL b&&(g.length==g.length)) (AP (Y7.b4 c d b k e f));let h:=Tr.br (f.Kind==3) (.br (a.CJ != 0) (kl g (kl b (AP (Y7.b1 c d b k e)))) i) i;.chk (decide (0<=(1:Int)/\(1:Int)<=(↑a.Aa.length:Int))) (.chk true (.chk (kA (0+j.length) 120) (.br (f.Kind==12) (.br a.FX (kl g (kl b (AP (.b1 c d b k e)))) h) h)))))
 | .b3 a b c=>kl a (AA (b,a))
 | .b4 c d a e f g=>kl e.Aa (.bind 216 (YR e g c d) (fun(b:A7×AL)=>.chk true (kl a (.chk (kA (a.length+1) 120) (kl (a++[b.2]) (AP (.b1 c d (a++[b.2]) b.1 f)))))))
def Z1K (a:A7) (b c:Int):Option (A7×(List AL)):=AY Za0 (.b0 a b c)
def lU:Lay:=⟨[1,2,3,6,8],[KP,KP,KP,KP,[.own 156 15]],[.var k1,.var k1,.row true],⟨[OV 30,OV 3,PQ 0,PQ 1,.one (.own 156 2)],[VA 39 20,VA 39 20,.row 156 true]⟩⟩
def Z7K:Lay:=⟨[3,6,8],[KP,KP,[.own 156 15]],[.var k1,.var k1,.row true],⟨[PQ 0,PQ 1,.one (.own 156 2)],[VA 39 20,VA 39 20,.row 156 true]⟩⟩
def Z8x:Lay:=⟨[1,2,3,6,8,9],[KP,KP,KP,KP,[.own 156 15],KP],[.var [.keep,.keep,.keep,.own 156 15,.keep,.keep,.s 138 8,.keep,.keep,.keep,.keep,.keep,.keep,.keep,.keep,.keep,.keep,.keep,.keep,.keep],.var k1,.row true,.var k0,.row true],⟨[OV 30,OV 3,PQ 0,PQ 1,.one (.own 156 2),PQ 3],[.var 39 20 (.agg [VC 3 1,VC 3 1,VC 3 1,.own 156 4,VC 3 1,VC 3 1,VC 37 1,VC 4 1,VC 25 1,VC 25 1,VC 4 1,VC 4 1,VC 3 1,VC 3 1,VC 3 1,VC 25 1,VC 25 1,VC 25 1,VC 3 1,VC 3 1]),VA 39 20,.row 156 true,VA 156 15,.row 156 true]⟩⟩
def ZrM:Nat->Option Lay
 | 2=>some lU
 | 3=>some lU
 | 8=>some Z7K
 | 6=>some Z8x
 | _=>none
def Zoh:Y7->Ae U
 | .b0 a b c=>Am f96 [39,30,3] (a,b,c,())
 | .b1 a b c d e=>AA3 f96 [1,1,0,0,0,0,0] lU (a,b,d,e,c,())
 | .b2 a b c d e=>AA3 f96 [1,1,0,0,0,1,0,0] lU (a,b,d,e,c,())
 | .b3 a b c=>AA3 f96 [1,1,1,0] Z7K (b,c,a,())
 | .b4 b c d a e f=>AA3 f96 [1,1,0,0,0,1,0,1,1,1,0] Z8x (b,c,a.BR,a.Own,a.Since,a.Other,a.Gz,a.Ak,a.Told,a.DK,a.Ic,a.Fg,a.FX,a.Version,a.Length,a.Limit,a.CE,a.GK,a.Mark,a.CJ,a.ER,e,d,f,a.Aa,())
theorem Zp9:AA1 96 [39,30,3] 140 (fun x=>Z1K x.1 x.2.1 x.2.2.1) rfl:=Ap (mc Zbu (mc Z96 Af)) Ah ZrM Zoh func96 (fun p=>by cases p<;>kernel_rfl) (by kernel_rfl) fun _=>rfl
inductive Yf where
 | b0 (a:Ac)
def Z1I:Yf->Tr U (Int⊕Yf)
 | .b0 a=>.bind 30 (bK a.Event a.CZ.BG.Dq) (fun(b:Int)=>AA b)
def YC (a:Ac):Option Int:=AY Z1I (.b0 a)
def Zqf:Yf->Ae U
 | .b0 a=>Am f97 [44] (a,())
theorem Z9o:AA1 97 [44] 30 (fun x=>YC x.1) rfl:=Ap (mc Zbb Af) Ah AN Zqf func97 (fun p=>by cases p<;>kernel_rfl) (by kernel_rfl) fun _=>rfl
inductive Yt where
 | b0 (a b c:Int)
def Zb6:Yt->Tr U (Bool⊕Yt)
 | .b0 a b c=>.br (decide (a>=0)) (.bind 4 (Nk a) (fun(d:Bool)=>.br (!d) (AA (decide ((AV (c - b))>40000000))) (AA false))) (AA false)
def oP (a b c:Int):Option Bool:=AY Zb6 (.b0 a b c)
def ZrC:Yt->Ae U
 | .b0 a b c=>Am f191 [3,3,3] (a,b,c,())
theorem Zrv:AA1 191 [3,3,3] 4 (fun x=>oP x.1 x.2.1 x.2.2.1) rfl:=Ap (mc U0 Af) Ah AN ZrC func191 (fun p=>by cases p<;>kernel_rfl) (by kernel_rfl) fun _=>rfl
inductive XG where
 | b0 (a:A7) (b:Int)
def Z8w:XG->Tr U (Bool⊕XG)
 | .b0 a b=>.bind 4 (oP a.Own a.Since b) (fun(c:Bool)=>.br c (AA true) (.bind 4 (oP a.Other a.Gz b) (fun(d:Bool)=>AA d)))
def Z0y (a:A7) (b:Int):Option Bool:=AY Z8w (.b0 a b)
def Zm5:XG->Ae U
 | .b0 a b=>Am f98 [39,3] (a,b,())
theorem Zmy:AA1 98 [39,3] 4 (fun x=>Z0y x.1 x.2.1) rfl:=Ap (mc Zrv Af) Ah AN Zm5 func98 (fun p=>by cases p<;>kernel_rfl) (by kernel_rfl) fun _=>rfl
inductive XH where
 | b0 (a:DT)
def Z7L:XH->Tr U (Int⊕XH)
 | .b0 a=>.bind 3 (UW a.Ei (10:Int) (3200:Int)) (fun(b:Int)=>AA (AV (b*10000)))
def Z0t (a:DT):Option Int:=AY Z7L (.b0 a)
def Zm9:XH->Ae U
 | .b0 a=>Am f99 [24] (a,())
theorem Zm0:AA1 99 [24] 3 (fun x=>Z0t x.1) rfl:=Ap (mc kY Af) Ah AN Zm9 func99 (fun p=>by cases p<;>kernel_rfl) (by kernel_rfl) fun _=>rfl
inductive bP where
 | b0 (a:Ac) (b:Int)
def ZcB:bP->Tr U ((Ac×(List BD))⊕bP)
 | .b0 a b=>.chk true (AA (({ a with Bq:=b }:Ac),[(⟨4,a.Event,(⟨0,[]⟩:BB),UZ,(IntKind.wrap .u64 (b)),Ba⟩:BD)]))
def qK (a:Ac) (b:Int):Option (Ac×(List BD)):=AY ZcB (.b0 a b)
def Zwa:bP->Ae U
 | .b0 a b=>Am f100 [44,3] (a,b,())
theorem ZaL:AA1 100 [44,3] 78 (fun x=>qK x.1 x.2.1) rfl:=Ap Af Ah AN Zwa func100 (fun p=>by cases p<;>kernel_rfl) (by kernel_rfl) fun _=>rfl
inductive YP where
 | b0 (a:Ac) (b:Int)
 | b1 (a:Int) (b:Bool) (c d:Ac)
 | b2 (a:Int) (b:Bool) (c d:Ac)
 | b3 (a b c:Int) (d e:Ac)
 | b4 (a b:Int) (c d:Ac)
 | b5 (a:Int) (b:List BD) (c:List BF) (d:Int) (e f:Ac) (g:A7)
 | b6 (a:List BD) (b:Int) (c d:Ac)
 | b7 (a:List BD) (b c:Ac)
 | b8 (a:Int) (b:List BD) (c:Int) (d e:Ac)
 | b9 (a:List BD) (b c:Ac)
def Z9X:YP->Tr U ((Ac×(List BD))⊕YP)
 | .b0 a b=>let d:=AP (YP.b1 b false a EG);.br (a.Bq != 0) (.chk true (AA (a,([]:List BD)))) (.br (a.BR==1) (.br (!a.Hm) (.bind 4 (oG a) (fun(c:Bool)=>AP (.b1 b c a EG))) d) d)
 | .b1 c b a d=>.br b (.bind 129 (Z1Y a.FZ) (fun(e:Du×Int)=>AP (.b2 c b ({ a with FZ:=e.1 }:Ac) d))) (.br (a.BR==1) (.bind 35 (Z11 a.FZ a.Ec) (fun(f:Du)=>AP (.b2 c b ({ a with FZ:=f }:Ac) d))) (AP (.b2 c b a d)))
 | .b2 c e a d=>.bind 104 (oL a.CZ a.Event a.Last) (fun(b:Int×Int)=>let f:=AP (YP.b4 c b.2 a d);.br (!a.Good) (.br (!e) (AP (.b3 c b.1 b.2 a d)) f) f)
 | .b3 b c d a e=>.bind 42 (Xo a.BI c false) (fun(f:List BC)=>AP (.b4 b d ({ a with BI:=f }:Ac) e))
 | .b4 c d a e=>let f:=IntKind.wrap .u16 (a.Event+1);.bind 135 (Z2K a.AB f) (fun(b:A7×(List BF))=>.chk true (AP (.b5 c ([]:List BD) b.2 (0:Int) ({ a with Event:=f,Last:=d,Fq:=(AV (a.Fq+(AV ((1250:Int)*a.CZ.BG.Dp)))),Hm:=false,Good:=false,Ec:=false,More:=false,AB:=b.1 }:Ac) e b.1)))
 | .b5 d c e f a g j=>let u:=e[(Int.toNat f)]?;let t:=([]:List AL)++a.Aw;.br (decide (f<(↑e.length:Int))) (.chk (kI f e) (.bind 138 u (fun(k:BF)=>.bind 44 (Z1o a k) (fun(h:Ac)=>.chk (kI f e) (.bind 138 u (fun(i:BF)=>let r:=c++[(⟨2,h.Event,(⟨0,[]⟩:BB),i,0,Ba⟩:BD)];.chk true (kl c (.chk (kA (c.length+1) 160) (kl r (AP (.b5 d r e (AV (f+1)) h g j))))))))))) (.bind 30 (YC a) (fun(l:Int)=>.bind 140 (Z1K a.AB l d) (fun(b:A7×(List AL))=>let o:=t++b.2;let q:=kL c&&(o.length==o.length);let p:=({ a with AB:=b.1,Aw:=o }:Ac);let s:=Tr.chk q (AP (YP.b8 d c (0:Int) p g));.chk true (.chk (kA (0+a.Aw.length) 120) (kl t (.chk (kA (t.length+b.2.length) 120) (.br (b.1.ER != 0) (.chk q (AP (.b6 c b.1.ER p g))) (.bind 4 (Z0y b.1 d) (fun(m:Bool)=>.br m (.chk q (AP (.b6 c (34:Int) p g))) (.br a.Gq (.bind 3 (Z0t a.CZ.BG) (fun(n:Int)=>.br (decide ((AV (d - a.Hf))>n)) (.chk q (AP (.b7 c p g))) s)) s))))))))))
 | .b6 a d b e=>.br (d != 0) (kl b.Aw (.bind 78 (qK b d) (fun(c:Ac×(List BD))=>kl a (.chk (kA (a.length+c.2.length) 160) (kl (a++c.2) (AA (c.1,(a++c.2)))))))) (kl b.Aw (kl a (AA (b,a))))
 | .b7 a b c=>.chk (kL a&&kL b.Aw) (AP (.b6 a (8:Int) b c))
 | .b8 e b d a c=>let g:=kL b&&kL a.Aw;let f:=Tr.chk g (AP (YP.b6 b d a c));.br (!a.Gq) (.br (decide ((AV (e - a.Hf))>(AV ((7500:Int)*a.CZ.BG.Dp)))) (.chk g (AP (.b9 b a c))) f) f
 | .b9 a b c=>.chk (kL a&&kL b.Aw) (AP (.b6 a (62:Int) b c))
def mW (a:Ac) (b:Int):Option (Ac×(List BD)):=AY Z9X (.b0 a b)
def lN:Lay:=⟨[1,2,4,6],[KP,KP,KP,KP],[.var k2,.var k2],⟨[OV 3,PQ 0,PQ 1,OV 4],[VA 44 66,VA 44 66]⟩⟩
def Z8d:Lay:=⟨[1,2,4,9,10],[KP,KP,KP,KP,KP],[.var k2,.var k2],⟨[OV 3,PQ 0,PQ 1,OV 3,OV 3],[VA 44 66,VA 44 66]⟩⟩
def Z8e:Lay:=⟨[1,2,4,10],[KP,KP,KP,KP],[.var k2,.var k2],⟨[OV 3,PQ 0,PQ 1,OV 3],[VA 44 66,VA 44 66]⟩⟩
def Z7O:Lay:=⟨[1,2,4,11,12,13,14],[KP,KP,KP,[.own 148 18],KP,[.s 138 8],KP],[.var k2,.var k2,.row true,.var k1],⟨[OV 3,PQ 0,PQ 1,.one (.own 148 2),PQ 3,OV 37,OV 3],[VA 44 66,VA 44 66,.row 148 true,VA 39 20]⟩⟩
def Z8B:Lay:=⟨[2,4,11,16],[KP,KP,[.own 148 18],KP],[.var k10,.var k2,.row true,.row true],⟨[PQ 0,PQ 1,.one (.own 148 2),OV 3],[.var 44 66 (iE 3),VA 44 66,.row 148 true,.row 156 true]⟩⟩
def lQ:Lay:=⟨[2,4,11],[KP,KP,[.own 148 18]],[.var k10,.var k2,.row true,.row true],⟨[PQ 0,PQ 1,.one (.own 148 2)],[.var 44 66 (iE 3),VA 44 66,.row 148 true,.row 156 true]⟩⟩
def Z7G:Lay:=⟨[1,2,4,11,16],[KP,KP,KP,[.own 148 18],KP],[.var k10,.var k2,.row true,.row true],⟨[OV 3,PQ 0,PQ 1,.one (.own 148 2),OV 3],[.var 44 66 (iE 3),VA 44 66,.row 148 true,.row 156 true]⟩⟩
def ZrS:Nat->Option Lay
 | 4=>some lN
 | 9=>some lN
 | 11=>some Z8d
 | 12=>some Z8e
 | 20=>some Z7O
 | 36=>some Z8B
 | 33=>some lQ
 | 34=>some Z7G
 | 35=>some lQ
 | _=>none
def Zqg:YP->Ae U
 | .b0 a b=>Am f30 [44,3] (a,b,())
 | .b1 a b c d=>AA3 f30 [1,1,1,0,0] lN (a,b,c,d,())
 | .b2 a b c d=>AA3 f30 [1,1,1,1,0] lN (a,b,c,d,())
 | .b3 a b c d e=>AA3 f30 [1,1,1,1,1,0,1,0] Z8d (a,b,c,d,e,())
 | .b4 a b c d=>AA3 f30 [1,1,1,1,1,1,0] Z8e (a,b,c,d,())
 | .b5 a b c d e f g=>AA3 f30 [1,1,1,1,1,1,1,1,1,1,1,1,1,0,1,0,0,0,0] Z7O (a,c,d,e,f,b,g,())
 | .b6 b c a d=>Ad f30 [1,1,1,1,1,1,1,1,1,1,1,1,1,1,1,1,1,1,1,0,0] Z8B (((),((),((),((c,()),())))),((Vz a),((d,()),(b,(a.Aw,())))))
 | .b7 b a c=>Ad f30 [1,1,1,1,1,1,1,1,1,1,1,1,1,1,1,1,1,1,0,0,1,1,1,1,1,0] lQ (((),((),((),()))),((Vz a),((c,()),(b,(a.Aw,())))))
 | .b8 b c d a e=>Ad f30 [1,1,1,1,1,1,1,1,1,1,1,1,1,1,1,1,1,1,0,0,1,1,1,1,1,1,0] Z7G (((b,()),((),((),((),((d,()),()))))),((Vz a),((e,()),(c,(a.Aw,())))))
 | .b9 b a c=>Ad f30 [1,1,1,1,1,1,1,1,1,1,1,1,1,1,1,1,1,1,0,0,1,1,1,1,1,1,1,0] lQ (((),((),((),()))),((Vz a),((c,()),(b,(a.Aw,())))))
theorem Zq5:AA1 30 [44,3] 78 (fun x=>mW x.1 x.2.1) rfl:=Ap (mc Z9g (mc Zac (mc Zru (mc ZmX (mc Z7P (mc ZuK (mc ZqI (mc Zp9 (mc Z9o (mc Zmy (mc Zm0 (mc ZaL Af)))))))))))) Ah ZrS Zqg func30 (fun p=>by cases p<;>kernel_rfl) (by kernel_rfl) fun _=>rfl
inductive aF where
 | b0 (a:Ac) (b:BB)
 | b1 (a:Ac) (b:BB) (c:Ac)
def aI:aF->Tr U ((Ac×Int)⊕aF)
 | .b0 b a=>let c:=AP (aF.b1 b a EG);.br (a.CQ != 2) (.br (a.CQ != 1) (AA (b,1)) c) c
 | .b1 a b f=>.bind 45 (Om (⟨0,0,0,b⟩:Be)) (fun(d:Int)=>.br (d != 0) (AA (a,d)) (.br (decide ((↑b.Payload.length:Int)>a.AB.Length)) (AA (a,4)) (.bind 4 (Y2 a.AB) (fun(e:Bool)=>.br e (AA (a,20)) (.bind 189 (YN a.Ag b) (fun(c:Bd×Int)=>.br (c.2 != 0) (AA (a,c.2)) (AA (({ a with Ag:=c.1 }:Ac),(0:Int)))))))))
def o9 (a:Ac) (b:BB):Option (Ac×Int):=AY aI (.b0 a b)
def Z9n:Lay:=⟨[2,3,4],[KP,KP,KP],[.var k2,.var [.keep,.s 5 1],.var k2],⟨[PQ 0,PQ 1,PQ 2],[VA 44 66,VA 68 2,VA 44 66]⟩⟩
def Zus:Nat->Option Lay
 | 3=>some Z9n
 | _=>none
def Zs5:aF->Ae U
 | .b0 a b=>Am f102 [44,68] (a,b,())
 | .b1 a b c=>AA3 f102 [1,1,0] Z9n (a,b,c,())
theorem Ztz:AA1 102 [44,68] 46 (fun x=>o9 x.1 x.2.1) rfl:=Ap (mc Z8R (mc Z98 (mc U4 Af))) Ah Zus Zs5 func102 (fun p=>by cases p<;>kernel_rfl) (by kernel_rfl) fun _=>rfl
inductive Wy where
 | b0 (a:Int)
 | b1 (a:Int)
 | b2 (a:Int)
 | b3 (a:Int)
 | b4 (a:Int)
def kR:Wy->Tr U (Int⊕Wy)
 | .b0 a=>let b:=AP (Wy.b1 a);.br (a==0) (.br (a==0) (AA a) b) (.br (a==1) (.br (a==1) (AA a) b) (.br (a==2) (.br (a==2) (AA a) b) (.br (a==12) (.br (a==12) (AA a) b) (.br (a==15) (AA a) b))))
 | .b1 a=>let c:=AA (8:Int);let b:=AP (Wy.b2 a);.br (a==8) (.br (a==8) c b) (.br (a==9) c b)
 | .b2 a=>let c:=AA (3:Int);let b:=AP (Wy.b3 a);.br (a==3) (.br (a==3) c b) (.br (a==4) (.br (a==4) c b) (.br (a==5) (.br (a==5) c b) (.br (a==6) c b)))
 | .b3 a=>let c:=AA (18:Int);let b:=AP (Wy.b4 a);.br (a==18) (.br (a==18) c b) (.br (a==19) c b)
 | .b4 a=>let c:=AA (-1:Int);let b:=AA (20:Int);.br (a==20) (.br (a==20) b c) (.br (a==21) b c)
def kE (a:Int):Option Int:=AY kR (.b0 a)
def QJ:Lay:=⟨[3],[KP],[],⟨[OV 3],[]⟩⟩
def Zlj:Nat->Option Lay
 | 8=>some QJ
 | 11=>some QJ
 | 16=>some QJ
 | 19=>some QJ
 | _=>none
def Zkg:Wy->Ae U
 | .b0 a=>Am f341 [3] (a,())
 | .b1 a=>AA3 f341 [1,0,1,0,1,1,0,0] QJ (a,())
 | .b2 a=>AA3 f341 [1,0,1,0,1,1,1,1,0,0] QJ (a,())
 | .b3 a=>AA3 f341 [1,0,1,0,1,1,1,1,1,1,0,0] QJ (a,())
 | .b4 a=>AA3 f341 [1,0,1,0,1,1,1,1,1,1,1,1,0,0] QJ (a,())
theorem Zko:AA1 341 [3] 3 (fun x=>kE x.1) rfl:=Ap Af Ah Zlj Zkg func341 (fun p=>by cases p<;>kernel_rfl) (by kernel_rfl) fun _=>rfl
end
noncomputable section
inductive Wq where
 | b0 (a:Int)
def ZX:Wq->Tr U (Bool⊕Wq)
 | .b0 a=>.bind 262 (EF a) (fun(b:Bl)=>.br b.Fg (.bind 3 (kE a) (fun(c:Int)=>AA (c==a))) (AA false))
def Wu (a:Int):Option Bool:=AY ZX (.b0 a)
def ZkQ:Wq->Ae U
 | .b0 a=>Am f268 [3] (a,())
theorem ZkK:AA1 268 [3] 4 (fun x=>Wu x.1) rfl:=Ap (mc QR (mc Zko Af)) Ah AN ZkQ func268 (fun p=>by cases p<;>kernel_rfl) (by kernel_rfl) fun _=>rfl
inductive X7 where
 | b0 (a:A7) (b:AL)
 | b1 (a b:AL)
def mF:X7->Tr U (AL⊕X7)
 | .b0 b a=>let d:=a.Kind==0;let c:=AP (X7.b1 a Fp);.br (a.Kind==8) (AA ({ a with DK:=b.DK }:AL)) (.br (a.Kind==12) (AA ({ a with Version:=11 }:AL)) (.br d (.br d c (AA a)) (.br (a.Kind==1) c (AA a))))
 | .b1 a b=>AA ({ a with CP:=0 }:AL)
def mM (a:A7) (b:AL):Option AL:=AY mF (.b0 a b)
def Z7q:Lay:=⟨[3,4],[KP,KP],[.var k0,.var k0],⟨[PQ 0,PQ 1],[VA 156 15,VA 156 15]⟩⟩
def ZpR:Nat->Option Lay
 | 8=>some Z7q
 | _=>none
def Znb:X7->Ae U
 | .b0 a b=>Am f269 [39,156] (a,b,())
 | .b1 a b=>AA3 f269 [1,0,1,0,1,1,1,1,1,0] Z7q (a,b,())
theorem ZmU:AA1 269 [39,156] 156 (fun x=>mM x.1 x.2.1) rfl:=Ap Af Ah ZpR Znb func269 (fun p=>by cases p<;>kernel_rfl) (by kernel_rfl) fun _=>rfl
inductive Y1 where
 | b0 (a:A7) (b:Int)
 | b1 (a b:Int) (c:A7)
def U9:Y1->Tr U (Bool⊕Y1)
 | .b0 a b=>AP (.b1 b (0:Int) a)
 | .b1 c a b=>.br (decide (a<(↑b.Aa.length:Int))) (.chk (kI a b.Aa) (.bind 156 (b.Aa[(Int.toNat a)]?) (fun(d:AL)=>.br (d.Kind==c) (AA true) (AP (.b1 c (AV (a+1)) b))))) (AA false)
def nX (a:A7) (b:Int):Option Bool:=AY U9 (.b0 a b)
def Z8D:Lay:=⟨[1,2,5],[KP,KP,KP],[.var k1],⟨[OV 3,PQ 0,OV 3],[VA 39 20]⟩⟩
def Zrd:Nat->Option Lay
 | 2=>some Z8D
 | _=>none
def Zqu:Y1->Ae U
 | .b0 a b=>Am f342 [39,3] (a,b,())
 | .b1 a b c=>AA3 f342 [1,0,1,0,0,0,0] Z8D (a,b,c,())
theorem Zor:AA1 342 [39,3] 4 (fun x=>nX x.1 x.2.1) rfl:=Ap Af Ah Zrd Zqu func342 (fun p=>by cases p<;>kernel_rfl) (by kernel_rfl) fun _=>rfl
inductive XI where
 | b0 (a:A7) (b:Int)
 | b1 (a:Int) (b:A7)
 | b2 (a:Int) (b:A7)
def Rl:XI->Tr U (Bool⊕XI)
 | .b0 a b=>.br (a.ER != 0) (AA false) (.br (a.Own==2) (AA false) (AP (.b1 b a)))
 | .b1 a b=>let f:=AP (XI.b2 a b);let d:=Tr.br (a==15) (.br (b.BR != 1) (AA false) f) f;let e:=Tr.br (b.BR != 0) (AA false) d;.bind 4 (Nk a) (fun(c:Bool)=>.br c e (.br (a==3) e d))
 | .b2 b a=>.br (b != 3) (AA true) (.br (a.CJ==0) (.bind 4 (nX a (3:Int)) (fun(c:Bool)=>AA (!c))) (AA false))
def lH (a:A7) (b:Int):Option Bool:=AY Rl (.b0 a b)
def kP:Lay:=⟨[1,2],[KP,KP],[.var k1],⟨[OV 3,PQ 0],[VA 39 20]⟩⟩
def ZnG:Nat->Option Lay
 | 3=>some kP
 | 5=>some kP
 | _=>none
def ZlT:XI->Ae U
 | .b0 a b=>Am f270 [39,3] (a,b,())
 | .b1 a b=>AA3 f270 [1,1,0,0] kP (a,b,())
 | .b2 a b=>AA3 f270 [1,1,1,0] kP (a,b,())
theorem ZlL:AA1 270 [39,3] 4 (fun x=>lH x.1 x.2.1) rfl:=Ap (mc U0 (mc Zor Af)) Ah ZnG ZlT func270 (fun p=>by cases p<;>kernel_rfl) (by kernel_rfl) fun _=>rfl
inductive Xu where
 | b0 (a:A7) (b:AL) (c d:Int)
 | b1 (a b:A7)
 | b2 (a b:Int) (c:A7) (d:AL) (e:A7)
 | b3 (a b:Int) (c:A7) (d:AL) (e:A7)
 | b4 (a:A7) (b:AL) (c:A7)
def ND:Xu->Tr U ((A7×(List AL)×Int)⊕Xu)
 | .b0 a c d e=>let i:=([]:List AL);.bind 4 (Wu c.Kind) (fun(g:Bool)=>.br (!g) (.chk true (AA (a,i,(12:Int)))) (.bind 156 (mM a c) (fun(b:AL)=>let j:=AP (Xu.b2 d e a b Dv);.bind 45 (Nj b) (fun(f:Int)=>.br (f != 0) (.chk true (AA (a,i,f))) (.bind 4 (lH a b.Kind) (fun(h:Bool)=>.br (!h) (.chk true (AA (a,i,(9:Int)))) (.br (b.Kind==12) (.br a.FX (AP (.b1 a Dv)) j) j)))))))
 | .b1 a b=>.chk true (AA (a,([]:List AL),(0:Int)))
 | .b2 d e a b c=>let g:=AP (Xu.b4 a b c);.br (b.Kind==2) (AP (.b3 d e ({ a with Aa:=([]:List AL) }:A7) b c)) (.br (decide (a.Own>=0)) g (.br (decide ((↑a.Aa.length:Int)>0)) g (.bind 4 (bW a b) (fun(f:Bool)=>.br (!f) g (AP (.b3 d e a b c))))))
 | .b3 b c d e f=>.bind 216 (YR d e b c) (fun(a:A7×AL)=>.chk true (AA (a.1,[a.2],(0:Int))))
 | .b4 a b c=>let e:=([]:List AL);let d:=e++a.Aa;.br (decide ((↑a.Aa.length:Int)>=8)) (.chk true (AA (a,e,(8:Int)))) (.chk true (.chk (kA (0+a.Aa.length) 120) (.chk true (kl d (.chk (kA (d.length+1) 120) (kl (d++[b]) (.chk true (AA (({ a with Aa:=(d++[b]) }:A7),e,(0:Int))))))))))
def nH (a:A7) (b:AL) (c d:Int):Option (A7×(List AL)×Int):=AY ND (.b0 a b c d)
def Z8b:Lay:=⟨[4,8],[KP,KP],[.var k1,.var k1],⟨[PQ 0,PQ 1],[VA 39 20,VA 39 20]⟩⟩
def lL:Lay:=⟨[2,3,4,5,8],[KP,KP,KP,KP,KP],[.var k1,.var k0,.var k1],⟨[OV 30,OV 3,PQ 0,PQ 1,PQ 2],[VA 39 20,VA 156 15,VA 39 20]⟩⟩
def Z8l:Lay:=⟨[4,5,8],[KP,KP,KP],[.var k1,.var k0,.var k1],⟨[PQ 0,PQ 1,PQ 2],[VA 39 20,VA 156 15,VA 39 20]⟩⟩
def Zs8:Nat->Option Lay
 | 10=>some Z8b
 | 11=>some lL
 | 18=>some lL
 | 14=>some Z8l
 | _=>none
def Zoz:Xu->Ae U
 | .b0 a b c d=>Am f198 [39,156,30,3] (a,b,c,d,())
 | .b1 a b=>AA3 f198 [1,1,1,1,1,0,1,0,0] Z8b (a,b,())
 | .b2 a b c d e=>AA3 f198 [1,1,1,1,1,1,0,0] lL (a,b,c,d,e,())
 | .b3 a b c d e=>AA3 f198 [1,1,1,1,1,1,1,0] lL (a,b,c,d,e,())
 | .b4 a b c=>AA3 f198 [1,1,1,1,1,1,0,1,1,1,0,0,0] Z8l (a,b,c,())
theorem Zqh:AA1 198 [39,156,30,3] 222 (fun x=>nH x.1 x.2.1 x.2.2.1 x.2.2.2.1) rfl:=Ap (mc Zbu (mc Z96 (mc Z0Y (mc ZkK (mc ZmU (mc ZlL Af)))))) Ah Zs8 Zoz func198 (fun p=>by cases p<;>kernel_rfl) (by kernel_rfl) fun _=>rfl
inductive Y3 where
 | b0 (a:Ac) (b:AL) (c:Int)
def Z1e:Y3->Tr U ((Ac×Int)⊕Y3)
 | .b0 a c d=>let f:=([]:List AL)++a.Aw;.bind 30 (YC a) (fun(e:Int)=>.bind 222 (nH a.AB c e d) (fun(b:A7×(List AL)×Int)=>.br (b.2.2 != 0) (AA (a,b.2.2)) (.chk true (.chk (kA (0+a.Aw.length) 120) (kl f (.chk (kA (f.length+b.2.1.length) 120) (kl (f++b.2.1) (AA (({ a with AB:=b.1,Aw:=(f++b.2.1) }:Ac),(0:Int))))))))))
def Jz (a:Ac) (b:AL) (c:Int):Option (Ac×Int):=AY Z1e (.b0 a b c)
def Zpa:Y3->Ae U
 | .b0 a b c=>Am f103 [44,156,3] (a,b,c,())
theorem ZpP:AA1 103 [44,156,3] 46 (fun x=>Jz x.1 x.2.1 x.2.2.1) rfl:=Ap (mc Z9o (mc Zqh Af)) Ah AN Zpa func103 (fun p=>by cases p<;>kernel_rfl) (by kernel_rfl) fun _=>rfl
inductive X5 where
 | b0 (a:Int)
def Z0I:X5->Tr U (Int⊕X5)
 | .b0 a=>.br (decide (a>2147483647)) (AA (2147483647:Int)) (AA (AV (a)))
def XW (a:Int):Option Int:=AY Z0I (.b0 a)
def ZnQ:X5->Ae U
 | .b0 a=>Am f104 [25] (a,())
theorem Znz:AA1 104 [25] 3 (fun x=>XW x.1) rfl:=Ap Af Ah AN ZnQ func104 (fun p=>by cases p<;>kernel_rfl) (by kernel_rfl) fun _=>rfl
inductive dB where
 | b0 (a:AL)
def Zce:dB->Tr U ((List AL)⊕dB)
 | .b0 a=>.chk true (AA ([a]))
def Lh (a:AL):Option (List AL):=AY Zce (.b0 a)
def ZvM:dB->Ae U
 | .b0 a=>Am f271 [156] (a,())
theorem Ui:AA1 271 [156] 36 (fun x=>Lh x.1) rfl:=Ap Af Ah AN ZvM func271 (fun p=>by cases p<;>kernel_rfl) (by kernel_rfl) fun _=>rfl
inductive XZ where
 | b0 (a:A7) (b:Bool) (c:Int)
 | b1 (a:Bool) (b:Int) (c d:A7)
def Xj:XZ->Tr U ((A7×(List AL))⊕XZ)
 | .b0 a b c=>let d:=Tr.chk true (AA (a,([]:List AL)));.br (a.BR != 1) d (.br (a.ER != 0) d (.br (a.CJ != 1) d (AP (.b1 b c a Dv))))
 | .b1 c a b e=>.br (!c) (.bind 36 (Lh (⟨13,Ba,0,0,6,3,0,0,0,0,0⟩:AL)) (fun(d:List AL)=>AA (({ b with Other:=-1,CJ:=0 }:A7),d))) (.chk true (AA (({ b with CE:=a,CJ:=3 }:A7),[(⟨4,Ba,0,0,0,0,a,0,0,0,0⟩:AL),(⟨5,Ba,0,0,0,0,0,0,0,0,0⟩:AL)])))
def lY (a:A7) (b:Bool) (c:Int):Option (A7×(List AL)):=AY Xj (.b0 a b c)
def Z7D:Lay:=⟨[1,2,3,6],[KP,KP,KP,KP],[.var k1,.var k1],⟨[OV 4,OV 25,PQ 0,PQ 1],[VA 39 20,VA 39 20]⟩⟩
def Zpu:Nat->Option Lay
 | 3=>some Z7D
 | _=>none
def ZmS:XZ->Ae U
 | .b0 a b c=>Am f199 [39,4,25] (a,b,c,())
 | .b1 a b c d=>AA3 f199 [1,1,0,0] Z7D (a,b,c,d,())
theorem Zns:AA1 199 [39,4,25] 140 (fun x=>lY x.1 x.2.1 x.2.2.1) rfl:=Ap (mc Ui Af) Ah Zpu ZmS func199 (fun p=>by cases p<;>kernel_rfl) (by kernel_rfl) fun _=>rfl
inductive Yr where
 | b0 (a:Cm) (b c:Bool)
def Zb1:Yr->Tr U (Cm⊕Yr)
 | .b0 a b c=>AA ({ a with Jq:=b,Jl:=c }:Cm)
def Uf (a:Cm) (b c:Bool):Option Cm:=AY Zb1 (.b0 a b c)
def ZtL:Yr->Ae U
 | .b0 a b c=>Am f200 [41,4,4] (a,b,c,())
theorem Z1l:AA1 200 [41,4,4] 41 (fun x=>Uf x.1 x.2.1 x.2.2.1) rfl:=Ap Af Ah AN ZtL func200 (fun p=>by cases p<;>kernel_rfl) (by kernel_rfl) fun _=>rfl
inductive Xl where
 | b0 (a:Int) (b:ByteArray) (c:List Int)
 | b1 (a:Int) (b c:List Int) (d:Int)
def U5:Xl->Tr U (Int⊕Xl)
 | .b0 b a c=>let d:=J7 U 5 a;let e:=d++[(0:Int)];.chk (Vf U 5 a) (.chk true (kl d (.chk (kA (d.length+1) 1) (kl e (AP (.b1 b c e (0:Int)))))))
 | .b1 d b a c=>.br (decide (c<(↑b.length:Int))) (.chk (kI c b) (.bind 25 (b[(Int.toNat c)]?) (fun(e:Int)=>.bind 1351 (Ox (8:Int) e) (fun(q:KN)=>kl q.q0 (kl a (.chk (kA (a.length+q.q0.length) 1) (kl (a++q.q0) (AP (.b1 d b (a++q.q0) (AV (c+1))))))))))) (kl a (.bind 25 (SE d a) (fun(f:Int)=>AA f)))
def mG (a:Int) (b:ByteArray) (c:List Int):Option Int:=AY U5 (.b0 a b c)
def Z7d:Lay:=⟨[0,2,7,8],[KP,[.s 25 1],[.own 5 1],KP],[.row true],⟨[OV 29,OV 254,.one (.own 5 0),OV 3],[.row 5 true]⟩⟩
def ZoU:Nat->Option Lay
 | 3=>some Z7d
 | _=>none
def ZnJ:Xl->Ae U
 | .b0 a b c=>Am f272 [29,9,254] (a,b,c,())
 | .b1 a b c d=>AA3 f272 [1,1,0,1,0,0,0,0] Z7d (a,b,d,c,())
theorem ZmL:AA1 272 [29,9,254] 29 (fun x=>mG x.1 x.2.1 x.2.2.1) rfl:=Ap (mc Zbk Af) (hc [] oZ Ah) ZoU ZnJ func272 (fun p=>by cases p<;>kernel_rfl) (by kernel_rfl) fun _=>rfl
inductive bT where
 | b0 (a b c d:Int)
def Z2G:bT->Tr U (Cm⊕bT)
 | .b0 d e a b=>let f:=bits .xor .u64 a b;.chk true (.bind 29 (mG e (⟨#[115,101,115,115,105,111,110]⟩:ByteArray) ([a,b])) (fun(c:Int)=>.br (d==1) (AA (⟨1,c,f,false,false,0,0⟩:Cm)) (AA (⟨0,c,f,false,false,0,0⟩:Cm))))
def bJ (a b c d:Int):Option Cm:=AY Z2G (.b0 a b c d)
def Zwk:bT->Ae U
 | .b0 a b c d=>Am f201 [3,29,25,25] (a,b,c,d,())
theorem Zbq:AA1 201 [3,29,25,25] 41 (fun x=>bJ x.1 x.2.1 x.2.2.1 x.2.2.2.1) rfl:=Ap (mc ZmL Af) Ah AN Zwk func201 (fun p=>by cases p<;>kernel_rfl) (by kernel_rfl) fun _=>rfl
inductive bY where
 | b0 (a:Ac) (b:Int)
 | b1 (a:Int) (b c:Ac)
def dF:bY->Tr U ((Ac×Int)⊕bY)
 | .b0 a b=>.br (a.BR != 1) (AA (a,9)) (.br (a.AB.CJ != 1) (AA (a,9)) (AP (.b1 b a EG)))
 | .b1 c a f=>let g:=([]:List AL)++a.Aw;.bind 140 (lY a.AB (c != 0) a.Eg) (fun(b:A7×(List AL))=>let h:=g++b.2;.chk true (.chk (kA (0+a.Aw.length) 120) (kl g (.chk (kA (g.length+b.2.length) 120) (.br (c != 0) (.bind 41 (bJ a.BR c b.1.GK b.1.CE) (fun(d:Cm)=>.bind 41 (Uf d false true) (fun(e:Cm)=>kl h (AA (({ a with AB:=b.1,Dk:=e,Key:=c,Aw:=h }:Ac),(0:Int)))))) (kl h (AA (({ a with AB:=b.1,Aw:=h }:Ac),(0:Int)))))))))
def pM (a:Ac) (b:Int):Option (Ac×Int):=AY dF (.b0 a b)
def Z9M:Lay:=⟨[1,2,4],[KP,KP,KP],[.var k2,.var k2],⟨[OV 29,PQ 0,PQ 1],[VA 44 66,VA 44 66]⟩⟩
def ZwO:Nat->Option Lay
 | 3=>some Z9M
 | _=>none
def Zv7:bY->Ae U
 | .b0 a b=>Am f105 [44,29] (a,b,())
 | .b1 a b c=>AA3 f105 [1,1,0] Z9M (a,b,c,())
theorem Zu3:AA1 105 [44,29] 46 (fun x=>pM x.1 x.2.1) rfl:=Ap (mc Zns (mc Z1l (mc Zbq Af))) Ah ZwO Zv7 func105 (fun p=>by cases p<;>kernel_rfl) (by kernel_rfl) fun _=>rfl
inductive Xz where
 | b0 (a:Int)
def Z1C:Xz->Tr U (Int⊕Xz)
 | .b0 a=>let b:=(if (65536:Int)<a then (65536:Int) else a);AA (if b>0 then b else (0:Int))
def Ol (a:Int):Option Int:=AY Z1C (.b0 a)
def ZpF:Xz->Ae U
 | .b0 a=>Am f205 [3] (a,())
theorem Z0Z:AA1 205 [3] 3 (fun x=>Ol x.1) rfl:=Ap Af Ah AN ZpF func205 (fun p=>by cases p<;>kernel_rfl) (by kernel_rfl) fun _=>rfl
inductive aV where
 | b0 (a:BC)
def Z1S:aV->Tr U (Int⊕aV)
 | .b0 c=>.bind 3 (Ol c.Good) (fun(b:Int)=>.bind 3 (Ol c.FN) (fun(a:Int)=>let d:=AV (b+a);.br (d==0) (AA (0:Int)) (.chk (d != 0) (AA (AV (Int.tdiv (AV (a*1000)) d))))))
def Uk (a:BC):Option Int:=AY Z1S (.b0 a)
def ZsV:aV->Ae U
 | .b0 a=>Am f275 [99] (a,())
theorem Zab:AA1 275 [99] 3 (fun x=>Uk x.1) rfl:=Ap (mc Z0Z Af) Ah AN ZsV func275 (fun p=>by cases p<;>kernel_rfl) (by kernel_rfl) fun _=>rfl
inductive bQ where
 | b0 (a:BC)
def Z2O:bQ->Tr U (Bool⊕bQ)
 | .b0 a=>.bind 3 (Ol a.Good) (fun(b:Int)=>.bind 3 (Ol a.FN) (fun(c:Int)=>.br (decide ((AV (b+c))>=8)) (.bind 3 (Uk a) (fun(d:Int)=>AA (decide (d>=250)))) (AA false)))
def qN (a:BC):Option Bool:=AY Z2O (.b0 a)
def ZwA:bQ->Ae U
 | .b0 a=>Am f273 [99] (a,())
theorem Zvw:AA1 273 [99] 4 (fun x=>qN x.1) rfl:=Ap (mc Z0Z (mc Zab Af)) Ah AN ZwA func273 (fun p=>by cases p<;>kernel_rfl) (by kernel_rfl) fun _=>rfl
inductive dS where
 | b0 (a:List BC) (b:Int)
 | b1 (a:BC)
 | b2 (a:List BC) (b:Int) (c:BC)
def VE:dS->Tr U (BC⊕dS)
 | .b0 b a=>let c:=(⟨0,0⟩:BC);let d:=AP (dS.b1 c);.br (decide (a<0)) d (.br (decide (a>=(↑b.length:Int))) d (AP (.b2 b a c)))
 | .b1 a=>AA (⟨0,0⟩:BC)
 | .b2 a b d=>.chk (kI b a) (.bind 99 (a[(Int.toNat b)]?) (fun(c:BC)=>AA c))
def VL (a:List BC) (b:Int):Option BC:=AY VE (.b0 a b)
def Zbz:Lay:=⟨[4],[KP],[.var [.keep,.keep]],⟨[PQ 0],[VA 99 2]⟩⟩
def Zaw:Lay:=⟨[0,1,4],[[.s 99 2],KP,KP],[.var [.keep,.keep]],⟨[OV 42,OV 3,PQ 0],[VA 99 2]⟩⟩
def ZzQ:Nat->Option Lay
 | 2=>some Zbz
 | 3=>some Zaw
 | _=>none
def Zx3:dS->Ae U
 | .b0 a b=>Am f274 [42,3] (a,b,())
 | .b1 a=>AA3 f274 [1,0,1,0,0] Zbz (a,())
 | .b2 a b c=>AA3 f274 [1,1,0] Zaw (a,b,c,())
theorem ZxI:AA1 274 [42,3] 99 (fun x=>VL x.1 x.2.1) rfl:=Ap Af Ah ZzQ Zx3 func274 (fun p=>by cases p<;>kernel_rfl) (by kernel_rfl) fun _=>rfl
inductive YW where
 | b0 (a:List BC) (b:List Int)
 | b1 (a:List BC) (b:List Int) (c d:Int)
 | b2 (a:List BC) (b:List Int) (c d:Int)
 | b3 (a:List BC) (b:List Int) (c:Int)
def Nr:YW->Tr U (Int⊕YW)
 | .b0 a b=>AP (.b1 a b (-1:Int) (0:Int))
 | .b1 c a d b=>let p:=AP (YW.b3 c a b);let o:=a[(Int.toNat b)]?;let n:=AP (YW.b2 c a d b);.br (decide (b<(↑a.length:Int))) (.chk (kI b a) (.bind 3 o (fun(e:Int)=>.bind 99 (VL c e) (fun(f:BC)=>.bind 4 (qN f) (fun(g:Bool)=>.br (!g) n (.br (decide (d<0)) p (.chk (kI b a) (.bind 3 o (fun(h:Int)=>.bind 99 (VL c h) (fun(i:BC)=>.bind 3 (Uk i) (fun(j:Int)=>.chk (kI d a) (.bind 3 (a[(Int.toNat d)]?) (fun(k:Int)=>.bind 99 (VL c k) (fun(l:BC)=>.bind 3 (Uk l) (fun(m:Int)=>.br (decide (j>m)) p n))))))))))))))) (AA d)
 | .b2 a b c d=>AP (.b1 a b c (AV (d+1)))
 | .b3 b c a=>AP (.b2 b c a a)
def nT (a:List BC) (b:List Int):Option Int:=AY Nr (.b0 a b)
def lM:Lay:=⟨[0,1,5,6],[[.s 99 2],[.s 3 1],KP,KP],[],⟨[OV 42,OV 226,OV 3,OV 3],[]⟩⟩
def Z8c:Lay:=⟨[0,1,6],[[.s 99 2],[.s 3 1],KP],[],⟨[OV 42,OV 226,OV 3],[]⟩⟩
def ZrT:Nat->Option Lay
 | 3=>some lM
 | 4=>some lM
 | 7=>some Z8c
 | _=>none
def Zok:YW->Ae U
 | .b0 a b=>Am f203 [42,226] (a,b,())
 | .b1 a b c d=>AA3 f203 [1,1,0,1,0,0,0,0] lM (a,b,c,d,())
 | .b2 a b c d=>AA3 f203 [1,1,0,1,0,0,1,1] lM (a,b,c,d,())
 | .b3 a b c=>AA3 f203 [1,1,0,1,0,0,1,0,0,1,1,0] Z8c (a,b,c,())
theorem Zol:AA1 203 [42,226] 3 (fun x=>nT x.1 x.2.1) rfl:=Ap (mc Zvw (mc ZxI (mc Zab Af))) Ah ZrT Zok func203 (fun p=>by cases p<;>kernel_rfl) (by kernel_rfl) fun _=>rfl
inductive dN where
 | b0 (a:List Int)
 | b1 (a:List Int) (b c:Int)
def VK:dN->Tr U (Int⊕dN)
 | .b0 a=>AP (.b1 a (0:Int) (0:Int))
 | .b1 a c b=>.br (decide (b<(↑a.length:Int))) (.chk (kI b a) (.bind 3 (a[(Int.toNat b)]?) (fun(d:Int)=>.bind 25 (Ry d) (fun(e:Int)=>AP (.b1 a (IntKind.wrap .u64 (c+e)) (AV (b+1))))))) (AA c)
def qR (a:List Int):Option Int:=AY VK (.b0 a)
def Zbi:Lay:=⟨[0,3,4],[[.s 3 1],KP,KP],[],⟨[OV 226,OV 25,OV 3],[]⟩⟩
def ZA1:Nat->Option Lay
 | 3=>some Zbi
 | _=>none
def ZxX:dN->Ae U
 | .b0 a=>Am f204 [226] (a,())
 | .b1 a b c=>AA3 f204 [1,1,0,1,0,0,0,0] Zbi (a,b,c,())
theorem Zxh:AA1 204 [226] 26 (fun x=>qR x.1) rfl:=Ap (mc Z0H Af) Ah ZA1 ZxX func204 (fun p=>by cases p<;>kernel_rfl) (by kernel_rfl) fun _=>rfl
inductive XV where
 | b0 (a:List BC) (b c:Int)
 | b1 (a:List BC) (b:Int) (c:List Int)
 | b2 (a:List Int)
def Me:XV->Tr U (Int⊕XV)
 | .b0 b c a=>let e:=(if (37:Int)<a then (37:Int) else a);.bind 226 (Ul c) (fun(d:List Int)=>AP (.b1 b (if e>2 then e else (2:Int)) d))
 | .b1 c d a=>let j:=AP (XV.b2 a);let h:=(↑a.length:Int);.br (decide (h>d)) (.bind 3 (nT c a) (fun(b:Int)=>let i:=AV (b+1);let k:=Int.toNat i;let g:=(a.drop 0).take ((Int.toNat b) - 0);let f:=(a.drop k).take (a.length - k);let e:=([]:List Int)++g;.br (decide (b<0)) j (.chk (decide (0<=b/\b<=h)) (.chk true (.chk (kA (0+g.length) 8) (.chk (decide (0<=i/\i<=h)) (kl e (.chk (kA (e.length+f.length) 8) (kl (e++f) (AP (.b1 c d (e++f)))))))))))) j
 | .b2 a=>.bind 26 (qR a) (fun(b:Int)=>AA b)
def lV (a:List BC) (b c:Int):Option Int:=AY Me (.b0 a b c)
def Z78:Lay:=⟨[0,2,7],[[.s 99 2],KP,[.s 3 1]],[],⟨[OV 42,OV 3,OV 226],[]⟩⟩
def Z72:Lay:=⟨[7],[[.s 3 1]],[],⟨[OV 226],[]⟩⟩
def Zng:Nat->Option Lay
 | 3=>some Z78
 | 7=>some Z72
 | _=>none
def Zmx:XV->Ae U
 | .b0 a b c=>Am f106 [42,26,3] (a,b,c,())
 | .b1 a b c=>AA3 f106 [1,1,1,0,0,0,0,0] Z78 (a,b,c,())
 | .b2 a=>AA3 f106 [1,1,1,1,0] Z72 (a,())
theorem ZmB:AA1 106 [42,26,3] 26 (fun x=>lV x.1 x.2.1 x.2.2.1) rfl:=Ap (mc Z1B (mc Zol (mc Zxh Af))) Ah Zng Zmx func106 (fun p=>by cases p<;>kernel_rfl) (by kernel_rfl) fun _=>rfl
inductive YY where
 | b0 (a:List BC)
 | b1 (a b:List BC) (c:Int)
def Ub:YY->Tr U ((List BC)⊕YY)
 | .b0 a=>.chk true (AP (.b1 a ([]:List BC) (0:Int)))
 | .b1 a b c=>let i:=a[(Int.toNat c)]?;.br (decide (c<(↑a.length:Int))) (.chk (kI c a) (.bind 99 i (fun(f:BC)=>.bind 3 (Ol f.Good) (fun(d:Int)=>.chk (kI c a) (.bind 99 i (fun(g:BC)=>.bind 3 (Ol g.FN) (fun(e:Int)=>let h:=b++[(⟨(AV (Int.tdiv d 2)),(AV (Int.tdiv e 2))⟩:BC)];.chk true (kl b (.chk (kA (b.length+1) 16) (kl h (AP (.b1 a h (AV (c+1)))))))))))))) (kl b (AA b))
def nJ (a:List BC):Option (List BC):=AY Ub (.b0 a)
def Z8j:Lay:=⟨[0,3,4],[[.s 99 2],[.own 99 2],KP],[.row true],⟨[OV 42,.one (.own 99 0),OV 3],[.row 99 true]⟩⟩
def Zs9:Nat->Option Lay
 | 3=>some Z8j
 | _=>none
def Zqd:YY->Ae U
 | .b0 a=>Am f107 [42] (a,())
 | .b1 a b c=>AA3 f107 [1,1,0,1,0,0,0,0] Z8j (a,c,b,())
theorem Zp4:AA1 107 [42] 42 (fun x=>nJ x.1) rfl:=Ap (mc Z0Z Af) Ah Zs9 Zqd func107 (fun p=>by cases p<;>kernel_rfl) (by kernel_rfl) fun _=>rfl
inductive dW where
 | b0 (a:Ac) (b:EN) (c:Int)
 | b1 (a:Int) (b c:Ac)
 | b2 (a:Int) (b c:Ac)
def IB:dW->Tr U ((Ac×Int)⊕dW)
 | .b0 a b e=>let t:=XW b.Number;.br (a.Bq != 0) (AA (a,9)) (.br (b.Kind==1) (.bind 46 (o9 a b.BU) (fun(k:Ac×Int)=>AA (k.1,k.2))) (.br (b.Kind==2) (.bind 46 (Jz a (⟨0,b.BG,0,0,0,0,0,0,0,0,0⟩:AL) e) (fun(l:Ac×Int)=>AA (l.1,l.2))) (.br (b.Kind==3) (.bind 46 (Jz a (⟨1,Ba,b.Map,0,0,0,0,0,0,0,0⟩:AL) e) (fun(m:Ac×Int)=>AA (m.1,m.2))) (.br (b.Kind==4) (.bind 3 t (fun(r:Int)=>.bind 46 (Jz a (⟨2,Ba,0,0,r,0,0,0,0,0,0⟩:AL) e) (fun(n:Ac×Int)=>AA (n.1,n.2)))) (.br (b.Kind==6) (.bind 46 (Jz a (⟨8,Ba,0,0,0,0,0,0,63,0,0⟩:AL) e) (fun(o:Ac×Int)=>AA (o.1,o.2))) (.br (b.Kind==7) (.bind 46 (Jz a (⟨12,Ba,0,0,0,0,0,0,0,11,0⟩:AL) e) (fun(p:Ac×Int)=>AA (p.1,p.2))) (.br (b.Kind==8) (.bind 46 (Jz a (⟨18,Ba,0,0,0,0,0,0,0,0,0⟩:AL) e) (fun(q:Ac×Int)=>AA (q.1,q.2))) (.br (b.Kind==9) (.bind 3 t (fun(s:Int)=>.bind 46 (Jz a (⟨20,Ba,0,0,0,0,0,0,0,0,s⟩:AL) e) (fun(f:Ac×Int)=>AA (f.1,f.2)))) (.br (b.Kind==12) (.bind 46 (Jz a (⟨15,b.BG,0,0,0,0,0,0,0,0,0⟩:AL) e) (fun(g:Ac×Int)=>AA (g.1,g.2))) (.br (b.Kind==5) (.br (b.Key==0) (AA (a,17)) (.bind 46 (Jz a (⟨3,Ba,0,0,0,0,a.Eg,b.Number,0,0,0⟩:AL) e) (fun(c:Ac×Int)=>.br (c.2==0) (AP (.b1 c.2 EG ({ c.1 with Key:=b.Key }:Ac))) (AP (.b1 c.2 EG c.1))))) (.br (b.Kind==10) (.bind 46 (pM a b.Key) (fun(h:Ac×Int)=>AA (h.1,h.2))) (.br (b.Kind==13) (.br (a.BR != 0) (AA (a,9)) (.bind 26 (lV a.BI a.CZ.Map (2:Int)) (fun(i:Int)=>.br (i==a.CZ.Map) (AA (a,0)) (.bind 46 (Jz a (⟨1,Ba,i,0,0,0,0,0,0,0,0⟩:AL) e) (fun(d:Ac×Int)=>.br (d.2==0) (.bind 42 (nJ a.BI) (fun(j:List BC)=>AP (.b2 d.2 EG ({ d.1 with BI:=j }:Ac)))) (AP (.b2 d.2 EG d.1))))))) (AA (a,12))))))))))))))
 | .b1 a c b=>AA (b,a)
 | .b2 a c b=>AA (b,a)
def Nz (a:Ac) (b:EN) (c:Int):Option (Ac×Int):=AY IB (.b0 a b c)
def Zbj:Lay:=⟨[6,8,9],[KP,KP,KP],[.var k2,.var k2],⟨[PQ 0,PQ 1,OV 45],[VA 44 66,VA 44 66]⟩⟩
def Zaz:Lay:=⟨[6,11,12],[KP,KP,KP],[.var k2,.var k2],⟨[PQ 0,PQ 1,OV 45],[VA 44 66,VA 44 66]⟩⟩
def ZzK:Nat->Option Lay
 | 28=>some Zbj
 | 40=>some Zaz
 | _=>none
def ZxO:dW->Ae U
 | .b0 a b c=>Am f33 [44,83,3] (a,b,c,())
 | .b1 a b c=>AA3 f33 [1,1,0,1,0,1,1,1,1,1,1,1,1,1,1,1,1,1,1,1,1,1,1,1,0,1,1,1,0] Zbj (a,b,c,())
 | .b2 a b c=>AA3 f33 [1,1,0,1,0,1,1,1,1,1,1,1,1,1,1,1,1,1,1,1,1,1,1,1,1,1,1,1,0,1,1,1,1,1,0] Zaz (a,b,c,())
theorem Zca:AA1 33 [44,83,3] 46 (fun x=>Nz x.1 x.2.1 x.2.2.1) rfl:=Ap (mc Ztz (mc ZpP (mc Znz (mc Zu3 (mc ZmB (mc Zp4 Af)))))) Ah ZzK ZxO func33 (fun p=>by cases p<;>kernel_rfl) (by kernel_rfl) fun _=>rfl
end
end Go.Proofs.YtjodhcdmhobmoaaGreatDoor
