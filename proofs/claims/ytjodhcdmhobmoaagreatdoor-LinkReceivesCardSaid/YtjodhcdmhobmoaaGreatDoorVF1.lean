/- A part of it. -/
import Derived.Test.YtjodhcdmhobmoaaGreatDoorVUn
set_option linter.unusedVariables false
set_option linter.unusedSimpArgs false
namespace Go.Proofs.YtjodhcdmhobmoaaGreatDoor
open Tryz
open Go Go.Proofs.YtjodhcdmhobmoaaGreatDoor.Le
set_option maxRecDepth 100000
noncomputable section
def Z8M:S1 (Aq×Aq×Unit) Bool
 | (a,b,_)=>.br (a.BP==b.BP) (.chk (Jm U 5 a.Payload) (.chk (Jm U 5 b.Payload) (AB ((strOf U 5 a.Payload).toList==(strOf U 5 b.Payload).toList)))) (AB false)
def pW (a b:Aq):Option Bool:=AU Z8M (a,b,())
theorem Z8E:AA1 26 [68,68] 4 (fun x=>pW x.1 x.2.1) rfl:=ok1 Ae Af func26 (fun _=>by kernel_rfl) (by kernel_rfl)
inductive Z0G where
 | b0 (a b:List Aq)
 | b1 (a b:List Aq) (c:Int)
def aO:Z0G->Tr U (Bool⊕Z0G)
 | .b0 a b=>.br ((↑a.length:Int) != (↑b.length:Int)) (AB false) (AP (.b1 a b (0:Int)))
 | .b1 b c a=>let g:=Int.toNat a;.br (decide (a<(↑b.length:Int))) (.chk (kI a b) (.bind 68 (b[g]?) (fun(d:Aq)=>.chk (kI a c) (.bind 68 (c[g]?) (fun(e:Aq)=>.bind 4 (pW d e) (fun(f:Bool)=>.br (!f) (AB false) (AP (.b1 b c (AQ (a+1)))))))))) (AB true)
def Z0E (a b:List Aq):Option Bool:=AU aO (.b0 a b)
def Z7T:Lay:=LT [0,1,5] [.v 31,.v 31,.v 3] []
def ZlW:Z0G->BC U
 | .b0 a b=>Bd f49 [31,31] (a,b,())
 | .b1 a b c=>AA3 f49 [1,1,0,1,0,0,0,0] Z7T (a,b,c,())
theorem ZlQ:AA1 49 [31,31] 4 (fun x=>Z0E x.1 x.2.1) rfl:=Bh (mc Z8E Ae) Af (al [(4,Z7T)]) ZlW func49 (fun p=>by cases p<;>kernel_rfl) (by kernel_rfl) fun _=>rfl
inductive Z0m where
 | b0 (a b:List AO)
 | b1 (a b:List AO) (c:Int)
def aF:Z0m->Tr U (Bool⊕Z0m)
 | .b0 a b=>.br ((↑a.length:Int) != (↑b.length:Int)) (AB false) (AP (.b1 a b (0:Int)))
 | .b1 b c a=>let f:=Int.toNat a;.br (decide (a<(↑b.length:Int))) (.chk (kI a b) (.bind 156 (b[f]?) (fun(d:AO)=>.chk (kI a c) (.bind 156 (c[f]?) (fun(e:AO)=>.br (!(Vm d e)) (AB false) (AP (.b1 b c (AQ (a+1))))))))) (AB true)
def oO (a b:List AO):Option Bool:=AU aF (.b0 a b)
def Z7p:Lay:=LT [0,1,5] [.v 36,.v 36,.v 3] []
def ZkI:Z0m->BC U
 | .b0 a b=>Bd f51 [36,36] (a,b,())
 | .b1 a b c=>AA3 f51 [1,1,0,1,0,0,0,0] Z7p (a,b,c,())
theorem Z7Y:AA1 51 [36,36] 4 (fun x=>oO x.1 x.2.1) rfl:=Bh Ae Af (al [(4,Z7p)]) ZkI func51 (fun p=>by cases p<;>kernel_rfl) (by kernel_rfl) fun _=>rfl
inductive Z1l where
 | b0 (a b:A7)
 | b1 (a b:A7)
 | b2 (a:Int) (b c:A7)
def aU:Z1l->Tr U (Bool⊕Z1l)
 | .b0 a b=>.bind 4 (oO a.Ah b.Ah) (fun(c:Bool)=>.br (!c) (AB false) (.br ((↑a.Ak.length:Int) != (↑b.Ak.length:Int)) (AB false) (AP (.b1 a b))))
 | .b1 a b=>AP (.b2 (0:Int) a b)
 | .b2 e a b=>let g:=Int.toNat e;let f:=AB false;.br (decide (e<(↑a.Ak.length:Int))) (.chk (kI e a.Ak) (.bind 138 (a.Ak[g]?) (fun(c:BG)=>.chk (kI e b.Ak) (.bind 138 (b.Ak[g]?) (fun(d:BG)=>.br (!((c.Kind==d.Kind)&&((c.Ci==d.Ci)&&((c.BB.EK==d.BB.EK)&&((c.BB.Dx==d.BB.Dx)&&((c.BB.D9==d.BB.D9)&&((c.BB.Dh==d.BB.Dh)&&((c.BB.ER==d.BB.ER)&&((c.Map==d.Map)&&true))))))))) f (AP (.b2 (AQ (e+1)) a b))))))) (.br (a.BK==b.BK) (.br (a.Own==b.Own) (.br (a.Since==b.Since) (.br (a.Other==b.Other) (.br (a.Ez==b.Ez) (.br (a.Bv==b.Bv) (.br (a.Hl==b.Hl) (.br (a.FI==b.FI) (.br (a.Told==b.Told) (.br (a.FY==b.FY) (.br (a.Version==b.Version) (.br (a.Length==b.Length) (.br (a.Limit==b.Limit) (.br (a.Bj==b.Bj) (.br (a.F5==b.F5) (.br (a.Mark==b.Mark) (.br (a.CP==b.CP) (AB (a.Bz==b.Bz)) f) f) f) f) f) f) f) f) f) f) f) f) f) f) f) f) f)
def Z17 (a b:A7):Option Bool:=AU aU (.b0 a b)
def Z8F:Lay:=LT [2,3] [.p 0,.p 1] [.s 39,.s 39]
def Z8y:Lay:=LT [2,3,5] [.p 0,.p 1,.v 3] [.s 39,.s 39]
def Znw:Z1l->BC U
 | .b0 a b=>Bd f50 [39,39] (a,b,())
 | .b1 a b=>AA3 f50 [1,1,0,0] Z8F (a,b,())
 | .b2 a b c=>AA3 f50 [1,1,0,1,0,0,0,0] Z8y (a,b,c,())
theorem ZnY:AA1 50 [39,39] 4 (fun x=>Z17 x.1 x.2.1) rfl:=Bh (mc Z7Y Ae) Af (al [(3,Z8F),(4,Z8y)]) Znw func50 (fun p=>by cases p<;>kernel_rfl) (by kernel_rfl) fun _=>rfl
inductive Z3e where
 | b0 (a b:Ac)
 | b1 (a:Int) (b c:Ac)
 | b2 (a b:Ac)
 | b3 (a b:Ac)
 | b4 (a b:Ac)
def O5:Z3e->Tr U (Bool⊕Z3e)
 | .b0 a b=>.br ((↑a.CX.length:Int) != (↑b.CX.length:Int)) (AB false) (AP (.b1 (0:Int) a b))
 | .b1 c a b=>let h:=Int.toNat c;let g:=AB false;.br (decide (c<(↑a.CX.length:Int))) (.chk (kI c a.CX) (.bind 99 (a.CX[h]?) (fun(d:BJ)=>.chk (kI c b.CX) (.bind 99 (b.CX[h]?) (fun(e:BJ)=>.br (!((d.Good==e.Good)&&((d.IY==e.IY)&&true))) g (AP (.b1 (AQ (c+1)) a b))))))) (.br (a.Ar.SN != b.Ar.SN) g (.br (a.Ar.DX != b.Ar.DX) g (.bind 4 (Z0E a.Ar.Az b.Ar.Az) (fun(f:Bool)=>.br (!f) g (.br (!(a.Ar.Open==b.Ar.Open)) g (.br (!(a.Ar.Empty==b.Ar.Empty)) g (.br (a.Ar.Di != b.Ar.Di) g (.br (a.Ar.Taken != b.Ar.Taken) g (AP (.b2 a b))))))))))
 | .b2 a b=>let c:=AB false;.br (a.BK != b.BK) c (.br (!((a.DR.Il==b.DR.Il)&&((a.DR.LJ==b.DR.LJ)&&((a.DR.BB.EK==b.DR.BB.EK)&&((a.DR.BB.Dx==b.DR.BB.Dx)&&((a.DR.BB.D9==b.DR.BB.D9)&&((a.DR.BB.Dh==b.DR.BB.Dh)&&((a.DR.BB.ER==b.DR.BB.ER)&&((a.DR.Map==b.DR.Map)&&((a.DR.Hop==b.DR.Hop)&&((a.DR.mQ==b.DR.mQ)&&((a.DR.MH==b.DR.MH)&&true)))))))))))) c (.br (a.Clock != b.Clock) c (.br (a.Event != b.Event) c (.br (a.Last != b.Last) c (.br (a.Fp != b.Fp) c (.br (a.Size != b.Size) c (.br (a.Sync != b.Sync) c (.br (a.IB != b.IB) c (AP (.b3 a b))))))))))
 | .b3 a b=>let c:=AB false;.br (!(a.Hq==b.Hq)) c (.br (!(a.FO==b.FO)) c (.br (!(a.Good==b.Good)) c (.br (!(a.Di==b.Di)) c (.br (!(a.More==b.More)) c (.br (!((a.Gj.Dh==b.Gj.Dh)&&((a.Gj.VJ==b.Gj.VJ)&&((a.Gj.Full==b.Gj.Full)&&true)))) c (.br (!((a.Bq.BK==b.Bq.BK)&&((a.Bq.Key==b.Bq.Key)&&((a.Bq.Bj==b.Bq.Bj)&&((a.Bq.Gf==b.Bq.Gf)&&((a.Bq.Eg==b.Bq.Eg)&&((a.Bq.Tx==b.Bq.Tx)&&((a.Bq.Rx==b.Bq.Rx)&&true)))))))) c (AP (.b4 a b))))))))
 | .b4 a b=>let e:=AB false;.bind 4 (Z17 a.AA b.AA) (fun(c:Bool)=>.br c (.br (a.Key==b.Key) (.bind 4 (oO a.Ag b.Ag) (fun(d:Bool)=>.br d (.br (a.Bl==b.Bl) (AB (a.IC==b.IC)) e) e)) e) e)
def Z35 (a b:Ac):Option Bool:=AU O5 (.b0 a b)
def ZbV:Lay:=LT [2,3,5] [.p 0,.p 1,.v 3] [.s 44,.s 44]
def XE:Lay:=LT [2,3] [.p 0,.p 1] [.s 44,.s 44]
def Zvm:Z3e->BC U
 | .b0 a b=>Bd f13 [44,44] (a,b,())
 | .b1 a b c=>AA3 f13 [1,1,0,1,0,0,0,0] ZbV (a,b,c,())
 | .b2 a b=>AA3 f13 [1,1,1,1,1,0,0] XE (a,b,())
 | .b3 a b=>AA3 f13 [1,1,1,1,1,1,0,0] XE (a,b,())
 | .b4 a b=>AA3 f13 [1,1,1,1,1,1,1,0] XE (a,b,())
theorem ZtW:AA1 13 [44,44] 4 (fun x=>Z35 x.1 x.2.1) rfl:=Bh (mc ZlQ (mc ZnY (mc Z7Y Ae))) Af (al [(4,ZbV),(11,XE),(13,XE),(15,XE)]) Zvm func13 (fun p=>by cases p<;>kernel_rfl) (by kernel_rfl) fun _=>rfl
theorem Z6U:TB Tryz.prog 145 1 1 5:=wV TL (t:=62) (tb:=4) (e:=5) func145 (by kernel_rfl) (by kernel_rfl) (by kernel_rfl) (by kernel_rfl) (by kernel_rfl) (by kernel_rfl) (by kernel_rfl) (by decide)
def KT (a:List Int):Option OX:=if a.length*1<=lim/\a.length<=maxLen then some ⟨a⟩ else none
def Zkg:Shape:=⟨[OV 62],[]⟩
def ZQ:Shape:=⟨[.one (.own 5 0)],[.row 5 true]⟩
noncomputable def oD:HMod U:={ fa:=[[.s 5 1]],fb:=[],Dt:=Zkg,KF:=ZQ,one:=true,ky:=1344,Oq:=fun(y:OX)=>(((),()),(y.q0,())),fn:=fun x=>KT x.1.1.1,ok:=okS rfl }
theorem UI:DK Tryz.prog B0 145 oD:=vU Z6U fun x y hx=>by
 simp only[oD,KT]at hx;split at hx
 ·rename_i h;cases hx;exact⟨_,rfl,rfl,by simp[oD,HMod.out,ZQ,Shape.enc,Jr,KJ,J6,Ea,Ib,AY],by simp[oD,HMod.out,ZQ,Shape.enc,Jr,KJ,J6,Ea,Ib,BN,DF,CB],by simpa using h.1,by simpa using h.2⟩
 ·cases hx
theorem Z6x:TB Tryz.prog 146 15 120 156:=wV TL (t:=36) (tb:=4) (e:=156) func146 (by kernel_rfl) (by kernel_rfl) (by kernel_rfl) (by kernel_rfl) (by kernel_rfl) (by kernel_rfl) (by kernel_rfl) (by decide)
def UF (a:List AO):Option Rk:=if a.length*120<=lim/\a.length<=maxLen then some ⟨a⟩ else none
def Zjg:Shape:=⟨[OV 36],[]⟩
def Zw:Shape:=⟨[.one (.own 156 0)],[.row 156 true]⟩
noncomputable def nO:HMod U:={ fa:=[[.s 156 15]],fb:=[],Dt:=Zjg,KF:=Zw,one:=true,ky:=1345,Oq:=fun(y:Rk)=>(((),()),(y.q0,())),fn:=fun x=>UF x.1.1.1,ok:=okS rfl }
theorem Z6Y:DK Tryz.prog B0 146 nO:=vU Z6x fun x y hx=>by
 simp only[nO,UF]at hx;split at hx
 ·rename_i h;cases hx;exact⟨_,rfl,rfl,by simp[nO,HMod.out,Zw,Shape.enc,Jr,KJ,J6,Ea,Ib,AY],by simp[nO,HMod.out,Zw,Shape.enc,Jr,KJ,J6,Ea,Ib,BN,DF,CB],by simpa using h.1,by simpa using h.2⟩
 ·cases hx
theorem Z6A:TB Tryz.prog 147 8 64 138:=wV TL (t:=37) (tb:=4) (e:=138) func147 (by kernel_rfl) (by kernel_rfl) (by kernel_rfl) (by kernel_rfl) (by kernel_rfl) (by kernel_rfl) (by kernel_rfl) (by decide)
def Ro (a:List BG):Option Rl:=if a.length*64<=lim/\a.length<=maxLen then some ⟨a⟩ else none
def ZjA:Shape:=⟨[OV 37],[]⟩
def Zz:Shape:=⟨[.one (.own 138 0)],[.row 138 true]⟩
noncomputable def nP:HMod U:={ fa:=[[.s 138 8]],fb:=[],Dt:=ZjA,KF:=Zz,one:=true,ky:=1346,Oq:=fun(y:Rl)=>(((),()),(y.q0,())),fn:=fun x=>Ro x.1.1.1,ok:=okS rfl }
theorem ZN:DK Tryz.prog B0 147 nP:=vU Z6A fun x y hx=>by
 simp only[nP,Ro]at hx;split at hx
 ·rename_i h;cases hx;exact⟨_,rfl,rfl,by simp[nP,HMod.out,Zz,Shape.enc,Jr,KJ,J6,Ea,Ib,AY],by simp[nP,HMod.out,Zz,Shape.enc,Jr,KJ,J6,Ea,Ib,BN,DF,CB],by simpa using h.1,by simpa using h.2⟩
 ·cases hx
theorem Z6R:TB Tryz.prog 148 2 16 99:=wV TL (t:=42) (tb:=4) (e:=99) func148 (by kernel_rfl) (by kernel_rfl) (by kernel_rfl) (by kernel_rfl) (by kernel_rfl) (by kernel_rfl) (by kernel_rfl) (by decide)
def nX (a:List BJ):Option Yu:=if a.length*16<=lim/\a.length<=maxLen then some ⟨a⟩ else none
def ZjP:Shape:=⟨[OV 42],[]⟩
def ZL:Shape:=⟨[.one (.own 99 0)],[.row 99 true]⟩
noncomputable def nY:HMod U:={ fa:=[[.s 99 2]],fb:=[],Dt:=ZjP,KF:=ZL,one:=true,ky:=1347,Oq:=fun(y:Yu)=>(((),()),(y.q0,())),fn:=fun x=>nX x.1.1.1,ok:=okS rfl }
theorem ZjW:DK Tryz.prog B0 148 nY:=vU Z6R fun x y hx=>by
 simp only[nY,nX]at hx;split at hx
 ·rename_i h;cases hx;exact⟨_,rfl,rfl,by simp[nY,HMod.out,ZL,Shape.enc,Jr,KJ,J6,Ea,Ib,AY],by simp[nY,HMod.out,ZL,Shape.enc,Jr,KJ,J6,Ea,Ib,BN,DF,CB],by simpa using h.1,by simpa using h.2⟩
 ·cases hx
end
noncomputable def ZaA:Option Bool:=some true
noncomputable def ZaX:Aj U:={ ts:=[],rt:=4,fn:=fun _=>ZaA,ok:=by decide }
theorem Zpq:xK Tryz.prog gl [11,14,15,17,19,22,27,28,37,38,39,40,41,42,52,53,55,57,58,62,63,64,65,66,67,68,78,79,122,123,124,125,126,133,134,135,136,137,143,149,150,152,153,154,155,156,158,159,160,161,218,219,222,223,230,231,232,235,236,237,238,287,321,379,380,381] (fun g=>!([62,63,64,158,159,160,235].contains g)) [(65,9),(62,5)] [(145,1,1,5),(146,15,120,156),(147,8,64,138),(148,2,16,99)]=true:=by kernel_rfl
theorem Zp9:AA0 14 ZaX:=ZAl rfl TL Zpq (fun p hp=>by simp only[List.mem_cons,List.not_mem_nil,or_false]at hp;rcases hp with rfl|rfl|rfl|rfl<;>first|exact Z6U|exact Z6x|exact Z6A|exact Z6R) (by rfl) (by decide) rfl func14 (by kernel_rfl) (n:=60) (m:=ZaX) rfl (a:=true) (fun _=>rfl) (by kernel_rfl)
noncomputable section
def Z2k:S1 (Int×Int×Int×Unit) Bool
 | (a,b,c,_)=>.br (decide (a>=b)) (AB (decide (a<=c))) (AB false)
def PH (a b c:Int):Option Bool:=AU Z2k (a,b,c,())
theorem Zaa:AA1 129 [3,3,3] 4 (fun x=>PH x.1 x.2.1 x.2.2.1) rfl:=ok1 Ae Af func129 (fun _=>by kernel_rfl) (by kernel_rfl)
inductive aI where
 | b0 (a:D5)
 | b1 (a:D5)
def pK:aI->Tr U (Int⊕aI)
 | .b0 a=>let g:=AB (5:Int);.bind 4 (PH a.EK (1:Int) (8:Int)) (fun(b:Bool)=>.br (!b) g (.bind 4 (PH a.Dx (0:Int) (3200:Int)) (fun(c:Bool)=>.br (!c) g (.bind 4 (PH a.D9 (6:Int) (3200:Int)) (fun(d:Bool)=>.br (!d) g (.bind 4 (PH a.Dh (0:Int) (499:Int)) (fun(e:Bool)=>.br (!e) g (.bind 4 (PH a.ER (10:Int) (3200:Int)) (fun(f:Bool)=>.br (!f) g (AP (.b1 a)))))))))))
 | .b1 a=>let b:=AB (11:Int);.br (decide (a.EK>=a.D9)) b (.br (decide (a.Dx>a.D9)) b (.br (decide ((AQ (a.ER*10000))<=(AQ ((AQ ((AQ ((2:Int)*(AQ (a.Dh+1))))*a.D9))*1250)))) b (AB (0:Int))))
def aJ (a:D5):Option Int:=AU pK (.b0 a)
def Z7K:Lay:=LT [1] [.p 0] [.s 24]
def ZmB:aI->BC U
 | .b0 a=>Bd f127 [24] (a,())
 | .b1 a=>AA3 f127 [1,1,0,0] Z7K (a,())
theorem Z8c:AA1 127 [24] 45 (fun x=>aJ x.1) rfl:=Bh (mc Zaa Ae) Af (al [(3,Z7K)]) ZmB func127 (fun p=>by cases p<;>kernel_rfl) (by kernel_rfl) fun _=>rfl
inductive eU where
 | b0 (a:Int)
 | b1 (a b c:Int)
def XO:eU->Tr U (Int⊕eU)
 | .b0 a=>AP (.b1 a (1:Int) (0:Int))
 | .b1 a b c=>.br (decide (c<a)) (AP (.b1 a (IntKind.wrap .u64 (b*2)) (AQ (c+1)))) (AB b)
def Uk (a:Int):Option Int:=AU XO (.b0 a)
def Zak:Lay:=LT [0,3,4] [.v 3,.v 25,.v 3] []
def ZsL:eU->BC U
 | .b0 a=>Bd f220 [3] (a,())
 | .b1 a b c=>AA3 f220 [1,1,0,1,0,0,0,0] Zak (a,b,c,())
theorem Z2e:AA1 220 [3] 25 (fun x=>Uk x.1) rfl:=Bh Ae Af (al [(3,Zak)]) ZsL func220 (fun p=>by cases p<;>kernel_rfl) (by kernel_rfl) fun _=>rfl
def Z3P:S1 (Int×Int×Unit) Bool
 | (c,a,_)=>.br (decide (a>=0)) (.br (decide (a<=36)) (.bind 25 (Uk a) (fun(b:Int)=>.chk (b != 0) (AB ((Int.tmod (IntKind.wrap .u64 (Int.tdiv c b)) 2)==1)))) (AB false)) (AB false)
def X9 (a b:Int):Option Bool:=AU Z3P (a,b,())
theorem Z3i:AA1 225 [26,3] 4 (fun x=>X9 x.1 x.2.1) rfl:=ok1 (mc Z2e Ae) Af func225 (fun _=>by kernel_rfl) (by kernel_rfl)
inductive fV where
 | b0 (a:Int)
 | b1 (a:Int) (b:List Int) (c:Int)
 | b2 (a:Int) (b:List Int) (c:Int)
def Q4:fV->Tr U ((List Int)⊕fV)
 | .b0 a=>.chk true (AP (.b1 a ([]:List Int) (0:Int)))
 | .b1 c a b=>.br (decide (b<=36)) (.bind 4 (X9 c b) (fun(d:Bool)=>.br d (.chk true (kl a (.chk (kA (a.length+1) 8) (kl (a++[b]) (AP (.b2 c (a++[b]) b)))))) (kl a (AP (.b2 c a b))))) (kl a (AB a))
 | .b2 b a c=>kl a (AP (.b1 b a (AQ (c+1))))
def X0 (a:Int):Option (List Int):=AU Q4 (.b0 a)
def rU:Lay:=LT [0,3,4] [.v 26,.o 3 1 0,.v 3] [.r 3]
def ZuL:fV->BC U
 | .b0 a=>Bd f202 [26] (a,())
 | .b1 a b c=>AA3 f202 [1,1,0,1,0,0,0,0] rU (a,c,b,())
 | .b2 a b c=>AA3 f202 [1,1,0,1,0,0,1,1] rU (a,c,b,())
theorem Z2T:AA1 202 [26] 226 (fun x=>X0 x.1) rfl:=Bh (mc Z3i Ae) Af (al [(3,rU),(4,rU)]) ZuL func202 (fun p=>by cases p<;>kernel_rfl) (by kernel_rfl) fun _=>rfl
def Z2l:S1 (Int×Unit) Int
 | (a,_)=>.bind 226 (X0 a) (fun(b:List Int)=>AB (↑b.length:Int))
def XQ (a:Int):Option Int:=AU Z2l (a,())
theorem Z1X:AA1 221 [26] 3 (fun x=>XQ x.1) rfl:=ok1 (mc Z2T Ae) Af func221 (fun _=>by kernel_rfl) (by kernel_rfl)
def Z2E:S1 (Int×Unit) Int
 | (a,_)=>.bind 25 (Uk (37:Int)) (fun(b:Int)=>.br (decide (a>=b)) (AB (5:Int)) (.bind 3 (XQ a) (fun(c:Int)=>.br (decide (c<2)) (AB (1:Int)) (AB (0:Int)))))
def fC (a:Int):Option Int:=AU Z2E (a,())
theorem Zb9:AA1 128 [26] 45 (fun x=>fC x.1) rfl:=ok1 (mc Z2e (mc Z1X Ae)) Af func128 (fun _=>by kernel_rfl) (by kernel_rfl)
inductive dZ where
 | b0 (a:FW)
 | b1 (a:FW)
 | b2 (a:FW)
def ZbX:dZ->Tr U (Int⊕dZ)
 | .b0 a=>let b:=AB (1:Int);.br (a.Il==0) b (.br (a.Il==2391391958) b (AP (.b1 a)))
 | .b1 a=>let f:=AB (5:Int);.br (decide (a.LJ>=16777216)) f (.bind 45 (aJ a.BB) (fun(b:Int)=>.br (b != 0) (AB b) (.bind 45 (fC a.Map) (fun(c:Int)=>.br (c != 0) (AB c) (.bind 4 (PH a.Hop (5:Int) (16:Int)) (fun(d:Bool)=>.br (!d) f (.bind 4 (PH a.mQ (0:Int) (500:Int)) (fun(e:Bool)=>.br (!e) f (AP (.b2 a))))))))))
 | .b2 a=>let b:=AB (0:Int);.br (a.MH != 1) (.br (a.MH != 2) (AB (12:Int)) b) b
def Z2W (a:FW):Option Int:=AU ZbX (.b0 a)
def rE:Lay:=LT [1] [.p 0] [.s 28]
def Zs1:dZ->BC U
 | .b0 a=>Bd f43 [28] (a,())
 | .b1 a=>AA3 f43 [1,1,0,0] rE (a,())
 | .b2 a=>AA3 f43 [1,1,1,1,1,1,0,0] rE (a,())
theorem Zrk:AA1 43 [28] 45 (fun x=>Z2W x.1) rfl:=Bh (mc Z8c (mc Zb9 (mc Zaa Ae))) Af (al [(3,rE),(13,rE)]) Zs1 func43 (fun p=>by cases p<;>kernel_rfl) (by kernel_rfl) fun _=>rfl
def Zal:S1 (Int×Int×Int×Unit) Int
 | (a,c,b,_)=>let d:=if b<a then b else a;AB (if d>c then d else c)
def XC (a b c:Int):Option Int:=AU Zal (a,b,c,())
theorem qR:AA1 192 [3,3,3] 3 (fun x=>XC x.1 x.2.1 x.2.2.1) rfl:=ok1 Ae Af func192 (fun _=>by kernel_rfl) (by kernel_rfl)
def Zck:S1 (Int×Unit) Int
 | (a,_)=>.bind 3 (XC a (0:Int) (4398046511104:Int)) (fun(b:Int)=>AB b)
def Z2R (a:Int):Option Int:=AU Zck (a,())
theorem ZrN:AA1 130 [3] 3 (fun x=>Z2R x.1) rfl:=ok1 (mc qR Ae) Af func130 (fun _=>by kernel_rfl) (by kernel_rfl)
def Zbt:S1 (D5×Unit) Int
 | (a,_)=>.bind 3 (XC a.Dx (0:Int) (3200:Int)) (fun(b:Int)=>AB (AQ (b*1250)))
def Z29 (a:D5):Option Int:=AU Zbt (a,())
theorem ZqU:AA1 131 [24] 3 (fun x=>Z29 x.1) rfl:=ok1 (mc qR Ae) Af func131 (fun _=>by kernel_rfl) (by kernel_rfl)
def Zed:S1 (D5×Unit) Int
 | (a,_)=>.bind 3 (XC a.EK (1:Int) (8:Int)) (fun(b:Int)=>AB (AQ (b*1250)))
def Z39 (a:D5):Option Int:=AU Zed (a,())
theorem ZtI:AA1 132 [24] 3 (fun x=>Z39 x.1) rfl:=ok1 (mc qR Ae) Af func132 (fun _=>by kernel_rfl) (by kernel_rfl)
def Zd4:S1 (Int×D5×Unit) QY
 | (d,a,_)=>.bind 3 (Z2R d) (fun(b:Int)=>.bind 3 (Z29 a) (fun(c:Int)=>let f:=AQ ((AQ (b+1250))+c);.bind 3 (Z39 a) (fun(e:Int)=>AB (⟨f,(AQ (f+e))⟩:QY))))
def Z2w (a:Int) (b:D5):Option QY:=AU Zd4 (a,b,())
theorem ZsY:AA1 44 [3,24] 52 (fun x=>Z2w x.1 x.2.1) rfl:=ok1 (mc ZrN (mc ZqU (mc ZtI Ae))) Af func44 (fun _=>by kernel_rfl) (by kernel_rfl)
def ZeB:S1 (Unit) BQ
 | _=>AB KZ
def Z3D  : Option BQ:=AU ZeB ()
theorem Zw2:AA1 45 [] 33 (fun x=>Z3D) rfl:=ok1 Ae Af func45 (fun _=>by kernel_rfl) (by kernel_rfl)
def ZeN:S1 (Int×Unit) ET
 | (a,_)=>let b:=(if (499:Int)<a then (499:Int) else a);AB (⟨(if b>0 then b else (0:Int)),0,true⟩:ET)
def vW (a:Int):Option ET:=AU ZeN (a,())
theorem ZdE:AA1 46 [3] 35 (fun x=>vW x.1) rfl:=ok1 Ae Af func46 (fun _=>by kernel_rfl) (by kernel_rfl)
def Zev:S1 (Int×Int×Int×Unit) A7
 | (c,b,a,_)=>let e:=(if (27:Int)>a then (27:Int) else a);let d:=(if (251:Int)<e then (251:Int) else e);.br (c==1) (AB (⟨1,-1,0,[],-1,0,[],false,b,0,false,false,-1,27,d,0,0,0,0,0⟩:A7)) (AB (⟨0,-1,0,[],-1,0,[],false,b,0,false,false,-1,27,d,0,0,0,0,0⟩:A7))
def Z3E (a b c:Int):Option A7:=AU Zev (a,b,c,())
theorem ZvZ:AA1 47 [3,25,3] 39 (fun x=>Z3E x.1 x.2.1 x.2.2.1) rfl:=ok1 Ae Af func47 (fun _=>by kernel_rfl) (by kernel_rfl)
def Zcl:S1 (Unit) (List BJ)
 | _=>.chk (decide (0<=(37:Int)/\(37:Int)<=37/\Int.toNat 37*16<=lim/\(37:Int)<=(↑maxLen:Int))) (kl (List.replicate (Int.toNat 37) (⟨0,0⟩:BJ)) (AB (List.replicate (Int.toNat 37) (⟨0,0⟩:BJ))))
def Z2m  : Option (List BJ):=AU Zcl ()
theorem Zrh:AA1 48 [] 42 (fun x=>Z2m) rfl:=ok1 Ae Af func48 (fun _=>by kernel_rfl) (by kernel_rfl)
inductive jF where
 | b0 (a:Int) (b:FW) (c d e f:Int)
 | b1 (a:Ac)
 | b2 (a b c d e:Int) (f:FW) (g:Ac)
 | b3 (a:Ac)
 | b4 (a b c d e:Int) (f:FW) (g:Ac)
def Zfe:jF->Tr U ((Ac×Int)⊕jF)
 | .b0 a b c d e f=>let g:=AP (jF.b2 a c d e f b D8);.br (a != 0) (.br (a != 1) (AP (.b1 D8)) g) g
 | .b1 a=>AB (D8,1)
 | .b2 f b g h c d a=>let i:=AP (jF.b3 a);.bind 45 (Z2W d) (fun(e:Int)=>.br (e != 0) (AB (D8,e)) (.br (decide (b<0)) i (.br (decide (b>500)) i (.br (decide (c<0)) i (.br (decide (c>1099511627776)) i (AP (.b4 f b g h c d a)))))))
 | .b3 a=>AB (D8,5)
 | .b4 b e f g a c l=>.bind 52 (Z2w a c.BB) (fun(d:QY)=>.bind 33 (Z3D) (fun(h:BQ)=>.bind 35 (vW c.BB.Dh) (fun(i:ET)=>.bind 39 (Z3E b (63:Int) (251:Int)) (fun(j:A7)=>.bind 42 (Z2m) (fun(k:List BJ)=>.br (b==1) (AB ((⟨b,c,e,0,0,d.Start,(AQ (d.End - d.Start)),a,a,false,false,false,false,false,h,i,j,NF,f,k,[],0,g⟩:Ac),(0:Int))) (AB ((⟨b,c,e,0,0,d.Start,0,a,a,false,false,false,false,false,h,i,j,NF,f,k,[],0,g⟩:Ac),(0:Int))))))))
def vV (a:Int) (b:FW) (c d e f:Int):Option (Ac×Int):=AU Zfe (.b0 a b c d e f)
def uH:Lay:=LT [12] [.p 0] [.s 44]
def uF:Lay:=LT [0,2,3,4,5,7,12] [.v 3,.v 3,.v 29,.v 25,.v 3,.p 0,.p 1] [.s 28,.s 44]
def ZxW:jF->BC U
 | .b0 a b c d e f=>Bd f12 [3,28,3,29,25,3] (a,b,c,d,e,f,())
 | .b1 a=>AA3 f12 [1,0,1,0,0] uH (a,())
 | .b2 a b c d e f g=>AA3 f12 [1,1,0] uF (a,b,c,d,e,f,g,())
 | .b3 a=>AA3 f12 [1,1,1,1,0,1,0,0] uH (a,())
 | .b4 a b c d e f g=>AA3 f12 [1,1,1,1,1,0] uF (a,b,c,d,e,f,g,())
theorem Zyi:AA1 12 [3,28,3,29,25,3] 46 (fun x=>vV x.1 x.2.1 x.2.2.1 x.2.2.2.1 x.2.2.2.2.1 x.2.2.2.2.2.1) rfl:=Bh (mc Zrk (mc ZsY (mc Zw2 (mc ZdE (mc ZvZ (mc Zrh Ae)))))) Af (al [(2,uH),(3,uF),(7,uH),(8,uF)]) ZxW func12 (fun p=>by cases p<;>kernel_rfl) (by kernel_rfl) fun _=>rfl
def Ze5:S1 (ET×Bool×Unit) Bool
 | (a,b,_)=>.br a.Full (AB true) (.br b (AB true) (AB (decide (a.VJ>=a.Dh))))
def uX (a:ET) (b:Bool):Option Bool:=AU Ze5 (a,b,())
theorem Zcp:AA1 59 [35,4] 4 (fun x=>uX x.1 x.2.1) rfl:=ok1 Ae Af func59 (fun _=>by kernel_rfl) (by kernel_rfl)
def ZdV:S1 (BQ×Unit) Bool
 | (a,_)=>AB ((↑a.Az.length:Int)==0)
def Z36 (a:BQ):Option Bool:=AU ZdV (a,())
theorem Zuz:AA1 60 [33] 4 (fun x=>Z36 x.1) rfl:=ok1 Ae Af func60 (fun _=>by kernel_rfl) (by kernel_rfl)
def Zch:S1 (Ac×Unit) Bool
 | (a,_)=>.br (a.Bl==0) (.br (a.BK==1) (.br a.Hq (.br ((↑a.Ag.length:Int)==0) (.br ((↑a.AA.Ak.length:Int)==0) (.bind 4 (Z36 a.Ar) (fun(b:Bool)=>.bind 4 (uX a.Gj (!b)) (fun(c:Bool)=>AB (!c)))) (AB false)) (AB false)) (AB false)) (AB false)) (AB false)
def uI (a:Ac):Option Bool:=AU Zch (a,())
theorem Zba:AA1 20 [44] 4 (fun x=>uI x.1) rfl:=ok1 (mc Zcp (mc Zuz Ae)) Af func20 (fun _=>by kernel_rfl) (by kernel_rfl)
inductive bG where
 | b0 (a:Int)
 | b1 (a b c:Int)
def aX:bG->Tr U (Int⊕bG)
 | .b0 a=>AP (.b1 a (0:Int) (0:Int))
 | .b1 a b c=>.br (decide (c<8)) (AP (.b1 (AQ (Int.tdiv a 2)) (AQ ((AQ ((2:Int)*b))+(Int.tmod a 2))) (AQ (c+1)))) (AB b)
def aY (a:Int):Option Int:=AU aX (.b0 a)
def Z8Z:Lay:=LT [0,3,4] [.v 3,.v 3,.v 3] []
def Zoa:bG->BC U
 | .b0 a=>Bd f227 [3] (a,())
 | .b1 a b c=>AA3 f227 [1,1,0,1,0,0,0,0] Z8Z (a,b,c,())
theorem Zod:AA1 227 [3] 3 (fun x=>aY x.1) rfl:=Bh Ae Af (al [(3,Z8Z)]) Zoa func227 (fun p=>by cases p<;>kernel_rfl) (by kernel_rfl) fun _=>rfl
inductive dN where
 | b0 (a b:Int)
 | b1 (a b c:Int)
def XJ:dN->Tr U (Int⊕dN)
 | .b0 b a=>AP (.b1 a (bits .xor .u16 b a) (0:Int))
 | .b1 a b c=>.br (decide (c<3)) (.bind 3 (aY (AQ (Int.tdiv (AQ (b)) 256))) (fun(d:Int)=>.bind 3 (aY (Int.tmod (AQ (b)) 256)) (fun(e:Int)=>AP (.b1 a (IntKind.wrap .u16 ((Int.tmod (AQ ((AQ ((17:Int)*(AQ ((AQ ((256:Int)*d))+e))))+(AQ (a)))) (65536:Int)))) (AQ (c+1)))))) (AB (bits .xor .u16 b a))
def dL (a b:Int):Option Int:=AU XJ (.b0 a b)
def Z9z:Lay:=LT [1,5,6] [.v 30,.v 30,.v 3] []
def Zqe:dN->BC U
 | .b0 a b=>Bd f139 [30,30] (a,b,())
 | .b1 a b c=>AA3 f139 [1,1,0,1,0,0,0,0] Z9z (a,b,c,())
theorem Zb6:AA1 139 [30,30] 30 (fun x=>dL x.1 x.2.1) rfl:=Bh (mc Zod Ae) Af (al [(3,Z9z)]) Zqe func139 (fun p=>by cases p<;>kernel_rfl) (by kernel_rfl) fun _=>rfl
def Z2J:S1 (Int×Unit) Int
 | (a,_)=>AB (bits .xor .u16 (IntKind.wrap .u16 ((IntKind.wrap .u32 (Int.tdiv a 65536)))) (IntKind.wrap .u16 ((Int.tmod a 65536))))
def fG (a:Int):Option Int:=AU Z2J (a,())
theorem Zbc:AA1 140 [22] 30 (fun x=>fG x.1) rfl:=ok1 Ae Af func140 (fun _=>by kernel_rfl) (by kernel_rfl)
inductive jE where
 | b0 (a b:Int)
 | b1 (a:Int) (b:List Int)
def wE:jE->Tr U (Int⊕jE)
 | .b0 c a=>let d:=AB (-1:Int);.bind 226 (X0 c) (fun(b:List Int)=>.br (decide (a<0)) d (.br (decide (a>=(↑b.length:Int))) d (AP (.b1 a b))))
 | .b1 a b=>.chk (kI a b) (.bind 3 (b[(Int.toNat a)]?) (fun(c:Int)=>AB c))
def jC (a b:Int):Option Int:=AU wE (.b0 a b)
def Zd7:Lay:=LT [1,5] [.v 3,.v 226] []
def Zyn:jE->BC U
 | .b0 a b=>Bd f226 [26,3] (a,b,())
 | .b1 a b=>AA3 f226 [1,1,1,0] Zd7 (a,b,())
theorem ZdW:AA1 226 [26,3] 3 (fun x=>jC x.1 x.2.1) rfl:=Bh (mc Z2T Ae) Af (al [(4,Zd7)]) Zyn func226 (fun p=>by cases p<;>kernel_rfl) (by kernel_rfl) fun _=>rfl
def Z40:S1 (Int×Int×Int×Unit) Int
 | (a,c,d,_)=>.bind 30 (fG d) (fun(e:Int)=>.bind 30 (dL c e) (fun(b:Int)=>let i:=Int.tmod (AQ (b)) 37;.bind 4 (X9 a i) (fun(f:Bool)=>.br f (AB i) (.bind 3 (XQ a) (fun(g:Int)=>.bind 3 (jC a (AQ (Int.tdiv (AQ (g*(AQ (b)))) (65536:Int)))) (fun(h:Int)=>AB h))))))
def wK (a b c:Int):Option Int:=AU Z40 (a,b,c,())
theorem ZwY:AA1 138 [26,30,22] 3 (fun x=>wK x.1 x.2.1 x.2.2.1) rfl:=ok1 (mc Zb6 (mc Zbc (mc Z1X (mc Z3i (mc ZdW Ae))))) Af func138 (fun _=>by kernel_rfl) (by kernel_rfl)
def Ze6:S1 (Int×Int×Unit) Int
 | (a,b,_)=>AB (Int.tmod (AQ ((AQ ((Int.tmod a 37)+(Int.tmod b 37)))+74)) (37:Int))
def vH (a b:Int):Option Int:=AU Ze6 (a,b,())
theorem Ztf:AA1 141 [3,3] 3 (fun x=>vH x.1 x.2.1) rfl:=ok1 Ae Af func141 (fun _=>by kernel_rfl) (by kernel_rfl)
def Z2V:S1 (Int×Int×Unit) Int
 | (b,a,_)=>let g:=(if (36:Int)<a then (36:Int) else a);let f:=(if g>0 then g else (0:Int));.bind 4 (X9 b f) (fun(d:Bool)=>.br d (AB f) (.bind 3 (XQ b) (fun(c:Int)=>.br (c==0) (AB (-1:Int)) (.chk (c != 0) (.bind 3 (jC b (Int.tmod f c)) (fun(e:Int)=>AB e))))))
def uD (a b:Int):Option Int:=AU Z2V (a,b,())
theorem Zt8:AA1 142 [26,3] 3 (fun x=>uD x.1 x.2.1) rfl:=ok1 (mc Z1X (mc Z3i (mc ZdW Ae))) Af func142 (fun _=>by kernel_rfl) (by kernel_rfl)
def Z3p:S1 (FW×Int×Int×Unit) (Int×Int)
 | (a,b,d,_)=>.br (a.MH==2) (.bind 3 (wK a.Map b a.Il) (fun(e:Int)=>.bind 30 (fG a.Il) (fun(f:Int)=>.bind 30 (dL b f) (fun(g:Int)=>AB (e,(Int.tmod (AQ (g)) 37)))))) (.bind 3 (vH d a.Hop) (fun(c:Int)=>.bind 3 (uD a.Map c) (fun(h:Int)=>AB (h,c))))
def iG (a:FW) (b c:Int):Option (Int×Int):=AU Z3p (a,b,c,())
theorem ZcT:AA1 54 [28,30,3] 104 (fun x=>iG x.1 x.2.1 x.2.2.1) rfl:=ok1 (mc ZwY (mc Zb6 (mc Zbc (mc Ztf (mc Zt8 Ae))))) Af func54 (fun _=>by kernel_rfl) (by kernel_rfl)
def Z1A:S1 (Ac×Unit) Int
 | (a,_)=>.bind 104 (iG a.DR a.Event a.Last) (fun(b:Int×Int)=>AB b.1)
def bK (a:Ac):Option Int:=AU Z1A (a,())
theorem Z9P:AA1 16 [44] 3 (fun x=>bK x.1) rfl:=ok1 (mc ZcT Ae) Af func16 (fun _=>by kernel_rfl) (by kernel_rfl)
def ZcN:S1 (A7×Unit) Bool
 | (a,_)=>.br (decide (a.CP>=1)) (AB (decide (a.CP<=3))) (AB false)
def tC (a:A7):Option Bool:=AU ZcN (a,())
theorem Zbg:AA1 162 [39] 4 (fun x=>tC x.1) rfl:=ok1 Ae Af func162 (fun _=>by kernel_rfl) (by kernel_rfl)
def ZaU:S1 (Int×Unit) Bool
 | (a,_)=>.br (a==3) (AB true) (.br (a==4) (AB true) (.br (a==5) (AB true) (.br (a==6) (AB true) (AB (a==13)))))
def Z1z (a:Int):Option Bool:=AU ZaU (a,())
theorem Zpa:AA1 163 [3] 4 (fun x=>Z1z x.1) rfl:=ok1 Ae Af func163 (fun _=>by kernel_rfl) (by kernel_rfl)
inductive cZ where
 | b0 (a:Int)
 | b1 (a:CE)
 | b2 (a:Int) (b:CE)
 | b3 (a:CE)
 | b4 (a:Int) (b:CE)
 | b5 (a:CE)
 | b6 (a:CE)
def PG:cZ->Tr U (CE⊕cZ)
 | .b0 a=>let c:=AP (cZ.b1 OW);let b:=AP (cZ.b2 a OW);.br (a==0) (AB (⟨true,true,false,true,false,false,false,false,false,false,false⟩:CE)) (.br (a==1) (AB (⟨true,false,true,true,false,false,false,false,false,false,false⟩:CE)) (.br (a==2) (AB (⟨true,false,false,false,true,false,false,false,false,false,false⟩:CE)) (.br (a==3) (AB (⟨true,false,false,false,false,false,true,true,false,false,false⟩:CE)) (.br (a==4) (AB (⟨true,false,false,false,false,false,true,false,false,false,false⟩:CE)) (.br (a==5) (.br (a==5) c b) (.br (a==6) (.br (a==6) c b) (.br (a==18) (.br (a==18) c b) (.br (a==19) c b))))))))
 | .b1 a=>AB (⟨true,false,false,false,false,false,false,false,false,false,false⟩:CE)
 | .b2 a b=>let d:=AP (cZ.b3 b);let c:=AP (cZ.b4 a b);.br (a==7) (AB (⟨true,false,false,false,false,true,false,false,false,false,false⟩:CE)) (.br (a==8) (.br (a==8) d c) (.br (a==9) d c))
 | .b3 a=>AB (⟨true,false,false,false,false,false,false,false,true,false,false⟩:CE)
 | .b4 a b=>let d:=AP (cZ.b6 b);let c:=AP (cZ.b5 b);.br (a==12) (AB (⟨true,false,false,false,false,false,false,false,false,true,false⟩:CE)) (.br (a==13) (AB (⟨true,false,false,false,true,true,false,false,false,false,false⟩:CE)) (.br (a==15) (AB (⟨true,true,false,false,false,false,false,false,false,false,false⟩:CE)) (.br (a==20) (.br (a==20) c d) (.br (a==21) c d))))
 | .b5 a=>AB (⟨true,false,false,false,false,false,false,false,false,false,true⟩:CE)
 | .b6 a=>AB OW
def DJ (a:Int):Option CE:=AU PG (.b0 a)
def SB:Lay:=LT [2] [.p 0] [.s 262]
def qP:Lay:=LT [2,3] [.p 0,.v 3] [.s 262]
def ZpS:cZ->BC U
 | .b0 a=>Bd f240 [3] (a,())
 | .b1 a=>AA3 f240 [1,0,1,0,1,1,1,1,1,1,1,1,1,1,1,0,0] SB (a,())
 | .b2 a b=>AA3 f240 [1,0,1,0,1,1,1,1,1,1,1,1,1,1,1,1,0] qP (a,b,())
 | .b3 a=>AA3 f240 [1,0,1,0,1,1,1,1,1,1,1,1,1,1,1,1,1,1,1,0,0] SB (a,())
 | .b4 a b=>AA3 f240 [1,0,1,0,1,1,1,1,1,1,1,1,1,1,1,1,1,1,1,1,0] qP (a,b,())
 | .b5 a=>AA3 f240 [1,0,1,0,1,1,1,1,1,1,1,1,1,1,1,1,1,1,1,1,1,1,1,1,1,1,1,0,0] SB (a,())
 | .b6 a=>AA3 f240 [1,1,0] SB (a,())
theorem SE:AA1 240 [3] 262 (fun x=>DJ x.1) rfl:=Bh Ae Af (al [(16,SB),(17,qP),(21,SB),(22,qP),(30,SB),(31,SB)]) ZpS func240 (fun p=>by cases p<;>kernel_rfl) (by kernel_rfl) fun _=>rfl
inductive iH where
 | b0 (a:AO)
 | b1 (a b:AO) (c:CE)
 | b2 (a b:AO) (c:CE)
 | b3 (a b:AO) (c:CE)
 | b4 (a b:AO) (c:CE)
 | b5 (a b:AO) (c:CE)
 | b6 (a b:AO) (c:CE)
 | b7 (a b:AO) (c:CE)
 | b8 (a b:AO) (c:CE)
 | b9 (a b:AO) (c:CE)
def HY:iH->Tr U (AO⊕iH)
 | .b0 a=>.bind 262 (DJ a.Kind) (fun(b:CE)=>.br b.BB (AP (.b1 ({ a with Kind:=0,BB:=Be }:AO) EO b)) (AP (.b1 ({ a with Kind:=0 }:AO) EO b)))
 | .b1 b c a=>.br a.Map (AP (.b2 ({ b with Map:=0 }:AO) c a)) (AP (.b2 b c a))
 | .b2 b c a=>.br a.Ci (AP (.b3 ({ b with Ci:=0 }:AO) c a)) (AP (.b3 b c a))
 | .b3 b c a=>.br a.Bl (AP (.b4 ({ b with Bl:=0 }:AO) c a)) (AP (.b4 b c a))
 | .b4 b c a=>.br a.DL (AP (.b5 ({ b with DL:=0 }:AO) c a)) (AP (.b5 b c a))
 | .b5 b c a=>.br a.Bj (AP (.b6 ({ b with Bj:=0 }:AO) c a)) (AP (.b6 b c a))
 | .b6 b c a=>.br a.Mark (AP (.b7 ({ b with Mark:=0 }:AO) c a)) (AP (.b7 b c a))
 | .b7 b c a=>.br a.Bv (AP (.b8 ({ b with Bv:=0 }:AO) c a)) (AP (.b8 b c a))
 | .b8 b c a=>.br a.Version (AP (.b9 ({ b with Version:=0 }:AO) c a)) (AP (.b9 b c a))
 | .b9 a c b=>.br b.Length (AB ({ a with Length:=0 }:AO)) (AB a)
def uM (a:AO):Option AO:=AU HY (.b0 a)
def JC:Lay:=LT [1,2,3] [.p 0,.p 1,.p 2] [.s 156,.s 156,.s 262]
def Zu3:iH->BC U
 | .b0 a=>Bd f325 [156] (a,())
 | .b1 a b c=>AA3 f325 [1,1,1,1,0,0] JC (a,b,c,())
 | .b2 a b c=>AA3 f325 [1,1,1,1,1,0,0] JC (a,b,c,())
 | .b3 a b c=>AA3 f325 [1,1,1,1,1,1,0,0] JC (a,b,c,())
 | .b4 a b c=>AA3 f325 [1,1,1,1,1,1,1,0,0] JC (a,b,c,())
 | .b5 a b c=>AA3 f325 [1,1,1,1,1,1,1,1,0,0] JC (a,b,c,())
 | .b6 a b c=>AA3 f325 [1,1,1,1,1,1,1,1,1,0,0] JC (a,b,c,())
 | .b7 a b c=>AA3 f325 [1,1,1,1,1,1,1,1,1,1,0,0] JC (a,b,c,())
 | .b8 a b c=>AA3 f325 [1,1,1,1,1,1,1,1,1,1,1,0,0] JC (a,b,c,())
 | .b9 a b c=>AA3 f325 [1,1,1,1,1,1,1,1,1,1,1,1,0,0] JC (a,b,c,())
theorem Zuo:AA1 325 [156] 156 (fun x=>uM x.1) rfl:=Bh (mc SE Ae) Af (al [(5,JC),(7,JC),(9,JC),(11,JC),(13,JC),(15,JC),(17,JC),(19,JC),(21,JC)]) Zu3 func325 (fun p=>by cases p<;>kernel_rfl) (by kernel_rfl) fun _=>rfl
def Z1Z:S1 (Int×Unit) Bool
 | (a,_)=>.br (decide (a>=0)) (AB (decide (a<=255))) (AB false)
def XG (a:Int):Option Bool:=AU Z1Z (a,())
theorem Zr7:AA1 326 [3] 4 (fun x=>XG x.1) rfl:=ok1 Ae Af func326 (fun _=>by kernel_rfl) (by kernel_rfl)
inductive Z2D where
 | b0 (a:AO)
 | b1 (a:AO) (b:CE)
 | b2 (a:AO) (b:CE)
def XU:Z2D->Tr U (Int⊕Z2D)
 | .b0 b=>.bind 262 (DJ b.Kind) (fun(c:CE)=>let e:=AP (Z2D.b1 b c);.br (!c.FI) (AB (12:Int)) (.bind 156 (uM b) (fun(a:AO)=>.br (!((a.Kind==0)&&((a.BB.EK==0)&&((a.BB.Dx==0)&&((a.BB.D9==0)&&((a.BB.Dh==0)&&((a.BB.ER==0)&&((a.Map==0)&&((a.Ci==0)&&((a.Bl==0)&&((a.DL==0)&&((a.Bj==0)&&((a.Mark==0)&&((a.Bv==0)&&((a.Version==0)&&((a.Length==0)&&true)))))))))))))))) (AB (1:Int)) (.br c.BB (.bind 45 (aJ b.BB) (fun(d:Int)=>.br (d != 0) (AB d) e)) e))))
 | .b1 a b=>let d:=AP (Z2D.b2 a b);.br b.Map (.bind 45 (fC a.Map) (fun(c:Int)=>.br (c != 0) (AB c) d)) d
 | .b2 a b=>let g:=AB (0:Int);let f:=AB (5:Int);.bind 4 (XG a.Bl) (fun(c:Bool)=>.br (!c) f (.bind 4 (XG a.DL) (fun(d:Bool)=>.br (!d) f (.bind 4 (XG a.Version) (fun(e:Bool)=>.br (!e) f (.br b.Length (.br (decide (a.Length<27)) f (.br (decide (a.Length>251)) f g)) g))))))
def JO (a:AO):Option Int:=AU XU (.b0 a)
def qX:Lay:=LT [1,3] [.p 0,.p 1] [.s 156,.s 262]
def Zsx:Z2D->BC U
 | .b0 a=>Bd f239 [156] (a,())
 | .b1 a b=>AA3 f239 [1,1,1,1,1,0,0] qX (a,b,())
 | .b2 a b=>AA3 f239 [1,1,1,1,1,1,0,0] qX (a,b,())
theorem Z27:AA1 239 [156] 45 (fun x=>JO x.1) rfl:=Bh (mc Z8c (mc Zb9 (mc SE (mc Zuo (mc Zr7 Ae))))) Af (al [(10,qX),(14,qX)]) Zsx func239 (fun p=>by cases p<;>kernel_rfl) (by kernel_rfl) fun _=>rfl
end
noncomputable section
inductive jG where
 | b0 (a b:Int)
 | b1 (a b:Int) (c:List Int) (d:Int)
def Xf:jG->Tr U (Jj⊕jG)
 | .b0 a b=>.chk true (AP (.b1 a b ([]:List Int) (0:Int)))
 | .b1 b c a d=>let e:=a++[(IntKind.wrap .u8 ((Int.tmod b 256)))];.br (decide (d<c)) (.chk true (kl a (.chk (kA (a.length+1) 1) (kl e (AP (.b1 (IntKind.wrap .u64 (Int.tdiv b 256)) c e (AQ (d+1)))))))) (kl a (AB (⟨a⟩:Jj)))
def IL (a b:Int):Option Jj:=AU Xf (.b0 a b)
def Zda:Shape:=⟨[OV 25,OV 3],[]⟩
def Ztd:Shape:=⟨[.one (.own 5 0)],[.row 5 true]⟩
noncomputable def ZyM:HMod U:=⟨[KP,KP],[],Zda,Ztd,true,1349,fun(y:Jj)=>(((),()),(y.q0,())),fun x=>IL x.1.1.1 x.1.2.1.1,okS rfl⟩
def ZcS:Lay:=LT [0,1,5,6] [.v 25,.v 3,.o 5 1 0,.v 3] [.r 5]
def Zw4:jG->BC U
 | .b0 a b=>Dz f242 Zda (((a,()),((b,()),())),())
 | .b1 a b c d=>AA3 f242 [1,1,0,1,0,0,0,0] ZcS (a,b,d,c,())
theorem Ze7:DK Tryz.prog B0 242 ZyM:=okR Ae Af (al [(3,ZcS)]) [[.own 5 1]] [.row true] 0 Zw4 func242 (fun p=>by cases p<;>kernel_rfl) (by kernel_rfl) fun x=>by kernel_rfl
def Z1c:S1 (D5×Unit) (List Int)
 | (e,_)=>.bind 1349 (IL (IntKind.wrap .u64 (e.EK)) (1:Int)) (fun(a:Jj)=>.bind 1349 (IL (IntKind.wrap .u64 (e.Dx)) (2:Int)) (fun(b:Jj)=>let i:=a.q0++b.q0;kl b.q0 (kl a.q0 (.chk (kA (a.q0.length+b.q0.length) 1) (.bind 1349 (IL (IntKind.wrap .u64 (e.D9)) (2:Int)) (fun(c:Jj)=>let g:=i++c.q0;kl c.q0 (kl i (.chk (kA (i.length+c.q0.length) 1) (.bind 1349 (IL (IntKind.wrap .u64 (e.Dh)) (2:Int)) (fun(d:Jj)=>let h:=g++d.q0;kl d.q0 (kl g (.chk (kA (g.length+d.q0.length) 1) (.bind 1349 (IL (IntKind.wrap .u64 (e.ER)) (2:Int)) (fun(f:Jj)=>kl f.q0 (kl h (.chk (kA (h.length+f.q0.length) 1) (kl (h++f.q0) (AB (h++f.q0)))))))))))))))))))
def qA (a:D5):Option (List Int):=AU Z1c (a,())
theorem ZnA:AA1 241 [24] 62 (fun x=>qA x.1) rfl:=ok1 Ae (hc [] Ze7 Af) func241 (fun _=>by kernel_rfl) (by kernel_rfl)
inductive Z2g where
 | b0 (a:AO)
 | b1 (a:List Int) (b:AO) (c:CE)
 | b2 (a:List Int) (b:AO) (c:CE)
 | b3 (a:List Int) (b:AO) (c:CE)
 | b4 (a:List Int) (b:AO) (c:CE)
 | b5 (a:List Int) (b:AO) (c:CE)
 | b6 (a:List Int) (b:AO) (c:CE)
 | b7 (a:List Int) (b:AO) (c:CE)
 | b8 (a:List Int) (b:AO) (c:CE)
 | b9 (a:List Int) (b:AO) (c:CE)
def I5:Z2g->Tr U (((List Int)×Int)⊕Z2g)
 | .b0 a=>let e:=IntKind.wrap .u8 (a.Kind);.bind 45 (JO a) (fun(d:Int)=>.br (d != 0) (.chk true (AB (([]:List Int),d))) (.bind 262 (DJ a.Kind) (fun(b:CE)=>.br b.BB (.bind 62 (qA a.BB) (fun(c:List Int)=>.chk true (.chk (kA (1+c.length) 1) (kl ([e]++c) (AP (.b1 ([e]++c) a b)))))) (.chk true (AP (.b1 ([e]) a b))))))
 | .b1 a c d=>.br d.Map (.bind 1349 (IL c.Map (5:Int)) (fun(b:Jj)=>kl b.q0 (kl a (.chk (kA (a.length+b.q0.length) 1) (kl (a++b.q0) (AP (.b2 (a++b.q0) c d))))))) (kl a (AP (.b2 a c d)))
 | .b2 a c d=>.br d.Ci (.bind 1349 (IL (IntKind.wrap .u64 (c.Ci)) (2:Int)) (fun(b:Jj)=>kl b.q0 (kl a (.chk (kA (a.length+b.q0.length) 1) (kl (a++b.q0) (AP (.b3 (a++b.q0) c d))))))) (kl a (AP (.b3 a c d)))
 | .b3 a b c=>let d:=a++[(IntKind.wrap .u8 (b.Bl))];.br c.Bl (.chk true (kl a (.chk (kA (a.length+1) 1) (kl d (AP (.b4 d b c)))))) (kl a (AP (.b4 a b c)))
 | .b4 a b c=>let d:=a++[(IntKind.wrap .u8 (b.DL))];.br c.DL (.chk true (kl a (.chk (kA (a.length+1) 1) (kl d (AP (.b5 d b c)))))) (kl a (AP (.b5 a b c)))
 | .b5 a c d=>.br d.Bj (.bind 1349 (IL c.Bj (8:Int)) (fun(b:Jj)=>kl b.q0 (kl a (.chk (kA (a.length+b.q0.length) 1) (kl (a++b.q0) (AP (.b6 (a++b.q0) c d))))))) (kl a (AP (.b6 a c d)))
 | .b6 a c d=>.br d.Mark (.bind 1349 (IL c.Mark (8:Int)) (fun(b:Jj)=>kl b.q0 (kl a (.chk (kA (a.length+b.q0.length) 1) (kl (a++b.q0) (AP (.b7 (a++b.q0) c d))))))) (kl a (AP (.b7 a c d)))
 | .b7 a c d=>.br d.Bv (.bind 1349 (IL c.Bv (8:Int)) (fun(b:Jj)=>kl b.q0 (kl a (.chk (kA (a.length+b.q0.length) 1) (kl (a++b.q0) (AP (.b8 (a++b.q0) c d))))))) (kl a (AP (.b8 a c d)))
 | .b8 a b c=>let d:=a++[(IntKind.wrap .u8 (b.Version))];.br c.Version (.chk true (kl a (.chk (kA (a.length+1) 1) (kl d (AP (.b9 d b c)))))) (kl a (AP (.b9 a b c)))
 | .b9 a b c=>let d:=a++[(IntKind.wrap .u8 (b.Length))];.br c.Length (.chk true (kl a (.chk (kA (a.length+1) 1) (kl d (AB (d,(0:Int))))))) (kl a (AB (a,0)))
def Ug (a:AO):Option ((List Int)×Int):=AU I5 (.b0 a)
def JA:Lay:=LT [1,5,6] [.p 0,.p 1,.o 5 1 2] [.s 156,.s 262,.r 5]
def ZqL:Z2g->BC U
 | .b0 a=>Bd f164 [156] (a,())
 | .b1 a b c=>AA3 f164 [1,1,1,1,1,0,0] JA (b,c,a,())
 | .b2 a b c=>AA3 f164 [1,1,1,1,1,1,0,0] JA (b,c,a,())
 | .b3 a b c=>AA3 f164 [1,1,1,1,1,1,1,0,0] JA (b,c,a,())
 | .b4 a b c=>AA3 f164 [1,1,1,1,1,1,1,1,0,0] JA (b,c,a,())
 | .b5 a b c=>AA3 f164 [1,1,1,1,1,1,1,1,1,0,0] JA (b,c,a,())
 | .b6 a b c=>AA3 f164 [1,1,1,1,1,1,1,1,1,1,0,0] JA (b,c,a,())
 | .b7 a b c=>AA3 f164 [1,1,1,1,1,1,1,1,1,1,1,0,0] JA (b,c,a,())
 | .b8 a b c=>AA3 f164 [1,1,1,1,1,1,1,1,1,1,1,1,0,0] JA (b,c,a,())
 | .b9 a b c=>AA3 f164 [1,1,1,1,1,1,1,1,1,1,1,1,1,0,0] JA (b,c,a,())
theorem Zq5:AA1 164 [156] 120 (fun x=>Ug x.1) rfl:=Bh (mc Z27 (mc SE (mc ZnA Ae))) (hc [] Ze7 Af) (al [(8,JA),(10,JA),(12,JA),(14,JA),(16,JA),(18,JA),(20,JA),(22,JA),(24,JA)]) ZqL func164 (fun p=>by cases p<;>kernel_rfl) (by kernel_rfl) fun _=>rfl
def Z3S:S1 (Int×Unit) Bool
 | (a,_)=>.br (a==0) (AB true) (AB (a==1))
def Xl (a:Int):Option Bool:=AU Z3S (a,())
theorem ZvN:AA1 243 [3] 4 (fun x=>Xl x.1) rfl:=ok1 Ae Af func243 (fun _=>by kernel_rfl) (by kernel_rfl)
inductive aH where
 | b0 (a:Aq)
 | b1 (a:Aq)
 | b2 (a:Aq)
def U1:aH->Tr U (Int⊕aH)
 | .b0 a=>let b:=AB (12:Int);.br (decide (a.BP<1)) b (.br (decide (a.BP>3)) b (AP (.b1 a)))
 | .b1 a=>let b:=AP (aH.b2 a);.br ((↑a.Payload.length:Int)==0) (.br (a.BP != 1) (AB (1:Int)) b) b
 | .b2 a=>.br (decide ((↑a.Payload.length:Int)>255)) (AB (4:Int)) (AB (0:Int))
def pM (a:Aq):Option Int:=AU U1 (.b0 a)
def oC:Lay:=LT [1] [.p 0] [.s 68]
def Zm8:aH->BC U
 | .b0 a=>Bd f244 [68] (a,())
 | .b1 a=>AA3 f244 [1,1,0,0] oC (a,())
 | .b2 a=>AA3 f244 [1,1,1,0,0] oC (a,())
theorem Zm5:AA1 244 [68] 45 (fun x=>pM x.1) rfl:=Bh Ae Af (al [(3,oC),(5,oC)]) Zm8 func244 (fun p=>by cases p<;>kernel_rfl) (by kernel_rfl) fun _=>rfl
inductive eP where
 | b0 (a:BI)
 | b1 (a:BI)
def fA:eP->Tr U (Int⊕eP)
 | .b0 a=>let e:=AB (5:Int);.bind 4 (Xl a.SN) (fun(b:Bool)=>.br (!b) e (.bind 4 (Xl a.DX) (fun(c:Bool)=>.br (!c) e (.bind 4 (Xl a.MD) (fun(d:Bool)=>.br (!d) e (AP (.b1 a)))))))
 | .b1 a=>.bind 45 (pM a.Ap) (fun(b:Int)=>AB b)
def QV (a:BI):Option Int:=AU fA (.b0 a)
def Zb7:Lay:=LT [1] [.p 0] [.s 70]
def ZsA:eP->BC U
 | .b0 a=>Bd f167 [70] (a,())
 | .b1 a=>AA3 f167 [1,1,0] Zb7 (a,())
theorem XI:AA1 167 [70] 45 (fun x=>QV x.1) rfl:=Bh (mc ZvN (mc Zm5 Ae)) Af (al [(3,Zb7)]) ZsA func167 (fun p=>by cases p<;>kernel_rfl) (by kernel_rfl) fun _=>rfl
def Z1G:S1 (Aq×Unit) Bool
 | (a,_)=>.br (a.BP==1) (AB ((↑a.Payload.length:Int)==0)) (AB false)
def bJ (a:Aq):Option Bool:=AU Z1G (a,())
theorem Z9M:AA1 213 [68] 4 (fun x=>bJ x.1) rfl:=ok1 Ae Af func213 (fun _=>by kernel_rfl) (by kernel_rfl)
inductive fE where
 | b0 (a:BQ) (b:Aq)
 | b1 (a:BQ) (b:Aq) (c:BQ)
def Zcw:fE->Tr U ((BQ×Int)⊕fE)
 | .b0 a b=>let e:=AB (a,1);.bind 4 (bJ b) (fun(c:Bool)=>.br c e (.br (decide ((↑b.Payload.length:Int)>251)) e (.bind 45 (QV (⟨0,0,0,b⟩:BI)) (fun(d:Int)=>.br (d != 0) e (AP (.b1 a b KZ))))))
 | .b1 a b c=>let d:=([]:List Aq)++a.Az;.br (decide ((↑a.Az.length:Int)>=64)) (AB (a,8)) (.chk true (.chk (kA (0+a.Az.length) 32) (.chk true (kl d (.chk (kA (d.length+1) 32) (kl (d++[b]) (AB (({ a with Az:=(d++[b]) }:BQ),(0:Int)))))))))
def sU (a:BQ) (b:Aq):Option (BQ×Int):=AU Zcw (.b0 a b)
def Zaj:Lay:=LT [2,3,4] [.p 0,.p 1,.p 2] [.s 33,.s 68,.s 33]
def ZrY:fE->BC U
 | .b0 a b=>Bd f165 [33,68] (a,b,())
 | .b1 a b c=>AA3 f165 [1,1,0,0] Zaj (a,b,c,())
theorem Zbh:AA1 165 [33,68] 189 (fun x=>sU x.1 x.2.1) rfl:=Bh (mc XI (mc Z9M Ae)) Af (al [(3,Zaj)]) ZrY func165 (fun p=>by cases p<;>kernel_rfl) (by kernel_rfl) fun _=>rfl
inductive fU where
 | b0 (a:Ac)
 | b1 (a:List AO) (b:Bool) (c:Int) (d e:Ac)
 | b2 (a:List AO) (b:Bool) (c:Int) (d e:Ac) (f:AO)
 | b3 (a:List AO) (b:Bool) (c:Int) (d e:Ac) (f:AO)
 | b4 (a:List AO) (b:Bool) (c:Int) (d e:Ac)
def Zd3:fU->Tr U (Ac⊕fU)
 | .b0 a=>.chk true (AP (.b1 ([]:List AO) false (0:Int) a D8))
 | .b1 a d c b f=>.br (decide (c<(↑b.Ag.length:Int))) (.chk (kI c b.Ag) (.bind 156 (b.Ag[(Int.toNat c)]?) (fun(e:AO)=>let j:=kl a (AP (fU.b3 a d c b f e));let i:=kl a (AP (fU.b2 a d c b f e));.br d i (.bind 4 (tC b.AA) (fun(g:Bool)=>.br g (.bind 4 (Z1z e.Kind) (fun(h:Bool)=>.br (!h) i j)) j))))) (kl a (AB ({ b with Ag:=a }:Ac)))
 | .b2 a c d e f b=>.chk true (kl a (.chk (kA (a.length+1) 120) (kl (a++[b]) (AP (.b4 (a++[b]) c d e f)))))
 | .b3 a f c b d e=>.bind 120 (Ug e) (fun(g:(List Int)×Int)=>.br (g.2 != 0) (kl a (AP (.b4 a f c b d))) (.bind 189 (sU b.Ar (⟨3,g.1⟩:Aq)) (fun(h:BQ×Int)=>.br (h.2 != 0) (.chk true (kl a (.chk (kA (a.length+1) 120) (kl (a++[e]) (AP (.b4 (a++[e]) true c b d)))))) (kl a (AP (.b4 a f c ({ b with Ar:=h.1 }:Ac) d))))))
 | .b4 a b c d e=>kl a (AP (.b1 a b (AQ (c+1)) d e))
def Z2F (a:Ac):Option Ac:=AU Zd3 (.b0 a)
def rP:Lay:=LT [1,2,3,4,5] [.p 0,.p 1,.o 156 15 2,.v 4,.v 3] [.s 44,.s 44,.r 156]
def rJ:Lay:=LT [1,2,3,4,5,6] [.p 0,.p 1,.o 156 15 2,.v 4,.v 3,.p 3] [.s 44,.s 44,.r 156,.s 156]
def ZsJ:fU->BC U
 | .b0 a=>Bd f70 [44] (a,())
 | .b1 a b c d e=>AA3 f70 [1,1,1,0,1,0,0,0,0] rP (b,c,d,e,a,())
 | .b2 a b c d e f=>AA3 f70 [1,1,1,0,1,0,0,1,0,0,1,0,1,0,0] rJ (b,c,d,e,a,f,())
 | .b3 a b c d e f=>AA3 f70 [1,1,1,0,1,0,0,1,0,0,1,1,0] rJ (b,c,d,e,a,f,())
 | .b4 a b c d e=>AA3 f70 [1,1,1,0,1,0,0,1,1] rP (b,c,d,e,a,())
theorem Zs0:AA1 70 [44] 44 (fun x=>Z2F x.1) rfl:=Bh (mc Zbg (mc Zpa (mc Zq5 (mc Zbh Ae)))) Af (al [(4,rP),(8,rJ),(9,rJ),(5,rP)]) ZsJ func70 (fun p=>by cases p<;>kernel_rfl) (by kernel_rfl) fun _=>rfl
def ZcD:S1 (Unit) Aq
 | _=>AB (⟨1,[]⟩:Aq)
def Z2A  : Option Aq:=AU ZcD ()
theorem ZrX:AA1 166 [] 68 (fun x=>Z2A) rfl:=ok1 Ae Af func166 (fun _=>by kernel_rfl) (by kernel_rfl)
inductive gX where
 | b0 (a:BQ)
 | b1 (a b:BQ) (c:BI)
 | b2 (a:Int) (b c:BQ) (d e:BI)
 | b3 (a:Int) (b c:BQ) (d e:BI)
 | b4 (a b:BQ) (c d:BI)
def Zdv:gX->Tr U ((BQ×BI)⊕gX)
 | .b0 a=>.br (!a.Open) (AP (.b1 ({ a with Open:=true,Empty:=((↑a.Az.length:Int)==0) }:BQ) KZ Df)) (AP (.b1 a KZ Df))
 | .b1 a b c=>let f:=(↑a.Az.length:Int);.bind 68 (Z2A) (fun(d:Aq)=>let g:=(⟨a.SN,a.DX,0,d⟩:BI);let e:=AP (gX.b3 f a b c g);.br (!a.Empty) (.br (decide (f>0)) (AP (.b2 f a b c g)) e) e)
 | .b2 b a c d e=>.chk (kI (0:Int) a.Az) (.bind 68 (a.Az[(Int.toNat 0)]?) (fun(f:Aq)=>AP (.b3 (AQ (b - 1)) a c d ({ e with Ap:=f }:BI))))
 | .b3 e a b c d=>.br (decide (e>0)) (AP (.b4 a b c ({ d with MD:=1 }:BI))) (AP (.b4 a b c d))
 | .b4 a c d b=>AB (a,b)
def Z3g (a:BQ):Option (BQ×BI):=AU Zdv (.b0 a)
def ZbM:Lay:=LT [1,2,3] [.p 0,.p 1,.p 2] [.s 33,.s 33,.s 70]
def sG:Lay:=LT [1,2,3,4,5] [.p 0,.p 1,.p 2,.p 3,.v 3] [.s 33,.s 33,.s 70,.s 70]
def Zbo:Lay:=LT [1,2,3,4] [.p 0,.p 1,.p 2,.p 3] [.s 33,.s 33,.s 70,.s 70]
def Zv5:gX->BC U
 | .b0 a=>Bd f71 [33] (a,())
 | .b1 a b c=>AA3 f71 [1,1,0] ZbM (a,b,c,())
 | .b2 a b c d e=>AA3 f71 [1,1,1,1,0,1,0,0] sG (a,b,c,d,e,())
 | .b3 a b c d e=>AA3 f71 [1,1,1,1,1,0,0] sG (a,b,c,d,e,())
 | .b4 a b c d=>AA3 f71 [1,1,1,1,1,1,0] Zbo (a,b,c,d,())
theorem Zuh:AA1 71 [33] 75 (fun x=>Z3g x.1) rfl:=Bh (mc ZrX Ae) Af (al [(4,ZbM),(7,sG),(9,sG),(11,Zbo)]) Zv5 func71 (fun p=>by cases p<;>kernel_rfl) (by kernel_rfl) fun _=>rfl
def Z2B:S1 (Aq×Unit) Bool
 | (a,_)=>.br (a.BP==1) (AB ((↑a.Payload.length:Int)==0)) (AB false)
def PK (a:Aq):Option Bool:=AU Z2B (a,())
theorem rV:AA1 116 [68] 4 (fun x=>PK x.1) rfl:=ok1 Ae Af func116 (fun _=>by kernel_rfl) (by kernel_rfl)
def ZdZ:S1 (BI×(List Int)×Unit) BI
 | (a,b,_)=>AB ({ a with Ap:=(⟨a.Ap.BP,b⟩:Aq) }:BI)
def iC (a:BI) (b:List Int):Option BI:=AU ZdZ (a,b,())
theorem Zcr:AA1 168 [70,62] 70 (fun x=>iC x.1 x.2.1) rfl:=ok1 Ae Af func168 (fun _=>by kernel_rfl) (by kernel_rfl)
inductive iU where
 | b0 (a b:Int)
 | b1 (a:Int)
def iW:iU->Tr U (Int⊕iU)
 | .b0 b a=>let e:=IntKind.bits .u64;let c:=(Int.tmod (AQ ((AQ ((Int.tmod a 64)+64))*11)) (64:Int));let d:=AQ ((64:Int) - c);.br (decide (c>0)) (.chk (decide (0<=c)) (.chk (decide (0<=d)) (AP (.b1 (bits .or .u64 (IntKind.wrap .u64 (b*2 ^ (min (Int.toNat c) e))) (Int.fdiv b (2 ^ (min (Int.toNat d) e)))))))) (AP (.b1 b))
 | .b1 a=>AB (IntKind.wrap .u32 ((Int.tmod a 4294967296)))
def Xb (a b:Int):Option Int:=AU iW (.b0 a b)
def ZbZ:Lay:=LT [6] [.v 25] []
def ZxQ:iU->BC U
 | .b0 a b=>Bd f383 [29,3] (a,b,())
 | .b1 a=>AA3 f383 [1,1,1,1,0] ZbZ (a,())
theorem Zx7:AA1 383 [29,3] 22 (fun x=>Xb x.1 x.2.1) rfl:=Bh Ae Af (al [(5,ZbZ)]) ZxQ func383 (fun p=>by cases p<;>kernel_rfl) (by kernel_rfl) fun _=>rfl
def ZdO:S1 (Int×Int×Unit) Int
 | (b,a,_)=>let d:=IntKind.bits .u32;let c:=AQ ((32:Int) - a);.chk (decide (0<=a)) (.chk (decide (0<=c)) (AB (bits .or .u32 (IntKind.wrap .u32 (b*2 ^ (min (Int.toNat a) d))) (Int.fdiv b (2 ^ (min (Int.toNat c) d))))))
def PL (a b:Int):Option Int:=AU ZdO (a,b,())
theorem Zv1:AA1 384 [22,3] 22 (fun x=>PL x.1 x.2.1) rfl:=ok1 Ae Af func384 (fun _=>by kernel_rfl) (by kernel_rfl)
def Z2n:S1 (Int×Int×Int×Unit) Int
 | (b,c,d,_)=>.bind 22 (Xb b c) (fun(a:Int)=>.bind 22 (PL (IntKind.wrap .u32 (d+a)) (7:Int)) (fun(e:Int)=>.bind 22 (PL a (16:Int)) (fun(f:Int)=>AB (bits .xor .u32 (IntKind.wrap .u32 (e*2654435761)) f))))
def sW (a b c:Int):Option Int:=AU Z2n (a,b,c,())
theorem Zrb:AA1 359 [29,3,22] 22 (fun x=>sW x.1 x.2.1 x.2.2.1) rfl:=ok1 (mc Zx7 (mc Zv1 Ae)) Af func359 (fun _=>by kernel_rfl) (by kernel_rfl)
inductive iL where
 | b0 (a b:Int)
 | b1 (a b c d:Int)
def VE:iL->Tr U (Int⊕iL)
 | .b0 b a=>AP (.b1 b (IntKind.wrap .u32 ((IntKind.wrap .u64 (Int.tdiv a 4294967296)))) (IntKind.wrap .u32 ((Int.tmod a 4294967296))) (0:Int))
 | .b1 c d a b=>.br (decide (b<8)) (.bind 22 (sW c b a) (fun(e:Int)=>AP (.b1 c a (bits .xor .u32 d e) (AQ (b+1))))) (AB (IntKind.wrap .u64 ((IntKind.wrap .u64 ((IntKind.wrap .u64 (d))*4294967296))+(IntKind.wrap .u64 (a)))))
def S9 (a b:Int):Option Int:=AU VE (.b0 a b)
def ZcQ:Lay:=LT [0,5,6,7] [.v 29,.v 22,.v 22,.v 3] []
def Zya:iL->BC U
 | .b0 a b=>Bd f327 [29,25] (a,b,())
 | .b1 a b c d=>AA3 f327 [1,1,1,0,1,0,0,0,0] ZcQ (a,b,c,d,())
theorem Zek:AA1 327 [29,25] 25 (fun x=>S9 x.1 x.2.1) rfl:=Bh (mc Zrb Ae) Af (al [(4,ZcQ)]) Zya func327 (fun p=>by cases p<;>kernel_rfl) (by kernel_rfl) fun _=>rfl
inductive iZ where
 | b0 (a b:Int)
 | b1 (a b:Int) (c:List Int) (d:Int)
def Xh:iZ->Tr U (MC⊕iZ)
 | .b0 a b=>.chk true (AP (.b1 a b ([]:List Int) (0:Int)))
 | .b1 c b a d=>let e:=a++[(IntKind.wrap .u8 ((Int.tmod b 256)))];.br (decide (d<c)) (.chk true (kl a (.chk (kA (a.length+1) 1) (kl e (AP (.b1 c (IntKind.wrap .u64 (Int.tdiv b 256)) e (AQ (d+1)))))))) (kl a (AB (⟨a⟩:MC)))
def MG (a b:Int):Option MC:=AU Xh (.b0 a b)
def Zco:Shape:=⟨[OV 3,OV 25],[]⟩
def ZrC:Shape:=⟨[.one (.own 5 0)],[.row 5 true]⟩
noncomputable def ZA7:HMod U:=⟨[KP,KP],[],Zco,ZrC,true,1351,fun(y:MC)=>(((),()),(y.q0,())),fun x=>MG x.1.1.1 x.1.2.1.1,okS rfl⟩
def Zc3:Lay:=LT [0,1,5,6] [.v 3,.v 25,.o 5 1 0,.v 3] [.r 5]
def Zwo:iZ->BC U
 | .b0 a b=>Dz f328 Zco (((a,()),((b,()),())),())
 | .b1 a b c d=>AA3 f328 [1,1,0,1,0,0,0,0] Zc3 (a,b,d,c,())
theorem vG:DK Tryz.prog B0 328 ZA7:=okR Ae Af (al [(3,Zc3)]) [[.own 5 1]] [.row true] 0 Zwo func328 (fun p=>by cases p<;>kernel_rfl) (by kernel_rfl) fun x=>by kernel_rfl
inductive dO where
 | b0 (a b c:Int)
 | b1 (a b:Int) (c:List Int) (d e:Int)
def XF:dO->Tr U ((List Int)⊕dO)
 | .b0 a b c=>.bind 25 (S9 a b) (fun(d:Int)=>.chk true (AP (.b1 a c ([]:List Int) d (0:Int))))
 | .b1 d b a e f=>let i:=(↑a.length:Int);let h:=(Int.toNat b) - 0;kl a (.br (decide (i<b)) (.bind 25 (S9 d (IntKind.wrap .u64 (e+(IntKind.wrap .u64 (f))))) (fun(g:Int)=>.bind 1351 (MG (8:Int) g) (fun(c:MC)=>kl c.q0 (kl a (.chk (kA (a.length+c.q0.length) 1) (kl (a++c.q0) (AP (.b1 d b (a++c.q0) e (AQ (f+1)))))))))) (kl a (.chk (decide (0<=b/\b<=i)) (kl a (.chk (decide (0+h<=a.length)) (AB ((a.drop 0).take h)))))))
def dG (a b c:Int):Option (List Int):=AU XF (.b0 a b c)
def Z9W:Lay:=LT [0,2,7,8,9] [.v 29,.v 3,.o 5 1 0,.v 25,.v 3] [.r 5]
def ZqP:dO->BC U
 | .b0 a b c=>Bd f246 [29,25,3] (a,b,c,())
 | .b1 a b c d e=>AA3 f246 [1,1,1,0,1,0,0,0,0] Z9W (a,b,d,e,c,())
theorem ZaZ:AA1 246 [29,25,3] 62 (fun x=>dG x.1 x.2.1 x.2.2.1) rfl:=Bh (mc Zek Ae) (hc [] vG Af) (al [(4,Z9W)]) ZqP func246 (fun p=>by cases p<;>kernel_rfl) (by kernel_rfl) fun _=>rfl
inductive eX where
 | b0 (a:List Int)
 | b1 (a:List Int) (b c:Int)
def XX:eX->Tr U (Int⊕eX)
 | .b0 a=>AP (.b1 a (0:Int) (AQ ((↑a.length:Int) - 1)))
 | .b1 b c a=>.br (decide (a>=0)) (.chk (kI a b) (.bind 5 (b[(Int.toNat a)]?) (fun(d:Int)=>AP (.b1 b (IntKind.wrap .u64 ((IntKind.wrap .u64 (c*256))+(IntKind.wrap .u64 (d)))) (AQ (a - 1)))))) (AB c)
def uG (a:List Int):Option Int:=AU XX (.b0 a)
def Zax:Lay:=LT [0,3,4] [.v 62,.v 25,.v 3] []
def ZrL:eX->BC U
 | .b0 a=>Bd f360 [62] (a,())
 | .b1 a b c=>AA3 f360 [1,1,0,1,0,0,0,0] Zax (a,b,c,())
theorem Ztb:AA1 360 [62] 25 (fun x=>uG x.1) rfl:=Bh Ae Af (al [(3,Zax)]) ZrL func360 (fun p=>by cases p<;>kernel_rfl) (by kernel_rfl) fun _=>rfl
inductive iY where
 | b0 (a:Int) (b:List Int)
 | b1 (a:Int) (b:List Int) (c d:Int)
def Xd:iY->Tr U (Int⊕iY)
 | .b0 a b=>.bind 25 (S9 a (IntKind.wrap .u64 ((↑b.length:Int)))) (fun(c:Int)=>AP (.b1 a b c (0:Int)))
 | .b1 c b d a=>let k:=Int.toNat a;let i:=AQ (a+8);let h:=(↑b.length:Int);let g:=if h<i then h else i;let j:=Int.toNat g;.br (decide (a<h)) (.chk (decide (0<=g/\g<=h)) (.chk (decide (0<=a/\a<=(↑j:Int))) (.bind 25 (uG ((b.drop k).take (j - k))) (fun(e:Int)=>.bind 25 (S9 c (bits .xor .u64 d e)) (fun(f:Int)=>AP (.b1 c b f i)))))) (AB d)
def Uz (a:Int) (b:List Int):Option Int:=AU Xd (.b0 a b)
def ZcX:Lay:=LT [0,1,5,6] [.v 29,.v 62,.v 25,.v 3] []
def Zy3:iY->BC U
 | .b0 a b=>Bd f329 [29,62] (a,b,())
 | .b1 a b c d=>AA3 f329 [1,1,0,1,0,0,0,0] ZcX (a,b,c,d,())
theorem Zdd:AA1 329 [29,62] 25 (fun x=>Uz x.1 x.2.1) rfl:=Bh (mc Zek (mc Ztb Ae)) Af (al [(3,ZcX)]) Zy3 func329 (fun p=>by cases p<;>kernel_rfl) (by kernel_rfl) fun _=>rfl
inductive eF where
 | b0 (a:Int) (b c:List Int)
def Z2H:eF->Tr U (Ul⊕eF)
 | .b0 e c d=>.bind 1351 (MG (8:Int) e) (fun(a:MC)=>.bind 1351 (MG (4:Int) (IntKind.wrap .u64 ((↑c.length:Int)))) (fun(b:MC)=>let f:=a.q0++b.q0;let g:=(f++c)++d;kl b.q0 (kl a.q0 (.chk (kA (a.q0.length+b.q0.length) 1) (kl f (.chk (kA (f.length+c.length) 1) (kl (f++c) (.chk (kA ((f++c).length+d.length) 1) (kl g (AB (⟨g⟩:Ul)))))))))))
def tV (a:Int) (b c:List Int):Option Ul:=AU Z2H (.b0 a b c)
def Zag:Shape:=⟨[OV 25,OV 62,OV 62],[]⟩
def Zpf:Shape:=⟨[.one (.own 5 0)],[.row 5 true]⟩
noncomputable def ZtY:HMod U:=⟨[KP,[.s 5 1],[.s 5 1]],[],Zag,Zpf,true,1352,fun(y:Ul)=>(((),()),(y.q0,())),fun x=>tV x.1.1.1 x.1.2.1.1 x.1.2.2.1.1,okS rfl⟩
def Zrp:eF->BC U
 | .b0 a b c=>Dz f330 Zag (((a,()),((b,()),((c,()),()))),())
theorem Zrj:DK Tryz.prog B0 330 ZtY:=okR Ae (hc [] vG Af) AN [[.own 5 1]] [.row true] 0 Zrp func330 (fun p=>by cases p<;>kernel_rfl) (by kernel_rfl) fun x=>by kernel_rfl
def Z3A:S1 (Int×Int×(List Int)×(List Int)×Unit) (List Int)
 | (c,d,e,f,_)=>.bind 1352 (tV d e f) (fun(a:Ul)=>kl a.q0 (.bind 25 (Uz c a.q0) (fun(g:Int)=>.bind 1351 (MG (4:Int) g) (fun(b:MC)=>kl b.q0 (AB b.q0)))))
def iV (a b:Int) (c d:List Int):Option (List Int):=AU Z3A (a,b,c,d,())
theorem ZdC:AA1 247 [29,25,62,62] 62 (fun x=>iV x.1 x.2.1 x.2.2.1 x.2.2.2.1) rfl:=ok1 (mc Zdd Ae) (hc [] vG (hc [] Zrj Af)) func247 (fun _=>by kernel_rfl) (by kernel_rfl)
inductive iT where
 | b0 (a b:List Int)
 | b1 (a b c:List Int) (d:Int)
 | b2 (a b c:List Int) (d:Int)
def VB:iT->Tr U (Q7⊕iT)
 | .b0 a b=>.chk true (AP (.b1 a b ([]:List Int) (0:Int)))
 | .b1 c d a b=>let e:=kl a (AB (⟨a⟩:Q7));.br (decide (b<(↑c.length:Int))) (.br (decide (b<(↑d.length:Int))) (kl a (AP (.b2 c d a b))) e) e
 | .b2 c d b a=>let h:=Int.toNat a;.chk (kI a c) (.bind 5 (c[h]?) (fun(e:Int)=>.chk (kI a d) (.bind 5 (d[h]?) (fun(f:Int)=>let g:=b++[(bits .xor .u8 e f)];.chk true (kl b (.chk (kA (b.length+1) 1) (kl g (AP (.b1 c d g (AQ (a+1)))))))))))
def iM (a b:List Int):Option Q7:=AU VB (.b0 a b)
def Zd1:Shape:=⟨[OV 62,OV 62],[]⟩
def Zr9:Shape:=⟨[.one (.own 5 0)],[.row 5 true]⟩
noncomputable def ZyH:HMod U:=⟨[[.s 5 1],[.s 5 1]],[],Zd1,Zr9,true,1350,fun(y:Q7)=>(((),()),(y.q0,())),fun x=>iM x.1.1.1 x.1.2.1.1,okS rfl⟩
def sS:Lay:=LT [0,1,5,6] [.v 62,.v 62,.o 5 1 0,.v 3] [.r 5]
def ZvO:iT->BC U
 | .b0 a b=>Dz f245 Zd1 (((a,()),((b,()),())),())
 | .b1 a b c d=>AA3 f245 [1,1,0,1,0,0,0,0] sS (a,b,d,c,())
 | .b2 a b c d=>AA3 f245 [1,1,0,1,0,0,1,0,0] sS (a,b,d,c,())
theorem ZdX:DK Tryz.prog B0 245 ZyH:=okR Ae Af (al [(3,sS),(5,sS)]) [[.own 5 1]] [.row true] 0 ZvO func245 (fun p=>by cases p<;>kernel_rfl) (by kernel_rfl) fun x=>by kernel_rfl
def ZdJ:S1 (Int×Int×(List Int)×(List Int)×Unit) (List Int)
 | (c,d,f,e,_)=>.bind 62 (dG c d (↑e.length:Int)) (fun(g:List Int)=>.bind 1350 (iM e g) (fun(a:Q7)=>kl a.q0 (.bind 62 (iV c d f a.q0) (fun(b:List Int)=>kl a.q0 (.chk (kA (a.q0.length+b.length) 1) (kl (a.q0++b) (AB (a.q0++b))))))))
def Z3a (a b:Int) (c d:List Int):Option (List Int):=AU ZdJ (a,b,c,d,())
theorem Zvs:AA1 169 [29,25,62,62] 62 (fun x=>Z3a x.1 x.2.1 x.2.2.1 x.2.2.2.1) rfl:=ok1 (mc ZaZ (mc ZdC Ae)) (hc [] ZdX Af) func169 (fun _=>by kernel_rfl) (by kernel_rfl)
inductive fP where
 | b0 (a:Bc) (b c:Int)
 | b1 (a b:Int) (c:Bc)
def tX:fP->Tr U (Int⊕fP)
 | .b0 a c b=>.br (c==1) (AP (.b1 b (1:Int) a)) (AP (.b1 b (0:Int) a))
 | .b1 a b c=>AB (bits .xor .u64 c.Bj (IntKind.wrap .u64 ((IntKind.wrap .u64 ((2:Int)*a))+b)))
def eG (a:Bc) (b c:Int):Option Int:=AU tX (.b0 a b c)
def ZaN:Lay:=LT [2,3,7] [.v 25,.p 0,.v 25] [.s 41]
def Zsz:fP->BC U
 | .b0 a b c=>Bd f170 [41,3,25] (a,b,c,())
 | .b1 a b c=>AA3 f170 [1,1,1,0] ZaN (a,b,c,())
theorem ZbB:AA1 170 [41,3,25] 25 (fun x=>eG x.1 x.2.1 x.2.2.1) rfl:=Bh Ae Af (al [(4,ZaN)]) Zsz func170 (fun p=>by cases p<;>kernel_rfl) (by kernel_rfl) fun _=>rfl
end
noncomputable section
inductive iE where
 | b0 (a:Bc) (b:BI)
 | b1 (a:Bc) (b c:BI)
def Zej:iE->Tr U ((BI×Int)⊕iE)
 | .b0 b a=>.bind 45 (QV a) (fun(c:Int)=>.br (c != 0) (AB (Df,c)) (.br (!b.Gf) (AB (a,0)) (.bind 4 (PK a.Ap) (fun(d:Bool)=>.br d (AB (a,0)) (AP (.b1 b a Df))))))
 | .b1 a b f=>.br (decide ((↑b.Ap.Payload.length:Int)>251)) (AB (Df,4)) (.bind 25 (eG a a.BK a.Tx) (fun(c:Int)=>.chk true (.bind 62 (Z3a a.Key c ([(IntKind.wrap .u8 (b.Ap.BP))]) b.Ap.Payload) (fun(d:List Int)=>.bind 70 (iC b d) (fun(e:BI)=>AB (e,0))))))
def Z3r (a:Bc) (b:BI):Option (BI×Int):=AU Zej (.b0 a b)
def ZbA:Lay:=LT [2,3,4] [.p 0,.p 1,.p 2] [.s 41,.s 70,.s 70]
def Zv7:iE->BC U
 | .b0 a b=>Bd f72 [41,70] (a,b,())
 | .b1 a b c=>AA3 f72 [1,1,1,0,0] ZbA (a,b,c,())
theorem Zvj:AA1 72 [41,70] 71 (fun x=>Z3r x.1 x.2.1) rfl:=Bh (mc rV (mc XI (mc Zcr (mc Zvs (mc ZbB Ae))))) Af (al [(6,ZbA)]) Zv7 func72 (fun p=>by cases p<;>kernel_rfl) (by kernel_rfl) fun _=>rfl
def ZbC:S1 (BI×Unit) ((List Int)×Int)
 | (a,_)=>let c:=[(IntKind.wrap .u8 ((AQ ((AQ ((AQ (a.Ap.BP+(AQ ((4:Int)*a.DX))))+(AQ ((8:Int)*a.SN))))+(AQ ((16:Int)*a.MD)))))),(IntKind.wrap .u8 ((↑a.Ap.Payload.length:Int)))]++a.Ap.Payload;.bind 45 (QV a) (fun(b:Int)=>.br (b != 0) (.chk true (AB (([]:List Int),b))) (.chk true (.chk (kA (2+a.Ap.Payload.length) 1) (kl c (AB (c,(0:Int)))))))
def Z1Y (a:BI):Option ((List Int)×Int):=AU ZbC (a,())
theorem ZqJ:AA1 73 [70] 120 (fun x=>Z1Y x.1) rfl:=ok1 (mc XI Ae) Af func73 (fun _=>by kernel_rfl) (by kernel_rfl)
def Z3f:S1 (Int×Unit) (List Int)
 | (a,_)=>.chk true (AB ([(IntKind.wrap .u8 ((Int.tmod a 256))),(IntKind.wrap .u8 ((Int.tmod (IntKind.wrap .u32 (Int.tdiv a 256)) (256:Int)))),(IntKind.wrap .u8 ((IntKind.wrap .u32 (Int.tdiv a 65536))))]))
def gV (a:Int):Option (List Int):=AU Z3f (a,())
theorem Zcx:AA1 172 [22] 62 (fun x=>gV x.1) rfl:=ok1 Ae Af func172 (fun _=>by kernel_rfl) (by kernel_rfl)
def Z3m:S1 (Int×Int×Unit) Int
 | (a,b,_)=>let c:=IntKind.wrap .u32 (Int.tdiv a 2);.br ((bits .xor .u32 (Int.tmod a 2) b)==1) (AB (bits .xor .u32 c (14311424:Int))) (AB c)
def uU (a b:Int):Option Int:=AU Z3m (a,b,())
theorem ZtC:AA1 250 [22,22] 22 (fun x=>uU x.1 x.2.1) rfl:=ok1 Ae Af func250 (fun _=>by kernel_rfl) (by kernel_rfl)
inductive iK where
 | b0 (a:Int) (b:List Int)
 | b1 (a:List Int) (b c:Int)
 | b2 (a:List Int) (b c d e:Int)
def N7:iK->Tr U (Int⊕iK)
 | .b0 a b=>AP (.b1 b (Int.tmod a 16777216) (0:Int))
 | .b1 a c b=>.br (decide (b<(↑a.length:Int))) (.chk (kI b a) (.bind 5 (a[(Int.toNat b)]?) (fun(d:Int)=>AP (.b2 a c b (IntKind.wrap .u32 (d)) (0:Int))))) (AB c)
 | .b2 a b c d e=>.br (decide (e<8)) (.bind 22 (uU b (Int.tmod d 2)) (fun(f:Int)=>AP (.b2 a f c (IntKind.wrap .u32 (Int.tdiv d 2)) (AQ (e+1))))) (AP (.b1 a b (AQ (c+1))))
def iQ (a:Int) (b:List Int):Option Int:=AU N7 (.b0 a b)
def Zc4:Lay:=LT [1,5,6] [.v 62,.v 22,.v 3] []
def ZcB:Lay:=LT [1,5,6,7,8] [.v 62,.v 22,.v 3,.v 22,.v 3] []
def ZwG:iK->BC U
 | .b0 a b=>Bd f173 [22,62] (a,b,())
 | .b1 a b c=>AA3 f173 [1,1,0,1,0,0,0,0] Zc4 (a,b,c,())
 | .b2 a b c d e=>AA3 f173 [1,1,0,1,0,0,1,0,0,1,1,0,0,0,0] ZcB (a,b,c,d,e,())
theorem ZdB:AA1 173 [22,62] 22 (fun x=>iQ x.1 x.2.1) rfl:=Bh (mc ZtC Ae) Af (al [(3,Zc4),(7,ZcB)]) ZwG func173 (fun p=>by cases p<;>kernel_rfl) (by kernel_rfl) fun _=>rfl
def ZbL:S1 (Int×(List Int)×Unit) (List Int)
 | (c,a,_)=>let e:=([]:List Int)++a;.chk true (.chk (kA (0+a.length) 1) (.bind 22 (iQ c a) (fun(d:Int)=>.bind 62 (gV d) (fun(b:List Int)=>kl e (.chk (kA (e.length+b.length) 1) (kl (e++b) (AB (e++b))))))))
def Z2j (a:Int) (b:List Int):Option (List Int):=AU ZbL (a,b,())
theorem Zqs:AA1 75 [22,62] 62 (fun x=>Z2j x.1 x.2.1) rfl:=ok1 (mc Zcx (mc ZdB Ae)) Af func75 (fun _=>by kernel_rfl) (by kernel_rfl)
def Z2p:S1 (Int×Unit) Int
 | (a,_)=>let b:=(if (39:Int)<a then (39:Int) else a);AB (AQ ((64:Int)+(if b>0 then b else (0:Int))))
def tK (a:Int):Option Int:=AU Z2p (a,())
theorem Zsc:AA1 248 [3] 3 (fun x=>tK x.1) rfl:=ok1 Ae Af func248 (fun _=>by kernel_rfl) (by kernel_rfl)
def Z3w:S1 (Int×Unit) Int
 | (a,_)=>let b:=Int.tmod (AQ (a*2)) 128;.br (decide (a>=64)) (AB (bits .xor .i64 b (17:Int))) (AB b)
def uY (a:Int):Option Int:=AU Z3w (a,())
theorem Zts:AA1 249 [3] 3 (fun x=>uY x.1) rfl:=ok1 Ae Af func249 (fun _=>by kernel_rfl) (by kernel_rfl)
inductive bH where
 | b0 (a b:Int)
 | b1 (a:Int) (b:List Int) (c d:Int)
 | b2 (a:Int) (b:List Int) (c d e f g:Int)
def ND:bH->Tr U ((List Int)⊕bH)
 | .b0 a b=>.bind 3 (tK a) (fun(c:Int)=>.chk true (AP (.b1 b ([]:List Int) c (0:Int))))
 | .b1 b a d c=>.br (decide (c<b)) (kl a (AP (.b2 b a d c (0:Int) (1:Int) (0:Int)))) (kl a (AB a))
 | .b2 d a b e c f g=>let i:=a++[(IntKind.wrap .u8 (c))];.br (decide (g<8)) (.bind 3 (uY b) (fun(h:Int)=>kl a (AP (.b2 d a h e (AQ (c+(AQ (f*(AQ (Int.tdiv b 64)))))) (AQ (f*2)) (AQ (g+1)))))) (.chk true (kl a (.chk (kA (a.length+1) 1) (kl i (AP (.b1 d i b (AQ (e+1))))))))
def qO (a b:Int):Option (List Int):=AU ND (.b0 a b)
def Z8N:Lay:=LT [1,5,6,7] [.v 3,.o 5 1 0,.v 3,.v 3] [.r 5]
def Z96:Lay:=LT [1,5,6,7,8,9,10] [.v 3,.o 5 1 0,.v 3,.v 3,.v 3,.v 3,.v 3] [.r 5]
def Zot:bH->BC U
 | .b0 a b=>Bd f171 [3,3] (a,b,())
 | .b1 a b c d=>AA3 f171 [1,1,1,0,1,0,0,0,0] Z8N (a,c,d,b,())
 | .b2 a b c d e f g=>AA3 f171 [1,1,1,0,1,0,0,1,0,0,1,0,1,0,0,0,0] Z96 (a,c,d,e,f,g,b,())
theorem ZoH:AA1 171 [3,3] 62 (fun x=>qO x.1 x.2.1) rfl:=Bh (mc Zsc (mc Zts Ae)) Af (al [(4,Z8N),(8,Z96)]) Zot func171 (fun p=>by cases p<;>kernel_rfl) (by kernel_rfl) fun _=>rfl
inductive dY where
 | b0 (a:Int) (b:List Int)
 | b1 (a b c:List Int) (d:Int)
def XZ:dY->Tr U (SQ⊕dY)
 | .b0 b a=>.bind 62 (qO b (↑a.length:Int)) (fun(c:List Int)=>.chk true (AP (.b1 a c ([]:List Int) (0:Int))))
 | .b1 c d a b=>let h:=Int.toNat b;.br (decide (b<(↑c.length:Int))) (.chk (kI b c) (.bind 5 (c[h]?) (fun(e:Int)=>.chk (kI b d) (.bind 5 (d[h]?) (fun(f:Int)=>let g:=a++[(bits .xor .u8 e f)];.chk true (kl a (.chk (kA (a.length+1) 1) (kl g (AP (.b1 c d g (AQ (b+1)))))))))))) (kl a (AB (⟨a⟩:SQ)))
def dV (a:Int) (b:List Int):Option SQ:=AU XZ (.b0 a b)
def Zaq:Shape:=⟨[OV 3,OV 62],[]⟩
def Zpy:Shape:=⟨[.one (.own 5 0)],[.row 5 true]⟩
noncomputable def Zu8:HMod U:=⟨[KP,[.s 5 1]],[],Zaq,Zpy,true,1348,fun(y:SQ)=>(((),()),(y.q0,())),fun x=>dV x.1.1.1 x.1.2.1.1,okS rfl⟩
def Za8:Lay:=LT [1,5,6,7] [.v 62,.v 62,.o 5 1 0,.v 3] [.r 5]
def ZrR:dY->BC U
 | .b0 a b=>Dz f74 Zaq (((a,()),((b,()),())),())
 | .b1 a b c d=>AA3 f74 [1,1,1,0,1,0,0,0,0] Za8 (a,b,d,c,())
theorem Zbm:DK Tryz.prog B0 74 Zu8:=okR (mc ZoH Ae) Af (al [(4,Za8)]) [[.own 5 1]] [.row true] 0 ZrR func74 (fun p=>by cases p<;>kernel_rfl) (by kernel_rfl) fun x=>by kernel_rfl
inductive gU where
 | b0 (a:Ac)
 | b1 (a b:Ac) (c:BI)
def Ze4:gU->Tr U ((Ac×(List Int))⊕gU)
 | .b0 c=>.br (c.Bl != 0) (.chk true (AB (c,([]:List Int)))) (.bind 44 (Z2F c) (fun(b:Ac)=>.bind 75 (Z3g b.Ar) (fun(a:BQ×BI)=>let e:=({ b with More:=(a.2.MD==1),Ar:=a.1 }:Ac);let f:=AP (gU.b1 e D8 a.2);.br b.Bq.Gf (.bind 71 (Z3r b.Bq a.2) (fun(d:BI×Int)=>.br (d.2==0) (AP (.b1 e D8 d.1)) f)) f)))
 | .b1 a g c=>.bind 120 (Z1Y c) (fun(d:(List Int)×Int)=>.bind 3 (bK a) (fun(e:Int)=>.bind 62 (Z2j a.DR.LJ d.1) (fun(f:List Int)=>.bind 1348 (dV e f) (fun(b:SQ)=>kl b.q0 (AB (a,b.q0))))))
def uS (a:Ac):Option (Ac×(List Int)):=AU Ze4 (.b0 a)
def ZbR:Lay:=LT [1,2,5] [.p 0,.p 1,.p 2] [.s 44,.s 44,.s 70]
def Ztz:gU->BC U
 | .b0 a=>Bd f24 [44] (a,())
 | .b1 a b c=>AA3 f24 [1,1,1,1,1,1,1,0] ZbR (a,b,c,())
theorem Ztj:AA1 24 [44] 63 (fun x=>uS x.1) rfl:=Bh (mc Z9P (mc Zs0 (mc Zuh (mc Zvj (mc ZqJ (mc Zqs Ae)))))) (hc [] Zbm Af) (al [(11,ZbR)]) Ztz func24 (fun p=>by cases p<;>kernel_rfl) (by kernel_rfl) fun _=>rfl
def ZdY:S1 (ET×Unit) (ET×Int)
 | (a,_)=>.bind 4 (uX a false) (fun(b:Bool)=>.br b (AB (a,9)) (AB (({ a with VJ:=(AQ (a.VJ+1)) }:ET),(0:Int))))
def Z3t (a:ET):Option (ET×Int):=AU ZdY (a,())
theorem ZuK:AA1 91 [35] 129 (fun x=>Z3t x.1) rfl:=ok1 (mc Zcp Ae) Af func91 (fun _=>by kernel_rfl) (by kernel_rfl)
def ZbU:S1 (ET×Bool×Unit) ET
 | (a,b,_)=>.br b (AB (⟨a.Dh,0,false⟩:ET)) (AB ({ a with VJ:=0 }:ET))
def Z26 (a:ET) (b:Bool):Option ET:=AU ZbU (a,b,())
theorem ZpM:AA1 92 [35,4] 35 (fun x=>Z26 x.1 x.2.1) rfl:=ok1 Ae Af func92 (fun _=>by kernel_rfl) (by kernel_rfl)
inductive dK where
 | b0 (a:List BJ) (b:Int) (c:Bool)
 | b1 (a:Int) (b:Bool) (c:List BJ)
 | b2 (a:Int) (b:Bool) (c:List BJ)
 | b3 (a:Int) (b:Bool) (c:List BJ)
 | b4 (a:Int) (b:List BJ)
def PE:dK->Tr U ((List BJ)⊕dK)
 | .b0 a b c=>let d:=([]:List BJ)++a;let e:=kl d (AB d);.chk true (.chk (kA (0+a.length) 16) (.br (decide (b<0)) e (.br (decide (b>=(↑a.length:Int))) e (kl d (AP (.b1 b c d))))))
 | .b1 b c a=>let e:=kl a (AP (dK.b3 b c a));.br c (kl a (.chk (kI b a) (kl a (.bind 99 (a[(Int.toNat b)]?) (fun(d:BJ)=>.br (decide (d.Good<65536)) (kl a (AP (.b2 b c a))) e))))) e
 | .b2 b e a=>let g:=Int.toNat b;kl a (.chk (kI b a) (kl a (.bind 99 (a[g]?) (fun(c:BJ)=>kl a (.chk (kI b a) (.chk (a.length==a.length&&decide (0<=g)) (.bind 99 (a[g]?) (fun(d:BJ)=>let f:=(a.set g (⟨(AQ (c.Good+1)),d.IY⟩:BJ));.chk (f.length==a.length) (AP (.b3 b e f))))))))))
 | .b3 b c a=>let e:=kl a (AB a);.br (!c) (kl a (.chk (kI b a) (kl a (.bind 99 (a[(Int.toNat b)]?) (fun(d:BJ)=>.br (decide (d.IY<65536)) (kl a (AP (.b4 b a))) e))))) e
 | .b4 b a=>let f:=Int.toNat b;kl a (.chk (kI b a) (kl a (.bind 99 (a[f]?) (fun(c:BJ)=>kl a (.chk (kI b a) (.chk (a.length==a.length&&decide (0<=f)) (.bind 99 (a[f]?) (fun(d:BJ)=>let e:=(a.set f (⟨d.Good,(AQ (c.IY+1))⟩:BJ));.chk (e.length==a.length) (AB e)))))))))
def XM (a:List BJ) (b:Int) (c:Bool):Option (List BJ):=AU PE (.b0 a b c)
def Wx:Lay:=LT [1,2,7] [.v 3,.v 4,.o 99 2 0] [.r 99]
def Z9K:Lay:=LT [1,7] [.v 3,.o 99 2 0] [.r 99]
def Zqr:dK->BC U
 | .b0 a b c=>Bd f93 [42,3,4] (a,b,c,())
 | .b1 a b c=>AA3 f93 [1,1,1,0,0] Wx (a,b,c,())
 | .b2 a b c=>AA3 f93 [1,1,1,0,1,0] Wx (a,b,c,())
 | .b3 a b c=>AA3 f93 [1,1,1,1,0,0] Wx (a,b,c,())
 | .b4 a b=>AA3 f93 [1,1,1,1,0,1,0] Z9K (a,b,())
theorem ZaL:AA1 93 [42,3,4] 42 (fun x=>XM x.1 x.2.1 x.2.2.1) rfl:=Bh Ae Af (al [(4,Wx),(5,Wx),(6,Wx),(7,Z9K)]) Zqr func93 (fun p=>by cases p<;>kernel_rfl) (by kernel_rfl) fun _=>rfl
inductive gZ where
 | b0 (a b:Int)
 | b1 (a:Int)
def gJ:gZ->Tr U (Int⊕gZ)
 | .b0 a b=>let c:=AQ ((AQ (b)) - (AQ (a)));.br (decide (c < -32768)) (AP (.b1 (AQ (c+65536)))) (AP (.b1 c))
 | .b1 a=>.br (decide (a>32767)) (AB (AQ (a - 65536))) (AB a)
def vJ (a b:Int):Option Int:=AU gJ (.b0 a b)
def Zbk:Lay:=LT [5] [.v 3] []
def Zve:gZ->BC U
 | .b0 a b=>Bd f333 [30,30] (a,b,())
 | .b1 a=>AA3 f333 [1,1,1,0,0] Zbk (a,())
theorem ZuB:AA1 333 [30,30] 3 (fun x=>vJ x.1 x.2.1) rfl:=Bh Ae Af (al [(4,Zbk)]) Zve func333 (fun p=>by cases p<;>kernel_rfl) (by kernel_rfl) fun _=>rfl
def Z20:S1 (Int×Int×Unit) Bool
 | (a,b,_)=>.bind 3 (vJ b a) (fun(c:Int)=>AB (decide (c>=0)))
def dP (a b:Int):Option Bool:=AU Z20 (a,b,())
theorem ZaQ:AA1 258 [30,30] 4 (fun x=>dP x.1 x.2.1) rfl:=ok1 (mc ZuB Ae) Af func258 (fun _=>by kernel_rfl) (by kernel_rfl)
inductive iR where
 | b0 (a:List BG) (b:Int)
 | b1 (a:List BG) (b:Int) (c d:List BG) (e:Int)
 | b2 (a:List BG) (b:Int) (c d:List BG) (e:Int)
def Zfo:iR->Tr U (((List BG)×(List BG))⊕iR)
 | .b0 a b=>let c:=([]:List BG);.chk (true&&true) (AP (.b1 a b c c (0:Int)))
 | .b1 a e c d b=>let k:=kI b a;let j:=a[(Int.toNat b)]?;.br (decide (b<(↑a.length:Int))) (.chk k (.bind 138 j (fun(h:BG)=>.bind 4 (dP e h.Ci) (fun(i:Bool)=>.br i (.chk k (.bind 138 j (fun(f:BG)=>.chk true (kl d (.chk (kA (d.length+1) 64) (.chk (kL c&&kL (d++[f])) (AP (.b2 a e c (d++[f]) b)))))))) (.chk k (.bind 138 j (fun(g:BG)=>.chk true (kl c (.chk (kA (c.length+1) 64) (.chk (kL (c++[g])&&kL d) (AP (.b2 a e (c++[g]) d b)))))))))))) (kl c (kl d (AB (c,d))))
 | .b2 c d a b e=>.chk (kL a&&kL b) (AP (.b1 c d a b (AQ (e+1))))
def Z47 (a:List BG) (b:Int):Option ((List BG)×(List BG)):=AU Zfo (.b0 a b)
def sO:Lay:=LT [0,1,4,5,6] [.v 37,.v 30,.o 138 8 0,.o 138 8 1,.v 3] [.r 138,.r 138]
def Zwp:iR->BC U
 | .b0 a b=>Bd f186 [37,30] (a,b,())
 | .b1 a b c d e=>AA3 f186 [1,1,0,1,0,0,0,0] sO (a,b,e,c,d,())
 | .b2 a b c d e=>AA3 f186 [1,1,0,1,0,0,1,1] sO (a,b,e,c,d,())
theorem ZxB:AA1 186 [37,30] 208 (fun x=>Z47 x.1 x.2.1) rfl:=Bh (mc ZaQ Ae) Af (al [(3,sO),(4,sO)]) Zwp func186 (fun p=>by cases p<;>kernel_rfl) (by kernel_rfl) fun _=>rfl
inductive jB where
 | b0 (a:A7) (b:Int)
 | b1 (a b:A7)
 | b2 (a:List BG) (b c:A7)
 | b3 (a:List BG) (b:Int) (c d:A7)
 | b4 (a:List BG) (b:Int) (c d:A7)
 | b5 (a:List BG) (b:Int) (c d:A7)
def ZeD:jB->Tr U ((A7×(List BG))⊕jB)
 | .b0 b c=>.bind 208 (Z47 b.Ak c) (fun(a:(List BG)×(List BG))=>let e:=({ b with Ak:=a.1 }:A7);let d:=AP (jB.b2 a.2 e EP);.br (b.BK==0) (.br (decide ((↑a.2.length:Int)>0)) (.br (!b.Told) (AP (.b1 e EP)) d) d) d)
 | .b1 a b=>let c:=([]:List BG);.br (a.Bz==0) (.chk true (AB (({ a with Bz:=40 }:A7),c))) (.chk true (AB (a,c)))
 | .b2 a b c=>AP (.b3 a (0:Int) b c)
 | .b3 a b c d=>.br (decide (b<(↑a.length:Int))) (.chk (kI b a) (.bind 138 (a[(Int.toNat b)]?) (fun(e:BG)=>.br (c.Own==e.Kind) (AP (.b4 a b ({ c with Own:=-1 }:A7) d)) (AP (.b4 a b c d))))) (AB (c,a))
 | .b4 a b c d=>.chk (kI b a) (.bind 138 (a[(Int.toNat b)]?) (fun(e:BG)=>.br (c.Other==e.Kind) (AP (.b5 a b ({ c with Other:=-1 }:A7) d)) (AP (.b5 a b c d))))
 | .b5 a b c d=>AP (.b3 a (AQ (b+1)) c d)
def Z3F (a:A7) (b:Int):Option (A7×(List BG)):=AU ZeD (.b0 a b)
def ZcA:Lay:=LT [2,4] [.p 0,.p 1] [.s 39,.s 39]
def Zc5:Lay:=LT [2,4,7] [.p 0,.p 1,.v 37] [.s 39,.s 39]
def XV:Lay:=LT [2,4,7,8] [.p 0,.p 1,.v 37,.v 3] [.s 39,.s 39]
def Zxh:jB->BC U
 | .b0 a b=>Bd f94 [39,30] (a,b,())
 | .b1 a b=>AA3 f94 [1,1,1,0,1,0,0,0] ZcA (a,b,())
 | .b2 a b c=>AA3 f94 [1,1,1,1,0,0] Zc5 (a,b,c,())
 | .b3 a b c d=>AA3 f94 [1,1,1,1,0,1,0,0,0,0] XV (a,b,c,d,())
 | .b4 a b c d=>AA3 f94 [1,1,1,1,0,1,0,0,1,0,0,1,0] XV (a,b,c,d,())
 | .b5 a b c d=>AA3 f94 [1,1,1,1,0,1,0,0,1,1] XV (a,b,c,d,())
theorem Zwe:AA1 94 [39,30] 135 (fun x=>Z3F x.1 x.2.1) rfl:=Bh (mc ZxB Ae) Af (al [(4,ZcA),(7,Zc5),(8,XV),(12,XV),(9,XV)]) Zxh func94 (fun p=>by cases p<;>kernel_rfl) (by kernel_rfl) fun _=>rfl
def Zfi:S1 (ET×Int×Unit) ET
 | (c,a,_)=>.bind 35 (vW a) (fun(b:ET)=>AB b)
def Z41 (a:ET) (b:Int):Option ET:=AU Zfi (a,b,())
theorem Zxq:AA1 187 [35,3] 35 (fun x=>Z41 x.1 x.2.1) rfl:=ok1 (mc ZdE Ae) Af func187 (fun _=>by kernel_rfl) (by kernel_rfl)
inductive fB where
 | b0 (a:Ac) (b:BG)
 | b1 (a:Ac) (b:BG) (c:Ac)
def Zcn:fB->Tr U (Ac⊕fB)
 | .b0 a b=>let d:=({ a.DR with BB:=b.BB }:FW);let c:=AQ (a.Fp+(AQ ((1250:Int)*b.BB.Dx)));.br (b.Kind==1) (AB ({ a with DR:=({ a.DR with Map:=b.Map }:FW) }:Ac)) (.br (a.BK==1) (AP (.b1 ({ a with DR:=d,Fp:=c,Size:=(AQ (a.Size+(AQ ((1250:Int)*b.BB.EK)))) }:Ac) b D8)) (AP (.b1 ({ a with DR:=d,Fp:=c }:Ac) b D8)))
 | .b1 a b d=>.bind 35 (Z41 a.Gj b.BB.Dh) (fun(c:ET)=>AB ({ a with Gj:=c }:Ac))
def Z2x (a:Ac) (b:BG):Option Ac:=AU Zcn (.b0 a b)
def Zb3:Lay:=LT [2,3,4] [.p 0,.p 1,.p 2] [.s 44,.s 138,.s 44]
def ZrT:fB->BC U
 | .b0 a b=>Bd f95 [44,138] (a,b,())
 | .b1 a b c=>AA3 f95 [1,1,1,1,1,0] Zb3 (a,b,c,())
theorem Zsy:AA1 95 [44,138] 44 (fun x=>Z2x x.1 x.2.1) rfl:=Bh (mc Zxq Ae) Af (al [(8,Zb3)]) ZrT func95 (fun p=>by cases p<;>kernel_rfl) (by kernel_rfl) fun _=>rfl
def Z2O:S1 (Int×Unit) Bool
 | (a,_)=>.br (a==0) (AB true) (AB (a==1))
def QX (a:Int):Option Bool:=AU Z2O (a,())
theorem XL:AA1 259 [3] 4 (fun x=>QX x.1) rfl:=ok1 Ae Af func259 (fun _=>by kernel_rfl) (by kernel_rfl)
def Zf5:S1 (A7×AO×Unit) Bool
 | (a,b,_)=>.bind 4 (QX b.Kind) (fun(c:Bool)=>.br (!c) (AB true) (AB ((↑a.Ak.length:Int)==0)))
def vX (a:A7) (b:AO):Option Bool:=AU Zf5 (a,b,())
theorem Zeg:AA1 188 [39,156] 4 (fun x=>vX x.1 x.2.1) rfl:=ok1 (mc XL Ae) Af func188 (fun _=>by kernel_rfl) (by kernel_rfl)
def Zf9:S1 (Int×Int×Unit) Int
 | (a,b,_)=>AB (IntKind.wrap .u16 ((Int.tmod (AQ ((AQ ((AQ (a))+(Int.tmod b 65536)))+65536)) (65536:Int))))
def vY (a b:Int):Option Int:=AU Zf9 (a,b,())
theorem Zeb:AA1 190 [30,3] 30 (fun x=>vY x.1 x.2.1) rfl:=ok1 Ae Af func190 (fun _=>by kernel_rfl) (by kernel_rfl)
def Zdy:S1 (Int×Int×Unit) Int
 | (b,a,_)=>let d:=(if (499:Int)<a then (499:Int) else a);.bind 30 (vY b (AQ ((6:Int)+(if d>0 then d else (0:Int))))) (fun(c:Int)=>AB c)
def Z3n (a b:Int):Option Int:=AU Zdy (a,b,())
theorem Zuk:AA1 260 [30,3] 30 (fun x=>Z3n x.1 x.2.1) rfl:=ok1 (mc Zeb Ae) Af func260 (fun _=>by kernel_rfl) (by kernel_rfl)
inductive fQ where
 | b0 (a:Int) (b:BG)
 | b1 (a:Int) (b:BG)
def eQ:fQ->Tr U (Int⊕fQ)
 | .b0 b a=>let c:=AP (fQ.b1 b a);.br (a.Kind != 0) (.br (a.Kind != 1) (AB (12:Int)) c) c
 | .b1 a b=>.bind 4 (dP a b.Ci) (fun(c:Bool)=>.br c (AB (18:Int)) (AB (0:Int)))
def dX (a:Int) (b:BG):Option Int:=AU eQ (.b0 a b)
def Zaw:Lay:=LT [0,3] [.v 30,.p 0] [.s 138]
def Zt9:fQ->BC U
 | .b0 a b=>Bd f334 [30,138] (a,b,())
 | .b1 a b=>AA3 f334 [1,1,0,0] Zaw (a,b,())
theorem Zt6:AA1 334 [30,138] 45 (fun x=>dX x.1 x.2.1) rfl:=Bh (mc ZaQ Ae) Af (al [(3,Zaw)]) Zt9 func334 (fun p=>by cases p<;>kernel_rfl) (by kernel_rfl) fun _=>rfl
def Z3Y:S1 ((List BG)×Int×BG×Unit) ((List BG)×Int)
 | (a,d,b,_)=>let e:=([]:List BG)++a;.chk true (.chk (kA (0+a.length) 64) (.bind 45 (dX d b) (fun(c:Int)=>.br (c != 0) (kl e (AB (e,c))) (.br (decide ((↑a.length:Int)>0)) (kl e (AB (e,(20:Int)))) (.chk true (kl e (.chk (kA (e.length+1) 64) (kl (e++[b]) (AB ((e++[b]),(0:Int)))))))))))
def VD (a:List BG) (b:Int) (c:BG):Option ((List BG)×Int):=AU Z3Y (a,b,c,())
theorem ZdK:AA1 261 [37,30,138] 269 (fun x=>VD x.1 x.2.1 x.2.2.1) rfl:=ok1 (mc Zt6 Ae) Af func261 (fun _=>by kernel_rfl) (by kernel_rfl)
def Zbw:S1 (AO×Unit) BG
 | (a,_)=>AB (⟨a.Kind,a.Ci,a.BB,a.Map⟩:BG)
def dA (a:AO):Option BG:=AU Zbw (a,())
theorem ZaY:AA1 262 [156] 138 (fun x=>dA x.1) rfl:=ok1 Ae Af func262 (fun _=>by kernel_rfl) (by kernel_rfl)
inductive dW where
 | b0 (a:A7) (b:AO) (c d:Int)
 | b1 (a:Int) (b:A7) (c:AO) (d:A7) (e:AO)
 | b2 (a:Int) (b:A7) (c:AO) (d:A7) (e:AO)
 | b3 (a:A7) (b:AO) (c:A7) (d:AO)
 | b4 (a:A7) (b:AO) (c:A7) (d:AO)
 | b5 (a:A7) (b:AO) (c:A7) (d:AO)
def Zd6:dW->Tr U ((A7×AO)⊕dW)
 | .b0 b a d c=>let h:=a.Kind==0;let e:=({ b with Own:=a.Kind,Since:=c }:A7);let g:=AP (dW.b1 d e a EP EO);let f:=AP (dW.b2 a.Kind e a EP EO);.br h (.br h g f) (.br (a.Kind==1) g f)
 | .b1 d a b e f=>.bind 30 (Z3n d (0:Int)) (fun(c:Int)=>let i:=({ b with Ci:=c }:AO);.bind 138 (dA i) (fun(h:BG)=>.bind 269 (VD a.Ak d h) (fun(g:(List BG)×Int)=>.br (g.2==0) (AP (.b3 ({ a with Ak:=g.1 }:A7) i e f)) (AP (.b3 a i e f)))))
 | .b2 e b a c d=>.br (e==3) (AP (.b4 ({ b with Bj:=a.Bj,Mark:=a.Mark,CP:=1 }:A7) a c d)) (.br (e==12) (AP (.b4 ({ b with FY:=true }:A7) a c d)) (.br (e==20) (AP (.b4 ({ b with Limit:=a.Length }:A7) a c d)) (AP (.b4 b a c d))))
 | .b3 a b c d=>let e:=({ a with Told:=false }:A7);let f:=AP (dW.b4 e b c d);.br (b.Kind==0) (.br (a.Other==15) (AP (.b5 e b c d)) f) f
 | .b4 a b c d=>AB (a,b)
 | .b5 a b c d=>AP (.b4 ({ a with Other:=-1 }:A7) b c d)
def uJ (a:A7) (b:AO) (c d:Int):Option (A7×AO):=AU Zd6 (.b0 a b c d)
def Zar:Lay:=LT [2,4,5,8,9] [.v 30,.p 0,.p 1,.p 2,.p 3] [.s 39,.s 156,.s 39,.s 156]
def ZaD:Lay:=LT [4,5,8,9,18] [.p 0,.p 1,.p 2,.p 3,.v 3] [.s 39,.s 156,.s 39,.s 156]
def XB:Lay:=LT [4,5,8,9] [.p 0,.p 1,.p 2,.p 3] [.s 39,.s 156,.s 39,.s 156]
def Zrl:dW->BC U
 | .b0 a b c d=>Bd f189 [39,156,30,3] (a,b,c,d,())
 | .b1 a b c d e=>AA3 f189 [1,1,1,0,1,0,1,0,0] Zar (a,b,c,d,e,())
 | .b2 a b c d e=>AA3 f189 [1,1,1,0,1,0,1,1,0] ZaD (a,b,c,d,e,())
 | .b3 a b c d=>AA3 f189 [1,1,1,0,1,0,1,0,1,1,1,0] XB (a,b,c,d,())
 | .b4 a b c d=>AA3 f189 [1,1,1,1,0] XB (a,b,c,d,())
 | .b5 a b c d=>AA3 f189 [1,1,1,0,1,0,1,0,1,1,1,1,1,0] XB (a,b,c,d,())
theorem Zbq:AA1 189 [39,156,30,3] 216 (fun x=>uJ x.1 x.2.1 x.2.2.1 x.2.2.2.1) rfl:=Bh (mc Zuk (mc ZdK (mc ZaY Ae))) Af (al [(6,Zar),(13,ZaD),(10,XB),(21,XB),(12,XB)]) Zrl func189 (fun p=>by cases p<;>kernel_rfl) (by kernel_rfl) fun _=>rfl
inductive dS where
 | b0 (a:A7) (b c:Int)
 | b1 (a b:Int) (c:List AO) (d e:A7)
 | b2 (a b:Int) (c:List AO) (d e:A7)
 | b3 (a:List AO) (b c:A7)
 | b4 (a b:Int) (c:List AO) (d e:A7) (f:AO)
def Zc8:dS->Tr U ((A7×(List AO))⊕dS)
 | .b0 a b c=>.chk true (AP (.b1 b c ([]:List AO) a EP))
 | .b1 d e b a c=>let h:=kl b (AP (dS.b3 b a c));.br (a.Bz==0) (.br (decide (a.Own<0)) (.br (decide ((↑a.Ah.length:Int)>0)) (.chk (kI (0:Int) a.Ah) (.bind 156 (a.Ah[(Int.toNat 0)]?) (fun(f:AO)=>.bind 4 (vX a f) (fun(g:Bool)=>.br g (kl b (AP (.b2 d e b a c))) h)))) h) h) h
 | .b2 c d b a e=>let l:=Int.toNat 1;let j:=(a.Ah.drop l).take (a.Ah.length - l);let g:=([]:List AO)++j;let k:=({ a with Ah:=g }:A7);.chk (kI (0:Int) a.Ah) (.bind 156 (a.Ah[(Int.toNat 0)]?) (fun(f:AO)=>let i:=Tr.chk (kL b&&(g.length==g.length)) (AP (dS.b4 c d b k e f));let h:=Tr.br (f.Kind==3) (.br (a.CP != 0) (kl g (kl b (AP (dS.b1 c d b k e)))) i) i;.chk (decide (0<=(1:Int)/\(1:Int)<=(↑a.Ah.length:Int))) (.chk true (.chk (kA (0+j.length) 120) (.br (f.Kind==12) (.br a.FY (kl g (kl b (AP (.b1 c d b k e)))) h) h)))))
 | .b3 a b c=>kl a (AB (b,a))
 | .b4 c d a e f g=>kl e.Ah (.bind 216 (uJ e g c d) (fun(b:A7×AO)=>.chk true (kl a (.chk (kA (a.length+1) 120) (kl (a++[b.2]) (AP (.b1 c d (a++[b.2]) b.1 f)))))))
def Z2t (a:A7) (b c:Int):Option (A7×(List AO)):=AU Zc8 (.b0 a b c)
def qW:Lay:=LT [1,2,3,6,8] [.v 30,.v 3,.p 0,.p 1,.o 156 15 2] [.s 39,.s 39,.r 156]
def Zb5:Lay:=LT [3,6,8] [.p 0,.p 1,.o 156 15 2] [.s 39,.s 39,.r 156]
def Zau:Lay:=⟨[1,2,3,6,8,9],[KP,KP,KP,KP,[.own 156 15],KP],[.var [.keep,.keep,.keep,.own 156 15,.keep,.keep,.s 138 8,.keep,.keep,.keep,.keep,.keep,.keep,.keep,.keep,.keep,.keep,.keep,.keep,.keep],.var k1,.row true,.var k0,.row true],⟨[OV 30,OV 3,PQ 0,PQ 1,.one (.own 156 2),PQ 3],[.var 39 20 (.agg [VC 3 1,VC 3 1,VC 3 1,.own 156 4,VC 3 1,VC 3 1,VC 37 1,VC 4 1,VC 25 1,VC 25 1,VC 4 1,VC 4 1,VC 3 1,VC 3 1,VC 3 1,VC 25 1,VC 25 1,VC 25 1,VC 3 1,VC 3 1]),VA 39 20,.row 156 true,VA 156 15,.row 156 true]⟩⟩
def Zrz:dS->BC U
 | .b0 a b c=>Bd f96 [39,30,3] (a,b,c,())
 | .b1 a b c d e=>AA3 f96 [1,1,0,0,0,0,0] qW (a,b,d,e,c,())
 | .b2 a b c d e=>AA3 f96 [1,1,0,0,0,1,0,0] qW (a,b,d,e,c,())
 | .b3 a b c=>AA3 f96 [1,1,1,0] Zb5 (b,c,a,())
 | .b4 b c d a e f=>AA3 f96 [1,1,0,0,0,1,0,1,1,1,0] Zau (b,c,a.BK,a.Own,a.Since,a.Other,a.Ez,a.Ak,a.Told,a.Bv,a.Hl,a.FI,a.FY,a.Version,a.Length,a.Limit,a.Bj,a.F5,a.Mark,a.CP,a.Bz,e,d,f,a.Ah,())
theorem Zso:AA1 96 [39,30,3] 140 (fun x=>Z2t x.1 x.2.1 x.2.2.1) rfl:=Bh (mc Zeg (mc Zbq Ae)) Af (al [(2,qW),(3,qW),(8,Zb5),(6,Zau)]) Zrz func96 (fun p=>by cases p<;>kernel_rfl) (by kernel_rfl) fun _=>rfl
end
noncomputable section
def ZcO:S1 (Ac×Unit) Int
 | (a,_)=>.bind 30 (vY a.Event a.DR.BB.Dh) (fun(b:Int)=>AB b)
def sN (a:Ac):Option Int:=AU ZcO (a,())
theorem ZbF:AA1 97 [44] 30 (fun x=>sN x.1) rfl:=ok1 (mc Zeb Ae) Af func97 (fun _=>by kernel_rfl) (by kernel_rfl)
def Zel:S1 (Int×Int×Int×Unit) Bool
 | (a,b,c,_)=>.br (decide (a>=0)) (.bind 4 (QX a) (fun(d:Bool)=>.br (!d) (AB (decide ((AQ (c - b))>40000000))) (AB false))) (AB false)
def uQ (a b c:Int):Option Bool:=AU Zel (a,b,c,())
theorem Zvu:AA1 191 [3,3,3] 4 (fun x=>uQ x.1 x.2.1 x.2.2.1) rfl:=ok1 (mc XL Ae) Af func191 (fun _=>by kernel_rfl) (by kernel_rfl)
def Zb1:S1 (A7×Int×Unit) Bool
 | (a,b,_)=>.bind 4 (uQ a.Own a.Since b) (fun(c:Bool)=>.br c (AB true) (.bind 4 (uQ a.Other a.Ez b) (fun(d:Bool)=>AB d)))
def Z1C (a:A7) (b:Int):Option Bool:=AU Zb1 (a,b,())
theorem Zpu:AA1 98 [39,3] 4 (fun x=>Z1C x.1 x.2.1) rfl:=ok1 (mc Zvu Ae) Af func98 (fun _=>by kernel_rfl) (by kernel_rfl)
def Za9:S1 (D5×Unit) Int
 | (a,_)=>.bind 3 (XC a.ER (10:Int) (3200:Int)) (fun(b:Int)=>AB (AQ (b*10000)))
def Z1F (a:D5):Option Int:=AU Za9 (a,())
theorem ZpI:AA1 99 [24] 3 (fun x=>Z1F x.1) rfl:=ok1 (mc qR Ae) Af func99 (fun _=>by kernel_rfl) (by kernel_rfl)
def ZeW:S1 (Ac×Int×Unit) (Ac×(List Am))
 | (a,b,_)=>.chk true (AB (({ a with Bl:=b }:Ac),[(⟨4,a.Event,(⟨0,[]⟩:Aq),I7,(IntKind.wrap .u64 (b)),Be⟩:Am)]))
def iI (a:Ac) (b:Int):Option (Ac×(List Am)):=AU ZeW (a,b,())
theorem Zdl:AA1 100 [44,3] 78 (fun x=>iI x.1 x.2.1) rfl:=ok1 Ae Af func100 (fun _=>by kernel_rfl) (by kernel_rfl)
inductive fJ where
 | b0 (a:Ac) (b:Int)
 | b1 (a:Int) (b:Bool) (c d:Ac)
 | b2 (a:Int) (b:Bool) (c d:Ac)
 | b3 (a b c:Int) (d e:Ac)
 | b4 (a b:Int) (c d:Ac)
 | b5 (a:Int) (b:List Am) (c:List BG) (d:Int) (e f:Ac) (g:A7)
 | b6 (a:List Am) (b:Int) (c d:Ac)
 | b7 (a:List Am) (b c:Ac)
 | b8 (a:Int) (b:List Am) (c:Int) (d e:Ac)
 | b9 (a:List Am) (b c:Ac)
def ZcM:fJ->Tr U ((Ac×(List Am))⊕fJ)
 | .b0 a b=>let d:=AP (fJ.b1 b false a D8);.br (a.Bl != 0) (.chk true (AB (a,([]:List Am)))) (.br (a.BK==1) (.br (!a.FO) (.bind 4 (uI a) (fun(c:Bool)=>AP (.b1 b c a D8))) d) d)
 | .b1 c b a d=>.br b (.bind 129 (Z3t a.Gj) (fun(e:ET×Int)=>AP (.b2 c b ({ a with Gj:=e.1 }:Ac) d))) (.br (a.BK==1) (.bind 35 (Z26 a.Gj a.Di) (fun(f:ET)=>AP (.b2 c b ({ a with Gj:=f }:Ac) d))) (AP (.b2 c b a d)))
 | .b2 c e a d=>.bind 104 (iG a.DR a.Event a.Last) (fun(b:Int×Int)=>let f:=AP (fJ.b4 c b.2 a d);.br (!a.Good) (.br (!e) (AP (.b3 c b.1 b.2 a d)) f) f)
 | .b3 b c d a e=>.bind 42 (XM a.CX c false) (fun(f:List BJ)=>AP (.b4 b d ({ a with CX:=f }:Ac) e))
 | .b4 c d a e=>let f:=IntKind.wrap .u16 (a.Event+1);.bind 135 (Z3F a.AA f) (fun(b:A7×(List BG))=>.chk true (AP (.b5 c ([]:List Am) b.2 (0:Int) ({ a with Event:=f,Last:=d,Fp:=(AQ (a.Fp+(AQ ((1250:Int)*a.DR.BB.D9)))),FO:=false,Good:=false,Di:=false,More:=false,AA:=b.1 }:Ac) e b.1)))
 | .b5 d c e f a g j=>let u:=e[(Int.toNat f)]?;let t:=([]:List AO)++a.Ag;.br (decide (f<(↑e.length:Int))) (.chk (kI f e) (.bind 138 u (fun(k:BG)=>.bind 44 (Z2x a k) (fun(h:Ac)=>.chk (kI f e) (.bind 138 u (fun(i:BG)=>let r:=c++[(⟨2,h.Event,(⟨0,[]⟩:Aq),i,0,Be⟩:Am)];.chk true (kl c (.chk (kA (c.length+1) 160) (kl r (AP (.b5 d r e (AQ (f+1)) h g j))))))))))) (.bind 30 (sN a) (fun(l:Int)=>.bind 140 (Z2t a.AA l d) (fun(b:A7×(List AO))=>let o:=t++b.2;let q:=kL c&&(o.length==o.length);let p:=({ a with AA:=b.1,Ag:=o }:Ac);let s:=Tr.chk q (AP (fJ.b8 d c (0:Int) p g));.chk true (.chk (kA (0+a.Ag.length) 120) (kl t (.chk (kA (t.length+b.2.length) 120) (.br (b.1.Bz != 0) (.chk q (AP (.b6 c b.1.Bz p g))) (.bind 4 (Z1C b.1 d) (fun(m:Bool)=>.br m (.chk q (AP (.b6 c (34:Int) p g))) (.br a.Hq (.bind 3 (Z1F a.DR.BB) (fun(n:Int)=>.br (decide ((AQ (d - a.IB))>n)) (.chk q (AP (.b7 c p g))) s)) s))))))))))
 | .b6 a d b e=>.br (d != 0) (kl b.Ag (.bind 78 (iI b d) (fun(c:Ac×(List Am))=>kl a (.chk (kA (a.length+c.2.length) 160) (kl (a++c.2) (AB (c.1,(a++c.2)))))))) (kl b.Ag (kl a (AB (b,a))))
 | .b7 a b c=>.chk (kL a&&kL b.Ag) (AP (.b6 a (8:Int) b c))
 | .b8 e b d a c=>let g:=kL b&&kL a.Ag;let f:=Tr.chk g (AP (fJ.b6 b d a c));.br (!a.Hq) (.br (decide ((AQ (e - a.IB))>(AQ ((7500:Int)*a.DR.BB.D9)))) (.chk g (AP (.b9 b a c))) f) f
 | .b9 a b c=>.chk (kL a&&kL b.Ag) (AP (.b6 a (62:Int) b c))
def sK (a:Ac) (b:Int):Option (Ac×(List Am)):=AU ZcM (.b0 a b)
def rH:Lay:=LT [1,2,4,6] [.v 3,.p 0,.p 1,.v 4] [.s 44,.s 44]
def Zap:Lay:=LT [1,2,4,9,10] [.v 3,.p 0,.p 1,.v 3,.v 3] [.s 44,.s 44]
def ZaM:Lay:=LT [1,2,4,10] [.v 3,.p 0,.p 1,.v 3] [.s 44,.s 44]
def ZaI:Lay:=LT [1,2,4,11,12,13,14] [.v 3,.p 0,.p 1,.o 148 18 2,.p 3,.v 37,.v 3] [.s 44,.s 44,.r 148,.s 39]
def Zan:Lay:=⟨[2,4,11,16],[KP,KP,[.own 148 18],KP],[.var k11,.var k2,.row true,.row true],⟨[PQ 0,PQ 1,.one (.own 148 2),OV 3],[.var 44 66 (mO 3),VA 44 66,.row 148 true,.row 156 true]⟩⟩
def rC:Lay:=⟨[2,4,11],[KP,KP,[.own 148 18]],[.var k11,.var k2,.row true,.row true],⟨[PQ 0,PQ 1,.one (.own 148 2)],[.var 44 66 (mO 3),VA 44 66,.row 148 true,.row 156 true]⟩⟩
def Zb8:Lay:=⟨[1,2,4,11,16],[KP,KP,KP,[.own 148 18],KP],[.var k11,.var k2,.row true,.row true],⟨[OV 3,PQ 0,PQ 1,.one (.own 148 2),OV 3],[.var 44 66 (mO 3),VA 44 66,.row 148 true,.row 156 true]⟩⟩
def Zrd:fJ->BC U
 | .b0 a b=>Bd f30 [44,3] (a,b,())
 | .b1 a b c d=>AA3 f30 [1,1,1,0,0] rH (a,b,c,d,())
 | .b2 a b c d=>AA3 f30 [1,1,1,1,0] rH (a,b,c,d,())
 | .b3 a b c d e=>AA3 f30 [1,1,1,1,1,0,1,0] Zap (a,b,c,d,e,())
 | .b4 a b c d=>AA3 f30 [1,1,1,1,1,1,0] ZaM (a,b,c,d,())
 | .b5 a b c d e f g=>AA3 f30 [1,1,1,1,1,1,1,1,1,1,1,1,1,0,1,0,0,0,0] ZaI (a,c,d,e,f,b,g,())
 | .b6 b c a d=>Ad f30 [1,1,1,1,1,1,1,1,1,1,1,1,1,1,1,1,1,1,1,0,0] Zan (((),((),((),((c,()),())))),((Yo a),((d,()),(b,(a.Ag,())))))
 | .b7 b a c=>Ad f30 [1,1,1,1,1,1,1,1,1,1,1,1,1,1,1,1,1,1,0,0,1,1,1,1,1,0] rC (((),((),((),()))),((Yo a),((c,()),(b,(a.Ag,())))))
 | .b8 b c d a e=>Ad f30 [1,1,1,1,1,1,1,1,1,1,1,1,1,1,1,1,1,1,0,0,1,1,1,1,1,1,0] Zb8 (((b,()),((),((),((),((d,()),()))))),((Yo a),((e,()),(c,(a.Ag,())))))
 | .b9 b a c=>Ad f30 [1,1,1,1,1,1,1,1,1,1,1,1,1,1,1,1,1,1,0,0,1,1,1,1,1,1,1,0] rC (((),((),((),()))),((Yo a),((c,()),(b,(a.Ag,())))))
theorem Zsw:AA1 30 [44,3] 78 (fun x=>sK x.1 x.2.1) rfl:=Bh (mc Zba (mc ZcT (mc ZuK (mc ZpM (mc ZaL (mc Zwe (mc Zsy (mc Zso (mc ZbF (mc Zpu (mc ZpI (mc Zdl Ae)))))))))))) Af (al [(4,rH),(9,rH),(11,Zap),(12,ZaM),(20,ZaI),(36,Zan),(33,rC),(34,Zb8),(35,rC)]) Zrd func30 (fun p=>by cases p<;>kernel_rfl) (by kernel_rfl) fun _=>rfl
inductive gK where
 | b0 (a:Ac) (b:Aq)
 | b1 (a:Ac) (b:Aq) (c:Ac)
def ZdG:gK->Tr U ((Ac×Int)⊕gK)
 | .b0 b a=>let c:=AP (gK.b1 b a D8);.br (a.BP != 2) (.br (a.BP != 1) (AB (b,1)) c) c
 | .b1 a b f=>.bind 45 (QV (⟨0,0,0,b⟩:BI)) (fun(d:Int)=>.br (d != 0) (AB (a,d)) (.br (decide ((↑b.Payload.length:Int)>a.AA.Length)) (AB (a,4)) (.bind 4 (tC a.AA) (fun(e:Bool)=>.br e (AB (a,20)) (.bind 189 (sU a.Ar b) (fun(c:BQ×Int)=>.br (c.2 != 0) (AB (a,c.2)) (AB (({ a with Ar:=c.1 }:Ac),(0:Int)))))))))
def Z30 (a:Ac) (b:Aq):Option (Ac×Int):=AU ZdG (.b0 a b)
def ZbE:Lay:=LT [2,3,4] [.p 0,.p 1,.p 2] [.s 44,.s 68,.s 44]
def Ztp:gK->BC U
 | .b0 a b=>Bd f102 [44,68] (a,b,())
 | .b1 a b c=>AA3 f102 [1,1,0] ZbE (a,b,c,())
theorem Zva:AA1 102 [44,68] 46 (fun x=>Z30 x.1 x.2.1) rfl:=Bh (mc Zbg (mc Zbh (mc XI Ae))) Af (al [(3,ZbE)]) Ztp func102 (fun p=>by cases p<;>kernel_rfl) (by kernel_rfl) fun _=>rfl
inductive aV where
 | b0 (a:Int)
 | b1 (a:Int)
 | b2 (a:Int)
 | b3 (a:Int)
 | b4 (a:Int)
def Z9t:aV->Tr U (Int⊕aV)
 | .b0 a=>let b:=AP (aV.b1 a);.br (a==0) (.br (a==0) (AB a) b) (.br (a==1) (.br (a==1) (AB a) b) (.br (a==2) (.br (a==2) (AB a) b) (.br (a==12) (.br (a==12) (AB a) b) (.br (a==15) (AB a) b))))
 | .b1 a=>let c:=AB (8:Int);let b:=AP (aV.b2 a);.br (a==8) (.br (a==8) c b) (.br (a==9) c b)
 | .b2 a=>let c:=AB (3:Int);let b:=AP (aV.b3 a);.br (a==3) (.br (a==3) c b) (.br (a==4) (.br (a==4) c b) (.br (a==5) (.br (a==5) c b) (.br (a==6) c b)))
 | .b3 a=>let c:=AB (18:Int);let b:=AP (aV.b4 a);.br (a==18) (.br (a==18) c b) (.br (a==19) c b)
 | .b4 a=>let c:=AB (-1:Int);let b:=AB (20:Int);.br (a==20) (.br (a==20) b c) (.br (a==21) b c)
def Z1h (a:Int):Option Int:=AU Z9t (.b0 a)
def Ru:Lay:=LT [3] [.v 3] []
def ZnT:aV->BC U
 | .b0 a=>Bd f341 [3] (a,())
 | .b1 a=>AA3 f341 [1,0,1,0,1,1,0,0] Ru (a,())
 | .b2 a=>AA3 f341 [1,0,1,0,1,1,1,1,0,0] Ru (a,())
 | .b3 a=>AA3 f341 [1,0,1,0,1,1,1,1,1,1,0,0] Ru (a,())
 | .b4 a=>AA3 f341 [1,0,1,0,1,1,1,1,1,1,1,1,0,0] Ru (a,())
theorem ZnG:AA1 341 [3] 3 (fun x=>Z1h x.1) rfl:=Bh Ae Af (al [(8,Ru),(11,Ru),(16,Ru),(19,Ru)]) ZnT func341 (fun p=>by cases p<;>kernel_rfl) (by kernel_rfl) fun _=>rfl
def Z9a:S1 (Int×Unit) Bool
 | (a,_)=>.bind 262 (DJ a) (fun(b:CE)=>.br b.FI (.bind 3 (Z1h a) (fun(c:Int)=>AB (c==a))) (AB false))
def Z19 (a:Int):Option Bool:=AU Z9a (a,())
theorem Znz:AA1 268 [3] 4 (fun x=>Z19 x.1) rfl:=ok1 (mc SE (mc ZnG Ae)) Af func268 (fun _=>by kernel_rfl) (by kernel_rfl)
inductive dM where
 | b0 (a:A7) (b:AO)
 | b1 (a b:AO)
def ZbJ:dM->Tr U (AO⊕dM)
 | .b0 b a=>let d:=a.Kind==0;let c:=AP (dM.b1 a EO);.br (a.Kind==8) (AB ({ a with Bv:=b.Bv }:AO)) (.br (a.Kind==12) (AB ({ a with Version:=11 }:AO)) (.br d (.br d c (AB a)) (.br (a.Kind==1) c (AB a))))
 | .b1 a b=>AB ({ a with Ci:=0 }:AO)
def Z28 (a:A7) (b:AO):Option AO:=AU ZbJ (.b0 a b)
def Za2:Lay:=LT [3,4] [.p 0,.p 1] [.s 156,.s 156]
def ZqO:dM->BC U
 | .b0 a b=>Bd f269 [39,156] (a,b,())
 | .b1 a b=>AA3 f269 [1,0,1,0,1,1,1,1,1,0] Za2 (a,b,())
theorem ZqC:AA1 269 [39,156] 156 (fun x=>Z28 x.1 x.2.1) rfl:=Bh Ae Af (al [(8,Za2)]) ZqO func269 (fun p=>by cases p<;>kernel_rfl) (by kernel_rfl) fun _=>rfl
inductive fO where
 | b0 (a:A7) (b:Int)
 | b1 (a b:Int) (c:A7)
def ZcW:fO->Tr U (Bool⊕fO)
 | .b0 a b=>AP (.b1 b (0:Int) a)
 | .b1 c a b=>.br (decide (a<(↑b.Ah.length:Int))) (.chk (kI a b.Ah) (.bind 156 (b.Ah[(Int.toNat a)]?) (fun(d:AO)=>.br (d.Kind==c) (AB true) (AP (.b1 c (AQ (a+1)) b))))) (AB false)
def Z2Y (a:A7) (b:Int):Option Bool:=AU ZcW (.b0 a b)
def Zab:Lay:=LT [1,2,5] [.v 3,.p 0,.v 3] [.s 39]
def ZsK:fO->BC U
 | .b0 a b=>Bd f342 [39,3] (a,b,())
 | .b1 a b c=>AA3 f342 [1,0,1,0,0,0,0] Zab (a,b,c,())
theorem Zsl:AA1 342 [39,3] 4 (fun x=>Z2Y x.1 x.2.1) rfl:=Bh Ae Af (al [(2,Zab)]) ZsK func342 (fun p=>by cases p<;>kernel_rfl) (by kernel_rfl) fun _=>rfl
inductive bM where
 | b0 (a:A7) (b:Int)
 | b1 (a:Int) (b:A7)
 | b2 (a:Int) (b:A7)
def Zaf:bM->Tr U (Bool⊕bM)
 | .b0 a b=>.br (a.Bz != 0) (AB false) (.br (a.Own==2) (AB false) (AP (.b1 b a)))
 | .b1 a b=>let f:=AP (bM.b2 a b);let d:=Tr.br (a==15) (.br (b.BK != 1) (AB false) f) f;let e:=Tr.br (b.BK != 0) (AB false) d;.bind 4 (QX a) (fun(c:Bool)=>.br c e (.br (a==3) e d))
 | .b2 b a=>.br (b != 3) (AB true) (.br (a.CP==0) (.bind 4 (Z2Y a (3:Int)) (fun(c:Bool)=>AB (!c))) (AB false))
def Z1R (a:A7) (b:Int):Option Bool:=AU Zaf (.b0 a b)
def qF:Lay:=LT [1,2] [.v 3,.p 0] [.s 39]
def Zp2:bM->BC U
 | .b0 a b=>Bd f270 [39,3] (a,b,())
 | .b1 a b=>AA3 f270 [1,1,0,0] qF (a,b,())
 | .b2 a b=>AA3 f270 [1,1,1,0] qF (a,b,())
theorem Zps:AA1 270 [39,3] 4 (fun x=>Z1R x.1 x.2.1) rfl:=Bh (mc XL (mc Zsl Ae)) Af (al [(3,qF),(5,qF)]) Zp2 func270 (fun p=>by cases p<;>kernel_rfl) (by kernel_rfl) fun _=>rfl
inductive fD where
 | b0 (a:A7) (b:AO) (c d:Int)
 | b1 (a b:A7)
 | b2 (a b:Int) (c:A7) (d:AO) (e:A7)
 | b3 (a b:Int) (c:A7) (d:AO) (e:A7)
 | b4 (a:A7) (b:AO) (c:A7)
def Zcc:fD->Tr U ((A7×(List AO)×Int)⊕fD)
 | .b0 a c d e=>let i:=([]:List AO);.bind 4 (Z19 c.Kind) (fun(g:Bool)=>.br (!g) (.chk true (AB (a,i,(12:Int)))) (.bind 156 (Z28 a c) (fun(b:AO)=>let j:=AP (fD.b2 d e a b EP);.bind 45 (JO b) (fun(f:Int)=>.br (f != 0) (.chk true (AB (a,i,f))) (.bind 4 (Z1R a b.Kind) (fun(h:Bool)=>.br (!h) (.chk true (AB (a,i,(9:Int)))) (.br (b.Kind==12) (.br a.FY (AP (.b1 a EP)) j) j)))))))
 | .b1 a b=>.chk true (AB (a,([]:List AO),(0:Int)))
 | .b2 d e a b c=>let g:=AP (fD.b4 a b c);.br (b.Kind==2) (AP (.b3 d e ({ a with Ah:=([]:List AO) }:A7) b c)) (.br (decide (a.Own>=0)) g (.br (decide ((↑a.Ah.length:Int)>0)) g (.bind 4 (vX a b) (fun(f:Bool)=>.br (!f) g (AP (.b3 d e a b c))))))
 | .b3 b c d e f=>.bind 216 (uJ d e b c) (fun(a:A7×AO)=>.chk true (AB (a.1,[a.2],(0:Int))))
 | .b4 a b c=>let e:=([]:List AO);let d:=e++a.Ah;.br (decide ((↑a.Ah.length:Int)>=8)) (.chk true (AB (a,e,(8:Int)))) (.chk true (.chk (kA (0+a.Ah.length) 120) (.chk true (kl d (.chk (kA (d.length+1) 120) (kl (d++[b]) (.chk true (AB (({ a with Ah:=(d++[b]) }:A7),e,(0:Int))))))))))
def Z2U (a:A7) (b:AO) (c d:Int):Option (A7×(List AO)×Int):=AU Zcc (.b0 a b c d)
def Zas:Lay:=LT [4,8] [.p 0,.p 1] [.s 39,.s 39]
def rF:Lay:=LT [2,3,4,5,8] [.v 30,.v 3,.p 0,.p 1,.p 2] [.s 39,.s 156,.s 39]
def Zae:Lay:=LT [4,5,8] [.p 0,.p 1,.p 2] [.s 39,.s 156,.s 39]
def Zsn:fD->BC U
 | .b0 a b c d=>Bd f198 [39,156,30,3] (a,b,c,d,())
 | .b1 a b=>AA3 f198 [1,1,1,1,1,0,1,0,0] Zas (a,b,())
 | .b2 a b c d e=>AA3 f198 [1,1,1,1,1,1,0,0] rF (a,b,c,d,e,())
 | .b3 a b c d e=>AA3 f198 [1,1,1,1,1,1,1,0] rF (a,b,c,d,e,())
 | .b4 a b c=>AA3 f198 [1,1,1,1,1,1,0,1,1,1,0,0,0] Zae (a,b,c,())
theorem ZsZ:AA1 198 [39,156,30,3] 222 (fun x=>Z2U x.1 x.2.1 x.2.2.1 x.2.2.2.1) rfl:=Bh (mc Zeg (mc Zbq (mc Z27 (mc Znz (mc ZqC (mc Zps Ae)))))) Af (al [(10,Zas),(11,rF),(18,rF),(14,Zae)]) Zsn func198 (fun p=>by cases p<;>kernel_rfl) (by kernel_rfl) fun _=>rfl
def ZcF:S1 (Ac×AO×Int×Unit) (Ac×Int)
 | (a,c,d,_)=>let f:=([]:List AO)++a.Ag;.bind 30 (sN a) (fun(e:Int)=>.bind 222 (Z2U a.AA c e d) (fun(b:A7×(List AO)×Int)=>.br (b.2.2 != 0) (AB (a,b.2.2)) (.chk true (.chk (kA (0+a.Ag.length) 120) (kl f (.chk (kA (f.length+b.2.1.length) 120) (kl (f++b.2.1) (AB (({ a with AA:=b.1,Ag:=(f++b.2.1) }:Ac),(0:Int))))))))))
def NI (a:Ac) (b:AO) (c:Int):Option (Ac×Int):=AU ZcF (a,b,c,())
theorem Zs4:AA1 103 [44,156,3] 46 (fun x=>NI x.1 x.2.1 x.2.2.1) rfl:=ok1 (mc ZbF (mc ZsZ Ae)) Af func103 (fun _=>by kernel_rfl) (by kernel_rfl)
def Zbe:S1 (Int×Unit) Int
 | (a,_)=>.br (decide (a>2147483647)) (AB (2147483647:Int)) (AB (AQ (a)))
def sH (a:Int):Option Int:=AU Zbe (a,())
theorem ZpW:AA1 104 [25] 3 (fun x=>sH x.1) rfl:=ok1 Ae Af func104 (fun _=>by kernel_rfl) (by kernel_rfl)
def Zfd:S1 (AO×Unit) (List AO)
 | (a,_)=>.chk true (AB ([a]))
def N8 (a:AO):Option (List AO):=AU Zfd (a,())
theorem X6:AA1 271 [156] 36 (fun x=>N8 x.1) rfl:=ok1 Ae Af func271 (fun _=>by kernel_rfl) (by kernel_rfl)
inductive dF where
 | b0 (a:A7) (b:Bool) (c:Int)
 | b1 (a:Bool) (b:Int) (c d:A7)
def ZbQ:dF->Tr U ((A7×(List AO))⊕dF)
 | .b0 a b c=>let d:=Tr.chk true (AB (a,([]:List AO)));.br (a.BK != 1) d (.br (a.Bz != 0) d (.br (a.CP != 1) d (AP (.b1 b c a EP))))
 | .b1 c a b e=>.br (!c) (.bind 36 (N8 (⟨13,Be,0,0,6,3,0,0,0,0,0⟩:AO)) (fun(d:List AO)=>AB (({ b with Other:=-1,CP:=0 }:A7),d))) (.chk true (AB (({ b with Bj:=a,CP:=3 }:A7),[(⟨4,Be,0,0,0,0,a,0,0,0,0⟩:AO),(⟨5,Be,0,0,0,0,0,0,0,0,0⟩:AO)])))
def Z1W (a:A7) (b:Bool) (c:Int):Option (A7×(List AO)):=AU ZbQ (.b0 a b c)
def Z9U:Lay:=LT [1,2,3,6] [.v 4,.v 25,.p 0,.p 1] [.s 39,.s 39]
def ZqF:dF->BC U
 | .b0 a b c=>Bd f199 [39,4,25] (a,b,c,())
 | .b1 a b c d=>AA3 f199 [1,1,0,0] Z9U (a,b,c,d,())
theorem Zr5:AA1 199 [39,4,25] 140 (fun x=>Z1W x.1 x.2.1 x.2.2.1) rfl:=Bh (mc X6 Ae) Af (al [(3,Z9U)]) ZqF func199 (fun p=>by cases p<;>kernel_rfl) (by kernel_rfl) fun _=>rfl
def Zec:S1 (Bc×Bool×Bool×Unit) Bc
 | (a,b,c,_)=>AB ({ a with Gf:=b,Eg:=c }:Bc)
def X3 (a:Bc) (b c:Bool):Option Bc:=AU Zec (a,b,c,())
theorem Z2N:AA1 200 [41,4,4] 41 (fun x=>X3 x.1 x.2.1 x.2.2.1) rfl:=ok1 Ae Af func200 (fun _=>by kernel_rfl) (by kernel_rfl)
inductive dD where
 | b0 (a:Int) (b:ByteArray) (c:List Int)
 | b1 (a:Int) (b c:List Int) (d:Int)
def XK:dD->Tr U (Int⊕dD)
 | .b0 b a c=>let d:=Ko U 5 a;let e:=d++[(0:Int)];.chk (YZ U 5 a) (.chk true (kl d (.chk (kA (d.length+1) 1) (kl e (AP (.b1 b c e (0:Int)))))))
 | .b1 e b a c=>.br (decide (c<(↑b.length:Int))) (.chk (kI c b) (.bind 25 (b[(Int.toNat c)]?) (fun(f:Int)=>.bind 1351 (MG (8:Int) f) (fun(d:MC)=>kl d.q0 (kl a (.chk (kA (a.length+d.q0.length) 1) (kl (a++d.q0) (AP (.b1 e b (a++d.q0) (AQ (c+1))))))))))) (kl a (.bind 25 (Uz e a) (fun(g:Int)=>AB g)))
def rZ (a:Int) (b:ByteArray) (c:List Int):Option Int:=AU XK (.b0 a b c)
def Z9C:Lay:=LT [0,2,7,8] [.v 29,.v 254,.o 5 1 0,.v 3] [.r 5]
def Zqk:dD->BC U
 | .b0 a b c=>Bd f272 [29,9,254] (a,b,c,())
 | .b1 a b c d=>AA3 f272 [1,1,0,1,0,0,0,0] Z9C (a,b,d,c,())
theorem Zqj:AA1 272 [29,9,254] 29 (fun x=>rZ x.1 x.2.1 x.2.2.1) rfl:=Bh (mc Zdd Ae) (hc [] vG Af) (al [(3,Z9C)]) Zqk func272 (fun p=>by cases p<;>kernel_rfl) (by kernel_rfl) fun _=>rfl
def Z3R:S1 (Int×Int×Int×Int×Unit) Bc
 | (d,e,a,b,_)=>let f:=bits .xor .u64 a b;.chk true (.bind 29 (rZ e (⟨#[115,101,115,115,105,111,110]⟩:ByteArray) ([a,b])) (fun(c:Int)=>.br (d==1) (AB (⟨1,c,f,false,false,0,0⟩:Bc)) (AB (⟨0,c,f,false,false,0,0⟩:Bc))))
def jA (a b c d:Int):Option Bc:=AU Z3R (a,b,c,d,())
theorem ZdU:AA1 201 [3,29,25,25] 41 (fun x=>jA x.1 x.2.1 x.2.2.1 x.2.2.2.1) rfl:=ok1 (mc Zqj Ae) Af func201 (fun _=>by kernel_rfl) (by kernel_rfl)
inductive iJ where
 | b0 (a:Ac) (b:Int)
 | b1 (a:Int) (b c:Ac)
def Zfp:iJ->Tr U ((Ac×Int)⊕iJ)
 | .b0 a b=>.br (a.BK != 1) (AB (a,9)) (.br (a.AA.CP != 1) (AB (a,9)) (AP (.b1 b a D8)))
 | .b1 c a f=>let g:=([]:List AO)++a.Ag;.bind 140 (Z1W a.AA (c != 0) a.IC) (fun(b:A7×(List AO))=>let h:=g++b.2;.chk true (.chk (kA (0+a.Ag.length) 120) (kl g (.chk (kA (g.length+b.2.length) 120) (.br (c != 0) (.bind 41 (jA a.BK c b.1.F5 b.1.Bj) (fun(d:Bc)=>.bind 41 (X3 d false true) (fun(e:Bc)=>kl h (AB (({ a with AA:=b.1,Bq:=e,Key:=c,Ag:=h }:Ac),(0:Int)))))) (kl h (AB (({ a with AA:=b.1,Ag:=h }:Ac),(0:Int)))))))))
def Z3X (a:Ac) (b:Int):Option (Ac×Int):=AU Zfp (.b0 a b)
def Zd9:Lay:=LT [1,2,4] [.v 29,.p 0,.p 1] [.s 44,.s 44]
def ZwX:iJ->BC U
 | .b0 a b=>Bd f105 [44,29] (a,b,())
 | .b1 a b c=>AA3 f105 [1,1,0] Zd9 (a,b,c,())
theorem ZxH:AA1 105 [44,29] 46 (fun x=>Z3X x.1 x.2.1) rfl:=Bh (mc Zr5 (mc Z2N (mc ZdU Ae))) Af (al [(3,Zd9)]) ZwX func105 (fun p=>by cases p<;>kernel_rfl) (by kernel_rfl) fun _=>rfl
def ZcE:S1 (Int×Unit) Int
 | (a,_)=>let b:=(if (65536:Int)<a then (65536:Int) else a);AB (if b>0 then b else (0:Int))
def SI (a:Int):Option Int:=AU ZcE (a,())
theorem Z22:AA1 205 [3] 3 (fun x=>SI x.1) rfl:=ok1 Ae Af func205 (fun _=>by kernel_rfl) (by kernel_rfl)
def ZdF:S1 (BJ×Unit) Int
 | (c,_)=>.bind 3 (SI c.Good) (fun(b:Int)=>.bind 3 (SI c.IY) (fun(a:Int)=>let d:=AQ (b+a);.br (d==0) (AB (0:Int)) (.chk (d != 0) (AB (AQ (Int.tdiv (AQ (a*1000)) d))))))
def gI (a:BJ):Option Int:=AU ZdF (a,())
theorem Zcd:AA1 275 [99] 3 (fun x=>gI x.1) rfl:=ok1 (mc Z22 Ae) Af func275 (fun _=>by kernel_rfl) (by kernel_rfl)
def Zfr:S1 (BJ×Unit) Bool
 | (a,_)=>.bind 3 (SI a.Good) (fun(b:Int)=>.bind 3 (SI a.IY) (fun(c:Int)=>.br (decide ((AQ (b+c))>=8)) (.bind 3 (gI a) (fun(d:Int)=>AB (decide (d>=250)))) (AB false)))
def Z3M (a:BJ):Option Bool:=AU Zfr (a,())
theorem ZvL:AA1 273 [99] 4 (fun x=>Z3M x.1) rfl:=ok1 (mc Z22 (mc Zcd Ae)) Af func273 (fun _=>by kernel_rfl) (by kernel_rfl)
inductive jO where
 | b0 (a:List BJ) (b:Int)
 | b1 (a:BJ)
 | b2 (a:List BJ) (b:Int) (c:BJ)
def ZfS:jO->Tr U (BJ⊕jO)
 | .b0 b a=>let c:=(⟨0,0⟩:BJ);let d:=AP (jO.b1 c);.br (decide (a<0)) d (.br (decide (a>=(↑b.length:Int))) d (AP (.b2 b a c)))
 | .b1 a=>AB (⟨0,0⟩:BJ)
 | .b2 a b d=>.chk (kI b a) (.bind 99 (a[(Int.toNat b)]?) (fun(c:BJ)=>AB c))
def jW (a:List BJ) (b:Int):Option BJ:=AU ZfS (.b0 a b)
def ZdN:Lay:=LT [4] [.p 0] [.s 99]
def ZdD:Lay:=LT [0,1,4] [.v 42,.v 3,.p 0] [.s 99]
def ZA9:jO->BC U
 | .b0 a b=>Bd f274 [42,3] (a,b,())
 | .b1 a=>AA3 f274 [1,0,1,0,0] ZdN (a,())
 | .b2 a b c=>AA3 f274 [1,1,0] ZdD (a,b,c,())
theorem ZyS:AA1 274 [42,3] 99 (fun x=>jW x.1 x.2.1) rfl:=Bh Ae Af (al [(2,ZdN),(3,ZdD)]) ZA9 func274 (fun p=>by cases p<;>kernel_rfl) (by kernel_rfl) fun _=>rfl
inductive dQ where
 | b0 (a:List BJ) (b:List Int)
 | b1 (a:List BJ) (b:List Int) (c d:Int)
 | b2 (a:List BJ) (b:List Int) (c d:Int)
 | b3 (a:List BJ) (b:List Int) (c:Int)
def ZcJ:dQ->Tr U (Int⊕dQ)
 | .b0 a b=>AP (.b1 a b (-1:Int) (0:Int))
 | .b1 c a d b=>let p:=AP (dQ.b3 c a b);let o:=a[(Int.toNat b)]?;let n:=AP (dQ.b2 c a d b);.br (decide (b<(↑a.length:Int))) (.chk (kI b a) (.bind 3 o (fun(e:Int)=>.bind 99 (jW c e) (fun(f:BJ)=>.bind 4 (Z3M f) (fun(g:Bool)=>.br (!g) n (.br (decide (d<0)) p (.chk (kI b a) (.bind 3 o (fun(h:Int)=>.bind 99 (jW c h) (fun(i:BJ)=>.bind 3 (gI i) (fun(j:Int)=>.chk (kI d a) (.bind 3 (a[(Int.toNat d)]?) (fun(k:Int)=>.bind 99 (jW c k) (fun(l:BJ)=>.bind 3 (gI l) (fun(m:Int)=>.br (decide (j>m)) p n))))))))))))))) (AB d)
 | .b2 a b c d=>AP (.b1 a b c (AQ (d+1)))
 | .b3 b c a=>AP (.b2 b c a a)
def Z2u (a:List BJ) (b:List Int):Option Int:=AU ZcJ (.b0 a b)
def rM:Lay:=LT [0,1,5,6] [.v 42,.v 226,.v 3,.v 3] []
def Za5:Lay:=LT [0,1,6] [.v 42,.v 226,.v 3] []
def ZsB:dQ->BC U
 | .b0 a b=>Bd f203 [42,226] (a,b,())
 | .b1 a b c d=>AA3 f203 [1,1,0,1,0,0,0,0] rM (a,b,c,d,())
 | .b2 a b c d=>AA3 f203 [1,1,0,1,0,0,1,1] rM (a,b,c,d,())
 | .b3 a b c=>AA3 f203 [1,1,0,1,0,0,1,0,0,1,1,0] Za5 (a,b,c,())
theorem ZrF:AA1 203 [42,226] 3 (fun x=>Z2u x.1 x.2.1) rfl:=Bh (mc ZvL (mc ZyS (mc Zcd Ae))) Af (al [(3,rM),(4,rM),(7,Za5)]) ZsB func203 (fun p=>by cases p<;>kernel_rfl) (by kernel_rfl) fun _=>rfl
end
noncomputable section
inductive jS where
 | b0 (a:List Int)
 | b1 (a:List Int) (b c:Int)
def ZfL:jS->Tr U (Int⊕jS)
 | .b0 a=>AP (.b1 a (0:Int) (0:Int))
 | .b1 a c b=>.br (decide (b<(↑a.length:Int))) (.chk (kI b a) (.bind 3 (a[(Int.toNat b)]?) (fun(d:Int)=>.bind 25 (Uk d) (fun(e:Int)=>AP (.b1 a (IntKind.wrap .u64 (c+e)) (AQ (b+1))))))) (AB c)
def Z4i (a:List Int):Option Int:=AU ZfL (.b0 a)
def ZdT:Lay:=LT [0,3,4] [.v 226,.v 25,.v 3] []
def ZyK:jS->BC U
 | .b0 a=>Bd f204 [226] (a,())
 | .b1 a b c=>AA3 f204 [1,1,0,1,0,0,0,0] ZdT (a,b,c,())
theorem ZA2:AA1 204 [226] 26 (fun x=>Z4i x.1) rfl:=Bh (mc Z2e Ae) Af (al [(3,ZdT)]) ZyK func204 (fun p=>by cases p<;>kernel_rfl) (by kernel_rfl) fun _=>rfl
inductive bV where
 | b0 (a:List BJ) (b c:Int)
 | b1 (a:List BJ) (b:Int) (c:List Int)
 | b2 (a:List Int)
def Zat:bV->Tr U (Int⊕bV)
 | .b0 b c a=>let e:=(if (37:Int)<a then (37:Int) else a);.bind 226 (X0 c) (fun(d:List Int)=>AP (.b1 b (if e>2 then e else (2:Int)) d))
 | .b1 c d a=>let j:=AP (bV.b2 a);let h:=(↑a.length:Int);.br (decide (h>d)) (.bind 3 (Z2u c a) (fun(b:Int)=>let i:=AQ (b+1);let k:=Int.toNat i;let g:=(a.drop 0).take ((Int.toNat b) - 0);let f:=(a.drop k).take (a.length - k);let e:=([]:List Int)++g;.br (decide (b<0)) j (.chk (decide (0<=b/\b<=h)) (.chk true (.chk (kA (0+g.length) 8) (.chk (decide (0<=i/\i<=h)) (kl e (.chk (kA (e.length+f.length) 8) (kl (e++f) (AP (.b1 c d (e++f)))))))))))) j
 | .b2 a=>.bind 26 (Z4i a) (fun(b:Int)=>AB b)
def Z1K (a:List BJ) (b c:Int):Option Int:=AU Zat (.b0 a b c)
def Z9m:Lay:=LT [0,2,7] [.v 42,.v 3,.v 226] []
def Z9l:Lay:=LT [7] [.v 226] []
def Zpb:bV->BC U
 | .b0 a b c=>Bd f106 [42,26,3] (a,b,c,())
 | .b1 a b c=>AA3 f106 [1,1,1,0,0,0,0,0] Z9m (a,b,c,())
 | .b2 a=>AA3 f106 [1,1,1,1,0] Z9l (a,())
theorem ZpK:AA1 106 [42,26,3] 26 (fun x=>Z1K x.1 x.2.1 x.2.2.1) rfl:=Bh (mc Z2T (mc ZrF (mc ZA2 Ae))) Af (al [(3,Z9m),(7,Z9l)]) Zpb func106 (fun p=>by cases p<;>kernel_rfl) (by kernel_rfl) fun _=>rfl
inductive fM where
 | b0 (a:List BJ)
 | b1 (a b:List BJ) (c:Int)
def ZbY:fM->Tr U ((List BJ)⊕fM)
 | .b0 a=>.chk true (AP (.b1 a ([]:List BJ) (0:Int)))
 | .b1 a b c=>let i:=a[(Int.toNat c)]?;.br (decide (c<(↑a.length:Int))) (.chk (kI c a) (.bind 99 i (fun(f:BJ)=>.bind 3 (SI f.Good) (fun(d:Int)=>.chk (kI c a) (.bind 99 i (fun(g:BJ)=>.bind 3 (SI g.IY) (fun(e:Int)=>let h:=b++[(⟨(AQ (Int.tdiv d 2)),(AQ (Int.tdiv e 2))⟩:BJ)];.chk true (kl b (.chk (kA (b.length+1) 16) (kl h (AP (.b1 a h (AQ (c+1)))))))))))))) (kl b (AB b))
def Z2z (a:List BJ):Option (List BJ):=AU ZbY (.b0 a)
def ZaG:Lay:=LT [0,3,4] [.v 42,.o 99 2 0,.v 3] [.r 99]
def ZrD:fM->BC U
 | .b0 a=>Bd f107 [42] (a,())
 | .b1 a b c=>AA3 f107 [1,1,0,1,0,0,0,0] ZaG (a,c,b,())
theorem Zrt:AA1 107 [42] 42 (fun x=>Z2z x.1) rfl:=Bh (mc Z22 Ae) Af (al [(3,ZaG)]) ZrD func107 (fun p=>by cases p<;>kernel_rfl) (by kernel_rfl) fun _=>rfl
inductive jL where
 | b0 (a:Ac) (b:Hg) (c:Int)
 | b1 (a:Int) (b c:Ac)
 | b2 (a:Int) (b c:Ac)
def ZfF:jL->Tr U ((Ac×Int)⊕jL)
 | .b0 a b e=>let t:=sH b.Number;.br (a.Bl != 0) (AB (a,9)) (.br (b.Kind==1) (.bind 46 (Z30 a b.Ap) (fun(k:Ac×Int)=>AB (k.1,k.2))) (.br (b.Kind==2) (.bind 46 (NI a (⟨0,b.BB,0,0,0,0,0,0,0,0,0⟩:AO) e) (fun(l:Ac×Int)=>AB (l.1,l.2))) (.br (b.Kind==3) (.bind 46 (NI a (⟨1,Be,b.Map,0,0,0,0,0,0,0,0⟩:AO) e) (fun(m:Ac×Int)=>AB (m.1,m.2))) (.br (b.Kind==4) (.bind 3 t (fun(r:Int)=>.bind 46 (NI a (⟨2,Be,0,0,r,0,0,0,0,0,0⟩:AO) e) (fun(n:Ac×Int)=>AB (n.1,n.2)))) (.br (b.Kind==6) (.bind 46 (NI a (⟨8,Be,0,0,0,0,0,0,63,0,0⟩:AO) e) (fun(o:Ac×Int)=>AB (o.1,o.2))) (.br (b.Kind==7) (.bind 46 (NI a (⟨12,Be,0,0,0,0,0,0,0,11,0⟩:AO) e) (fun(p:Ac×Int)=>AB (p.1,p.2))) (.br (b.Kind==8) (.bind 46 (NI a (⟨18,Be,0,0,0,0,0,0,0,0,0⟩:AO) e) (fun(q:Ac×Int)=>AB (q.1,q.2))) (.br (b.Kind==9) (.bind 3 t (fun(s:Int)=>.bind 46 (NI a (⟨20,Be,0,0,0,0,0,0,0,0,s⟩:AO) e) (fun(f:Ac×Int)=>AB (f.1,f.2)))) (.br (b.Kind==12) (.bind 46 (NI a (⟨15,b.BB,0,0,0,0,0,0,0,0,0⟩:AO) e) (fun(g:Ac×Int)=>AB (g.1,g.2))) (.br (b.Kind==5) (.br (b.Key==0) (AB (a,17)) (.bind 46 (NI a (⟨3,Be,0,0,0,0,a.IC,b.Number,0,0,0⟩:AO) e) (fun(c:Ac×Int)=>.br (c.2==0) (AP (.b1 c.2 D8 ({ c.1 with Key:=b.Key }:Ac))) (AP (.b1 c.2 D8 c.1))))) (.br (b.Kind==10) (.bind 46 (Z3X a b.Key) (fun(h:Ac×Int)=>AB (h.1,h.2))) (.br (b.Kind==13) (.br (a.BK != 0) (AB (a,9)) (.bind 26 (Z1K a.CX a.DR.Map (2:Int)) (fun(i:Int)=>.br (i==a.DR.Map) (AB (a,0)) (.bind 46 (NI a (⟨1,Be,i,0,0,0,0,0,0,0,0⟩:AO) e) (fun(d:Ac×Int)=>.br (d.2==0) (.bind 42 (Z2z a.CX) (fun(j:List BJ)=>AP (.b2 d.2 D8 ({ d.1 with CX:=j }:Ac)))) (AP (.b2 d.2 D8 d.1))))))) (AB (a,12))))))))))))))
 | .b1 a c b=>AB (b,a)
 | .b2 a c b=>AB (b,a)
def jX (a:Ac) (b:Hg) (c:Int):Option (Ac×Int):=AU ZfF (.b0 a b c)
def Ze8:Lay:=LT [6,8,9] [.p 0,.p 1,.v 45] [.s 44,.s 44]
def Zdu:Lay:=LT [6,11,12] [.p 0,.p 1,.v 45] [.s 44,.s 44]
def ZzD:jL->BC U
 | .b0 a b c=>Bd f33 [44,83,3] (a,b,c,())
 | .b1 a b c=>AA3 f33 [1,1,0,1,0,1,1,1,1,1,1,1,1,1,1,1,1,1,1,1,1,1,1,1,0,1,1,1,0] Ze8 (a,b,c,())
 | .b2 a b c=>AA3 f33 [1,1,0,1,0,1,1,1,1,1,1,1,1,1,1,1,1,1,1,1,1,1,1,1,1,1,1,1,0,1,1,1,1,1,0] Zdu (a,b,c,())
theorem Zz2:AA1 33 [44,83,3] 46 (fun x=>jX x.1 x.2.1 x.2.2.1) rfl:=Bh (mc Zva (mc Zs4 (mc ZpW (mc ZxH (mc ZpK (mc Zrt Ae)))))) Af (al [(28,Ze8),(40,Zdu)]) ZzD func33 (fun p=>by cases p<;>kernel_rfl) (by kernel_rfl) fun _=>rfl
def tJ:S1 (Int×(List Int)×Unit) ((List Int)×Int)
 | (c,a,_)=>let k:=(↑a.length:Int);let i:=([]:List Int);let e:=AQ (k - 3);let j:=Int.toNat e;let h:=(a.drop j).take (a.length - j);let g:=(decide (0<=e/\e<=k));let f:=(a.drop 0).take (j - 0);.br (decide (e<0)) (.chk true (AB (i,(3:Int)))) (.chk g (.chk (Jm U 5 h) (.chk g (.bind 22 (iQ c f) (fun(d:Int)=>.bind 62 (gV d) (fun(b:List Int)=>.chk (Jm U 5 b) (.br (!((strOf U 5 h).toList==(strOf U 5 b).toList)) (.chk true (AB (i,(10:Int)))) (.chk g (.chk true (.chk (kA (0+f.length) 1) (kl (i++f) (AB ((i++f),(0:Int))))))))))))))
def uB (a:Int) (b:List Int):Option ((List Int)×Int):=AU tJ (a,b,())
theorem ZsH:AA1 114 [22,62] 120 (fun x=>uB x.1 x.2.1) rfl:=ok1 (mc Zcx (mc ZdB Ae)) Af func114 (fun _=>by kernel_rfl) (by kernel_rfl)
inductive bZ where
 | b0 (a:List Int)
 | b1 (a:BI)
 | b2 (a:List Int) (b c d:Int) (e:BI)
def XN:bZ->Tr U ((BI×Int)⊕bZ)
 | .b0 a=>.br (decide ((↑a.length:Int)<2)) (AB (Df,3)) (.chk (kI (0:Int) a) (.bind 5 (a[(Int.toNat 0)]?) (fun(b:Int)=>let f:=AQ (b);let d:=Int.tmod f 4;.chk (kI (1:Int) a) (.bind 5 (a[(Int.toNat 1)]?) (fun(c:Int)=>let e:=AP (bZ.b2 a f (AQ (c)) d Df);.br (decide (f>=32)) (AB (Df,2)) (.br (d==0) (AB (Df,12)) (.br ((AQ (c))==0) (.br (d != 1) (AP (.b1 Df)) e) e)))))))
 | .b1 a=>AB (Df,1)
 | .b2 a b c d e=>let i:=Int.toNat 2;let g:=(↑a.length:Int);let j:=AQ (g - 2);let f:=(a.drop i).take (a.length - i);let h:=([]:List Int)++f;.br (decide (j<c)) (AB (Df,3)) (.br (decide (j>c)) (AB (Df,2)) (.chk (decide (0<=(2:Int)/\(2:Int)<=g)) (.chk true (.chk (kA (0+f.length) 1) (kl h (AB ((⟨(Int.tmod (AQ (Int.tdiv b 8)) (2:Int)),(Int.tmod (AQ (Int.tdiv b 4)) (2:Int)),(Int.tmod (AQ (Int.tdiv b 16)) (2:Int)),(⟨d,h⟩:Aq)⟩:BI),(0:Int))))))))
def rY (a:List Int):Option (BI×Int):=AU XN (.b0 a)
def Z9Q:Lay:=LT [2] [.p 0] [.s 70]
def Z9O:Lay:=LT [0,2,4,5,6] [.v 62,.p 0,.v 3,.v 3,.v 3] [.s 70]
def ZqN:bZ->BC U
 | .b0 a=>Bd f115 [62] (a,())
 | .b1 a=>AA3 f115 [1,1,1,1,1,1,0,1,0,0] Z9Q (a,())
 | .b2 a b c d e=>AA3 f115 [1,1,1,1,1,1,1,0,0] Z9O (a,b,c,d,e,())
theorem ZpT:AA1 115 [62] 71 (fun x=>rY x.1) rfl:=Bh Ae Af (al [(10,Z9Q),(11,Z9O)]) ZqN func115 (fun p=>by cases p<;>kernel_rfl) (by kernel_rfl) fun _=>rfl
def Z3h:S1 ((List Int)×(List Int)×Unit) Bool
 | (a,b,_)=>.chk (Jm U 5 a) (.chk (Jm U 5 b) (AB ((strOf U 5 a).toList==(strOf U 5 b).toList)))
def vM (a b:List Int):Option Bool:=AU Z3h (a,b,())
theorem Zvn:AA1 278 [62,62] 4 (fun x=>vM x.1 x.2.1) rfl:=ok1 Ae Af func278 (fun _=>by kernel_rfl) (by kernel_rfl)
def vP:S1 (Int×Int×(List Int)×(List Int)×Unit) ((List Int)×Int)
 | (b,c,e,a,_)=>let n:=([]:List Int);let m:=(↑a.length:Int);let i:=AQ (m - 4);let k:=Int.toNat i;let l:=(a.drop 0).take (k - 0);let j:=(decide (0<=i/\i<=m));.br (decide (i<0)) (.chk true (AB (n,(3:Int)))) (.chk j (.bind 62 (iV b c e l) (fun(f:List Int)=>.chk j (.bind 4 (vM f ((a.drop k).take (a.length - k))) (fun(g:Bool)=>.br (!g) (.chk true (AB (n,(15:Int)))) (.bind 62 (dG b c i) (fun(h:List Int)=>.bind 1350 (iM l h) (fun(d:Q7)=>kl d.q0 (AB (d.q0,0))))))))))
def uV (a b:Int) (c d:List Int):Option ((List Int)×Int):=AU vP (a,b,c,d,())
theorem Zvz:AA1 211 [29,25,62,62] 120 (fun x=>uV x.1 x.2.1 x.2.2.1 x.2.2.2.1) rfl:=ok1 (mc ZaZ (mc ZdC (mc Zvn Ae))) (hc [] ZdX Af) func211 (fun _=>by kernel_rfl) (by kernel_rfl)
def Z2o:S1 (Int×Unit) Int
 | (a,_)=>.br (a==1) (AB (0:Int)) (AB (1:Int))
def tZ (a:Int):Option Int:=AU Z2o (a,())
theorem Zs7:AA1 212 [3] 3 (fun x=>tZ x.1) rfl:=ok1 Ae Af func212 (fun _=>by kernel_rfl) (by kernel_rfl)
inductive gW where
 | b0 (a:Bc) (b:BI)
 | b1 (a:Bc) (b c:BI)
def iF:gW->Tr U ((BI×Int)⊕gW)
 | .b0 b a=>.bind 45 (QV a) (fun(c:Int)=>.br (c != 0) (AB (Df,c)) (.br (!b.Eg) (AB (a,0)) (.bind 4 (PK a.Ap) (fun(d:Bool)=>.br d (AB (a,0)) (AP (.b1 b a Df))))))
 | .b1 a b g=>.br (decide ((↑b.Ap.Payload.length:Int)<5)) (AB (Df,3)) (.bind 3 (tZ a.BK) (fun(d:Int)=>.bind 25 (eG a d a.Rx) (fun(e:Int)=>.chk true (.bind 120 (uV a.Key e ([(IntKind.wrap .u8 (b.Ap.BP))]) b.Ap.Payload) (fun(c:(List Int)×Int)=>.br (c.2 != 0) (AB (Df,c.2)) (.bind 70 (iC b c.1) (fun(f:BI)=>AB (f,0))))))))
def uT (a:Bc) (b:BI):Option (BI×Int):=AU iF (.b0 a b)
def Zbs:Lay:=LT [2,3,4] [.p 0,.p 1,.p 2] [.s 41,.s 70,.s 70]
def ZuR:gW->BC U
 | .b0 a b=>Bd f117 [41,70] (a,b,())
 | .b1 a b c=>AA3 f117 [1,1,1,0,0] Zbs (a,b,c,())
theorem ZuV:AA1 117 [41,70] 71 (fun x=>uT x.1 x.2.1) rfl:=Bh (mc rV (mc XI (mc Zcr (mc ZbB (mc Zvz (mc Zs7 Ae)))))) Af (al [(6,Zbs)]) ZuR func117 (fun p=>by cases p<;>kernel_rfl) (by kernel_rfl) fun _=>rfl
inductive gQ where
 | b0 (a:BQ) (b:BI)
 | b1 (a:BQ) (b:BI) (c:BQ) (d:Aq)
 | b2 (a:Bool) (b:BQ) (c:BI) (d:BQ) (e:Aq)
 | b3 (a:Bool) (b:BQ) (c:BI) (d:BQ) (e:Aq)
 | b4 (a:Bool) (b:BQ) (c:BI) (d:BQ) (e:Aq)
 | b5 (a:Bool) (b c:BQ) (d:Aq)
def NV:gQ->Tr U ((BQ×Aq×Bool×Bool)⊕gQ)
 | .b0 a b=>let e:=(⟨0,([]:List Int)⟩:Aq);let d:=AP (gQ.b2 false a b KZ e);.bind 45 (QV b) (fun(c:Int)=>.br (c != 0) (AB (a,(⟨0,[]⟩:Aq),false,false)) (.br a.Open (.br (b.DX != a.SN) (AP (.b1 a b KZ e)) d) d))
 | .b1 a b c d=>let e:=({ a with SN:=(AQ ((1:Int) - a.SN)) }:BQ);let f:=AP (gQ.b4 true e b c d);.br (!a.Empty) (.br (decide ((↑a.Az.length:Int)>0)) (AP (.b3 true e b c d)) f) f
 | .b2 b a c d e=>let g:=AQ ((1:Int) - a.DX);.br (c.SN==a.DX) (.bind 4 (bJ c.Ap) (fun(f:Bool)=>.br (!f) (AB (({ a with DX:=g,Taken:=(AQ (a.Taken+1)) }:BQ),c.Ap,true,b)) (AP (.b5 b ({ a with DX:=g }:BQ) d e)))) (AP (.b5 b a d e))
 | .b3 b a c d e=>let h:=Int.toNat 1;let f:=(a.Az.drop h).take (a.Az.length - h);let g:=([]:List Aq)++f;.chk (decide (0<=(1:Int)/\(1:Int)<=(↑a.Az.length:Int))) (.chk true (.chk (kA (0+f.length) 32) (kl g (AP (.b4 b ({ a with Az:=g,Di:=(AQ (a.Di+1)) }:BQ) c d e)))))
 | .b4 a b c d e=>AP (.b2 a ({ b with Open:=false,Empty:=false }:BQ) c d e)
 | .b5 a b c d=>AB (b,(⟨0,[]⟩:Aq),false,a)
def vK (a:BQ) (b:BI):Option (BQ×Aq×Bool×Bool):=AU NV (.b0 a b)
def ZbN:Lay:=LT [2,3,4,5] [.p 0,.p 1,.p 2,.p 3] [.s 33,.s 70,.s 33,.s 68]
def XH:Lay:=LT [2,3,4,5,7] [.p 0,.p 1,.p 2,.p 3,.v 4] [.s 33,.s 70,.s 33,.s 68]
def Zby:Lay:=LT [2,4,5,7] [.p 0,.p 1,.p 2,.v 4] [.s 33,.s 33,.s 68]
def Ztm:gQ->BC U
 | .b0 a b=>Bd f118 [33,70] (a,b,())
 | .b1 a b c d=>AA3 f118 [1,1,0,1,0,0] ZbN (a,b,c,d,())
 | .b2 a b c d e=>AA3 f118 [1,1,1,0,0] XH (a,b,c,d,e,())
 | .b3 a b c d e=>AA3 f118 [1,1,0,1,0,1,1,0,1,0,0] XH (a,b,c,d,e,())
 | .b4 a b c d e=>AA3 f118 [1,1,0,1,0,1,1,1] XH (a,b,c,d,e,())
 | .b5 a b c d=>AA3 f118 [1,1,1,1,0] Zby (a,b,c,d,())
theorem Zti:AA1 118 [33,70] 163 (fun x=>vK x.1 x.2.1) rfl:=Bh (mc XI (mc Z9M Ae)) Af (al [(4,ZbN),(10,XH),(7,XH),(9,XH),(15,Zby)]) Ztm func118 (fun p=>by cases p<;>kernel_rfl) (by kernel_rfl) fun _=>rfl
inductive fZ where
 | b0 (a:Bc) (b c:Bool)
 | b1 (a:Bool) (b c:Bc)
 | b2 (a:Bool) (b c:Bc)
 | b3 (a b:Bc)
def Uo:fZ->Tr U (Bc⊕fZ)
 | .b0 a c b=>let d:=AP (fZ.b2 b a NF);.br c (.br a.Gf (AP (.b1 b a NF)) d) d
 | .b1 b a c=>AP (.b2 b ({ a with Tx:=(IntKind.wrap .u64 (a.Tx+1)) }:Bc) c)
 | .b2 b a c=>.br b (.br a.Eg (AP (.b3 a c)) (AB a)) (AB a)
 | .b3 a b=>AB ({ a with Rx:=(IntKind.wrap .u64 (a.Rx+1)) }:Bc)
def gG (a:Bc) (b c:Bool):Option Bc:=AU Uo (.b0 a b c)
def rQ:Lay:=LT [2,3,6] [.v 4,.p 0,.p 1] [.s 41,.s 41]
def ZbK:Lay:=LT [3,6] [.p 0,.p 1] [.s 41,.s 41]
def ZtP:fZ->BC U
 | .b0 a b c=>Bd f120 [41,4,4] (a,b,c,())
 | .b1 a b c=>AA3 f120 [1,0,1,0] rQ (a,b,c,())
 | .b2 a b c=>AA3 f120 [1,1,0,0] rQ (a,b,c,())
 | .b3 a b=>AA3 f120 [1,1,0,1,0] ZbK (a,b,())
theorem Zcf:AA1 120 [41,4,4] 41 (fun x=>gG x.1 x.2.1 x.2.2.1) rfl:=Bh Ae Af (al [(2,rQ),(3,rQ),(4,ZbK)]) ZtP func120 (fun p=>by cases p<;>kernel_rfl) (by kernel_rfl) fun _=>rfl
inductive gB where
 | b0 (a:Int)
 | b1 (a:Int) (b:CE)
 | b2 (a:Int) (b:CE)
 | b3 (a:Int) (b:CE)
 | b4 (a:Int) (b:CE)
 | b5 (a:Int) (b:CE)
 | b6 (a:Int) (b:CE)
 | b7 (a:Int) (b:CE)
 | b8 (a:Int) (b:CE)
def Ji:gB->Tr U (Int⊕gB)
 | .b0 b=>.bind 262 (DJ b) (fun(a:CE)=>.br a.BB (AP (.b1 (10:Int) a)) (AP (.b1 (1:Int) a)))
 | .b1 b a=>.br a.Map (AP (.b2 (AQ (b+5)) a)) (AP (.b2 b a))
 | .b2 b a=>.br a.Ci (AP (.b3 (AQ (b+2)) a)) (AP (.b3 b a))
 | .b3 b a=>let c:=AP (gB.b4 b a);.br a.Bl c (.br a.Version c (.br a.Length c (AP (.b5 b a))))
 | .b4 a b=>AP (.b5 (AQ (a+1)) b)
 | .b5 b a=>.br a.DL (AP (.b6 (AQ (b+1)) a)) (AP (.b6 b a))
 | .b6 b a=>let c:=AP (gB.b7 b a);.br a.Bj c (.br a.Bv c (AP (.b8 b a)))
 | .b7 a b=>AP (.b8 (AQ (a+8)) b)
 | .b8 a b=>.br b.Mark (AB (AQ (a+8))) (AB a)
def JP (a:Int):Option Int:=AU Ji (.b0 a)
def Jf:Lay:=LT [3,4] [.p 0,.v 3] [.s 262]
def ZtO:gB->BC U
 | .b0 a=>Bd f279 [3] (a,())
 | .b1 a b=>AA3 f279 [1,1,1,1,0,0] Jf (a,b,())
 | .b2 a b=>AA3 f279 [1,1,1,1,1,0,0] Jf (a,b,())
 | .b3 a b=>AA3 f279 [1,1,1,1,1,1,0,0] Jf (a,b,())
 | .b4 a b=>AA3 f279 [1,1,1,1,1,1,0,1,0] Jf (a,b,())
 | .b5 a b=>AA3 f279 [1,1,1,1,1,1,1,0,0] Jf (a,b,())
 | .b6 a b=>AA3 f279 [1,1,1,1,1,1,1,1,0,0] Jf (a,b,())
 | .b7 a b=>AA3 f279 [1,1,1,1,1,1,1,1,0,1,0] Jf (a,b,())
 | .b8 a b=>AA3 f279 [1,1,1,1,1,1,1,1,1,0,0] Jf (a,b,())
theorem ZuQ:AA1 279 [3] 3 (fun x=>JP x.1) rfl:=Bh (mc SE Ae) Af (al [(5,Jf),(7,Jf),(9,Jf),(10,Jf),(11,Jf),(13,Jf),(14,Jf),(15,Jf)]) ZtO func279 (fun p=>by cases p<;>kernel_rfl) (by kernel_rfl) fun _=>rfl
inductive jJ where
 | b0 (a:List Int) (b c:Int)
 | b1 (a:List Int) (b c d:Int)
def X8:jJ->Tr U (Int⊕jJ)
 | .b0 a b c=>AP (.b1 a b (0:Int) (AQ (c - 1)))
 | .b1 b c d a=>.br (decide (a>=0)) (.chk (kI (AQ (c+a)) b) (.bind 5 (b[(Int.toNat (AQ (c+a)))]?) (fun(e:Int)=>AP (.b1 b c (IntKind.wrap .u64 ((IntKind.wrap .u64 (d*256))+(IntKind.wrap .u64 (e)))) (AQ (a - 1)))))) (AB d)
def GX (a:List Int) (b c:Int):Option Int:=AU X8 (.b0 a b c)
def ZcV:Lay:=LT [0,1,7,8] [.v 62,.v 3,.v 25,.v 3] []
def Zyu:jJ->BC U
 | .b0 a b c=>Bd f345 [62,3,3] (a,b,c,())
 | .b1 a b c d=>AA3 f345 [1,1,0,1,0,0,0,0] ZcV (a,b,c,d,())
theorem ZdR:AA1 345 [62,3,3] 25 (fun x=>GX x.1 x.2.1 x.2.2.1) rfl:=Bh Ae Af (al [(3,ZcV)]) Zyu func345 (fun p=>by cases p<;>kernel_rfl) (by kernel_rfl) fun _=>rfl
def Z12:S1 ((List Int)×Int×Unit) D5
 | (a,b,_)=>.bind 25 (GX a b (1:Int)) (fun(c:Int)=>.bind 25 (GX a (AQ (b+1)) (2:Int)) (fun(d:Int)=>.bind 25 (GX a (AQ (b+3)) (2:Int)) (fun(e:Int)=>.bind 25 (GX a (AQ (b+5)) (2:Int)) (fun(f:Int)=>.bind 25 (GX a (AQ (b+7)) (2:Int)) (fun(g:Int)=>AB (⟨(AQ (c)),(AQ (d)),(AQ (e)),(AQ (f)),(AQ (g))⟩:D5))))))
def pR (a:List Int) (b:Int):Option D5:=AU Z12 (a,b,())
theorem Zn3:AA1 344 [62,3] 24 (fun x=>pR x.1 x.2.1) rfl:=ok1 (mc ZdR Ae) Af func344 (fun _=>by kernel_rfl) (by kernel_rfl)
inductive dR where
 | b0 (a:AO) (b:List Int)
 | b1 (a:List Int) (b:Int) (c d:AO) (e:CE)
 | b2 (a:List Int) (b:Int) (c d:AO) (e:CE)
 | b3 (a:List Int) (b:Int) (c d:AO) (e:CE)
 | b4 (a:List Int) (b:Int) (c d:AO) (e:CE)
 | b5 (a:List Int) (b:Int) (c d:AO) (e:CE)
 | b6 (a:List Int) (b:Int) (c d:AO) (e:CE)
 | b7 (a:List Int) (b:Int) (c d:AO) (e:CE)
 | b8 (a:List Int) (b:Int) (c d:AO) (e:CE)
 | b9 (a:List Int) (b:Int) (c d:AO) (e:CE)
def Jg:dR->Tr U (AO⊕dR)
 | .b0 a b=>.bind 262 (DJ a.Kind) (fun(c:CE)=>.br c.BB (.bind 24 (pR b (1:Int)) (fun(d:D5)=>AP (.b1 b (10:Int) ({ a with BB:=d }:AO) EO c))) (AP (.b1 b (1:Int) a EO c)))
 | .b1 a b d e c=>.br c.Map (.bind 25 (GX a b (5:Int)) (fun(f:Int)=>AP (.b2 a (AQ (b+5)) ({ d with Map:=f }:AO) e c))) (AP (.b2 a b d e c))
 | .b2 a b d e c=>.br c.Ci (.bind 25 (GX a b (2:Int)) (fun(f:Int)=>AP (.b3 a b ({ d with Ci:=(IntKind.wrap .u16 (f)) }:AO) e c))) (AP (.b3 a b d e c))
 | .b3 a b d e c=>.br c.Bl (.chk (kI b a) (.bind 5 (a[(Int.toNat b)]?) (fun(f:Int)=>AP (.b4 a (AQ (b+1)) ({ d with Bl:=(AQ (f)) }:AO) e c)))) (AP (.b4 a b d e c))
 | .b4 a b d e c=>.br c.DL (.chk (kI b a) (.bind 5 (a[(Int.toNat b)]?) (fun(f:Int)=>AP (.b5 a b ({ d with DL:=(AQ (f)) }:AO) e c)))) (AP (.b5 a b d e c))
 | .b5 a b d e c=>.br c.Bj (.bind 25 (GX a b (8:Int)) (fun(f:Int)=>AP (.b6 a (AQ (b+8)) ({ d with Bj:=f }:AO) e c))) (AP (.b6 a b d e c))
 | .b6 a b d e c=>.br c.Mark (.bind 25 (GX a b (8:Int)) (fun(f:Int)=>AP (.b7 a b ({ d with Mark:=f }:AO) e c))) (AP (.b7 a b d e c))
 | .b7 a b d e c=>.br c.Bv (.bind 25 (GX a b (8:Int)) (fun(f:Int)=>AP (.b8 a b ({ d with Bv:=f }:AO) e c))) (AP (.b8 a b d e c))
 | .b8 a b d e c=>.br c.Version (.chk (kI b a) (.bind 5 (a[(Int.toNat b)]?) (fun(f:Int)=>AP (.b9 a b ({ d with Version:=(AQ (f)) }:AO) e c)))) (AP (.b9 a b d e c))
 | .b9 a b c f d=>.br d.Length (.chk (kI b a) (.bind 5 (a[(Int.toNat b)]?) (fun(e:Int)=>AB ({ c with Length:=(AQ (e)) }:AO)))) (AB c)
def XT (a:AO) (b:List Int):Option AO:=AU Jg (.b0 a b)
def JB:Lay:=LT [1,2,4,5,6] [.v 62,.p 0,.p 1,.p 2,.v 3] [.s 156,.s 156,.s 262]
def ZrW:dR->BC U
 | .b0 a b=>Bd f280 [156,62] (a,b,())
 | .b1 a b c d e=>AA3 f280 [1,1,1,1,0,0] JB (a,b,c,d,e,())
 | .b2 a b c d e=>AA3 f280 [1,1,1,1,1,0,0] JB (a,b,c,d,e,())
 | .b3 a b c d e=>AA3 f280 [1,1,1,1,1,1,0,0] JB (a,b,c,d,e,())
 | .b4 a b c d e=>AA3 f280 [1,1,1,1,1,1,1,0,0] JB (a,b,c,d,e,())
 | .b5 a b c d e=>AA3 f280 [1,1,1,1,1,1,1,1,0,0] JB (a,b,c,d,e,())
 | .b6 a b c d e=>AA3 f280 [1,1,1,1,1,1,1,1,1,0,0] JB (a,b,c,d,e,())
 | .b7 a b c d e=>AA3 f280 [1,1,1,1,1,1,1,1,1,1,0,0] JB (a,b,c,d,e,())
 | .b8 a b c d e=>AA3 f280 [1,1,1,1,1,1,1,1,1,1,1,0,0] JB (a,b,c,d,e,())
 | .b9 a b c d e=>AA3 f280 [1,1,1,1,1,1,1,1,1,1,1,1,0,0] JB (a,b,c,d,e,())
theorem Zrc:AA1 280 [156,62] 156 (fun x=>XT x.1 x.2.1) rfl:=Bh (mc SE (mc Zn3 (mc ZdR Ae))) Af (al [(6,JB),(9,JB),(11,JB),(14,JB),(16,JB),(19,JB),(21,JB),(23,JB),(25,JB)]) ZrW func280 (fun p=>by cases p<;>kernel_rfl) (by kernel_rfl) fun _=>rfl
def rX:S1 ((List Int)×Unit) (AO×Int)
 | (a,_)=>let h:=(↑a.length:Int);.br (h==0) (AB (EO,3)) (.chk (kI (0:Int) a) (.bind 5 (a[(Int.toNat 0)]?) (fun(b:Int)=>let i:=AQ (b);.bind 262 (DJ i) (fun(e:CE)=>.br (!e.FI) (AB (EO,12)) (.bind 3 (JP i) (fun(f:Int)=>.br (decide (h<f)) (AB (EO,3)) (.bind 3 (JP i) (fun(g:Int)=>.br (decide (h>g)) (AB (EO,2)) (.bind 156 (XT (⟨i,Be,0,0,0,0,0,0,0,0,0⟩:AO) a) (fun(c:AO)=>.bind 45 (JO c) (fun(d:Int)=>.br (d != 0) (AB (EO,d)) (AB (c,0)))))))))))))
def JD (a:List Int):Option (AO×Int):=AU rX (a,())
theorem Zaz:AA1 214 [62] 231 (fun x=>JD x.1) rfl:=ok1 (mc Z27 (mc SE (mc ZuQ (mc Zrc Ae)))) Af func214 (fun _=>by kernel_rfl) (by kernel_rfl)
inductive gY where
 | b0 (a:A7) (b:AO)
 | b1 (a:A7) (b:AO) (c:A7)
 | b2 (a:A7) (b:AO) (c:A7)
 | b3 (a b:A7)
def Ut:gY->Tr U ((A7×(List Am))⊕gY)
 | .b0 a b=>let c:=AP (gY.b2 a b EP);.br (a.Bz==0) (.br (a.Own==2) (.br (b.Kind==2) (AP (.b1 a b EP)) c) c) c
 | .b1 a b c=>AP (.b2 ({ a with Bz:=22 }:A7) b c)
 | .b2 a b c=>let e:=Tr.chk true (AB (a,([]:List Am)));.bind 4 (QX b.Kind) (fun(d:Bool)=>.br d (.br (a.Own==b.Kind) (AP (.b3 a c)) e) e)
 | .b3 a b=>.chk true (AB (({ a with Told:=true }:A7),([]:List Am)))
def uZ (a:A7) (b:AO):Option (A7×(List Am)):=AU Ut (.b0 a b)
def sF:Lay:=LT [2,3,4] [.p 0,.p 1,.p 2] [.s 39,.s 156,.s 39]
def Zbi:Lay:=LT [2,4] [.p 0,.p 1] [.s 39,.s 39]
def Zv4:gY->BC U
 | .b0 a b=>Bd f215 [39,156] (a,b,())
 | .b1 a b c=>AA3 f215 [1,0,1,0] sF (a,b,c,())
 | .b2 a b c=>AA3 f215 [1,1,0,0] sF (a,b,c,())
 | .b3 a b=>AA3 f215 [1,1,0,1,0] Zbi (a,b,())
theorem ZuG:AA1 215 [39,156] 233 (fun x=>uZ x.1 x.2.1) rfl:=Bh (mc XL Ae) Af (al [(2,sF),(3,sF),(4,Zbi)]) Zv4 func215 (fun p=>by cases p<;>kernel_rfl) (by kernel_rfl) fun _=>rfl
end
end Go.Proofs.YtjodhcdmhobmoaaGreatDoor
