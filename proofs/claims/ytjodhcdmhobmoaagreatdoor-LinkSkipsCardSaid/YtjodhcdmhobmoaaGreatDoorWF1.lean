/- A part of it. -/
import Derived.Test.YtjodhcdmhobmoaaGreatDoorWUn
set_option linter.unusedVariables false
set_option linter.unusedSimpArgs false
namespace Go.Proofs.YtjodhcdmhobmoaaGreatDoor
open Tryz
open Go Go.Proofs.YtjodhcdmhobmoaaGreatDoor.Le
set_option maxRecDepth 100000
noncomputable section
theorem Z6h:SC Tryz.prog 145 1 1 5:=vT Qe (t:=62) (tb:=4) (e:=5) func145 (by kernel_rfl) (by kernel_rfl) (by kernel_rfl) (by kernel_rfl) (by kernel_rfl) (by kernel_rfl) (by kernel_rfl) (by decide)
def Jk (a:List Int):Option Kv:=if a.length*1<=lim/\a.length<=maxLen then some ⟨a⟩ else none
def ZkP:Shape:=⟨[OV 62],[]⟩
def Z8:Shape:=⟨[.one (.own 5 0)],[.row 5 true]⟩
noncomputable def mF:HMod U:={ fa:=[[.s 5 1]],fb:=[],Dv:=ZkP,Jv:=Z8,one:=true,ky:=1344,OZ:=fun(y:Kv)=>(((),()),(y.q0,())),fn:=fun x=>Jk x.1.1.1,ok:=okS rfl }
theorem RH:Cf Tryz.prog B0 145 mF:=uQ Z6h fun x y q=>by
 simp only[mF,Jk]at q;split at q
 ·rename_i h;cases q;exact⟨_,rfl,rfl,by simp[mF,HMod.out,Z8,Shape.enc,Jb,Ju,JO,Eh,Ib,AY],by simp[mF,HMod.out,Z8,Shape.enc,Jb,Ju,JO,Eh,Ib,BP,DK,CJ],by simpa using h.1,by simpa using h.2⟩
 ·cases q
theorem Z5G:SC Tryz.prog 146 15 120 156:=vT Qe (t:=36) (tb:=4) (e:=156) func146 (by kernel_rfl) (by kernel_rfl) (by kernel_rfl) (by kernel_rfl) (by kernel_rfl) (by kernel_rfl) (by kernel_rfl) (by decide)
def VV (a:List AO):Option RF:=if a.length*120<=lim/\a.length<=maxLen then some ⟨a⟩ else none
def ZjE:Shape:=⟨[OV 36],[]⟩
def zQ:Shape:=⟨[.one (.own 156 0)],[.row 156 true]⟩
noncomputable def lQ:HMod U:={ fa:=[[.s 156 15]],fb:=[],Dv:=ZjE,Jv:=zQ,one:=true,ky:=1345,OZ:=fun(y:RF)=>(((),()),(y.q0,())),fn:=fun x=>VV x.1.1.1,ok:=okS rfl }
theorem Z6l:Cf Tryz.prog B0 146 lQ:=uQ Z5G fun x y q=>by
 simp only[lQ,VV]at q;split at q
 ·rename_i h;cases q;exact⟨_,rfl,rfl,by simp[lQ,HMod.out,zQ,Shape.enc,Jb,Ju,JO,Eh,Ib,AY],by simp[lQ,HMod.out,zQ,Shape.enc,Jb,Ju,JO,Eh,Ib,BP,DK,CJ],by simpa using h.1,by simpa using h.2⟩
 ·cases q
theorem Z5S:SC Tryz.prog 147 8 64 138:=vT Qe (t:=37) (tb:=4) (e:=138) func147 (by kernel_rfl) (by kernel_rfl) (by kernel_rfl) (by kernel_rfl) (by kernel_rfl) (by kernel_rfl) (by kernel_rfl) (by decide)
def TU (a:List BC):Option Pn:=if a.length*64<=lim/\a.length<=maxLen then some ⟨a⟩ else none
def Zke:Shape:=⟨[OV 37],[]⟩
def zU:Shape:=⟨[.one (.own 138 0)],[.row 138 true]⟩
noncomputable def lS:HMod U:={ fa:=[[.s 138 8]],fb:=[],Dv:=Zke,Jv:=zU,one:=true,ky:=1346,OZ:=fun(y:Pn)=>(((),()),(y.q0,())),fn:=fun x=>TU x.1.1.1,ok:=okS rfl }
theorem Z7:Cf Tryz.prog B0 147 lS:=uQ Z5S fun x y q=>by
 simp only[lS,TU]at q;split at q
 ·rename_i h;cases q;exact⟨_,rfl,rfl,by simp[lS,HMod.out,zU,Shape.enc,Jb,Ju,JO,Eh,Ib,AY],by simp[lS,HMod.out,zU,Shape.enc,Jb,Ju,JO,Eh,Ib,BP,DK,CJ],by simpa using h.1,by simpa using h.2⟩
 ·cases q
theorem Z66:SC Tryz.prog 148 2 16 99:=vT Qe (t:=42) (tb:=4) (e:=99) func148 (by kernel_rfl) (by kernel_rfl) (by kernel_rfl) (by kernel_rfl) (by kernel_rfl) (by kernel_rfl) (by kernel_rfl) (by decide)
def lW (a:List BO):Option Y1:=if a.length*16<=lim/\a.length<=maxLen then some ⟨a⟩ else none
def Zkr:Shape:=⟨[OV 42],[]⟩
def zX:Shape:=⟨[.one (.own 99 0)],[.row 99 true]⟩
noncomputable def mD:HMod U:={ fa:=[[.s 99 2]],fb:=[],Dv:=Zkr,Jv:=zX,one:=true,ky:=1347,OZ:=fun(y:Y1)=>(((),()),(y.q0,())),fn:=fun x=>lW x.1.1.1,ok:=okS rfl }
theorem Zkw:Cf Tryz.prog B0 148 mD:=uQ Z66 fun x y q=>by
 simp only[mD,lW]at q;split at q
 ·rename_i h;cases q;exact⟨_,rfl,rfl,by simp[mD,HMod.out,zX,Shape.enc,Jb,Ju,JO,Eh,Ib,AY],by simp[mD,HMod.out,zX,Shape.enc,Jb,Ju,JO,Eh,Ib,BP,DK,CJ],by simpa using h.1,by simpa using h.2⟩
 ·cases q
end
noncomputable def ZaX:Option Bool:=some true
noncomputable def Zbg:Ai U:={ ts:=[],rt:=4,fn:=fun _=>ZaX,ok:=by decide }
theorem ZqI:wO Tryz.prog gl [11,14,15,17,19,22,27,28,37,38,39,40,41,42,52,53,55,57,58,62,63,64,65,66,67,68,78,79,122,123,124,125,126,133,134,135,136,137,143,149,150,152,153,154,155,156,158,159,160,161,218,219,222,223,230,231,232,235,236,237,238,287,321,379,380,381] (fun g=>!([62,63,64,158,159,160,235].contains g)) [(65,9),(62,5)] [(145,1,1,5),(146,15,120,156),(147,8,64,138),(148,2,16,99)]=true:=by kernel_rfl
theorem Zqg:AA0 14 Zbg:=ZBI rfl Qe ZqI (fun p hp=>by simp only[List.mem_cons,List.not_mem_nil,or_false]at hp;rcases hp with rfl|rfl|rfl|rfl<;>first|exact Z6h|exact Z5G|exact Z5S|exact Z66) (by rfl) (by decide) rfl func14 (by kernel_rfl) (n:=60) (m:=Zbg) rfl (a:=true) (fun _=>rfl) (by kernel_rfl)
noncomputable section
def Z9V:S1 (CW×Bool×Unit) Bool
 | (a,b,_)=>.br a.Full (AB true) (.br b (AB true) (.br (decide (a.EJ>=a.C9)) (AB true) (AB false)))
def oZ (a:CW) (b:Bool):Option Bool:=AU Z9V (a,b,())
theorem Z9q:AA1 57 [35,4] 4 (fun x=>oZ x.1 x.2.1) rfl:=ok1 Ag Af func57 (fun _=>by kernel_rfl) (by kernel_rfl)
def ZxF:S1 (BR×Unit) Bool
 | (a,_)=>AB ((↑a.Ap.length:Int)==0)
def Z2R (a:BR):Option Bool:=AU ZxF (a,())
theorem Zvj:AA1 58 [33] 4 (fun x=>Z2R x.1) rfl:=ok1 Ag Af func58 (fun _=>by kernel_rfl) (by kernel_rfl)
inductive Z1w where
 | b0 (a:Ad)
 | b1 (a:Ad)
def qI:Z1w->Tr U (Bool⊕Z1w)
 | .b0 a=>let b:=AB false;.br (a.CQ != 0) b (.br (a.CB != 1) b (.br (!a.GU) b (AP (.b1 a))))
 | .b1 a=>.br ((↑a.Ac.length:Int)==0) (.br ((↑a.AA.Aq.length:Int)==0) (.bind 4 (Z2R a.Ar) (fun(b:Bool)=>.bind 4 (oZ a.DY (!b)) (fun(c:Bool)=>AB (!c)))) (AB false)) (AB false)
def aW (a:Ad):Option Bool:=AU qI (.b0 a)
def Zaf:Lay:=LT [1] [.p 0] [.s 44]
def Zri:Z1w->BH U
 | .b0 a=>Bg f19 [44] (a,())
 | .b1 a=>AA3 f19 [1,1,0] Zaf (a,())
theorem Zat:AA1 19 [44] 4 (fun x=>aW x.1) rfl:=Bj (mc Z9q (mc Zvj Ag)) Af (al [(3,Zaf)]) Zri func19 (fun p=>by cases p<;>kernel_rfl) (by kernel_rfl) fun _=>rfl
def Z1o:S1 (Int×Int×Int×Unit) Bool
 | (a,b,c,_)=>.br (decide (a>=b)) (AB (decide (a<=c))) (AB false)
def Oc (a b c:Int):Option Bool:=AU Z1o (a,b,c,())
theorem Zba:AA1 129 [3,3,3] 4 (fun x=>Oc x.1 x.2.1 x.2.2.1) rfl:=ok1 Ag Af func129 (fun _=>by kernel_rfl) (by kernel_rfl)
inductive Z00 where
 | b0 (a:DR)
 | b1 (a:DR)
def Z0d:Z00->Tr U (Int⊕Z00)
 | .b0 a=>let g:=AB (5:Int);.bind 4 (Oc a.FP (1:Int) (8:Int)) (fun(b:Bool)=>.br (!b) g (.bind 4 (Oc a.FC (0:Int) (3200:Int)) (fun(c:Bool)=>.br (!c) g (.bind 4 (Oc a.E5 (6:Int) (3200:Int)) (fun(d:Bool)=>.br (!d) g (.bind 4 (Oc a.C9 (0:Int) (499:Int)) (fun(e:Bool)=>.br (!e) g (.bind 4 (Oc a.FY (10:Int) (3200:Int)) (fun(f:Bool)=>.br (!f) g (AP (.b1 a)))))))))))
 | .b1 a=>let b:=AB (11:Int);.br (decide (a.FP>=a.E5)) b (.br (decide (a.FC>a.E5)) b (.br (decide ((AQ (a.FY*10000))<=(AQ ((AQ ((AQ ((2:Int)*(AQ (a.C9+1))))*a.E5))*1250)))) b (AB (0:Int))))
def Ye (a:DR):Option Int:=AU Z0d (.b0 a)
def Z7K:Lay:=LT [1] [.p 0] [.s 24]
def ZnD:Z00->BH U
 | .b0 a=>Bg f127 [24] (a,())
 | .b1 a=>AA3 f127 [1,1,0,0] Z7K (a,())
theorem Z7W:AA1 127 [24] 45 (fun x=>Ye x.1) rfl:=Bj (mc Zba Ag) Af (al [(3,Z7K)]) ZnD func127 (fun p=>by cases p<;>kernel_rfl) (by kernel_rfl) fun _=>rfl
inductive dG where
 | b0 (a:Int)
 | b1 (a b c:Int)
def WA:dG->Tr U (Int⊕dG)
 | .b0 a=>AP (.b1 a (1:Int) (0:Int))
 | .b1 a b c=>.br (decide (c<a)) (AP (.b1 a (IntKind.wrap .u64 (b*2)) (AQ (c+1)))) (AB b)
def UX (a:Int):Option Int:=AU WA (.b0 a)
def ZaV:Lay:=LT [0,3,4] [.v 3,.v 25,.v 3] []
def ZtI:dG->BH U
 | .b0 a=>Bg f220 [3] (a,())
 | .b1 a b c=>AA3 f220 [1,1,0,1,0,0,0,0] ZaV (a,b,c,())
theorem Z1x:AA1 220 [3] 25 (fun x=>UX x.1) rfl:=Bj Ag Af (al [(3,ZaV)]) ZtI func220 (fun p=>by cases p<;>kernel_rfl) (by kernel_rfl) fun _=>rfl
def Z3i:S1 (Int×Int×Unit) Bool
 | (c,a,_)=>.br (decide (a>=0)) (.br (decide (a<=36)) (.bind 25 (UX a) (fun(b:Int)=>.chk (b != 0) (AB ((Int.tmod (IntKind.wrap .u64 (Int.tdiv c b)) 2)==1)))) (AB false)) (AB false)
def Wp (a b:Int):Option Bool:=AU Z3i (a,b,())
theorem Z2E:AA1 225 [26,3] 4 (fun x=>Wp x.1 x.2.1) rfl:=ok1 (mc Z1x Ag) Af func225 (fun _=>by kernel_rfl) (by kernel_rfl)
inductive eY where
 | b0 (a:Int)
 | b1 (a:Int) (b:List Int) (c:Int)
 | b2 (a:Int) (b:List Int) (c:Int)
def QH:eY->Tr U ((List Int)⊕eY)
 | .b0 a=>.chk true (AP (.b1 a ([]:List Int) (0:Int)))
 | .b1 c a b=>.br (decide (b<=36)) (.bind 4 (Wp c b) (fun(d:Bool)=>.br d (.chk true (kl a (.chk (kA (a.length+1) 8) (kl (a++[b]) (AP (.b2 c (a++[b]) b)))))) (kl a (AP (.b2 c a b))))) (kl a (AB a))
 | .b2 b a c=>kl a (AP (.b1 b a (AQ (c+1))))
def WT (a:Int):Option (List Int):=AU QH (.b0 a)
def qJ:Lay:=LT [0,3,4] [.v 26,.o 3 1 0,.v 3] [.r 3]
def ZvU:eY->BH U
 | .b0 a=>Bg f202 [26] (a,())
 | .b1 a b c=>AA3 f202 [1,1,0,1,0,0,0,0] qJ (a,c,b,())
 | .b2 a b c=>AA3 f202 [1,1,0,1,0,0,1,1] qJ (a,c,b,())
theorem Z1U:AA1 202 [26] 226 (fun x=>WT x.1) rfl:=Bj (mc Z2E Ag) Af (al [(3,qJ),(4,qJ)]) ZvU func202 (fun p=>by cases p<;>kernel_rfl) (by kernel_rfl) fun _=>rfl
def Z2b:S1 (Int×Unit) Int
 | (a,_)=>.bind 226 (WT a) (fun(b:List Int)=>AB (↑b.length:Int))
def WM (a:Int):Option Int:=AU Z2b (a,())
theorem Z1y:AA1 221 [26] 3 (fun x=>WM x.1) rfl:=ok1 (mc Z1U Ag) Af func221 (fun _=>by kernel_rfl) (by kernel_rfl)
def Z2j:S1 (Int×Unit) Int
 | (a,_)=>.bind 25 (UX (37:Int)) (fun(b:Int)=>.br (decide (a>=b)) (AB (5:Int)) (.bind 3 (WM a) (fun(c:Int)=>.br (decide (c<2)) (AB (1:Int)) (AB (0:Int)))))
def dK (a:Int):Option Int:=AU Z2j (a,())
theorem Zbz:AA1 128 [26] 45 (fun x=>dK x.1) rfl:=ok1 (mc Z1x (mc Z1y Ag)) Af func128 (fun _=>by kernel_rfl) (by kernel_rfl)
inductive dS where
 | b0 (a:FO)
 | b1 (a:FO)
 | b2 (a:FO)
def ZcM:dS->Tr U (Int⊕dS)
 | .b0 a=>let b:=AB (1:Int);.br (a.Jq==0) b (.br (a.Jq==2391391958) b (AP (.b1 a)))
 | .b1 a=>let f:=AB (5:Int);.br (decide (a.VE>=16777216)) f (.bind 45 (Ye a.BL) (fun(b:Int)=>.br (b != 0) (AB b) (.bind 45 (dK a.Map) (fun(c:Int)=>.br (c != 0) (AB c) (.bind 4 (Oc a.Hop (5:Int) (16:Int)) (fun(d:Bool)=>.br (!d) f (.bind 4 (Oc a.PPM (0:Int) (500:Int)) (fun(e:Bool)=>.br (!e) f (AP (.b2 a))))))))))
 | .b2 a=>let b:=AB (0:Int);.br (a.QL != 1) (.br (a.QL != 2) (AB (12:Int)) b) b
def Z2i (a:FO):Option Int:=AU ZcM (.b0 a)
def pG:Lay:=LT [1] [.p 0] [.s 28]
def Ztt:dS->BH U
 | .b0 a=>Bg f43 [28] (a,())
 | .b1 a=>AA3 f43 [1,1,0,0] pG (a,())
 | .b2 a=>AA3 f43 [1,1,1,1,1,1,0,0] pG (a,())
theorem Zuf:AA1 43 [28] 45 (fun x=>Z2i x.1) rfl:=Bj (mc Z7W (mc Zbz (mc Zba Ag))) Af (al [(3,pG),(13,pG)]) Ztt func43 (fun p=>by cases p<;>kernel_rfl) (by kernel_rfl) fun _=>rfl
def ZaO:S1 (Int×Int×Int×Unit) Int
 | (a,c,b,_)=>let d:=if b<a then b else a;AB (if d>c then d else c)
def Vp (a b c:Int):Option Int:=AU ZaO (a,b,c,())
theorem oP:AA1 192 [3,3,3] 3 (fun x=>Vp x.1 x.2.1 x.2.2.1) rfl:=ok1 Ag Af func192 (fun _=>by kernel_rfl) (by kernel_rfl)
def ZcY:S1 (Int×Unit) Int
 | (a,_)=>.bind 3 (Vp a (0:Int) (4398046511104:Int)) (fun(b:Int)=>AB b)
def Z2d (a:Int):Option Int:=AU ZcY (a,())
theorem ZuW:AA1 130 [3] 3 (fun x=>Z2d x.1) rfl:=ok1 (mc oP Ag) Af func130 (fun _=>by kernel_rfl) (by kernel_rfl)
def ZbE:S1 (DR×Unit) Int
 | (a,_)=>.bind 3 (Vp a.FC (0:Int) (3200:Int)) (fun(b:Int)=>AB (AQ (b*1250)))
def Z1p (a:DR):Option Int:=AU ZbE (a,())
theorem Zso:AA1 131 [24] 3 (fun x=>Z1p x.1) rfl:=ok1 (mc oP Ag) Af func131 (fun _=>by kernel_rfl) (by kernel_rfl)
def Ze3:S1 (DR×Unit) Int
 | (a,_)=>.bind 3 (Vp a.FP (1:Int) (8:Int)) (fun(b:Int)=>AB (AQ (b*1250)))
def Z2s (a:DR):Option Int:=AU Ze3 (a,())
theorem Zx8:AA1 132 [24] 3 (fun x=>Z2s x.1) rfl:=ok1 (mc oP Ag) Af func132 (fun _=>by kernel_rfl) (by kernel_rfl)
def Zd4:S1 (Int×DR×Unit) QJ
 | (d,a,_)=>.bind 3 (Z2d d) (fun(b:Int)=>.bind 3 (Z1p a) (fun(c:Int)=>let f:=AQ ((AQ (b+1250))+c);.bind 3 (Z2s a) (fun(e:Int)=>AB (⟨f,(AQ (f+e))⟩:QJ))))
def Z1R (a:Int) (b:DR):Option QJ:=AU Zd4 (a,b,())
theorem Ztu:AA1 44 [3,24] 52 (fun x=>Z1R x.1 x.2.1) rfl:=ok1 (mc ZuW (mc Zso (mc Zx8 Ag))) Af func44 (fun _=>by kernel_rfl) (by kernel_rfl)
def ZfQ:S1 (Unit) BR
 | _=>AB KJ
def Z2V  : Option BR:=AU ZfQ ()
theorem ZyW:AA1 45 [] 33 (fun x=>Z2V) rfl:=ok1 Ag Af func45 (fun _=>by kernel_rfl) (by kernel_rfl)
def Zff:S1 (Int×Unit) CW
 | (a,_)=>let b:=(if (499:Int)<a then (499:Int) else a);AB (⟨(if b>0 then b else (0:Int)),0,true⟩:CW)
def uY (a:Int):Option CW:=AU Zff (a,())
theorem ZeO:AA1 46 [3] 35 (fun x=>uY x.1) rfl:=ok1 Ag Af func46 (fun _=>by kernel_rfl) (by kernel_rfl)
def Zfp:S1 (Int×Int×Int×Unit) AZ
 | (c,b,a,_)=>let e:=(if (27:Int)>a then (27:Int) else a);let d:=(if (251:Int)<e then (251:Int) else e);.br (c==1) (AB (⟨1,-1,0,[],-1,0,[],false,b,0,false,false,-1,27,d,0,0,0,0,0⟩:AZ)) (AB (⟨0,-1,0,[],-1,0,[],false,b,0,false,false,-1,27,d,0,0,0,0,0⟩:AZ))
def Z3f (a b c:Int):Option AZ:=AU Zfp (a,b,c,())
theorem Zyb:AA1 47 [3,25,3] 39 (fun x=>Z3f x.1 x.2.1 x.2.2.1) rfl:=ok1 Ag Af func47 (fun _=>by kernel_rfl) (by kernel_rfl)
def ZcF:S1 (Unit) (List BO)
 | _=>.chk (decide (0<=(37:Int)/\(37:Int)<=37/\Int.toNat 37*16<=lim/\(37:Int)<=(↑maxLen:Int))) (kl (List.replicate (Int.toNat 37) (⟨0,0⟩:BO)) (AB (List.replicate (Int.toNat 37) (⟨0,0⟩:BO))))
def Z1Z  : Option (List BO):=AU ZcF ()
theorem ZtB:AA1 48 [] 42 (fun x=>Z1Z) rfl:=ok1 Ag Af func48 (fun _=>by kernel_rfl) (by kernel_rfl)
inductive iF where
 | b0 (a:Int) (b:FO) (c d e f:Int)
 | b1 (a:Ad)
 | b2 (a b c d e:Int) (f:FO) (g:Ad)
 | b3 (a:Ad)
 | b4 (a b c d e:Int) (f:FO) (g:Ad)
def Zfj:iF->Tr U ((Ad×Int)⊕iF)
 | .b0 a b c d e f=>let g:=AP (iF.b2 a c d e f b EM);.br (a != 0) (.br (a != 1) (AP (.b1 EM)) g) g
 | .b1 a=>AB (EM,1)
 | .b2 f b g h c d a=>let i:=AP (iF.b3 a);.bind 45 (Z2i d) (fun(e:Int)=>.br (e != 0) (AB (EM,e)) (.br (decide (b<0)) i (.br (decide (b>500)) i (.br (decide (c<0)) i (.br (decide (c>1099511627776)) i (AP (.b4 f b g h c d a)))))))
 | .b3 a=>AB (EM,5)
 | .b4 b e f g a c l=>.bind 52 (Z1R a c.BL) (fun(d:QJ)=>.bind 33 (Z2V) (fun(h:BR)=>.bind 35 (uY c.BL.C9) (fun(i:CW)=>.bind 39 (Z3f b (63:Int) (251:Int)) (fun(j:AZ)=>.bind 42 (Z1Z) (fun(k:List BO)=>.br (b==1) (AB ((⟨b,c,e,0,0,d.Start,(AQ (d.End - d.Start)),a,a,false,false,false,false,false,h,i,j,MG,f,k,[],0,g⟩:Ad),(0:Int))) (AB ((⟨b,c,e,0,0,d.Start,0,a,a,false,false,false,false,false,h,i,j,MG,f,k,[],0,g⟩:Ad),(0:Int))))))))
def uG (a:Int) (b:FO) (c d e f:Int):Option (Ad×Int):=AU Zfj (.b0 a b c d e f)
def sG:Lay:=LT [12] [.p 0] [.s 44]
def qW:Lay:=LT [0,2,3,4,5,7,12] [.v 3,.v 3,.v 29,.v 25,.v 3,.p 0,.p 1] [.s 28,.s 44]
def ZyM:iF->BH U
 | .b0 a b c d e f=>Bg f12 [3,28,3,29,25,3] (a,b,c,d,e,f,())
 | .b1 a=>AA3 f12 [1,0,1,0,0] sG (a,())
 | .b2 a b c d e f g=>AA3 f12 [1,1,0] qW (a,b,c,d,e,f,g,())
 | .b3 a=>AA3 f12 [1,1,1,1,0,1,0,0] sG (a,())
 | .b4 a b c d e f g=>AA3 f12 [1,1,1,1,1,0] qW (a,b,c,d,e,f,g,())
theorem Zz4:AA1 12 [3,28,3,29,25,3] 46 (fun x=>uG x.1 x.2.1 x.2.2.1 x.2.2.2.1 x.2.2.2.2.1 x.2.2.2.2.2.1) rfl:=Bj (mc Zuf (mc Ztu (mc ZyW (mc ZeO (mc Zyb (mc ZtB Ag)))))) Af (al [(2,sG),(3,qW),(7,sG),(8,qW)]) ZyM func12 (fun p=>by cases p<;>kernel_rfl) (by kernel_rfl) fun _=>rfl
def Zen:S1 (CW×Bool×Unit) Bool
 | (a,b,_)=>.br a.Full (AB true) (.br b (AB true) (AB (decide (a.EJ>=a.C9))))
def tC (a:CW) (b:Bool):Option Bool:=AU Zen (a,b,())
theorem ZdH:AA1 59 [35,4] 4 (fun x=>tC x.1 x.2.1) rfl:=ok1 Ag Af func59 (fun _=>by kernel_rfl) (by kernel_rfl)
def ZeQ:S1 (BR×Unit) Bool
 | (a,_)=>AB ((↑a.Ap.length:Int)==0)
def Z2I (a:BR):Option Bool:=AU ZeQ (a,())
theorem Zve:AA1 60 [33] 4 (fun x=>Z2I x.1) rfl:=ok1 Ag Af func60 (fun _=>by kernel_rfl) (by kernel_rfl)
def Zdy:S1 (Ad×Unit) Bool
 | (a,_)=>.br (a.CQ==0) (.br (a.CB==1) (.br a.GU (.br ((↑a.Ac.length:Int)==0) (.br ((↑a.AA.Aq.length:Int)==0) (.bind 4 (Z2I a.Ar) (fun(b:Bool)=>.bind 4 (tC a.DY (!b)) (fun(c:Bool)=>AB (!c)))) (AB false)) (AB false)) (AB false)) (AB false)) (AB false)
def qZ (a:Ad):Option Bool:=AU Zdy (a,())
theorem ZbX:AA1 20 [44] 4 (fun x=>qZ x.1) rfl:=ok1 (mc ZdH (mc Zve Ag)) Af func20 (fun _=>by kernel_rfl) (by kernel_rfl)
inductive aC where
 | b0 (a:Int)
 | b1 (a b c:Int)
def Zag:aC->Tr U (Int⊕aC)
 | .b0 a=>AP (.b1 a (0:Int) (0:Int))
 | .b1 a b c=>.br (decide (c<8)) (AP (.b1 (AQ (Int.tdiv a 2)) (AQ ((AQ ((2:Int)*b))+(Int.tmod a 2))) (AQ (c+1)))) (AB b)
def oL (a:Int):Option Int:=AU Zag (.b0 a)
def Z94:Lay:=LT [0,3,4] [.v 3,.v 3,.v 3] []
def Zpr:aC->BH U
 | .b0 a=>Bg f227 [3] (a,())
 | .b1 a b c=>AA3 f227 [1,1,0,1,0,0,0,0] Z94 (a,b,c,())
theorem Zpl:AA1 227 [3] 3 (fun x=>oL x.1) rfl:=Bj Ag Af (al [(3,Z94)]) Zpr func227 (fun p=>by cases p<;>kernel_rfl) (by kernel_rfl) fun _=>rfl
inductive bQ where
 | b0 (a b:Int)
 | b1 (a b c:Int)
def ZbU:bQ->Tr U (Int⊕bQ)
 | .b0 b a=>AP (.b1 a (bits .xor .u16 b a) (0:Int))
 | .b1 a b c=>.br (decide (c<3)) (.bind 3 (oL (AQ (Int.tdiv (AQ (b)) 256))) (fun(d:Int)=>.bind 3 (oL (Int.tmod (AQ (b)) 256)) (fun(e:Int)=>AP (.b1 a (IntKind.wrap .u16 ((Int.tmod (AQ ((AQ ((17:Int)*(AQ ((AQ ((256:Int)*d))+e))))+(AQ (a)))) (65536:Int)))) (AQ (c+1)))))) (AB (bits .xor .u16 b a))
def qE (a b:Int):Option Int:=AU ZbU (.b0 a b)
def Z9H:Lay:=LT [1,5,6] [.v 30,.v 30,.v 3] []
def Zsw:bQ->BH U
 | .b0 a b=>Bg f139 [30,30] (a,b,())
 | .b1 a b c=>AA3 f139 [1,1,0,1,0,0,0,0] Z9H (a,b,c,())
theorem ZaE:AA1 139 [30,30] 30 (fun x=>qE x.1 x.2.1) rfl:=Bj (mc Zpl Ag) Af (al [(3,Z9H)]) Zsw func139 (fun p=>by cases p<;>kernel_rfl) (by kernel_rfl) fun _=>rfl
def Zd0:S1 (Int×Unit) Int
 | (a,_)=>AB (bits .xor .u16 (IntKind.wrap .u16 ((IntKind.wrap .u32 (Int.tdiv a 65536)))) (IntKind.wrap .u16 ((Int.tmod a 65536))))
def rD (a:Int):Option Int:=AU Zd0 (a,())
theorem ZbJ:AA1 140 [22] 30 (fun x=>rD x.1) rfl:=ok1 Ag Af func140 (fun _=>by kernel_rfl) (by kernel_rfl)
inductive gI where
 | b0 (a b:Int)
 | b1 (a:Int) (b:List Int)
def Zfs:gI->Tr U (Int⊕gI)
 | .b0 c a=>let d:=AB (-1:Int);.bind 226 (WT c) (fun(b:List Int)=>.br (decide (a<0)) d (.br (decide (a>=(↑b.length:Int))) d (AP (.b1 a b))))
 | .b1 a b=>.chk (kI a b) (.bind 3 (b[(Int.toNat a)]?) (fun(c:Int)=>AB c))
def vH (a b:Int):Option Int:=AU Zfs (.b0 a b)
def Zdv:Lay:=LT [1,5] [.v 3,.v 226] []
def ZAd:gI->BH U
 | .b0 a b=>Bg f226 [26,3] (a,b,())
 | .b1 a b=>AA3 f226 [1,1,1,0] Zdv (a,b,())
theorem ZdO:AA1 226 [26,3] 3 (fun x=>vH x.1 x.2.1) rfl:=Bj (mc Z1U Ag) Af (al [(4,Zdv)]) ZAd func226 (fun p=>by cases p<;>kernel_rfl) (by kernel_rfl) fun _=>rfl
def ZeX:S1 (Int×Int×Int×Unit) Int
 | (a,c,d,_)=>.bind 30 (rD d) (fun(e:Int)=>.bind 30 (qE c e) (fun(b:Int)=>let i:=Int.tmod (AQ (b)) 37;.bind 4 (Wp a i) (fun(f:Bool)=>.br f (AB i) (.bind 3 (WM a) (fun(g:Int)=>.bind 3 (vH a (AQ (Int.tdiv (AQ (g*(AQ (b)))) (65536:Int)))) (fun(h:Int)=>AB h))))))
def Z2Y (a b c:Int):Option Int:=AU ZeX (a,b,c,())
theorem ZzW:AA1 138 [26,30,22] 3 (fun x=>Z2Y x.1 x.2.1 x.2.2.1) rfl:=ok1 (mc ZaE (mc ZbJ (mc Z1y (mc Z2E (mc ZdO Ag))))) Af func138 (fun _=>by kernel_rfl) (by kernel_rfl)
def ZdN:S1 (Int×Int×Unit) Int
 | (a,b,_)=>AB (Int.tmod (AQ ((AQ ((Int.tmod a 37)+(Int.tmod b 37)))+74)) (37:Int))
def Z2T (a b:Int):Option Int:=AU ZdN (a,b,())
theorem ZwQ:AA1 141 [3,3] 3 (fun x=>Z2T x.1 x.2.1) rfl:=ok1 Ag Af func141 (fun _=>by kernel_rfl) (by kernel_rfl)
def Zct:S1 (Int×Int×Unit) Int
 | (b,a,_)=>let g:=(if (36:Int)<a then (36:Int) else a);let f:=(if g>0 then g else (0:Int));.bind 4 (Wp b f) (fun(d:Bool)=>.br d (AB f) (.bind 3 (WM b) (fun(c:Int)=>.br (c==0) (AB (-1:Int)) (.chk (c != 0) (.bind 3 (vH b (Int.tmod f c)) (fun(e:Int)=>AB e))))))
def Z2f (a b:Int):Option Int:=AU Zct (a,b,())
theorem Zt3:AA1 142 [26,3] 3 (fun x=>Z2f x.1 x.2.1) rfl:=ok1 (mc Z1y (mc Z2E (mc ZdO Ag))) Af func142 (fun _=>by kernel_rfl) (by kernel_rfl)
def Ze1:S1 (FO×Int×Int×Unit) (Int×Int)
 | (a,b,d,_)=>.br (a.QL==2) (.bind 3 (Z2Y a.Map b a.Jq) (fun(e:Int)=>.bind 30 (rD a.Jq) (fun(f:Int)=>.bind 30 (qE b f) (fun(g:Int)=>AB (e,(Int.tmod (AQ (g)) 37)))))) (.bind 3 (Z2T d a.Hop) (fun(c:Int)=>.bind 3 (Z2f a.Map c) (fun(h:Int)=>AB (h,c))))
def sW (a:FO) (b c:Int):Option (Int×Int):=AU Ze1 (a,b,c,())
theorem Zdk:AA1 54 [28,30,3] 104 (fun x=>sW x.1 x.2.1 x.2.2.1) rfl:=ok1 (mc ZzW (mc ZaE (mc ZbJ (mc ZwQ (mc Zt3 Ag))))) Af func54 (fun _=>by kernel_rfl) (by kernel_rfl)
def ZaD:S1 (Ad×Unit) Int
 | (a,_)=>.bind 104 (sW a.Df a.Event a.Last) (fun(b:Int×Int)=>AB b.1)
def o6 (a:Ad):Option Int:=AU ZaD (a,())
theorem Za6:AA1 16 [44] 3 (fun x=>o6 x.1) rfl:=ok1 (mc Zdk Ag) Af func16 (fun _=>by kernel_rfl) (by kernel_rfl)
def ZcR:S1 (AZ×Unit) Bool
 | (a,_)=>.br (decide (a.Dy>=1)) (AB (decide (a.Dy<=3))) (AB false)
def qV (a:AZ):Option Bool:=AU ZcR (a,())
theorem Zc1:AA1 162 [39] 4 (fun x=>qV x.1) rfl:=ok1 Ag Af func162 (fun _=>by kernel_rfl) (by kernel_rfl)
def ZaJ:S1 (Int×Unit) Bool
 | (a,_)=>.br (a==3) (AB true) (.br (a==4) (AB true) (.br (a==5) (AB true) (.br (a==6) (AB true) (AB (a==13)))))
def Z10 (a:Int):Option Bool:=AU ZaJ (a,())
theorem Zqs:AA1 163 [3] 4 (fun x=>Z10 x.1) rfl:=ok1 Ag Af func163 (fun _=>by kernel_rfl) (by kernel_rfl)
inductive bG where
 | b0 (a:Int)
 | b1 (a:CP)
 | b2 (a:Int) (b:CP)
 | b3 (a:CP)
 | b4 (a:Int) (b:CP)
 | b5 (a:CP)
 | b6 (a:CP)
def Oe:bG->Tr U (CP⊕bG)
 | .b0 a=>let c:=AP (bG.b1 Nv);let b:=AP (bG.b2 a Nv);.br (a==0) (AB (⟨true,true,false,true,false,false,false,false,false,false,false⟩:CP)) (.br (a==1) (AB (⟨true,false,true,true,false,false,false,false,false,false,false⟩:CP)) (.br (a==2) (AB (⟨true,false,false,false,true,false,false,false,false,false,false⟩:CP)) (.br (a==3) (AB (⟨true,false,false,false,false,false,true,true,false,false,false⟩:CP)) (.br (a==4) (AB (⟨true,false,false,false,false,false,true,false,false,false,false⟩:CP)) (.br (a==5) (.br (a==5) c b) (.br (a==6) (.br (a==6) c b) (.br (a==18) (.br (a==18) c b) (.br (a==19) c b))))))))
 | .b1 a=>AB (⟨true,false,false,false,false,false,false,false,false,false,false⟩:CP)
 | .b2 a b=>let d:=AP (bG.b3 b);let c:=AP (bG.b4 a b);.br (a==7) (AB (⟨true,false,false,false,false,true,false,false,false,false,false⟩:CP)) (.br (a==8) (.br (a==8) d c) (.br (a==9) d c))
 | .b3 a=>AB (⟨true,false,false,false,false,false,false,false,true,false,false⟩:CP)
 | .b4 a b=>let d:=AP (bG.b6 b);let c:=AP (bG.b5 b);.br (a==12) (AB (⟨true,false,false,false,false,false,false,false,false,true,false⟩:CP)) (.br (a==13) (AB (⟨true,false,false,false,true,true,false,false,false,false,false⟩:CP)) (.br (a==15) (AB (⟨true,true,false,false,false,false,false,false,false,false,false⟩:CP)) (.br (a==20) (.br (a==20) c d) (.br (a==21) c d))))
 | .b5 a=>AB (⟨true,false,false,false,false,false,false,false,false,false,true⟩:CP)
 | .b6 a=>AB Nv
def DU (a:Int):Option CP:=AU Oe (.b0 a)
def RV:Lay:=LT [2] [.p 0] [.s 262]
def oM:Lay:=LT [2,3] [.p 0,.v 3] [.s 262]
def ZsM:bG->BH U
 | .b0 a=>Bg f240 [3] (a,())
 | .b1 a=>AA3 f240 [1,0,1,0,1,1,1,1,1,1,1,1,1,1,1,0,0] RV (a,())
 | .b2 a b=>AA3 f240 [1,0,1,0,1,1,1,1,1,1,1,1,1,1,1,1,0] oM (a,b,())
 | .b3 a=>AA3 f240 [1,0,1,0,1,1,1,1,1,1,1,1,1,1,1,1,1,1,1,0,0] RV (a,())
 | .b4 a b=>AA3 f240 [1,0,1,0,1,1,1,1,1,1,1,1,1,1,1,1,1,1,1,1,0] oM (a,b,())
 | .b5 a=>AA3 f240 [1,0,1,0,1,1,1,1,1,1,1,1,1,1,1,1,1,1,1,1,1,1,1,1,1,1,1,0,0] RV (a,())
 | .b6 a=>AA3 f240 [1,1,0] RV (a,())
theorem RX:AA1 240 [3] 262 (fun x=>DU x.1) rfl:=Bj Ag Af (al [(16,RV),(17,oM),(21,RV),(22,oM),(30,RV),(31,RV)]) ZsM func240 (fun p=>by cases p<;>kernel_rfl) (by kernel_rfl) fun _=>rfl
inductive fC where
 | b0 (a:AO)
 | b1 (a b:AO) (c:CP)
 | b2 (a b:AO) (c:CP)
 | b3 (a b:AO) (c:CP)
 | b4 (a b:AO) (c:CP)
 | b5 (a b:AO) (c:CP)
 | b6 (a b:AO) (c:CP)
 | b7 (a b:AO) (c:CP)
 | b8 (a b:AO) (c:CP)
 | b9 (a b:AO) (c:CP)
def Ht:fC->Tr U (AO⊕fC)
 | .b0 a=>.bind 262 (DU a.Kind) (fun(b:CP)=>.br b.BL (AP (.b1 ({ a with Kind:=0,BL:=CE }:AO) EZ b)) (AP (.b1 ({ a with Kind:=0 }:AO) EZ b)))
 | .b1 b c a=>.br a.Map (AP (.b2 ({ b with Map:=0 }:AO) c a)) (AP (.b2 b c a))
 | .b2 b c a=>.br a.DZ (AP (.b3 ({ b with DZ:=0 }:AO) c a)) (AP (.b3 b c a))
 | .b3 b c a=>.br a.CQ (AP (.b4 ({ b with CQ:=0 }:AO) c a)) (AP (.b4 b c a))
 | .b4 b c a=>.br a.ER (AP (.b5 ({ b with ER:=0 }:AO) c a)) (AP (.b5 b c a))
 | .b5 b c a=>.br a.CZ (AP (.b6 ({ b with CZ:=0 }:AO) c a)) (AP (.b6 b c a))
 | .b6 b c a=>.br a.Mark (AP (.b7 ({ b with Mark:=0 }:AO) c a)) (AP (.b7 b c a))
 | .b7 b c a=>.br a.D7 (AP (.b8 ({ b with D7:=0 }:AO) c a)) (AP (.b8 b c a))
 | .b8 b c a=>.br a.Version (AP (.b9 ({ b with Version:=0 }:AO) c a)) (AP (.b9 b c a))
 | .b9 a c b=>.br b.Length (AB ({ a with Length:=0 }:AO)) (AB a)
def uF (a:AO):Option AO:=AU Ht (.b0 a)
def Iu:Lay:=LT [1,2,3] [.p 0,.p 1,.p 2] [.s 156,.s 156,.s 262]
def ZwD:fC->BH U
 | .b0 a=>Bg f325 [156] (a,())
 | .b1 a b c=>AA3 f325 [1,1,1,1,0,0] Iu (a,b,c,())
 | .b2 a b c=>AA3 f325 [1,1,1,1,1,0,0] Iu (a,b,c,())
 | .b3 a b c=>AA3 f325 [1,1,1,1,1,1,0,0] Iu (a,b,c,())
 | .b4 a b c=>AA3 f325 [1,1,1,1,1,1,1,0,0] Iu (a,b,c,())
 | .b5 a b c=>AA3 f325 [1,1,1,1,1,1,1,1,0,0] Iu (a,b,c,())
 | .b6 a b c=>AA3 f325 [1,1,1,1,1,1,1,1,1,0,0] Iu (a,b,c,())
 | .b7 a b c=>AA3 f325 [1,1,1,1,1,1,1,1,1,1,0,0] Iu (a,b,c,())
 | .b8 a b c=>AA3 f325 [1,1,1,1,1,1,1,1,1,1,1,0,0] Iu (a,b,c,())
 | .b9 a b c=>AA3 f325 [1,1,1,1,1,1,1,1,1,1,1,1,0,0] Iu (a,b,c,())
theorem ZvQ:AA1 325 [156] 156 (fun x=>uF x.1) rfl:=Bj (mc RX Ag) Af (al [(5,Iu),(7,Iu),(9,Iu),(11,Iu),(13,Iu),(15,Iu),(17,Iu),(19,Iu),(21,Iu)]) ZwD func325 (fun p=>by cases p<;>kernel_rfl) (by kernel_rfl) fun _=>rfl
def Z1q:S1 (Int×Unit) Bool
 | (a,_)=>.br (decide (a>=0)) (AB (decide (a<=255))) (AB false)
def Vr (a:Int):Option Bool:=AU Z1q (a,())
theorem Zsr:AA1 326 [3] 4 (fun x=>Vr x.1) rfl:=ok1 Ag Af func326 (fun _=>by kernel_rfl) (by kernel_rfl)
inductive Z1N where
 | b0 (a:AO)
 | b1 (a:AO) (b:CP)
 | b2 (a:AO) (b:CP)
def WE:Z1N->Tr U (Int⊕Z1N)
 | .b0 b=>.bind 262 (DU b.Kind) (fun(c:CP)=>let e:=AP (Z1N.b1 b c);.br (!c.Fq) (AB (12:Int)) (.bind 156 (uF b) (fun(a:AO)=>.br (!((a.Kind==0)&&((a.BL.FP==0)&&((a.BL.FC==0)&&((a.BL.E5==0)&&((a.BL.C9==0)&&((a.BL.FY==0)&&((a.Map==0)&&((a.DZ==0)&&((a.CQ==0)&&((a.ER==0)&&((a.CZ==0)&&((a.Mark==0)&&((a.D7==0)&&((a.Version==0)&&((a.Length==0)&&true)))))))))))))))) (AB (1:Int)) (.br c.BL (.bind 45 (Ye b.BL) (fun(d:Int)=>.br (d != 0) (AB d) e)) e))))
 | .b1 a b=>let d:=AP (Z1N.b2 a b);.br b.Map (.bind 45 (dK a.Map) (fun(c:Int)=>.br (c != 0) (AB c) d)) d
 | .b2 a b=>let g:=AB (0:Int);let f:=AB (5:Int);.bind 4 (Vr a.CQ) (fun(c:Bool)=>.br (!c) f (.bind 4 (Vr a.ER) (fun(d:Bool)=>.br (!d) f (.bind 4 (Vr a.Version) (fun(e:Bool)=>.br (!e) f (.br b.Length (.br (decide (a.Length<27)) f (.br (decide (a.Length>251)) f g)) g))))))
def JZ (a:AO):Option Int:=AU WE (.b0 a)
def pW:Lay:=LT [1,3] [.p 0,.p 1] [.s 156,.s 262]
def Ztm:Z1N->BH U
 | .b0 a=>Bg f239 [156] (a,())
 | .b1 a b=>AA3 f239 [1,1,1,1,1,0,0] pW (a,b,())
 | .b2 a b=>AA3 f239 [1,1,1,1,1,1,0,0] pW (a,b,())
theorem Z1z:AA1 239 [156] 45 (fun x=>JZ x.1) rfl:=Bj (mc Z7W (mc Zbz (mc RX (mc ZvQ (mc Zsr Ag))))) Af (al [(10,pW),(14,pW)]) Ztm func239 (fun p=>by cases p<;>kernel_rfl) (by kernel_rfl) fun _=>rfl
end
noncomputable section
inductive gG where
 | b0 (a b:Int)
 | b1 (a b:Int) (c:List Int) (d:Int)
def Zfd:gG->Tr U (JH⊕gG)
 | .b0 a b=>.chk true (AP (.b1 a b ([]:List Int) (0:Int)))
 | .b1 b c a d=>let e:=a++[(IntKind.wrap .u8 ((Int.tmod b 256)))];.br (decide (d<c)) (.chk true (kl a (.chk (kA (a.length+1) 1) (kl e (AP (.b1 (IntKind.wrap .u64 (Int.tdiv b 256)) c e (AQ (d+1)))))))) (kl a (AB (⟨a⟩:JH)))
def NF (a b:Int):Option JH:=AU Zfd (.b0 a b)
def ZcX:Shape:=⟨[OV 25,OV 3],[]⟩
def Zuw:Shape:=⟨[.one (.own 5 0)],[.row 5 true]⟩
noncomputable def ZBi:HMod U:=⟨[KP,KP],[],ZcX,Zuw,true,1349,fun(y:JH)=>(((),()),(y.q0,())),fun x=>NF x.1.1.1 x.1.2.1.1,okS rfl⟩
def Zd9:Lay:=LT [0,1,5,6] [.v 25,.v 3,.o 5 1 0,.v 3] [.r 5]
def ZzR:gG->BH U
 | .b0 a b=>Dj f242 ZcX (((a,()),((b,()),())),())
 | .b1 a b c d=>AA3 f242 [1,1,0,1,0,0,0,0] Zd9 (a,b,d,c,())
theorem Ze6:Cf Tryz.prog B0 242 ZBi:=okR Ag Af (al [(3,Zd9)]) [[.own 5 1]] [.row true] 0 ZzR func242 (fun p=>by cases p<;>kernel_rfl) (by kernel_rfl) fun x=>by kernel_rfl
def Z9B:S1 (DR×Unit) (List Int)
 | (e,_)=>.bind 1349 (NF (IntKind.wrap .u64 (e.FP)) (1:Int)) (fun(a:JH)=>.bind 1349 (NF (IntKind.wrap .u64 (e.FC)) (2:Int)) (fun(b:JH)=>let i:=a.q0++b.q0;kl b.q0 (kl a.q0 (.chk (kA (a.q0.length+b.q0.length) 1) (.bind 1349 (NF (IntKind.wrap .u64 (e.E5)) (2:Int)) (fun(c:JH)=>let g:=i++c.q0;kl c.q0 (kl i (.chk (kA (i.length+c.q0.length) 1) (.bind 1349 (NF (IntKind.wrap .u64 (e.C9)) (2:Int)) (fun(d:JH)=>let h:=g++d.q0;kl d.q0 (kl g (.chk (kA (g.length+d.q0.length) 1) (.bind 1349 (NF (IntKind.wrap .u64 (e.FY)) (2:Int)) (fun(f:JH)=>kl f.q0 (kl h (.chk (kA (h.length+f.q0.length) 1) (kl (h++f.q0) (AB (h++f.q0)))))))))))))))))))
def Z0q (a:DR):Option (List Int):=AU Z9B (a,())
theorem ZoG:AA1 241 [24] 62 (fun x=>Z0q x.1) rfl:=ok1 Ag (hc [] Ze6 Af) func241 (fun _=>by kernel_rfl) (by kernel_rfl)
inductive bJ where
 | b0 (a:AO)
 | b1 (a:List Int) (b:AO) (c:CP)
 | b2 (a:List Int) (b:AO) (c:CP)
 | b3 (a:List Int) (b:AO) (c:CP)
 | b4 (a:List Int) (b:AO) (c:CP)
 | b5 (a:List Int) (b:AO) (c:CP)
 | b6 (a:List Int) (b:AO) (c:CP)
 | b7 (a:List Int) (b:AO) (c:CP)
 | b8 (a:List Int) (b:AO) (c:CP)
 | b9 (a:List Int) (b:AO) (c:CP)
def Zch:bJ->Tr U (((List Int)×Int)⊕bJ)
 | .b0 a=>let e:=IntKind.wrap .u8 (a.Kind);.bind 45 (JZ a) (fun(d:Int)=>.br (d != 0) (.chk true (AB (([]:List Int),d))) (.bind 262 (DU a.Kind) (fun(b:CP)=>.br b.BL (.bind 62 (Z0q a.BL) (fun(c:List Int)=>.chk true (.chk (kA (1+c.length) 1) (kl ([e]++c) (AP (.b1 ([e]++c) a b)))))) (.chk true (AP (.b1 ([e]) a b))))))
 | .b1 a c d=>.br d.Map (.bind 1349 (NF c.Map (5:Int)) (fun(b:JH)=>kl b.q0 (kl a (.chk (kA (a.length+b.q0.length) 1) (kl (a++b.q0) (AP (.b2 (a++b.q0) c d))))))) (kl a (AP (.b2 a c d)))
 | .b2 a c d=>.br d.DZ (.bind 1349 (NF (IntKind.wrap .u64 (c.DZ)) (2:Int)) (fun(b:JH)=>kl b.q0 (kl a (.chk (kA (a.length+b.q0.length) 1) (kl (a++b.q0) (AP (.b3 (a++b.q0) c d))))))) (kl a (AP (.b3 a c d)))
 | .b3 a b c=>let d:=a++[(IntKind.wrap .u8 (b.CQ))];.br c.CQ (.chk true (kl a (.chk (kA (a.length+1) 1) (kl d (AP (.b4 d b c)))))) (kl a (AP (.b4 a b c)))
 | .b4 a b c=>let d:=a++[(IntKind.wrap .u8 (b.ER))];.br c.ER (.chk true (kl a (.chk (kA (a.length+1) 1) (kl d (AP (.b5 d b c)))))) (kl a (AP (.b5 a b c)))
 | .b5 a c d=>.br d.CZ (.bind 1349 (NF c.CZ (8:Int)) (fun(b:JH)=>kl b.q0 (kl a (.chk (kA (a.length+b.q0.length) 1) (kl (a++b.q0) (AP (.b6 (a++b.q0) c d))))))) (kl a (AP (.b6 a c d)))
 | .b6 a c d=>.br d.Mark (.bind 1349 (NF c.Mark (8:Int)) (fun(b:JH)=>kl b.q0 (kl a (.chk (kA (a.length+b.q0.length) 1) (kl (a++b.q0) (AP (.b7 (a++b.q0) c d))))))) (kl a (AP (.b7 a c d)))
 | .b7 a c d=>.br d.D7 (.bind 1349 (NF c.D7 (8:Int)) (fun(b:JH)=>kl b.q0 (kl a (.chk (kA (a.length+b.q0.length) 1) (kl (a++b.q0) (AP (.b8 (a++b.q0) c d))))))) (kl a (AP (.b8 a c d)))
 | .b8 a b c=>let d:=a++[(IntKind.wrap .u8 (b.Version))];.br c.Version (.chk true (kl a (.chk (kA (a.length+1) 1) (kl d (AP (.b9 d b c)))))) (kl a (AP (.b9 a b c)))
 | .b9 a b c=>let d:=a++[(IntKind.wrap .u8 (b.Length))];.br c.Length (.chk true (kl a (.chk (kA (a.length+1) 1) (kl d (AB (d,(0:Int))))))) (kl a (AB (a,0)))
def qG (a:AO):Option ((List Int)×Int):=AU Zch (.b0 a)
def Iq:Lay:=LT [1,5,6] [.p 0,.p 1,.o 5 1 2] [.s 156,.s 262,.r 5]
def Zs3:bJ->BH U
 | .b0 a=>Bg f164 [156] (a,())
 | .b1 a b c=>AA3 f164 [1,1,1,1,1,0,0] Iq (b,c,a,())
 | .b2 a b c=>AA3 f164 [1,1,1,1,1,1,0,0] Iq (b,c,a,())
 | .b3 a b c=>AA3 f164 [1,1,1,1,1,1,1,0,0] Iq (b,c,a,())
 | .b4 a b c=>AA3 f164 [1,1,1,1,1,1,1,1,0,0] Iq (b,c,a,())
 | .b5 a b c=>AA3 f164 [1,1,1,1,1,1,1,1,1,0,0] Iq (b,c,a,())
 | .b6 a b c=>AA3 f164 [1,1,1,1,1,1,1,1,1,1,0,0] Iq (b,c,a,())
 | .b7 a b c=>AA3 f164 [1,1,1,1,1,1,1,1,1,1,1,0,0] Iq (b,c,a,())
 | .b8 a b c=>AA3 f164 [1,1,1,1,1,1,1,1,1,1,1,1,0,0] Iq (b,c,a,())
 | .b9 a b c=>AA3 f164 [1,1,1,1,1,1,1,1,1,1,1,1,1,0,0] Iq (b,c,a,())
theorem ZsF:AA1 164 [156] 120 (fun x=>qG x.1) rfl:=Bj (mc Z1z (mc RX (mc ZoG Ag))) (hc [] Ze6 Af) (al [(8,Iq),(10,Iq),(12,Iq),(14,Iq),(16,Iq),(18,Iq),(20,Iq),(22,Iq),(24,Iq)]) Zs3 func164 (fun p=>by cases p<;>kernel_rfl) (by kernel_rfl) fun _=>rfl
def Z3e:S1 (Int×Unit) Bool
 | (a,_)=>.br (a==0) (AB true) (AB (a==1))
def Wi (a:Int):Option Bool:=AU Z3e (a,())
theorem ZyY:AA1 243 [3] 4 (fun x=>Wi x.1) rfl:=ok1 Ag Af func243 (fun _=>by kernel_rfl) (by kernel_rfl)
inductive Yn where
 | b0 (a:Az)
 | b1 (a:Az)
 | b2 (a:Az)
def UH:Yn->Tr U (Int⊕Yn)
 | .b0 a=>let b:=AB (12:Int);.br (decide (a.Bz<1)) b (.br (decide (a.Bz>3)) b (AP (.b1 a)))
 | .b1 a=>let b:=AP (Yn.b2 a);.br ((↑a.Payload.length:Int)==0) (.br (a.Bz != 1) (AB (1:Int)) b) b
 | .b2 a=>.br (decide ((↑a.Payload.length:Int)>255)) (AB (4:Int)) (AB (0:Int))
def nI (a:Az):Option Int:=AU UH (.b0 a)
def mG:Lay:=LT [1] [.p 0] [.s 68]
def Zmo:Yn->BH U
 | .b0 a=>Bg f244 [68] (a,())
 | .b1 a=>AA3 f244 [1,1,0,0] mG (a,())
 | .b2 a=>AA3 f244 [1,1,1,0,0] mG (a,())
theorem ZmN:AA1 244 [68] 45 (fun x=>nI x.1) rfl:=Bj Ag Af (al [(3,mG),(5,mG)]) Zmo func244 (fun p=>by cases p<;>kernel_rfl) (by kernel_rfl) fun _=>rfl
inductive dQ where
 | b0 (a:BM)
 | b1 (a:BM)
def dR:dQ->Tr U (Int⊕dQ)
 | .b0 a=>let e:=AB (5:Int);.bind 4 (Wi a.SN) (fun(b:Bool)=>.br (!b) e (.bind 4 (Wi a.EI) (fun(c:Bool)=>.br (!c) e (.bind 4 (Wi a.MD) (fun(d:Bool)=>.br (!d) e (AP (.b1 a)))))))
 | .b1 a=>.bind 45 (nI a.Aw) (fun(b:Int)=>AB b)
def QE (a:BM):Option Int:=AU dR (.b0 a)
def Zbl:Lay:=LT [1] [.p 0] [.s 70]
def ZuP:dQ->BH U
 | .b0 a=>Bg f167 [70] (a,())
 | .b1 a=>AA3 f167 [1,1,0] Zbl (a,())
theorem Vw:AA1 167 [70] 45 (fun x=>QE x.1) rfl:=Bj (mc ZyY (mc ZmN Ag)) Af (al [(3,Zbl)]) ZuP func167 (fun p=>by cases p<;>kernel_rfl) (by kernel_rfl) fun _=>rfl
def Z1d:S1 (Az×Unit) Bool
 | (a,_)=>.br (a.Bz==1) (AB ((↑a.Payload.length:Int)==0)) (AB false)
def aO (a:Az):Option Bool:=AU Z1d (a,())
theorem Z9G:AA1 213 [68] 4 (fun x=>aO x.1) rfl:=ok1 Ag Af func213 (fun _=>by kernel_rfl) (by kernel_rfl)
inductive dV where
 | b0 (a:BR) (b:Az)
 | b1 (a:BR) (b:Az) (c:BR)
def ZcD:dV->Tr U ((BR×Int)⊕dV)
 | .b0 a b=>let e:=AB (a,1);.bind 4 (aO b) (fun(c:Bool)=>.br c e (.br (decide ((↑b.Payload.length:Int)>251)) e (.bind 45 (QE (⟨0,0,0,b⟩:BM)) (fun(d:Int)=>.br (d != 0) e (AP (.b1 a b KJ))))))
 | .b1 a b c=>let d:=([]:List Az)++a.Ap;.br (decide ((↑a.Ap.length:Int)>=64)) (AB (a,8)) (.chk true (.chk (kA (0+a.Ap.length) 32) (.chk true (kl d (.chk (kA (d.length+1) 32) (kl (d++[b]) (AB (({ a with Ap:=(d++[b]) }:BR),(0:Int)))))))))
def rZ (a:BR) (b:Az):Option (BR×Int):=AU ZcD (.b0 a b)
def Zbr:Lay:=LT [2,3,4] [.p 0,.p 1,.p 2] [.s 33,.s 68,.s 33]
def Zt4:dV->BH U
 | .b0 a b=>Bg f165 [33,68] (a,b,())
 | .b1 a b c=>AA3 f165 [1,1,0,0] Zbr (a,b,c,())
theorem Zcf:AA1 165 [33,68] 189 (fun x=>rZ x.1 x.2.1) rfl:=Bj (mc Vw (mc Z9G Ag)) Af (al [(3,Zbr)]) Zt4 func165 (fun p=>by cases p<;>kernel_rfl) (by kernel_rfl) fun _=>rfl
inductive dO where
 | b0 (a:Ad)
 | b1 (a:List AO) (b:Bool) (c:Int) (d e:Ad)
 | b2 (a:List AO) (b:Bool) (c:Int) (d e:Ad) (f:AO)
 | b3 (a:List AO) (b:Bool) (c:Int) (d e:Ad) (f:AO)
 | b4 (a:List AO) (b:Bool) (c:Int) (d e:Ad)
def ZdJ:dO->Tr U (Ad⊕dO)
 | .b0 a=>.chk true (AP (.b1 ([]:List AO) false (0:Int) a EM))
 | .b1 a d c b f=>.br (decide (c<(↑b.Ac.length:Int))) (.chk (kI c b.Ac) (.bind 156 (b.Ac[(Int.toNat c)]?) (fun(e:AO)=>let j:=kl a (AP (dO.b3 a d c b f e));let i:=kl a (AP (dO.b2 a d c b f e));.br d i (.bind 4 (qV b.AA) (fun(g:Bool)=>.br g (.bind 4 (Z10 e.Kind) (fun(h:Bool)=>.br (!h) i j)) j))))) (kl a (AB ({ b with Ac:=a }:Ad)))
 | .b2 a c d e f b=>.chk true (kl a (.chk (kA (a.length+1) 120) (kl (a++[b]) (AP (.b4 (a++[b]) c d e f)))))
 | .b3 a f c b d e=>.bind 120 (qG e) (fun(g:(List Int)×Int)=>.br (g.2 != 0) (kl a (AP (.b4 a f c b d))) (.bind 189 (rZ b.Ar (⟨3,g.1⟩:Az)) (fun(h:BR×Int)=>.br (h.2 != 0) (.chk true (kl a (.chk (kA (a.length+1) 120) (kl (a++[e]) (AP (.b4 (a++[e]) true c b d)))))) (kl a (AP (.b4 a f c ({ b with Ar:=h.1 }:Ad) d))))))
 | .b4 a b c d e=>kl a (AP (.b1 a b (AQ (c+1)) d e))
def Z29 (a:Ad):Option Ad:=AU ZdJ (.b0 a)
def pU:Lay:=LT [1,2,3,4,5] [.p 0,.p 1,.o 156 15 2,.v 4,.v 3] [.s 44,.s 44,.r 156]
def o9:Lay:=LT [1,2,3,4,5,6] [.p 0,.p 1,.o 156 15 2,.v 4,.v 3,.p 3] [.s 44,.s 44,.r 156,.s 156]
def ZuG:dO->BH U
 | .b0 a=>Bg f70 [44] (a,())
 | .b1 a b c d e=>AA3 f70 [1,1,1,0,1,0,0,0,0] pU (b,c,d,e,a,())
 | .b2 a b c d e f=>AA3 f70 [1,1,1,0,1,0,0,1,0,0,1,0,1,0,0] o9 (b,c,d,e,a,f,())
 | .b3 a b c d e f=>AA3 f70 [1,1,1,0,1,0,0,1,0,0,1,1,0] o9 (b,c,d,e,a,f,())
 | .b4 a b c d e=>AA3 f70 [1,1,1,0,1,0,0,1,1] pU (b,c,d,e,a,())
theorem Zuq:AA1 70 [44] 44 (fun x=>Z29 x.1) rfl:=Bj (mc Zc1 (mc Zqs (mc ZsF (mc Zcf Ag)))) Af (al [(4,pU),(8,o9),(9,o9),(5,pU)]) ZuG func70 (fun p=>by cases p<;>kernel_rfl) (by kernel_rfl) fun _=>rfl
def ZdF:S1 (Unit) Az
 | _=>AB (⟨1,[]⟩:Az)
def Z2k  : Option Az:=AU ZdF ()
theorem ZuH:AA1 166 [] 68 (fun x=>Z2k) rfl:=ok1 Ag Af func166 (fun _=>by kernel_rfl) (by kernel_rfl)
inductive eG where
 | b0 (a:BR)
 | b1 (a b:BR) (c:BM)
 | b2 (a:Int) (b c:BR) (d e:BM)
 | b3 (a:Int) (b c:BR) (d e:BM)
 | b4 (a b:BR) (c d:BM)
def ZdQ:eG->Tr U ((BR×BM)⊕eG)
 | .b0 a=>.br (!a.Open) (AP (.b1 ({ a with Open:=true,Empty:=((↑a.Ap.length:Int)==0) }:BR) KJ Dk)) (AP (.b1 a KJ Dk))
 | .b1 a b c=>let f:=(↑a.Ap.length:Int);.bind 68 (Z2k) (fun(d:Az)=>let g:=(⟨a.SN,a.EI,0,d⟩:BM);let e:=AP (eG.b3 f a b c g);.br (!a.Empty) (.br (decide (f>0)) (AP (.b2 f a b c g)) e) e)
 | .b2 b a c d e=>.chk (kI (0:Int) a.Ap) (.bind 68 (a.Ap[(Int.toNat 0)]?) (fun(f:Az)=>AP (.b3 (AQ (b - 1)) a c d ({ e with Aw:=f }:BM))))
 | .b3 e a b c d=>.br (decide (e>0)) (AP (.b4 a b c ({ d with MD:=1 }:BM))) (AP (.b4 a b c d))
 | .b4 a c d b=>AB (a,b)
def Z2x (a:BR):Option (BR×BM):=AU ZdQ (.b0 a)
def Zca:Lay:=LT [1,2,3] [.p 0,.p 1,.p 2] [.s 33,.s 33,.s 70]
def qA:Lay:=LT [1,2,3,4,5] [.p 0,.p 1,.p 2,.p 3,.v 3] [.s 33,.s 33,.s 70,.s 70]
def ZbY:Lay:=LT [1,2,3,4] [.p 0,.p 1,.p 2,.p 3] [.s 33,.s 33,.s 70,.s 70]
def ZwX:eG->BH U
 | .b0 a=>Bg f71 [33] (a,())
 | .b1 a b c=>AA3 f71 [1,1,0] Zca (a,b,c,())
 | .b2 a b c d e=>AA3 f71 [1,1,1,1,0,1,0,0] qA (a,b,c,d,e,())
 | .b3 a b c d e=>AA3 f71 [1,1,1,1,1,0,0] qA (a,b,c,d,e,())
 | .b4 a b c d=>AA3 f71 [1,1,1,1,1,1,0] ZbY (a,b,c,d,())
theorem ZwA:AA1 71 [33] 75 (fun x=>Z2x x.1) rfl:=Bj (mc ZuH Ag) Af (al [(4,Zca),(7,qA),(9,qA),(11,ZbY)]) ZwX func71 (fun p=>by cases p<;>kernel_rfl) (by kernel_rfl) fun _=>rfl
def Z21:S1 (Az×Unit) Bool
 | (a,_)=>.br (a.Bz==1) (AB ((↑a.Payload.length:Int)==0)) (AB false)
def UU (a:Az):Option Bool:=AU Z21 (a,())
theorem qC:AA1 116 [68] 4 (fun x=>UU x.1) rfl:=ok1 Ag Af func116 (fun _=>by kernel_rfl) (by kernel_rfl)
def ZeD:S1 (BM×(List Int)×Unit) BM
 | (a,b,_)=>AB ({ a with Aw:=(⟨a.Aw.Bz,b⟩:Az) }:BM)
def fH (a:BM) (b:List Int):Option BM:=AU ZeD (a,b,())
theorem ZcO:AA1 168 [70,62] 70 (fun x=>fH x.1 x.2.1) rfl:=ok1 Ag Af func168 (fun _=>by kernel_rfl) (by kernel_rfl)
inductive iE where
 | b0 (a b:Int)
 | b1 (a:Int)
def iH:iE->Tr U (Int⊕iE)
 | .b0 b a=>let e:=IntKind.bits .u64;let c:=(Int.tmod (AQ ((AQ ((Int.tmod a 64)+64))*11)) (64:Int));let d:=AQ ((64:Int) - c);.br (decide (c>0)) (.chk (decide (0<=c)) (.chk (decide (0<=d)) (AP (.b1 (bits .or .u64 (IntKind.wrap .u64 (b*2 ^ (min (Int.toNat c) e))) (Int.fdiv b (2 ^ (min (Int.toNat d) e)))))))) (AP (.b1 b))
 | .b1 a=>AB (IntKind.wrap .u32 ((Int.tmod a 4294967296)))
def Wj (a b:Int):Option Int:=AU iH (.b0 a b)
def Zdu:Lay:=LT [6] [.v 25] []
def ZxA:iE->BH U
 | .b0 a b=>Bg f383 [29,3] (a,b,())
 | .b1 a=>AA3 f383 [1,1,1,1,0] Zdu (a,())
theorem ZA4:AA1 383 [29,3] 22 (fun x=>Wj x.1 x.2.1) rfl:=Bj Ag Af (al [(5,Zdu)]) ZxA func383 (fun p=>by cases p<;>kernel_rfl) (by kernel_rfl) fun _=>rfl
def Zeh:S1 (Int×Int×Unit) Int
 | (b,a,_)=>let d:=IntKind.bits .u32;let c:=AQ ((32:Int) - a);.chk (decide (0<=a)) (.chk (decide (0<=c)) (AB (bits .or .u32 (IntKind.wrap .u32 (b*2 ^ (min (Int.toNat a) d))) (Int.fdiv b (2 ^ (min (Int.toNat c) d))))))
def Oj (a b:Int):Option Int:=AU Zeh (a,b,())
theorem ZvF:AA1 384 [22,3] 22 (fun x=>Oj x.1 x.2.1) rfl:=ok1 Ag Af func384 (fun _=>by kernel_rfl) (by kernel_rfl)
def Z22:S1 (Int×Int×Int×Unit) Int
 | (b,c,d,_)=>.bind 22 (Wj b c) (fun(a:Int)=>.bind 22 (Oj (IntKind.wrap .u32 (d+a)) (7:Int)) (fun(e:Int)=>.bind 22 (Oj a (16:Int)) (fun(f:Int)=>AB (bits .xor .u32 (IntKind.wrap .u32 (e*2654435761)) f))))
def qU (a b c:Int):Option Int:=AU Z22 (a,b,c,())
theorem ZtK:AA1 359 [29,3,22] 22 (fun x=>qU x.1 x.2.1 x.2.2.1) rfl:=ok1 (mc ZA4 (mc ZvF Ag)) Af func359 (fun _=>by kernel_rfl) (by kernel_rfl)
inductive gX where
 | b0 (a b:Int)
 | b1 (a b c d:Int)
def U2:gX->Tr U (Int⊕gX)
 | .b0 b a=>AP (.b1 b (IntKind.wrap .u32 ((IntKind.wrap .u64 (Int.tdiv a 4294967296)))) (IntKind.wrap .u32 ((Int.tmod a 4294967296))) (0:Int))
 | .b1 c d a b=>.br (decide (b<8)) (.bind 22 (qU c b a) (fun(e:Int)=>AP (.b1 c a (bits .xor .u32 d e) (AQ (b+1))))) (AB (IntKind.wrap .u64 ((IntKind.wrap .u64 ((IntKind.wrap .u64 (d))*4294967296))+(IntKind.wrap .u64 (a)))))
def Rn (a b:Int):Option Int:=AU U2 (.b0 a b)
def Zde:Lay:=LT [0,5,6,7] [.v 29,.v 22,.v 22,.v 3] []
def Zy0:gX->BH U
 | .b0 a b=>Bg f327 [29,25] (a,b,())
 | .b1 a b c d=>AA3 f327 [1,1,1,0,1,0,0,0,0] Zde (a,b,c,d,())
theorem Zeu:AA1 327 [29,25] 25 (fun x=>Rn x.1 x.2.1) rfl:=Bj (mc ZtK Ag) Af (al [(4,Zde)]) Zy0 func327 (fun p=>by cases p<;>kernel_rfl) (by kernel_rfl) fun _=>rfl
inductive gB where
 | b0 (a b:Int)
 | b1 (a b:Int) (c:List Int) (d:Int)
def WX:gB->Tr U (La⊕gB)
 | .b0 a b=>.chk true (AP (.b1 a b ([]:List Int) (0:Int)))
 | .b1 c b a d=>let e:=a++[(IntKind.wrap .u8 ((Int.tmod b 256)))];.br (decide (d<c)) (.chk true (kl a (.chk (kA (a.length+1) 1) (kl e (AP (.b1 c (IntKind.wrap .u64 (Int.tdiv b 256)) e (AQ (d+1)))))))) (kl a (AB (⟨a⟩:La)))
def ND (a b:Int):Option La:=AU WX (.b0 a b)
def Zdg:Shape:=⟨[OV 3,OV 25],[]⟩
def ZtO:Shape:=⟨[.one (.own 5 0)],[.row 5 true]⟩
noncomputable def ZBc:HMod U:=⟨[KP,KP],[],Zdg,ZtO,true,1351,fun(y:La)=>(((),()),(y.q0,())),fun x=>ND x.1.1.1 x.1.2.1.1,okS rfl⟩
def Zdm:Lay:=LT [0,1,5,6] [.v 3,.v 25,.o 5 1 0,.v 3] [.r 5]
def Zyj:gB->BH U
 | .b0 a b=>Dj f328 Zdg (((a,()),((b,()),())),())
 | .b1 a b c d=>AA3 f328 [1,1,0,1,0,0,0,0] Zdm (a,b,d,c,())
theorem sN:Cf Tryz.prog B0 328 ZBc:=okR Ag Af (al [(3,Zdm)]) [[.own 5 1]] [.row true] 0 Zyj func328 (fun p=>by cases p<;>kernel_rfl) (by kernel_rfl) fun x=>by kernel_rfl
inductive aX where
 | b0 (a b c:Int)
 | b1 (a b:Int) (c:List Int) (d e:Int)
def Vq:aX->Tr U ((List Int)⊕aX)
 | .b0 a b c=>.bind 25 (Rn a b) (fun(d:Int)=>.chk true (AP (.b1 a c ([]:List Int) d (0:Int))))
 | .b1 d b a e f=>let i:=(↑a.length:Int);let h:=(Int.toNat b) - 0;kl a (.br (decide (i<b)) (.bind 25 (Rn d (IntKind.wrap .u64 (e+(IntKind.wrap .u64 (f))))) (fun(g:Int)=>.bind 1351 (ND (8:Int) g) (fun(c:La)=>kl c.q0 (kl a (.chk (kA (a.length+c.q0.length) 1) (kl (a++c.q0) (AP (.b1 d b (a++c.q0) e (AQ (f+1)))))))))) (kl a (.chk (decide (0<=b/\b<=i)) (kl a (.chk (decide (0+h<=a.length)) (AB ((a.drop 0).take h)))))))
def aV (a b c:Int):Option (List Int):=AU Vq (.b0 a b c)
def Z9Z:Lay:=LT [0,2,7,8,9] [.v 29,.v 3,.o 5 1 0,.v 25,.v 3] [.r 5]
def ZrN:aX->BH U
 | .b0 a b c=>Bg f246 [29,25,3] (a,b,c,())
 | .b1 a b c d e=>AA3 f246 [1,1,1,0,1,0,0,0,0] Z9Z (a,b,d,e,c,())
theorem ZaT:AA1 246 [29,25,3] 62 (fun x=>aV x.1 x.2.1 x.2.2.1) rfl:=Bj (mc Zeu Ag) (hc [] sN Af) (al [(4,Z9Z)]) ZrN func246 (fun p=>by cases p<;>kernel_rfl) (by kernel_rfl) fun _=>rfl
inductive dE where
 | b0 (a:List Int)
 | b1 (a:List Int) (b c:Int)
def Vx:dE->Tr U (Int⊕dE)
 | .b0 a=>AP (.b1 a (0:Int) (AQ ((↑a.length:Int) - 1)))
 | .b1 b c a=>.br (decide (a>=0)) (.chk (kI a b) (.bind 5 (b[(Int.toNat a)]?) (fun(d:Int)=>AP (.b1 b (IntKind.wrap .u64 ((IntKind.wrap .u64 (c*256))+(IntKind.wrap .u64 (d)))) (AQ (a - 1)))))) (AB c)
def qQ (a:List Int):Option Int:=AU Vx (.b0 a)
def Zbk:Lay:=LT [0,3,4] [.v 62,.v 25,.v 3] []
def Zun:dE->BH U
 | .b0 a=>Bg f360 [62] (a,())
 | .b1 a b c=>AA3 f360 [1,1,0,1,0,0,0,0] Zbk (a,b,c,())
theorem ZtA:AA1 360 [62] 25 (fun x=>qQ x.1) rfl:=Bj Ag Af (al [(3,Zbk)]) Zun func360 (fun p=>by cases p<;>kernel_rfl) (by kernel_rfl) fun _=>rfl
inductive fP where
 | b0 (a:Int) (b:List Int)
 | b1 (a:Int) (b:List Int) (c d:Int)
def Wl:fP->Tr U (Int⊕fP)
 | .b0 a b=>.bind 25 (Rn a (IntKind.wrap .u64 ((↑b.length:Int)))) (fun(c:Int)=>AP (.b1 a b c (0:Int)))
 | .b1 c b d a=>let k:=Int.toNat a;let i:=AQ (a+8);let h:=(↑b.length:Int);let g:=if h<i then h else i;let j:=Int.toNat g;.br (decide (a<h)) (.chk (decide (0<=g/\g<=h)) (.chk (decide (0<=a/\a<=(↑j:Int))) (.bind 25 (qQ ((b.drop k).take (j - k))) (fun(e:Int)=>.bind 25 (Rn c (bits .xor .u64 d e)) (fun(f:Int)=>AP (.b1 c b f i)))))) (AB d)
def iD (a:Int) (b:List Int):Option Int:=AU Wl (.b0 a b)
def Zdr:Lay:=LT [0,1,5,6] [.v 29,.v 62,.v 25,.v 3] []
def ZyU:fP->BH U
 | .b0 a b=>Bg f329 [29,62] (a,b,())
 | .b1 a b c d=>AA3 f329 [1,1,0,1,0,0,0,0] Zdr (a,b,c,d,())
theorem ZeJ:AA1 329 [29,62] 25 (fun x=>iD x.1 x.2.1) rfl:=Bj (mc Zeu (mc ZtA Ag)) Af (al [(3,Zdr)]) ZyU func329 (fun p=>by cases p<;>kernel_rfl) (by kernel_rfl) fun _=>rfl
inductive dF where
 | b0 (a:Int) (b c:List Int)
def Z1S:dF->Tr U (UW⊕dF)
 | .b0 e c d=>.bind 1351 (ND (8:Int) e) (fun(a:La)=>.bind 1351 (ND (4:Int) (IntKind.wrap .u64 ((↑c.length:Int)))) (fun(b:La)=>let f:=a.q0++b.q0;let g:=(f++c)++d;kl b.q0 (kl a.q0 (.chk (kA (a.q0.length+b.q0.length) 1) (kl f (.chk (kA (f.length+c.length) 1) (kl (f++c) (.chk (kA ((f++c).length+d.length) 1) (kl g (AB (⟨g⟩:UW)))))))))))
def qY (a:Int) (b c:List Int):Option UW:=AU Z1S (.b0 a b c)
def ZaB:Shape:=⟨[OV 25,OV 62,OV 62],[]⟩
def ZqJ:Shape:=⟨[.one (.own 5 0)],[.row 5 true]⟩
noncomputable def Zw2:HMod U:=⟨[KP,[.s 5 1],[.s 5 1]],[],ZaB,ZqJ,true,1352,fun(y:UW)=>(((),()),(y.q0,())),fun x=>qY x.1.1.1 x.1.2.1.1 x.1.2.2.1.1,okS rfl⟩
def Zuz:dF->BH U
 | .b0 a b c=>Dj f330 ZaB (((a,()),((b,()),((c,()),()))),())
theorem ZsN:Cf Tryz.prog B0 330 Zw2:=okR Ag (hc [] sN Af) AN [[.own 5 1]] [.row true] 0 Zuz func330 (fun p=>by cases p<;>kernel_rfl) (by kernel_rfl) fun x=>by kernel_rfl
def Z2Z:S1 (Int×Int×(List Int)×(List Int)×Unit) (List Int)
 | (c,d,e,f,_)=>.bind 1352 (qY d e f) (fun(a:UW)=>kl a.q0 (.bind 25 (iD c a.q0) (fun(g:Int)=>.bind 1351 (ND (4:Int) g) (fun(b:La)=>kl b.q0 (AB b.q0)))))
def fQ (a b:Int) (c d:List Int):Option (List Int):=AU Z2Z (a,b,c,d,())
theorem ZeG:AA1 247 [29,25,62,62] 62 (fun x=>fQ x.1 x.2.1 x.2.2.1 x.2.2.2.1) rfl:=ok1 (mc ZeJ Ag) (hc [] sN (hc [] ZsN Af)) func247 (fun _=>by kernel_rfl) (by kernel_rfl)
inductive gZ where
 | b0 (a b:List Int)
 | b1 (a b c:List Int) (d:Int)
 | b2 (a b c:List Int) (d:Int)
def U3:gZ->Tr U (QO⊕gZ)
 | .b0 a b=>.chk true (AP (.b1 a b ([]:List Int) (0:Int)))
 | .b1 c d a b=>let e:=kl a (AB (⟨a⟩:QO));.br (decide (b<(↑c.length:Int))) (.br (decide (b<(↑d.length:Int))) (kl a (AP (.b2 c d a b))) e) e
 | .b2 c d b a=>let h:=Int.toNat a;.chk (kI a c) (.bind 5 (c[h]?) (fun(e:Int)=>.chk (kI a d) (.bind 5 (d[h]?) (fun(f:Int)=>let g:=b++[(bits .xor .u8 e f)];.chk true (kl b (.chk (kA (b.length+1) 1) (kl g (AP (.b1 c d g (AQ (a+1)))))))))))
def fU (a b:List Int):Option QO:=AU U3 (.b0 a b)
def Zdn:Shape:=⟨[OV 62,OV 62],[]⟩
def ZuS:Shape:=⟨[.one (.own 5 0)],[.row 5 true]⟩
noncomputable def ZCt:HMod U:=⟨[[.s 5 1],[.s 5 1]],[],Zdn,ZuS,true,1350,fun(y:QO)=>(((),()),(y.q0,())),fun x=>fU x.1.1.1 x.1.2.1.1,okS rfl⟩
def sF:Lay:=LT [0,1,5,6] [.v 62,.v 62,.o 5 1 0,.v 3] [.r 5]
def ZzL:gZ->BH U
 | .b0 a b=>Dj f245 Zdn (((a,()),((b,()),())),())
 | .b1 a b c d=>AA3 f245 [1,1,0,1,0,0,0,0] sF (a,b,d,c,())
 | .b2 a b c d=>AA3 f245 [1,1,0,1,0,0,1,0,0] sF (a,b,d,c,())
theorem Zep:Cf Tryz.prog B0 245 ZCt:=okR Ag Af (al [(3,sF),(5,sF)]) [[.own 5 1]] [.row true] 0 ZzL func245 (fun p=>by cases p<;>kernel_rfl) (by kernel_rfl) fun x=>by kernel_rfl
def Zei:S1 (Int×Int×(List Int)×(List Int)×Unit) (List Int)
 | (c,d,f,e,_)=>.bind 62 (aV c d (↑e.length:Int)) (fun(g:List Int)=>.bind 1350 (fU e g) (fun(a:QO)=>kl a.q0 (.bind 62 (fQ c d f a.q0) (fun(b:List Int)=>kl a.q0 (.chk (kA (a.q0.length+b.length) 1) (kl (a.q0++b) (AB (a.q0++b))))))))
def Z2t (a b:Int) (c d:List Int):Option (List Int):=AU Zei (a,b,c,d,())
theorem ZvW:AA1 169 [29,25,62,62] 62 (fun x=>Z2t x.1 x.2.1 x.2.2.1 x.2.2.2.1) rfl:=ok1 (mc ZaT (mc ZeG Ag)) (hc [] Zep Af) func169 (fun _=>by kernel_rfl) (by kernel_rfl)
inductive dA where
 | b0 (a:Bq) (b c:Int)
 | b1 (a b:Int) (c:Bq)
def rQ:dA->Tr U (Int⊕dA)
 | .b0 a c b=>.br (c==1) (AP (.b1 b (1:Int) a)) (AP (.b1 b (0:Int) a))
 | .b1 a b c=>AB (bits .xor .u64 c.CZ (IntKind.wrap .u64 ((IntKind.wrap .u64 ((2:Int)*a))+b)))
def dX (a:Bq) (b c:Int):Option Int:=AU rQ (.b0 a b c)
def Zbi:Lay:=LT [2,3,7] [.v 25,.p 0,.v 25] [.s 41]
def ZtZ:dA->BH U
 | .b0 a b c=>Bg f170 [41,3,25] (a,b,c,())
 | .b1 a b c=>AA3 f170 [1,1,1,0] Zbi (a,b,c,())
theorem ZbD:AA1 170 [41,3,25] 25 (fun x=>dX x.1 x.2.1 x.2.2.1) rfl:=Bj Ag Af (al [(4,Zbi)]) ZtZ func170 (fun p=>by cases p<;>kernel_rfl) (by kernel_rfl) fun _=>rfl
end
noncomputable section
inductive fO where
 | b0 (a:Bq) (b:BM)
 | b1 (a:Bq) (b c:BM)
def ZdL:fO->Tr U ((BM×Int)⊕fO)
 | .b0 b a=>.bind 45 (QE a) (fun(c:Int)=>.br (c != 0) (AB (Dk,c)) (.br (!b.Nh) (AB (a,0)) (.bind 4 (UU a.Aw) (fun(d:Bool)=>.br d (AB (a,0)) (AP (.b1 b a Dk))))))
 | .b1 a b f=>.br (decide ((↑b.Aw.Payload.length:Int)>251)) (AB (Dk,4)) (.bind 25 (dX a a.CB a.Tx) (fun(c:Int)=>.chk true (.bind 62 (Z2t a.Key c ([(IntKind.wrap .u8 (b.Aw.Bz))]) b.Aw.Payload) (fun(d:List Int)=>.bind 70 (fH b d) (fun(e:BM)=>AB (e,0))))))
def Z2Q (a:Bq) (b:BM):Option (BM×Int):=AU ZdL (.b0 a b)
def Zc2:Lay:=LT [2,3,4] [.p 0,.p 1,.p 2] [.s 41,.s 70,.s 70]
def ZvA:fO->BH U
 | .b0 a b=>Bg f72 [41,70] (a,b,())
 | .b1 a b c=>AA3 f72 [1,1,1,0,0] Zc2 (a,b,c,())
theorem ZuZ:AA1 72 [41,70] 71 (fun x=>Z2Q x.1 x.2.1) rfl:=Bj (mc qC (mc Vw (mc ZcO (mc ZvW (mc ZbD Ag))))) Af (al [(6,Zc2)]) ZvA func72 (fun p=>by cases p<;>kernel_rfl) (by kernel_rfl) fun _=>rfl
def Zcn:S1 (BM×Unit) ((List Int)×Int)
 | (a,_)=>let c:=[(IntKind.wrap .u8 ((AQ ((AQ ((AQ (a.Aw.Bz+(AQ ((4:Int)*a.EI))))+(AQ ((8:Int)*a.SN))))+(AQ ((16:Int)*a.MD)))))),(IntKind.wrap .u8 ((↑a.Aw.Payload.length:Int)))]++a.Aw.Payload;.bind 45 (QE a) (fun(b:Int)=>.br (b != 0) (.chk true (AB (([]:List Int),b))) (.chk true (.chk (kA (2+a.Aw.Payload.length) 1) (kl c (AB (c,(0:Int)))))))
def Z1B (a:BM):Option ((List Int)×Int):=AU Zcn (a,())
theorem ZrH:AA1 73 [70] 120 (fun x=>Z1B x.1) rfl:=ok1 (mc Vw Ag) Af func73 (fun _=>by kernel_rfl) (by kernel_rfl)
def Z2J:S1 (Int×Unit) (List Int)
 | (a,_)=>.chk true (AB ([(IntKind.wrap .u8 ((Int.tmod a 256))),(IntKind.wrap .u8 ((Int.tmod (IntKind.wrap .u32 (Int.tdiv a 256)) (256:Int)))),(IntKind.wrap .u8 ((IntKind.wrap .u32 (Int.tdiv a 65536))))]))
def eQ (a:Int):Option (List Int):=AU Z2J (a,())
theorem ZcP:AA1 172 [22] 62 (fun x=>eQ x.1) rfl:=ok1 Ag Af func172 (fun _=>by kernel_rfl) (by kernel_rfl)
def Z2v:S1 (Int×Int×Unit) Int
 | (a,b,_)=>let c:=IntKind.wrap .u32 (Int.tdiv a 2);.br ((bits .xor .u32 (Int.tmod a 2) b)==1) (AB (bits .xor .u32 c (14311424:Int))) (AB c)
def sZ (a b:Int):Option Int:=AU Z2v (a,b,())
theorem ZwB:AA1 250 [22,22] 22 (fun x=>sZ x.1 x.2.1) rfl:=ok1 Ag Af func250 (fun _=>by kernel_rfl) (by kernel_rfl)
inductive gV where
 | b0 (a:Int) (b:List Int)
 | b1 (a:List Int) (b c:Int)
 | b2 (a:List Int) (b c d e:Int)
def NC:gV->Tr U (Int⊕gV)
 | .b0 a b=>AP (.b1 b (Int.tmod a 16777216) (0:Int))
 | .b1 a c b=>.br (decide (b<(↑a.length:Int))) (.chk (kI b a) (.bind 5 (a[(Int.toNat b)]?) (fun(d:Int)=>AP (.b2 a c b (IntKind.wrap .u32 (d)) (0:Int))))) (AB c)
 | .b2 a b c d e=>.br (decide (e<8)) (.bind 22 (sZ b (Int.tmod d 2)) (fun(f:Int)=>AP (.b2 a f c (IntKind.wrap .u32 (Int.tdiv d 2)) (AQ (e+1))))) (AP (.b1 a b (AQ (c+1))))
def iC (a:Int) (b:List Int):Option Int:=AU NC (.b0 a b)
def ZcN:Lay:=LT [1,5,6] [.v 62,.v 22,.v 3] []
def Zdd:Lay:=LT [1,5,6,7,8] [.v 62,.v 22,.v 3,.v 22,.v 3] []
def ZzU:gV->BH U
 | .b0 a b=>Bg f173 [22,62] (a,b,())
 | .b1 a b c=>AA3 f173 [1,1,0,1,0,0,0,0] ZcN (a,b,c,())
 | .b2 a b c d e=>AA3 f173 [1,1,0,1,0,0,1,0,0,1,1,0,0,0,0] Zdd (a,b,c,d,e,())
theorem Zek:AA1 173 [22,62] 22 (fun x=>iC x.1 x.2.1) rfl:=Bj (mc ZwB Ag) Af (al [(3,ZcN),(7,Zdd)]) ZzU func173 (fun p=>by cases p<;>kernel_rfl) (by kernel_rfl) fun _=>rfl
def ZbI:S1 (Int×(List Int)×Unit) (List Int)
 | (c,a,_)=>let e:=([]:List Int)++a;.chk true (.chk (kA (0+a.length) 1) (.bind 22 (iC c a) (fun(d:Int)=>.bind 62 (eQ d) (fun(b:List Int)=>kl e (.chk (kA (e.length+b.length) 1) (kl (e++b) (AB (e++b))))))))
def Z1l (a:Int) (b:List Int):Option (List Int):=AU ZbI (a,b,())
theorem ZsJ:AA1 75 [22,62] 62 (fun x=>Z1l x.1 x.2.1) rfl:=ok1 (mc ZcP (mc Zek Ag)) Af func75 (fun _=>by kernel_rfl) (by kernel_rfl)
def Z2h:S1 (Int×Unit) Int
 | (a,_)=>let b:=(if (39:Int)<a then (39:Int) else a);AB (AQ ((64:Int)+(if b>0 then b else (0:Int))))
def rG (a:Int):Option Int:=AU Z2h (a,())
theorem Zu1:AA1 248 [3] 3 (fun x=>rG x.1) rfl:=ok1 Ag Af func248 (fun _=>by kernel_rfl) (by kernel_rfl)
def Z2B:S1 (Int×Unit) Int
 | (a,_)=>let b:=Int.tmod (AQ (a*2)) 128;.br (decide (a>=64)) (AB (bits .xor .i64 b (17:Int))) (AB b)
def sU (a:Int):Option Int:=AU Z2B (a,())
theorem Zvv:AA1 249 [3] 3 (fun x=>sU x.1) rfl:=ok1 Ag Af func249 (fun _=>by kernel_rfl) (by kernel_rfl)
inductive aH where
 | b0 (a b:Int)
 | b1 (a:Int) (b:List Int) (c d:Int)
 | b2 (a:Int) (b:List Int) (c d e f g:Int)
def MF:aH->Tr U ((List Int)⊕aH)
 | .b0 a b=>.bind 3 (rG a) (fun(c:Int)=>.chk true (AP (.b1 b ([]:List Int) c (0:Int))))
 | .b1 b a d c=>.br (decide (c<b)) (kl a (AP (.b2 b a d c (0:Int) (1:Int) (0:Int)))) (kl a (AB a))
 | .b2 d a b e c f g=>let i:=a++[(IntKind.wrap .u8 (c))];.br (decide (g<8)) (.bind 3 (sU b) (fun(h:Int)=>kl a (AP (.b2 d a h e (AQ (c+(AQ (f*(AQ (Int.tdiv b 64)))))) (AQ (f*2)) (AQ (g+1)))))) (.chk true (kl a (.chk (kA (a.length+1) 1) (kl i (AP (.b1 d i b (AQ (e+1))))))))
def o5 (a b:Int):Option (List Int):=AU MF (.b0 a b)
def Z8P:Lay:=LT [1,5,6,7] [.v 3,.o 5 1 0,.v 3,.v 3] [.r 5]
def Z8W:Lay:=LT [1,5,6,7,8,9,10] [.v 3,.o 5 1 0,.v 3,.v 3,.v 3,.v 3,.v 3] [.r 5]
def Zpv:aH->BH U
 | .b0 a b=>Bg f171 [3,3] (a,b,())
 | .b1 a b c d=>AA3 f171 [1,1,1,0,1,0,0,0,0] Z8P (a,c,d,b,())
 | .b2 a b c d e f g=>AA3 f171 [1,1,1,0,1,0,0,1,0,0,1,0,1,0,0,0,0] Z8W (a,c,d,e,f,g,b,())
theorem Zq2:AA1 171 [3,3] 62 (fun x=>o5 x.1 x.2.1) rfl:=Bj (mc Zu1 (mc Zvv Ag)) Af (al [(4,Z8P),(8,Z8W)]) Zpv func171 (fun p=>by cases p<;>kernel_rfl) (by kernel_rfl) fun _=>rfl
inductive dU where
 | b0 (a:Int) (b:List Int)
 | b1 (a b c:List Int) (d:Int)
def WJ:dU->Tr U (Ri⊕dU)
 | .b0 b a=>.bind 62 (o5 b (↑a.length:Int)) (fun(c:List Int)=>.chk true (AP (.b1 a c ([]:List Int) (0:Int))))
 | .b1 c d a b=>let h:=Int.toNat b;.br (decide (b<(↑c.length:Int))) (.chk (kI b c) (.bind 5 (c[h]?) (fun(e:Int)=>.chk (kI b d) (.bind 5 (d[h]?) (fun(f:Int)=>let g:=a++[(bits .xor .u8 e f)];.chk true (kl a (.chk (kA (a.length+1) 1) (kl g (AP (.b1 c d g (AQ (b+1)))))))))))) (kl a (AB (⟨a⟩:Ri)))
def dW (a:Int) (b:List Int):Option Ri:=AU WJ (.b0 a b)
def Zbm:Shape:=⟨[OV 3,OV 62],[]⟩
def Zqy:Shape:=⟨[.one (.own 5 0)],[.row 5 true]⟩
noncomputable def ZwC:HMod U:=⟨[KP,[.s 5 1]],[],Zbm,Zqy,true,1348,fun(y:Ri)=>(((),()),(y.q0,())),fun x=>dW x.1.1.1 x.1.2.1.1,okS rfl⟩
def Zb6:Lay:=LT [1,5,6,7] [.v 62,.v 62,.o 5 1 0,.v 3] [.r 5]
def Zuy:dU->BH U
 | .b0 a b=>Dj f74 Zbm (((a,()),((b,()),())),())
 | .b1 a b c d=>AA3 f74 [1,1,1,0,1,0,0,0,0] Zb6 (a,b,d,c,())
theorem Zcb:Cf Tryz.prog B0 74 ZwC:=okR (mc Zq2 Ag) Af (al [(4,Zb6)]) [[.own 5 1]] [.row true] 0 Zuy func74 (fun p=>by cases p<;>kernel_rfl) (by kernel_rfl) fun x=>by kernel_rfl
inductive fM where
 | b0 (a:Ad)
 | b1 (a b:Ad) (c:BM)
def Zey:fM->Tr U ((Ad×(List Int))⊕fM)
 | .b0 c=>.br (c.CQ != 0) (.chk true (AB (c,([]:List Int)))) (.bind 44 (Z29 c) (fun(b:Ad)=>.bind 75 (Z2x b.Ar) (fun(a:BR×BM)=>let e:=({ b with More:=(a.2.MD==1),Ar:=a.1 }:Ad);let f:=AP (fM.b1 e EM a.2);.br b.EL.Nh (.bind 71 (Z2Q b.EL a.2) (fun(d:BM×Int)=>.br (d.2==0) (AP (.b1 e EM d.1)) f)) f)))
 | .b1 a g c=>.bind 120 (Z1B c) (fun(d:(List Int)×Int)=>.bind 3 (o6 a) (fun(e:Int)=>.bind 62 (Z1l a.Df.VE d.1) (fun(f:List Int)=>.bind 1348 (dW e f) (fun(b:Ri)=>kl b.q0 (AB (a,b.q0))))))
def sQ (a:Ad):Option (Ad×(List Int)):=AU Zey (.b0 a)
def Zcd:Lay:=LT [1,2,5] [.p 0,.p 1,.p 2] [.s 44,.s 44,.s 70]
def Zvk:fM->BH U
 | .b0 a=>Bg f24 [44] (a,())
 | .b1 a b c=>AA3 f24 [1,1,1,1,1,1,1,0] Zcd (a,b,c,())
theorem ZvP:AA1 24 [44] 63 (fun x=>sQ x.1) rfl:=Bj (mc Za6 (mc Zuq (mc ZwA (mc ZuZ (mc ZrH (mc ZsJ Ag)))))) (hc [] Zcb Af) (al [(11,Zcd)]) Zvk func24 (fun p=>by cases p<;>kernel_rfl) (by kernel_rfl) fun _=>rfl
def Ze0:S1 (CW×Unit) (CW×Int)
 | (a,_)=>.bind 4 (tC a false) (fun(b:Bool)=>.br b (AB (a,9)) (AB (({ a with EJ:=(AQ (a.EJ+1)) }:CW),(0:Int))))
def Z2w (a:CW):Option (CW×Int):=AU Ze0 (a,())
theorem Zw1:AA1 91 [35] 129 (fun x=>Z2w x.1) rfl:=ok1 (mc ZdH Ag) Af func91 (fun _=>by kernel_rfl) (by kernel_rfl)
def ZbS:S1 (CW×Bool×Unit) CW
 | (a,b,_)=>.br b (AB (⟨a.C9,0,false⟩:CW)) (AB ({ a with EJ:=0 }:CW))
def Z1F (a:CW) (b:Bool):Option CW:=AU ZbS (a,b,())
theorem Zrx:AA1 92 [35,4] 35 (fun x=>Z1F x.1 x.2.1) rfl:=ok1 Ag Af func92 (fun _=>by kernel_rfl) (by kernel_rfl)
inductive cO where
 | b0 (a:List BO) (b:Int) (c:Bool)
 | b1 (a:Int) (b:Bool) (c:List BO)
 | b2 (a:Int) (b:Bool) (c:List BO)
 | b3 (a:Int) (b:Bool) (c:List BO)
 | b4 (a:Int) (b:List BO)
def Zc8:cO->Tr U ((List BO)⊕cO)
 | .b0 a b c=>let d:=([]:List BO)++a;let e:=kl d (AB d);.chk true (.chk (kA (0+a.length) 16) (.br (decide (b<0)) e (.br (decide (b>=(↑a.length:Int))) e (kl d (AP (.b1 b c d))))))
 | .b1 b c a=>let e:=kl a (AP (cO.b3 b c a));.br c (kl a (.chk (kI b a) (kl a (.bind 99 (a[(Int.toNat b)]?) (fun(d:BO)=>.br (decide (d.Good<65536)) (kl a (AP (.b2 b c a))) e))))) e
 | .b2 b e a=>let g:=Int.toNat b;kl a (.chk (kI b a) (kl a (.bind 99 (a[g]?) (fun(c:BO)=>kl a (.chk (kI b a) (.chk (a.length==a.length&&decide (0<=g)) (.bind 99 (a[g]?) (fun(d:BO)=>let f:=(a.set g (⟨(AQ (c.Good+1)),d.Kq⟩:BO));.chk (f.length==a.length) (AP (.b3 b e f))))))))))
 | .b3 b c a=>let e:=kl a (AB a);.br (!c) (kl a (.chk (kI b a) (kl a (.bind 99 (a[(Int.toNat b)]?) (fun(d:BO)=>.br (decide (d.Kq<65536)) (kl a (AP (.b4 b a))) e))))) e
 | .b4 b a=>let f:=Int.toNat b;kl a (.chk (kI b a) (kl a (.bind 99 (a[f]?) (fun(c:BO)=>kl a (.chk (kI b a) (.chk (a.length==a.length&&decide (0<=f)) (.bind 99 (a[f]?) (fun(d:BO)=>let e:=(a.set f (⟨d.Good,(AQ (c.Kq+1))⟩:BO));.chk (e.length==a.length) (AB e)))))))))
def bV (a:List BO) (b:Int) (c:Bool):Option (List BO):=AU Zc8 (.b0 a b c)
def Vj:Lay:=LT [1,2,7] [.v 3,.v 4,.o 99 2 0] [.r 99]
def Zap:Lay:=LT [1,7] [.v 3,.o 99 2 0] [.r 99]
def Zrr:cO->BH U
 | .b0 a b c=>Bg f93 [42,3,4] (a,b,c,())
 | .b1 a b c=>AA3 f93 [1,1,1,0,0] Vj (a,b,c,())
 | .b2 a b c=>AA3 f93 [1,1,1,0,1,0] Vj (a,b,c,())
 | .b3 a b c=>AA3 f93 [1,1,1,1,0,0] Vj (a,b,c,())
 | .b4 a b=>AA3 f93 [1,1,1,1,0,1,0] Zap (a,b,())
theorem Zbw:AA1 93 [42,3,4] 42 (fun x=>bV x.1 x.2.1 x.2.2.1) rfl:=Bj Ag Af (al [(4,Vj),(5,Vj),(6,Vj),(7,Zap)]) Zrr func93 (fun p=>by cases p<;>kernel_rfl) (by kernel_rfl) fun _=>rfl
inductive fK where
 | b0 (a b:Int)
 | b1 (a:Int)
def ZdY:fK->Tr U (Int⊕fK)
 | .b0 a b=>let c:=AQ ((AQ (b)) - (AQ (a)));.br (decide (c < -32768)) (AP (.b1 (AQ (c+65536)))) (AP (.b1 c))
 | .b1 a=>.br (decide (a>32767)) (AB (AQ (a - 65536))) (AB a)
def Z2u (a b:Int):Option Int:=AU ZdY (.b0 a b)
def ZbF:Lay:=LT [5] [.v 3] []
def Zwy:fK->BH U
 | .b0 a b=>Bg f333 [30,30] (a,b,())
 | .b1 a=>AA3 f333 [1,1,1,0,0] ZbF (a,())
theorem ZwO:AA1 333 [30,30] 3 (fun x=>Z2u x.1 x.2.1) rfl:=Bj Ag Af (al [(4,ZbF)]) Zwy func333 (fun p=>by cases p<;>kernel_rfl) (by kernel_rfl) fun _=>rfl
def ZbC:S1 (Int×Int×Unit) Bool
 | (a,b,_)=>.bind 3 (Z2u b a) (fun(c:Int)=>AB (decide (c>=0)))
def qF (a b:Int):Option Bool:=AU ZbC (a,b,())
theorem Zbx:AA1 258 [30,30] 4 (fun x=>qF x.1 x.2.1) rfl:=ok1 (mc ZwO Ag) Af func258 (fun _=>by kernel_rfl) (by kernel_rfl)
inductive gW where
 | b0 (a:List BC) (b:Int)
 | b1 (a:List BC) (b:Int) (c d:List BC) (e:Int)
 | b2 (a:List BC) (b:Int) (c d:List BC) (e:Int)
def Zfv:gW->Tr U (((List BC)×(List BC))⊕gW)
 | .b0 a b=>let c:=([]:List BC);.chk (true&&true) (AP (.b1 a b c c (0:Int)))
 | .b1 a e c d b=>let k:=kI b a;let j:=a[(Int.toNat b)]?;.br (decide (b<(↑a.length:Int))) (.chk k (.bind 138 j (fun(h:BC)=>.bind 4 (qF e h.DZ) (fun(i:Bool)=>.br i (.chk k (.bind 138 j (fun(f:BC)=>.chk true (kl d (.chk (kA (d.length+1) 64) (.chk (kL c&&kL (d++[f])) (AP (.b2 a e c (d++[f]) b)))))))) (.chk k (.bind 138 j (fun(g:BC)=>.chk true (kl c (.chk (kA (c.length+1) 64) (.chk (kL (c++[g])&&kL d) (AP (.b2 a e (c++[g]) d b)))))))))))) (kl c (kl d (AB (c,d))))
 | .b2 c d a b e=>.chk (kL a&&kL b) (AP (.b1 c d a b (AQ (e+1))))
def Z36 (a:List BC) (b:Int):Option ((List BC)×(List BC)):=AU Zfv (.b0 a b)
def rE:Lay:=LT [0,1,4,5,6] [.v 37,.v 30,.o 138 8 0,.o 138 8 1,.v 3] [.r 138,.r 138]
def Zz5:gW->BH U
 | .b0 a b=>Bg f186 [37,30] (a,b,())
 | .b1 a b c d e=>AA3 f186 [1,1,0,1,0,0,0,0] rE (a,b,e,c,d,())
 | .b2 a b c d e=>AA3 f186 [1,1,0,1,0,0,1,1] rE (a,b,e,c,d,())
theorem Zy8:AA1 186 [37,30] 208 (fun x=>Z36 x.1 x.2.1) rfl:=Bj (mc Zbx Ag) Af (al [(3,rE),(4,rE)]) Zz5 func186 (fun p=>by cases p<;>kernel_rfl) (by kernel_rfl) fun _=>rfl
inductive fV where
 | b0 (a:AZ) (b:Int)
 | b1 (a b:AZ)
 | b2 (a:List BC) (b c:AZ)
 | b3 (a:List BC) (b:Int) (c d:AZ)
 | b4 (a:List BC) (b:Int) (c d:AZ)
 | b5 (a:List BC) (b:Int) (c d:AZ)
def Zg2:fV->Tr U ((AZ×(List BC))⊕fV)
 | .b0 b c=>.bind 208 (Z36 b.Aq c) (fun(a:(List BC)×(List BC))=>let e:=({ b with Aq:=a.1 }:AZ);let d:=AP (fV.b2 a.2 e ED);.br (b.CB==0) (.br (decide ((↑a.2.length:Int)>0)) (.br (!b.Told) (AP (.b1 e ED)) d) d) d)
 | .b1 a b=>let c:=([]:List BC);.br (a.Eb==0) (.chk true (AB (({ a with Eb:=40 }:AZ),c))) (.chk true (AB (a,c)))
 | .b2 a b c=>AP (.b3 a (0:Int) b c)
 | .b3 a b c d=>.br (decide (b<(↑a.length:Int))) (.chk (kI b a) (.bind 138 (a[(Int.toNat b)]?) (fun(e:BC)=>.br (c.Own==e.Kind) (AP (.b4 a b ({ c with Own:=-1 }:AZ) d)) (AP (.b4 a b c d))))) (AB (c,a))
 | .b4 a b c d=>.chk (kI b a) (.bind 138 (a[(Int.toNat b)]?) (fun(e:BC)=>.br (c.Other==e.Kind) (AP (.b5 a b ({ c with Other:=-1 }:AZ) d)) (AP (.b5 a b c d))))
 | .b5 a b c d=>AP (.b3 a (AQ (b+1)) c d)
def Z31 (a:AZ) (b:Int):Option (AZ×(List BC)):=AU Zg2 (.b0 a b)
def ZcH:Lay:=LT [2,4] [.p 0,.p 1] [.s 39,.s 39]
def Zdx:Lay:=LT [2,4,7] [.p 0,.p 1,.v 37] [.s 39,.s 39]
def Vy:Lay:=LT [2,4,7,8] [.p 0,.p 1,.v 37,.v 3] [.s 39,.s 39]
def Zz6:fV->BH U
 | .b0 a b=>Bg f94 [39,30] (a,b,())
 | .b1 a b=>AA3 f94 [1,1,1,0,1,0,0,0] ZcH (a,b,())
 | .b2 a b c=>AA3 f94 [1,1,1,1,0,0] Zdx (a,b,c,())
 | .b3 a b c d=>AA3 f94 [1,1,1,1,0,1,0,0,0,0] Vy (a,b,c,d,())
 | .b4 a b c d=>AA3 f94 [1,1,1,1,0,1,0,0,1,0,0,1,0] Vy (a,b,c,d,())
 | .b5 a b c d=>AA3 f94 [1,1,1,1,0,1,0,0,1,1] Vy (a,b,c,d,())
theorem ZxX:AA1 94 [39,30] 135 (fun x=>Z31 x.1 x.2.1) rfl:=Bj (mc Zy8 Ag) Af (al [(4,ZcH),(7,Zdx),(8,Vy),(12,Vy),(9,Vy)]) Zz6 func94 (fun p=>by cases p<;>kernel_rfl) (by kernel_rfl) fun _=>rfl
def Zf4:S1 (CW×Int×Unit) CW
 | (c,a,_)=>.bind 35 (uY a) (fun(b:CW)=>AB b)
def Z2W (a:CW) (b:Int):Option CW:=AU Zf4 (a,b,())
theorem Zyk:AA1 187 [35,3] 35 (fun x=>Z2W x.1 x.2.1) rfl:=ok1 (mc ZeO Ag) Af func187 (fun _=>by kernel_rfl) (by kernel_rfl)
inductive dP where
 | b0 (a:Ad) (b:BC)
 | b1 (a:Ad) (b:BC) (c:Ad)
def ZcA:dP->Tr U (Ad⊕dP)
 | .b0 a b=>let d:=({ a.Df with BL:=b.BL }:FO);let c:=AQ (a.F9+(AQ ((1250:Int)*b.BL.FC)));.br (b.Kind==1) (AB ({ a with Df:=({ a.Df with Map:=b.Map }:FO) }:Ad)) (.br (a.CB==1) (AP (.b1 ({ a with Df:=d,F9:=c,Size:=(AQ (a.Size+(AQ ((1250:Int)*b.BL.FP)))) }:Ad) b EM)) (AP (.b1 ({ a with Df:=d,F9:=c }:Ad) b EM)))
 | .b1 a b d=>.bind 35 (Z2W a.DY b.BL.C9) (fun(c:CW)=>AB ({ a with DY:=c }:Ad))
def Z2e (a:Ad) (b:BC):Option Ad:=AU ZcA (.b0 a b)
def Zbh:Lay:=LT [2,3,4] [.p 0,.p 1,.p 2] [.s 44,.s 138,.s 44]
def Zuv:dP->BH U
 | .b0 a b=>Bg f95 [44,138] (a,b,())
 | .b1 a b c=>AA3 f95 [1,1,1,1,1,0] Zbh (a,b,c,())
theorem Zuj:AA1 95 [44,138] 44 (fun x=>Z2e x.1 x.2.1) rfl:=Bj (mc Zyk Ag) Af (al [(8,Zbh)]) Zuv func95 (fun p=>by cases p<;>kernel_rfl) (by kernel_rfl) fun _=>rfl
def Zdo:S1 (Int×Unit) Bool
 | (a,_)=>.br (a==0) (AB true) (AB (a==1))
def Rh (a:Int):Option Bool:=AU Zdo (a,())
theorem Vt:AA1 259 [3] 4 (fun x=>Rh x.1) rfl:=ok1 Ag Af func259 (fun _=>by kernel_rfl) (by kernel_rfl)
def Zfo:S1 (AZ×AO×Unit) Bool
 | (a,b,_)=>.bind 4 (Rh b.Kind) (fun(c:Bool)=>.br (!c) (AB true) (AB ((↑a.Aq.length:Int)==0)))
def uS (a:AZ) (b:AO):Option Bool:=AU Zfo (a,b,())
theorem ZdR:AA1 188 [39,156] 4 (fun x=>uS x.1 x.2.1) rfl:=ok1 (mc Vt Ag) Af func188 (fun _=>by kernel_rfl) (by kernel_rfl)
def ZfB:S1 (Int×Int×Unit) Int
 | (a,b,_)=>AB (IntKind.wrap .u16 ((Int.tmod (AQ ((AQ ((AQ (a))+(Int.tmod b 65536)))+65536)) (65536:Int))))
def vC (a b:Int):Option Int:=AU ZfB (a,b,())
theorem Ze2:AA1 190 [30,3] 30 (fun x=>vC x.1 x.2.1) rfl:=ok1 Ag Af func190 (fun _=>by kernel_rfl) (by kernel_rfl)
def ZeA:S1 (Int×Int×Unit) Int
 | (b,a,_)=>let d:=(if (499:Int)<a then (499:Int) else a);.bind 30 (vC b (AQ ((6:Int)+(if d>0 then d else (0:Int))))) (fun(c:Int)=>AB c)
def Z2m (a b:Int):Option Int:=AU ZeA (a,b,())
theorem ZvK:AA1 260 [30,3] 30 (fun x=>Z2m x.1 x.2.1) rfl:=ok1 (mc Ze2 Ag) Af func260 (fun _=>by kernel_rfl) (by kernel_rfl)
inductive dI where
 | b0 (a:Int) (b:BC)
 | b1 (a:Int) (b:BC)
def ZcZ:dI->Tr U (Int⊕dI)
 | .b0 b a=>let c:=AP (dI.b1 b a);.br (a.Kind != 0) (.br (a.Kind != 1) (AB (12:Int)) c) c
 | .b1 a b=>.bind 4 (qF a b.DZ) (fun(c:Bool)=>.br c (AB (18:Int)) (AB (0:Int)))
def Z24 (a:Int) (b:BC):Option Int:=AU ZcZ (.b0 a b)
def Zar:Lay:=LT [0,3] [.v 30,.p 0] [.s 138]
def ZtQ:dI->BH U
 | .b0 a b=>Bg f334 [30,138] (a,b,())
 | .b1 a b=>AA3 f334 [1,1,0,0] Zar (a,b,())
theorem ZtF:AA1 334 [30,138] 45 (fun x=>Z24 x.1 x.2.1) rfl:=Bj (mc Zbx Ag) Af (al [(3,Zar)]) ZtQ func334 (fun p=>by cases p<;>kernel_rfl) (by kernel_rfl) fun _=>rfl
def Zfq:S1 ((List BC)×Int×BC×Unit) ((List BC)×Int)
 | (a,d,b,_)=>let e:=([]:List BC)++a;.chk true (.chk (kA (0+a.length) 64) (.bind 45 (Z24 d b) (fun(c:Int)=>.br (c != 0) (kl e (AB (e,c))) (.br (decide ((↑a.length:Int)>0)) (kl e (AB (e,(20:Int)))) (.chk true (kl e (.chk (kA (e.length+1) 64) (kl (e++[b]) (AB ((e++[b]),(0:Int)))))))))))
def uJ (a:List BC) (b:Int) (c:BC):Option ((List BC)×Int):=AU Zfq (a,b,c,())
theorem ZeS:AA1 261 [37,30,138] 269 (fun x=>uJ x.1 x.2.1 x.2.2.1) rfl:=ok1 (mc ZtF Ag) Af func261 (fun _=>by kernel_rfl) (by kernel_rfl)
def ZbM:S1 (AO×Unit) BC
 | (a,_)=>AB (⟨a.Kind,a.DZ,a.BL,a.Map⟩:BC)
def qH (a:AO):Option BC:=AU ZbM (a,())
theorem Zbe:AA1 262 [156] 138 (fun x=>qH x.1) rfl:=ok1 Ag Af func262 (fun _=>by kernel_rfl) (by kernel_rfl)
inductive cZ where
 | b0 (a:AZ) (b:AO) (c d:Int)
 | b1 (a:Int) (b:AZ) (c:AO) (d:AZ) (e:AO)
 | b2 (a:Int) (b:AZ) (c:AO) (d:AZ) (e:AO)
 | b3 (a:AZ) (b:AO) (c:AZ) (d:AO)
 | b4 (a:AZ) (b:AO) (c:AZ) (d:AO)
 | b5 (a:AZ) (b:AO) (c:AZ) (d:AO)
def ZdE:cZ->Tr U ((AZ×AO)⊕cZ)
 | .b0 b a d c=>let h:=a.Kind==0;let e:=({ b with Own:=a.Kind,Since:=c }:AZ);let g:=AP (cZ.b1 d e a ED EZ);let f:=AP (cZ.b2 a.Kind e a ED EZ);.br h (.br h g f) (.br (a.Kind==1) g f)
 | .b1 d a b e f=>.bind 30 (Z2m d (0:Int)) (fun(c:Int)=>let i:=({ b with DZ:=c }:AO);.bind 138 (qH i) (fun(h:BC)=>.bind 269 (uJ a.Aq d h) (fun(g:(List BC)×Int)=>.br (g.2==0) (AP (.b3 ({ a with Aq:=g.1 }:AZ) i e f)) (AP (.b3 a i e f)))))
 | .b2 e b a c d=>.br (e==3) (AP (.b4 ({ b with CZ:=a.CZ,Mark:=a.Mark,Dy:=1 }:AZ) a c d)) (.br (e==12) (AP (.b4 ({ b with Gi:=true }:AZ) a c d)) (.br (e==20) (AP (.b4 ({ b with Limit:=a.Length }:AZ) a c d)) (AP (.b4 b a c d))))
 | .b3 a b c d=>let e:=({ a with Told:=false }:AZ);let f:=AP (cZ.b4 e b c d);.br (b.Kind==0) (.br (a.Other==15) (AP (.b5 e b c d)) f) f
 | .b4 a b c d=>AB (a,b)
 | .b5 a b c d=>AP (.b4 ({ a with Other:=-1 }:AZ) b c d)
def rV (a:AZ) (b:AO) (c d:Int):Option (AZ×AO):=AU ZdE (.b0 a b c d)
def ZaC:Lay:=LT [2,4,5,8,9] [.v 30,.p 0,.p 1,.p 2,.p 3] [.s 39,.s 156,.s 39,.s 156]
def ZaL:Lay:=LT [4,5,8,9,18] [.p 0,.p 1,.p 2,.p 3,.v 3] [.s 39,.s 156,.s 39,.s 156]
def Vm:Lay:=LT [4,5,8,9] [.p 0,.p 1,.p 2,.p 3] [.s 39,.s 156,.s 39,.s 156]
def Zth:cZ->BH U
 | .b0 a b c d=>Bg f189 [39,156,30,3] (a,b,c,d,())
 | .b1 a b c d e=>AA3 f189 [1,1,1,0,1,0,1,0,0] ZaC (a,b,c,d,e,())
 | .b2 a b c d e=>AA3 f189 [1,1,1,0,1,0,1,1,0] ZaL (a,b,c,d,e,())
 | .b3 a b c d=>AA3 f189 [1,1,1,0,1,0,1,0,1,1,1,0] Vm (a,b,c,d,())
 | .b4 a b c d=>AA3 f189 [1,1,1,1,0] Vm (a,b,c,d,())
 | .b5 a b c d=>AA3 f189 [1,1,1,0,1,0,1,0,1,1,1,1,1,0] Vm (a,b,c,d,())
theorem ZbG:AA1 189 [39,156,30,3] 216 (fun x=>rV x.1 x.2.1 x.2.2.1 x.2.2.2.1) rfl:=Bj (mc ZvK (mc ZeS (mc Zbe Ag))) Af (al [(6,ZaC),(13,ZaL),(10,Vm),(21,Vm),(12,Vm)]) Zth func189 (fun p=>by cases p<;>kernel_rfl) (by kernel_rfl) fun _=>rfl
inductive dN where
 | b0 (a:AZ) (b c:Int)
 | b1 (a b:Int) (c:List AO) (d e:AZ)
 | b2 (a b:Int) (c:List AO) (d e:AZ)
 | b3 (a:List AO) (b c:AZ)
 | b4 (a b:Int) (c:List AO) (d e:AZ) (f:AO)
def ZdI:dN->Tr U ((AZ×(List AO))⊕dN)
 | .b0 a b c=>.chk true (AP (.b1 b c ([]:List AO) a ED))
 | .b1 d e b a c=>let h:=kl b (AP (dN.b3 b a c));.br (a.Eb==0) (.br (decide (a.Own<0)) (.br (decide ((↑a.A8.length:Int)>0)) (.chk (kI (0:Int) a.A8) (.bind 156 (a.A8[(Int.toNat 0)]?) (fun(f:AO)=>.bind 4 (uS a f) (fun(g:Bool)=>.br g (kl b (AP (.b2 d e b a c))) h)))) h) h) h
 | .b2 c d b a e=>let l:=Int.toNat 1;let j:=(a.A8.drop l).take (a.A8.length - l);let g:=([]:List AO)++j;let k:=({ a with A8:=g }:AZ);.chk (kI (0:Int) a.A8) (.bind 156 (a.A8[(Int.toNat 0)]?) (fun(f:AO)=>let i:=Tr.chk (kL b&&(g.length==g.length)) (AP (dN.b4 c d b k e f));let h:=Tr.br (f.Kind==3) (.br (a.Dy != 0) (kl g (kl b (AP (dN.b1 c d b k e)))) i) i;.chk (decide (0<=(1:Int)/\(1:Int)<=(↑a.A8.length:Int))) (.chk true (.chk (kA (0+j.length) 120) (.br (f.Kind==12) (.br a.Gi (kl g (kl b (AP (.b1 c d b k e)))) h) h)))))
 | .b3 a b c=>kl a (AB (b,a))
 | .b4 c d a e f g=>kl e.A8 (.bind 216 (rV e g c d) (fun(b:AZ×AO)=>.chk true (kl a (.chk (kA (a.length+1) 120) (kl (a++[b.2]) (AP (.b1 c d (a++[b.2]) b.1 f)))))))
def Z1W (a:AZ) (b c:Int):Option (AZ×(List AO)):=AU ZdI (.b0 a b c)
def pI:Lay:=LT [1,2,3,6,8] [.v 30,.v 3,.p 0,.p 1,.o 156 15 2] [.s 39,.s 39,.r 156]
def Zbd:Lay:=LT [3,6,8] [.p 0,.p 1,.o 156 15 2] [.s 39,.s 39,.r 156]
def Zb0:Lay:=⟨[1,2,3,6,8,9],[KP,KP,KP,KP,[.own 156 15],KP],[.var [.keep,.keep,.keep,.own 156 15,.keep,.keep,.s 138 8,.keep,.keep,.keep,.keep,.keep,.keep,.keep,.keep,.keep,.keep,.keep,.keep,.keep],.var k1,.row true,.var k0,.row true],⟨[OV 30,OV 3,PQ 0,PQ 1,.one (.own 156 2),PQ 3],[.var 39 20 (.agg [VC 3 1,VC 3 1,VC 3 1,.own 156 4,VC 3 1,VC 3 1,VC 37 1,VC 4 1,VC 25 1,VC 25 1,VC 4 1,VC 4 1,VC 3 1,VC 3 1,VC 3 1,VC 25 1,VC 25 1,VC 25 1,VC 3 1,VC 3 1]),VA 39 20,.row 156 true,VA 156 15,.row 156 true]⟩⟩
def Zt2:dN->BH U
 | .b0 a b c=>Bg f96 [39,30,3] (a,b,c,())
 | .b1 a b c d e=>AA3 f96 [1,1,0,0,0,0,0] pI (a,b,d,e,c,())
 | .b2 a b c d e=>AA3 f96 [1,1,0,0,0,1,0,0] pI (a,b,d,e,c,())
 | .b3 a b c=>AA3 f96 [1,1,1,0] Zbd (b,c,a,())
 | .b4 b c d a e f=>AA3 f96 [1,1,0,0,0,1,0,1,1,1,0] Zb0 (b,c,a.CB,a.Own,a.Since,a.Other,a.Fv,a.Aq,a.Told,a.D7,a.I7,a.Fq,a.Gi,a.Version,a.Length,a.Limit,a.CZ,a.Gw,a.Mark,a.Dy,a.Eb,e,d,f,a.A8,())
theorem Ztr:AA1 96 [39,30,3] 140 (fun x=>Z1W x.1 x.2.1 x.2.2.1) rfl:=Bj (mc ZdR (mc ZbG Ag)) Af (al [(2,pI),(3,pI),(8,Zbd),(6,Zb0)]) Zt2 func96 (fun p=>by cases p<;>kernel_rfl) (by kernel_rfl) fun _=>rfl
end
noncomputable section
def Zdt:S1 (Ad×Unit) Int
 | (a,_)=>.bind 30 (vC a.Event a.Df.BL.C9) (fun(b:Int)=>AB b)
def rO (a:Ad):Option Int:=AU Zdt (a,())
theorem ZbQ:AA1 97 [44] 30 (fun x=>rO x.1) rfl:=ok1 (mc Ze2 Ag) Af func97 (fun _=>by kernel_rfl) (by kernel_rfl)
def ZdP:S1 (Int×Int×Int×Unit) Bool
 | (a,b,c,_)=>.br (decide (a>=0)) (.bind 4 (Rh a) (fun(d:Bool)=>.br (!d) (AB (decide ((AQ (c - b))>40000000))) (AB false))) (AB false)
def tX (a b c:Int):Option Bool:=AU ZdP (a,b,c,())
theorem Zw3:AA1 191 [3,3,3] 4 (fun x=>tX x.1 x.2.1 x.2.2.1) rfl:=ok1 (mc Vt Ag) Af func191 (fun _=>by kernel_rfl) (by kernel_rfl)
def ZaG:S1 (AZ×Int×Unit) Bool
 | (a,b,_)=>.bind 4 (tX a.Own a.Since b) (fun(c:Bool)=>.br c (AB true) (.bind 4 (tX a.Other a.Fv b) (fun(d:Bool)=>AB d)))
def Z12 (a:AZ) (b:Int):Option Bool:=AU ZaG (a,b,())
theorem ZqZ:AA1 98 [39,3] 4 (fun x=>Z12 x.1 x.2.1) rfl:=ok1 (mc Zw3 Ag) Af func98 (fun _=>by kernel_rfl) (by kernel_rfl)
def ZaU:S1 (DR×Unit) Int
 | (a,_)=>.bind 3 (Vp a.FY (10:Int) (3200:Int)) (fun(b:Int)=>AB (AQ (b*10000)))
def Z1e (a:DR):Option Int:=AU ZaU (a,())
theorem Zrb:AA1 99 [24] 3 (fun x=>Z1e x.1) rfl:=ok1 (mc oP Ag) Af func99 (fun _=>by kernel_rfl) (by kernel_rfl)
def Zft:S1 (Ad×Int×Unit) (Ad×(List Au))
 | (a,b,_)=>.chk true (AB (({ a with CQ:=b }:Ad),[(⟨4,a.Event,(⟨0,[]⟩:Az),Jl,(IntKind.wrap .u64 (b)),CE⟩:Au)]))
def uP (a:Ad) (b:Int):Option (Ad×(List Au)):=AU Zft (a,b,())
theorem ZeC:AA1 100 [44,3] 78 (fun x=>uP x.1 x.2.1) rfl:=ok1 Ag Af func100 (fun _=>by kernel_rfl) (by kernel_rfl)
inductive dJ where
 | b0 (a:Ad) (b:Int)
 | b1 (a:Int) (b:Bool) (c d:Ad)
 | b2 (a:Int) (b:Bool) (c d:Ad)
 | b3 (a b c:Int) (d e:Ad)
 | b4 (a b:Int) (c d:Ad)
 | b5 (a:Int) (b:List Au) (c:List BC) (d:Int) (e f:Ad) (g:AZ)
 | b6 (a:List Au) (b:Int) (c d:Ad)
 | b7 (a:List Au) (b c:Ad)
 | b8 (a:Int) (b:List Au) (c:Int) (d e:Ad)
 | b9 (a:List Au) (b c:Ad)
def Zda:dJ->Tr U ((Ad×(List Au))⊕dJ)
 | .b0 a b=>let d:=AP (dJ.b1 b false a EM);.br (a.CQ != 0) (.chk true (AB (a,([]:List Au)))) (.br (a.CB==1) (.br (!a.Ez) (.bind 4 (qZ a) (fun(c:Bool)=>AP (.b1 b c a EM))) d) d)
 | .b1 c b a d=>.br b (.bind 129 (Z2w a.DY) (fun(e:CW×Int)=>AP (.b2 c b ({ a with DY:=e.1 }:Ad) d))) (.br (a.CB==1) (.bind 35 (Z1F a.DY a.EX) (fun(f:CW)=>AP (.b2 c b ({ a with DY:=f }:Ad) d))) (AP (.b2 c b a d)))
 | .b2 c e a d=>.bind 104 (sW a.Df a.Event a.Last) (fun(b:Int×Int)=>let f:=AP (dJ.b4 c b.2 a d);.br (!a.Good) (.br (!e) (AP (.b3 c b.1 b.2 a d)) f) f)
 | .b3 b c d a e=>.bind 42 (bV a.DJ c false) (fun(f:List BO)=>AP (.b4 b d ({ a with DJ:=f }:Ad) e))
 | .b4 c d a e=>let f:=IntKind.wrap .u16 (a.Event+1);.bind 135 (Z31 a.AA f) (fun(b:AZ×(List BC))=>.chk true (AP (.b5 c ([]:List Au) b.2 (0:Int) ({ a with Event:=f,Last:=d,F9:=(AQ (a.F9+(AQ ((1250:Int)*a.Df.BL.E5)))),Ez:=false,Good:=false,EX:=false,More:=false,AA:=b.1 }:Ad) e b.1)))
 | .b5 d c e f a g j=>let u:=e[(Int.toNat f)]?;let t:=([]:List AO)++a.Ac;.br (decide (f<(↑e.length:Int))) (.chk (kI f e) (.bind 138 u (fun(k:BC)=>.bind 44 (Z2e a k) (fun(h:Ad)=>.chk (kI f e) (.bind 138 u (fun(i:BC)=>let r:=c++[(⟨2,h.Event,(⟨0,[]⟩:Az),i,0,CE⟩:Au)];.chk true (kl c (.chk (kA (c.length+1) 160) (kl r (AP (.b5 d r e (AQ (f+1)) h g j))))))))))) (.bind 30 (rO a) (fun(l:Int)=>.bind 140 (Z1W a.AA l d) (fun(b:AZ×(List AO))=>let o:=t++b.2;let q:=kL c&&(o.length==o.length);let p:=({ a with AA:=b.1,Ac:=o }:Ad);let s:=Tr.chk q (AP (dJ.b8 d c (0:Int) p g));.chk true (.chk (kA (0+a.Ac.length) 120) (kl t (.chk (kA (t.length+b.2.length) 120) (.br (b.1.Eb != 0) (.chk q (AP (.b6 c b.1.Eb p g))) (.bind 4 (Z12 b.1 d) (fun(m:Bool)=>.br m (.chk q (AP (.b6 c (34:Int) p g))) (.br a.GU (.bind 3 (Z1e a.Df.BL) (fun(n:Int)=>.br (decide ((AQ (d - a.Hm))>n)) (.chk q (AP (.b7 c p g))) s)) s))))))))))
 | .b6 a d b e=>.br (d != 0) (kl b.Ac (.bind 78 (uP b d) (fun(c:Ad×(List Au))=>kl a (.chk (kA (a.length+c.2.length) 160) (kl (a++c.2) (AB (c.1,(a++c.2)))))))) (kl b.Ac (kl a (AB (b,a))))
 | .b7 a b c=>.chk (kL a&&kL b.Ac) (AP (.b6 a (8:Int) b c))
 | .b8 e b d a c=>let g:=kL b&&kL a.Ac;let f:=Tr.chk g (AP (dJ.b6 b d a c));.br (!a.GU) (.br (decide ((AQ (e - a.Hm))>(AQ ((7500:Int)*a.Df.BL.E5)))) (.chk g (AP (.b9 b a c))) f) f
 | .b9 a b c=>.chk (kL a&&kL b.Ac) (AP (.b6 a (62:Int) b c))
def rW (a:Ad) (b:Int):Option (Ad×(List Au)):=AU Zda (.b0 a b)
def pX:Lay:=LT [1,2,4,6] [.v 3,.p 0,.p 1,.v 4] [.s 44,.s 44]
def ZaY:Lay:=LT [1,2,4,9,10] [.v 3,.p 0,.p 1,.v 3,.v 3] [.s 44,.s 44]
def Zaw:Lay:=LT [1,2,4,10] [.v 3,.p 0,.p 1,.v 3] [.s 44,.s 44]
def Zb1:Lay:=LT [1,2,4,11,12,13,14] [.v 3,.p 0,.p 1,.o 148 18 2,.p 3,.v 37,.v 3] [.s 44,.s 44,.r 148,.s 39]
def ZaZ:Lay:=⟨[2,4,11,16],[KP,KP,[.own 148 18],KP],[.var k16,.var k2,.row true,.row true],⟨[PQ 0,PQ 1,.one (.own 148 2),OV 3],[.var 44 66 (lD 3),VA 44 66,.row 148 true,.row 156 true]⟩⟩
def o7:Lay:=⟨[2,4,11],[KP,KP,[.own 148 18]],[.var k16,.var k2,.row true,.row true],⟨[PQ 0,PQ 1,.one (.own 148 2)],[.var 44 66 (lD 3),VA 44 66,.row 148 true,.row 156 true]⟩⟩
def ZaH:Lay:=⟨[1,2,4,11,16],[KP,KP,KP,[.own 148 18],KP],[.var k16,.var k2,.row true,.row true],⟨[OV 3,PQ 0,PQ 1,.one (.own 148 2),OV 3],[.var 44 66 (lD 3),VA 44 66,.row 148 true,.row 156 true]⟩⟩
def ZuC:dJ->BH U
 | .b0 a b=>Bg f30 [44,3] (a,b,())
 | .b1 a b c d=>AA3 f30 [1,1,1,0,0] pX (a,b,c,d,())
 | .b2 a b c d=>AA3 f30 [1,1,1,1,0] pX (a,b,c,d,())
 | .b3 a b c d e=>AA3 f30 [1,1,1,1,1,0,1,0] ZaY (a,b,c,d,e,())
 | .b4 a b c d=>AA3 f30 [1,1,1,1,1,1,0] Zaw (a,b,c,d,())
 | .b5 a b c d e f g=>AA3 f30 [1,1,1,1,1,1,1,1,1,1,1,1,1,0,1,0,0,0,0] Zb1 (a,c,d,e,f,b,g,())
 | .b6 b c a d=>Ae f30 [1,1,1,1,1,1,1,1,1,1,1,1,1,1,1,1,1,1,1,0,0] ZaZ (((),((),((),((c,()),())))),((Xt a),((d,()),(b,(a.Ac,())))))
 | .b7 b a c=>Ae f30 [1,1,1,1,1,1,1,1,1,1,1,1,1,1,1,1,1,1,0,0,1,1,1,1,1,0] o7 (((),((),((),()))),((Xt a),((c,()),(b,(a.Ac,())))))
 | .b8 b c d a e=>Ae f30 [1,1,1,1,1,1,1,1,1,1,1,1,1,1,1,1,1,1,0,0,1,1,1,1,1,1,0] ZaH (((b,()),((),((),((),((d,()),()))))),((Xt a),((e,()),(c,(a.Ac,())))))
 | .b9 b a c=>Ae f30 [1,1,1,1,1,1,1,1,1,1,1,1,1,1,1,1,1,1,0,0,1,1,1,1,1,1,1,0] o7 (((),((),((),()))),((Xt a),((c,()),(b,(a.Ac,())))))
theorem ZtM:AA1 30 [44,3] 78 (fun x=>rW x.1 x.2.1) rfl:=Bj (mc ZbX (mc Zdk (mc Zw1 (mc Zrx (mc Zbw (mc ZxX (mc Zuj (mc Ztr (mc ZbQ (mc ZqZ (mc Zrb (mc ZeC Ag)))))))))))) Af (al [(4,pX),(9,pX),(11,ZaY),(12,Zaw),(20,Zb1),(36,ZaZ),(33,o7),(34,ZaH),(35,o7)]) ZuC func30 (fun p=>by cases p<;>kernel_rfl) (by kernel_rfl) fun _=>rfl
inductive eP where
 | b0 (a:Ad) (b:Az)
 | b1 (a:Ad) (b:Az) (c:Ad)
def ZeE:eP->Tr U ((Ad×Int)⊕eP)
 | .b0 b a=>let c:=AP (eP.b1 b a EM);.br (a.Bz != 2) (.br (a.Bz != 1) (AB (b,1)) c) c
 | .b1 a b f=>.bind 45 (QE (⟨0,0,0,b⟩:BM)) (fun(d:Int)=>.br (d != 0) (AB (a,d)) (.br (decide ((↑b.Payload.length:Int)>a.AA.Length)) (AB (a,4)) (.bind 4 (qV a.AA) (fun(e:Bool)=>.br e (AB (a,20)) (.bind 189 (rZ a.Ar b) (fun(c:BR×Int)=>.br (c.2 != 0) (AB (a,c.2)) (AB (({ a with Ar:=c.1 }:Ad),(0:Int)))))))))
def Z2p (a:Ad) (b:Az):Option (Ad×Int):=AU ZeE (.b0 a b)
def ZbK:Lay:=LT [2,3,4] [.p 0,.p 1,.p 2] [.s 44,.s 68,.s 44]
def Zv0:eP->BH U
 | .b0 a b=>Bg f102 [44,68] (a,b,())
 | .b1 a b c=>AA3 f102 [1,1,0] ZbK (a,b,c,())
theorem Zvw:AA1 102 [44,68] 46 (fun x=>Z2p x.1 x.2.1) rfl:=Bj (mc Zc1 (mc Zcf (mc Vw Ag))) Af (al [(3,ZbK)]) Zv0 func102 (fun p=>by cases p<;>kernel_rfl) (by kernel_rfl) fun _=>rfl
inductive Yx where
 | b0 (a:Int)
 | b1 (a:Int)
 | b2 (a:Int)
 | b3 (a:Int)
 | b4 (a:Int)
def Z9t:Yx->Tr U (Int⊕Yx)
 | .b0 a=>let b:=AP (Yx.b1 a);.br (a==0) (.br (a==0) (AB a) b) (.br (a==1) (.br (a==1) (AB a) b) (.br (a==2) (.br (a==2) (AB a) b) (.br (a==12) (.br (a==12) (AB a) b) (.br (a==15) (AB a) b))))
 | .b1 a=>let c:=AB (8:Int);let b:=AP (Yx.b2 a);.br (a==8) (.br (a==8) c b) (.br (a==9) c b)
 | .b2 a=>let c:=AB (3:Int);let b:=AP (Yx.b3 a);.br (a==3) (.br (a==3) c b) (.br (a==4) (.br (a==4) c b) (.br (a==5) (.br (a==5) c b) (.br (a==6) c b)))
 | .b3 a=>let c:=AB (18:Int);let b:=AP (Yx.b4 a);.br (a==18) (.br (a==18) c b) (.br (a==19) c b)
 | .b4 a=>let c:=AB (-1:Int);let b:=AB (20:Int);.br (a==20) (.br (a==20) b c) (.br (a==21) b c)
def Z0z (a:Int):Option Int:=AU Z9t (.b0 a)
def RJ:Lay:=LT [3] [.v 3] []
def Zp7:Yx->BH U
 | .b0 a=>Bg f341 [3] (a,())
 | .b1 a=>AA3 f341 [1,0,1,0,1,1,0,0] RJ (a,())
 | .b2 a=>AA3 f341 [1,0,1,0,1,1,1,1,0,0] RJ (a,())
 | .b3 a=>AA3 f341 [1,0,1,0,1,1,1,1,1,1,0,0] RJ (a,())
 | .b4 a=>AA3 f341 [1,0,1,0,1,1,1,1,1,1,1,1,0,0] RJ (a,())
theorem ZoQ:AA1 341 [3] 3 (fun x=>Z0z x.1) rfl:=Bj Ag Af (al [(8,RJ),(11,RJ),(16,RJ),(19,RJ)]) Zp7 func341 (fun p=>by cases p<;>kernel_rfl) (by kernel_rfl) fun _=>rfl
def Z9n:S1 (Int×Unit) Bool
 | (a,_)=>.bind 262 (DU a) (fun(b:CP)=>.br b.Fq (.bind 3 (Z0z a) (fun(c:Int)=>AB (c==a))) (AB false))
def Z0r (a:Int):Option Bool:=AU Z9n (a,())
theorem ZoS:AA1 268 [3] 4 (fun x=>Z0r x.1) rfl:=ok1 (mc RX (mc ZoQ Ag)) Af func268 (fun _=>by kernel_rfl) (by kernel_rfl)
inductive bD where
 | b0 (a:AZ) (b:AO)
 | b1 (a b:AO)
def ZbR:bD->Tr U (AO⊕bD)
 | .b0 b a=>let d:=a.Kind==0;let c:=AP (bD.b1 a EZ);.br (a.Kind==8) (AB ({ a with D7:=b.D7 }:AO)) (.br (a.Kind==12) (AB ({ a with Version:=11 }:AO)) (.br d (.br d c (AB a)) (.br (a.Kind==1) c (AB a))))
 | .b1 a b=>AB ({ a with DZ:=0 }:AO)
def Z1G (a:AZ) (b:AO):Option AO:=AU ZbR (.b0 a b)
def Z9I:Lay:=LT [3,4] [.p 0,.p 1] [.s 156,.s 156]
def ZsD:bD->BH U
 | .b0 a b=>Bg f269 [39,156] (a,b,())
 | .b1 a b=>AA3 f269 [1,0,1,0,1,1,1,1,1,0] Z9I (a,b,())
theorem Zs6:AA1 269 [39,156] 156 (fun x=>Z1G x.1 x.2.1) rfl:=Bj Ag Af (al [(8,Z9I)]) ZsD func269 (fun p=>by cases p<;>kernel_rfl) (by kernel_rfl) fun _=>rfl
inductive dL where
 | b0 (a:AZ) (b:Int)
 | b1 (a b:Int) (c:AZ)
def ZcT:dL->Tr U (Bool⊕dL)
 | .b0 a b=>AP (.b1 b (0:Int) a)
 | .b1 c a b=>.br (decide (a<(↑b.A8.length:Int))) (.chk (kI a b.A8) (.bind 156 (b.A8[(Int.toNat a)]?) (fun(d:AO)=>.br (d.Kind==c) (AB true) (AP (.b1 c (AQ (a+1)) b))))) (AB false)
def Z1P (a:AZ) (b:Int):Option Bool:=AU ZcT (.b0 a b)
def Zbn:Lay:=LT [1,2,5] [.v 3,.p 0,.v 3] [.s 39]
def Zu8:dL->BH U
 | .b0 a b=>Bg f342 [39,3] (a,b,())
 | .b1 a b c=>AA3 f342 [1,0,1,0,0,0,0] Zbn (a,b,c,())
theorem ZuF:AA1 342 [39,3] 4 (fun x=>Z1P x.1 x.2.1) rfl:=Bj Ag Af (al [(2,Zbn)]) Zu8 func342 (fun p=>by cases p<;>kernel_rfl) (by kernel_rfl) fun _=>rfl
inductive aQ where
 | b0 (a:AZ) (b:Int)
 | b1 (a:Int) (b:AZ)
 | b2 (a:Int) (b:AZ)
def Zbu:aQ->Tr U (Bool⊕aQ)
 | .b0 a b=>.br (a.Eb != 0) (AB false) (.br (a.Own==2) (AB false) (AP (.b1 b a)))
 | .b1 a b=>let f:=AP (aQ.b2 a b);let d:=Tr.br (a==15) (.br (b.CB != 1) (AB false) f) f;let e:=Tr.br (b.CB != 0) (AB false) d;.bind 4 (Rh a) (fun(c:Bool)=>.br c e (.br (a==3) e d))
 | .b2 b a=>.br (b != 3) (AB true) (.br (a.Dy==0) (.bind 4 (Z1P a (3:Int)) (fun(c:Bool)=>AB (!c))) (AB false))
def Z0Q (a:AZ) (b:Int):Option Bool:=AU Zbu (.b0 a b)
def oG:Lay:=LT [1,2] [.v 3,.p 0] [.s 39]
def ZqH:aQ->BH U
 | .b0 a b=>Bg f270 [39,3] (a,b,())
 | .b1 a b=>AA3 f270 [1,1,0,0] oG (a,b,())
 | .b2 a b=>AA3 f270 [1,1,1,0] oG (a,b,())
theorem ZqV:AA1 270 [39,3] 4 (fun x=>Z0Q x.1 x.2.1) rfl:=Bj (mc Vt (mc ZuF Ag)) Af (al [(3,oG),(5,oG)]) ZqH func270 (fun p=>by cases p<;>kernel_rfl) (by kernel_rfl) fun _=>rfl
inductive dZ where
 | b0 (a:AZ) (b:AO) (c d:Int)
 | b1 (a b:AZ)
 | b2 (a b:Int) (c:AZ) (d:AO) (e:AZ)
 | b3 (a b:Int) (c:AZ) (d:AO) (e:AZ)
 | b4 (a:AZ) (b:AO) (c:AZ)
def ZcS:dZ->Tr U ((AZ×(List AO)×Int)⊕dZ)
 | .b0 a c d e=>let i:=([]:List AO);.bind 4 (Z0r c.Kind) (fun(g:Bool)=>.br (!g) (.chk true (AB (a,i,(12:Int)))) (.bind 156 (Z1G a c) (fun(b:AO)=>let j:=AP (dZ.b2 d e a b ED);.bind 45 (JZ b) (fun(f:Int)=>.br (f != 0) (.chk true (AB (a,i,f))) (.bind 4 (Z0Q a b.Kind) (fun(h:Bool)=>.br (!h) (.chk true (AB (a,i,(9:Int)))) (.br (b.Kind==12) (.br a.Gi (AP (.b1 a ED)) j) j)))))))
 | .b1 a b=>.chk true (AB (a,([]:List AO),(0:Int)))
 | .b2 d e a b c=>let g:=AP (dZ.b4 a b c);.br (b.Kind==2) (AP (.b3 d e ({ a with A8:=([]:List AO) }:AZ) b c)) (.br (decide (a.Own>=0)) g (.br (decide ((↑a.A8.length:Int)>0)) g (.bind 4 (uS a b) (fun(f:Bool)=>.br (!f) g (AP (.b3 d e a b c))))))
 | .b3 b c d e f=>.bind 216 (rV d e b c) (fun(a:AZ×AO)=>.chk true (AB (a.1,[a.2],(0:Int))))
 | .b4 a b c=>let e:=([]:List AO);let d:=e++a.A8;.br (decide ((↑a.A8.length:Int)>=8)) (.chk true (AB (a,e,(8:Int)))) (.chk true (.chk (kA (0+a.A8.length) 120) (.chk true (kl d (.chk (kA (d.length+1) 120) (kl (d++[b]) (.chk true (AB (({ a with A8:=(d++[b]) }:AZ),e,(0:Int))))))))))
def Z27 (a:AZ) (b:AO) (c d:Int):Option (AZ×(List AO)×Int):=AU ZcS (.b0 a b c d)
def Zbo:Lay:=LT [4,8] [.p 0,.p 1] [.s 39,.s 39]
def pR:Lay:=LT [2,3,4,5,8] [.v 30,.v 3,.p 0,.p 1,.p 2] [.s 39,.s 156,.s 39]
def Zb4:Lay:=LT [4,5,8] [.p 0,.p 1,.p 2] [.s 39,.s 156,.s 39]
def ZtG:dZ->BH U
 | .b0 a b c d=>Bg f198 [39,156,30,3] (a,b,c,d,())
 | .b1 a b=>AA3 f198 [1,1,1,1,1,0,1,0,0] Zbo (a,b,())
 | .b2 a b c d e=>AA3 f198 [1,1,1,1,1,1,0,0] pR (a,b,c,d,e,())
 | .b3 a b c d e=>AA3 f198 [1,1,1,1,1,1,1,0] pR (a,b,c,d,e,())
 | .b4 a b c=>AA3 f198 [1,1,1,1,1,1,0,1,1,1,0,0,0] Zb4 (a,b,c,())
theorem Zta:AA1 198 [39,156,30,3] 222 (fun x=>Z27 x.1 x.2.1 x.2.2.1 x.2.2.2.1) rfl:=Bj (mc ZdR (mc ZbG (mc Z1z (mc ZoS (mc Zs6 (mc ZqV Ag)))))) Af (al [(10,Zbo),(11,pR),(18,pR),(14,Zb4)]) ZtG func198 (fun p=>by cases p<;>kernel_rfl) (by kernel_rfl) fun _=>rfl
def ZdG:S1 (Ad×AO×Int×Unit) (Ad×Int)
 | (a,c,d,_)=>let f:=([]:List AO)++a.Ac;.bind 30 (rO a) (fun(e:Int)=>.bind 222 (Z27 a.AA c e d) (fun(b:AZ×(List AO)×Int)=>.br (b.2.2 != 0) (AB (a,b.2.2)) (.chk true (.chk (kA (0+a.Ac.length) 120) (kl f (.chk (kA (f.length+b.2.1.length) 120) (kl (f++b.2.1) (AB (({ a with AA:=b.1,Ac:=(f++b.2.1) }:Ad),(0:Int))))))))))
def MO (a:Ad) (b:AO) (c:Int):Option (Ad×Int):=AU ZdG (a,b,c,())
theorem Zua:AA1 103 [44,156,3] 46 (fun x=>MO x.1 x.2.1 x.2.2.1) rfl:=ok1 (mc ZbQ (mc Zta Ag)) Af func103 (fun _=>by kernel_rfl) (by kernel_rfl)
def ZbL:S1 (Int×Unit) Int
 | (a,_)=>.br (decide (a>2147483647)) (AB (2147483647:Int)) (AB (AQ (a)))
def qK (a:Int):Option Int:=AU ZbL (a,())
theorem ZsH:AA1 104 [25] 3 (fun x=>qK x.1) rfl:=ok1 Ag Af func104 (fun _=>by kernel_rfl) (by kernel_rfl)
def Zf2:S1 (AO×Unit) (List AO)
 | (a,_)=>.chk true (AB ([a]))
def OG (a:AO):Option (List AO):=AU Zf2 (a,())
theorem WV:AA1 271 [156] 36 (fun x=>OG x.1) rfl:=ok1 Ag Af func271 (fun _=>by kernel_rfl) (by kernel_rfl)
inductive bC where
 | b0 (a:AZ) (b:Bool) (c:Int)
 | b1 (a:Bool) (b:Int) (c d:AZ)
def Zc7:bC->Tr U ((AZ×(List AO))⊕bC)
 | .b0 a b c=>let d:=Tr.chk true (AB (a,([]:List AO)));.br (a.CB != 1) d (.br (a.Eb != 0) d (.br (a.Dy != 1) d (AP (.b1 b c a ED))))
 | .b1 c a b e=>.br (!c) (.bind 36 (OG (⟨13,CE,0,0,6,3,0,0,0,0,0⟩:AO)) (fun(d:List AO)=>AB (({ b with Other:=-1,Dy:=0 }:AZ),d))) (.chk true (AB (({ b with CZ:=a,Dy:=3 }:AZ),[(⟨4,CE,0,0,0,0,a,0,0,0,0⟩:AO),(⟨5,CE,0,0,0,0,0,0,0,0,0⟩:AO)])))
def Z1A (a:AZ) (b:Bool) (c:Int):Option (AZ×(List AO)):=AU Zc7 (.b0 a b c)
def Z9L:Lay:=LT [1,2,3,6] [.v 4,.v 25,.p 0,.p 1] [.s 39,.s 39]
def Zs9:bC->BH U
 | .b0 a b c=>Bg f199 [39,4,25] (a,b,c,())
 | .b1 a b c d=>AA3 f199 [1,1,0,0] Z9L (a,b,c,d,())
theorem Zrs:AA1 199 [39,4,25] 140 (fun x=>Z1A x.1 x.2.1 x.2.2.1) rfl:=Bj (mc WV Ag) Af (al [(3,Z9L)]) Zs9 func199 (fun p=>by cases p<;>kernel_rfl) (by kernel_rfl) fun _=>rfl
def ZeI:S1 (Bq×Bool×Bool×Unit) Bq
 | (a,b,c,_)=>AB ({ a with Nh:=b,IY:=c }:Bq)
def fF (a:Bq) (b c:Bool):Option Bq:=AU ZeI (a,b,c,())
theorem Z1L:AA1 200 [41,4,4] 41 (fun x=>fF x.1 x.2.1 x.2.2.1) rfl:=ok1 Ag Af func200 (fun _=>by kernel_rfl) (by kernel_rfl)
inductive bP where
 | b0 (a:Int) (b:ByteArray) (c:List Int)
 | b1 (a:Int) (b c:List Int) (d:Int)
def ZbN:bP->Tr U (Int⊕bP)
 | .b0 b a c=>let d:=KL U 5 a;let e:=d++[(0:Int)];.chk (X6 U 5 a) (.chk true (kl d (.chk (kA (d.length+1) 1) (kl e (AP (.b1 b c e (0:Int)))))))
 | .b1 e b a c=>.br (decide (c<(↑b.length:Int))) (.chk (kI c b) (.bind 25 (b[(Int.toNat c)]?) (fun(f:Int)=>.bind 1351 (ND (8:Int) f) (fun(d:La)=>kl d.q0 (kl a (.chk (kA (a.length+d.q0.length) 1) (kl (a++d.q0) (AP (.b1 e b (a++d.q0) (AQ (c+1))))))))))) (kl a (.bind 25 (iD e a) (fun(g:Int)=>AB g)))
def Z1t (a:Int) (b:ByteArray) (c:List Int):Option Int:=AU ZbN (.b0 a b c)
def Z9K:Lay:=LT [0,2,7,8] [.v 29,.v 254,.o 5 1 0,.v 3] [.r 5]
def Zrv:bP->BH U
 | .b0 a b c=>Bg f272 [29,9,254] (a,b,c,())
 | .b1 a b c d=>AA3 f272 [1,1,0,1,0,0,0,0] Z9K (a,b,d,c,())
theorem Zrp:AA1 272 [29,9,254] 29 (fun x=>Z1t x.1 x.2.1 x.2.2.1) rfl:=Bj (mc ZeJ Ag) (hc [] sN Af) (al [(3,Z9K)]) Zrv func272 (fun p=>by cases p<;>kernel_rfl) (by kernel_rfl) fun _=>rfl
def ZfZ:S1 (Int×Int×Int×Int×Unit) Bq
 | (d,e,a,b,_)=>let f:=bits .xor .u64 a b;.chk true (.bind 29 (Z1t e (⟨#[115,101,115,115,105,111,110]⟩:ByteArray) ([a,b])) (fun(c:Int)=>.br (d==1) (AB (⟨1,c,f,false,false,0,0⟩:Bq)) (AB (⟨0,c,f,false,false,0,0⟩:Bq))))
def uO (a b c d:Int):Option Bq:=AU ZfZ (a,b,c,d,())
theorem Ze9:AA1 201 [3,29,25,25] 41 (fun x=>uO x.1 x.2.1 x.2.2.1 x.2.2.2.1) rfl:=ok1 (mc Zrp Ag) Af func201 (fun _=>by kernel_rfl) (by kernel_rfl)
inductive gJ where
 | b0 (a:Ad) (b:Int)
 | b1 (a:Int) (b c:Ad)
def Zfb:gJ->Tr U ((Ad×Int)⊕gJ)
 | .b0 a b=>.br (a.CB != 1) (AB (a,9)) (.br (a.AA.Dy != 1) (AB (a,9)) (AP (.b1 b a EM)))
 | .b1 c a f=>let g:=([]:List AO)++a.Ac;.bind 140 (Z1A a.AA (c != 0) a.Hq) (fun(b:AZ×(List AO))=>let h:=g++b.2;.chk true (.chk (kA (0+a.Ac.length) 120) (kl g (.chk (kA (g.length+b.2.length) 120) (.br (c != 0) (.bind 41 (uO a.CB c b.1.Gw b.1.CZ) (fun(d:Bq)=>.bind 41 (fF d false true) (fun(e:Bq)=>kl h (AB (({ a with AA:=b.1,EL:=e,Key:=c,Ac:=h }:Ad),(0:Int)))))) (kl h (AB (({ a with AA:=b.1,Ac:=h }:Ad),(0:Int)))))))))
def Z3l (a:Ad) (b:Int):Option (Ad×Int):=AU Zfb (.b0 a b)
def ZcU:Lay:=LT [1,2,4] [.v 29,.p 0,.p 1] [.s 44,.s 44]
def ZzE:gJ->BH U
 | .b0 a b=>Bg f105 [44,29] (a,b,())
 | .b1 a b c=>AA3 f105 [1,1,0] ZcU (a,b,c,())
theorem ZxT:AA1 105 [44,29] 46 (fun x=>Z3l x.1 x.2.1) rfl:=Bj (mc Zrs (mc Z1L (mc Ze9 Ag))) Af (al [(3,ZcU)]) ZzE func105 (fun p=>by cases p<;>kernel_rfl) (by kernel_rfl) fun _=>rfl
def Zdh:S1 (Int×Unit) Int
 | (a,_)=>let b:=(if (65536:Int)<a then (65536:Int) else a);AB (if b>0 then b else (0:Int))
def Rf (a:Int):Option Int:=AU Zdh (a,())
theorem Z1u:AA1 205 [3] 3 (fun x=>Rf x.1) rfl:=ok1 Ag Af func205 (fun _=>by kernel_rfl) (by kernel_rfl)
def ZeV:S1 (BO×Unit) Int
 | (c,_)=>.bind 3 (Rf c.Good) (fun(b:Int)=>.bind 3 (Rf c.Kq) (fun(a:Int)=>let d:=AQ (b+a);.br (d==0) (AB (0:Int)) (.chk (d != 0) (AB (AQ (Int.tdiv (AQ (a*1000)) d))))))
def fA (a:BO):Option Int:=AU ZeV (a,())
theorem Zcw:AA1 275 [99] 3 (fun x=>fA x.1) rfl:=ok1 (mc Z1u Ag) Af func275 (fun _=>by kernel_rfl) (by kernel_rfl)
def ZeY:S1 (BO×Unit) Bool
 | (a,_)=>.bind 3 (Rf a.Good) (fun(b:Int)=>.bind 3 (Rf a.Kq) (fun(c:Int)=>.br (decide ((AQ (b+c))>=8)) (.bind 3 (fA a) (fun(d:Int)=>AB (decide (d>=250)))) (AB false)))
def Z34 (a:BO):Option Bool:=AU ZeY (a,())
theorem ZxQ:AA1 273 [99] 4 (fun x=>Z34 x.1) rfl:=ok1 (mc Z1u (mc Zcw Ag)) Af func273 (fun _=>by kernel_rfl) (by kernel_rfl)
inductive iT where
 | b0 (a:List BO) (b:Int)
 | b1 (a:BO)
 | b2 (a:List BO) (b:Int) (c:BO)
def Zgm:iT->Tr U (BO⊕iT)
 | .b0 b a=>let c:=(⟨0,0⟩:BO);let d:=AP (iT.b1 c);.br (decide (a<0)) d (.br (decide (a>=(↑b.length:Int))) d (AP (.b2 b a c)))
 | .b1 a=>AB (⟨0,0⟩:BO)
 | .b2 a b d=>.chk (kI b a) (.bind 99 (a[(Int.toNat b)]?) (fun(c:BO)=>AB c))
def iM (a:List BO) (b:Int):Option BO:=AU Zgm (.b0 a b)
def ZeH:Lay:=LT [4] [.p 0] [.s 99]
def Ze5:Lay:=LT [0,1,4] [.v 42,.v 3,.p 0] [.s 99]
def ZBa:iT->BH U
 | .b0 a b=>Bg f274 [42,3] (a,b,())
 | .b1 a=>AA3 f274 [1,0,1,0,0] ZeH (a,())
 | .b2 a b c=>AA3 f274 [1,1,0] Ze5 (a,b,c,())
theorem ZBr:AA1 274 [42,3] 99 (fun x=>iM x.1 x.2.1) rfl:=Bj Ag Af (al [(2,ZeH),(3,Ze5)]) ZBa func274 (fun p=>by cases p<;>kernel_rfl) (by kernel_rfl) fun _=>rfl
inductive dB where
 | b0 (a:List BO) (b:List Int)
 | b1 (a:List BO) (b:List Int) (c d:Int)
 | b2 (a:List BO) (b:List Int) (c d:Int)
 | b3 (a:List BO) (b:List Int) (c:Int)
def Zcz:dB->Tr U (Int⊕dB)
 | .b0 a b=>AP (.b1 a b (-1:Int) (0:Int))
 | .b1 c a d b=>let p:=AP (dB.b3 c a b);let o:=a[(Int.toNat b)]?;let n:=AP (dB.b2 c a d b);.br (decide (b<(↑a.length:Int))) (.chk (kI b a) (.bind 3 o (fun(e:Int)=>.bind 99 (iM c e) (fun(f:BO)=>.bind 4 (Z34 f) (fun(g:Bool)=>.br (!g) n (.br (decide (d<0)) p (.chk (kI b a) (.bind 3 o (fun(h:Int)=>.bind 99 (iM c h) (fun(i:BO)=>.bind 3 (fA i) (fun(j:Int)=>.chk (kI d a) (.bind 3 (a[(Int.toNat d)]?) (fun(k:Int)=>.bind 99 (iM c k) (fun(l:BO)=>.bind 3 (fA l) (fun(m:Int)=>.br (decide (j>m)) p n))))))))))))))) (AB d)
 | .b2 a b c d=>AP (.b1 a b c (AQ (d+1)))
 | .b3 b c a=>AP (.b2 b c a a)
def Z2a (a:List BO) (b:List Int):Option Int:=AU Zcz (.b0 a b)
def pJ:Lay:=LT [0,1,5,6] [.v 42,.v 226,.v 3,.v 3] []
def ZaW:Lay:=LT [0,1,6] [.v 42,.v 226,.v 3] []
def ZuU:dB->BH U
 | .b0 a b=>Bg f203 [42,226] (a,b,())
 | .b1 a b c d=>AA3 f203 [1,1,0,1,0,0,0,0] pJ (a,b,c,d,())
 | .b2 a b c d=>AA3 f203 [1,1,0,1,0,0,1,1] pJ (a,b,c,d,())
 | .b3 a b c=>AA3 f203 [1,1,0,1,0,0,1,0,0,1,1,0] ZaW (a,b,c,())
theorem ZsW:AA1 203 [42,226] 3 (fun x=>Z2a x.1 x.2.1) rfl:=Bj (mc ZxQ (mc ZBr (mc Zcw Ag))) Af (al [(3,pJ),(4,pJ),(7,ZaW)]) ZuU func203 (fun p=>by cases p<;>kernel_rfl) (by kernel_rfl) fun _=>rfl
end
noncomputable section
inductive iL where
 | b0 (a:List Int)
 | b1 (a:List Int) (b c:Int)
def ZgD:iL->Tr U (Int⊕iL)
 | .b0 a=>AP (.b1 a (0:Int) (0:Int))
 | .b1 a c b=>.br (decide (b<(↑a.length:Int))) (.chk (kI b a) (.bind 3 (a[(Int.toNat b)]?) (fun(d:Int)=>.bind 25 (UX d) (fun(e:Int)=>AP (.b1 a (IntKind.wrap .u64 (c+e)) (AQ (b+1))))))) (AB c)
def Z3A (a:List Int):Option Int:=AU ZgD (.b0 a)
def ZdZ:Lay:=LT [0,3,4] [.v 226,.v 25,.v 3] []
def ZAr:iL->BH U
 | .b0 a=>Bg f204 [226] (a,())
 | .b1 a b c=>AA3 f204 [1,1,0,1,0,0,0,0] ZdZ (a,b,c,())
theorem ZC0:AA1 204 [226] 26 (fun x=>Z3A x.1) rfl:=Bj (mc Z1x Ag) Af (al [(3,ZdZ)]) ZAr func204 (fun p=>by cases p<;>kernel_rfl) (by kernel_rfl) fun _=>rfl
inductive aK where
 | b0 (a:List BO) (b c:Int)
 | b1 (a:List BO) (b:Int) (c:List Int)
 | b2 (a:List Int)
def Zbj:aK->Tr U (Int⊕aK)
 | .b0 b c a=>let e:=(if (37:Int)<a then (37:Int) else a);.bind 226 (WT c) (fun(d:List Int)=>AP (.b1 b (if e>2 then e else (2:Int)) d))
 | .b1 c d a=>let j:=AP (aK.b2 a);let h:=(↑a.length:Int);.br (decide (h>d)) (.bind 3 (Z2a c a) (fun(b:Int)=>let i:=AQ (b+1);let k:=Int.toNat i;let g:=(a.drop 0).take ((Int.toNat b) - 0);let f:=(a.drop k).take (a.length - k);let e:=([]:List Int)++g;.br (decide (b<0)) j (.chk (decide (0<=b/\b<=h)) (.chk true (.chk (kA (0+g.length) 8) (.chk (decide (0<=i/\i<=h)) (kl e (.chk (kA (e.length+f.length) 8) (kl (e++f) (AP (.b1 c d (e++f)))))))))))) j
 | .b2 a=>.bind 26 (Z3A a) (fun(b:Int)=>AB b)
def Z0V (a:List BO) (b c:Int):Option Int:=AU Zbj (.b0 a b c)
def Z9b:Lay:=LT [0,2,7] [.v 42,.v 3,.v 226] []
def Z9D:Lay:=LT [7] [.v 226] []
def ZqN:aK->BH U
 | .b0 a b c=>Bg f106 [42,26,3] (a,b,c,())
 | .b1 a b c=>AA3 f106 [1,1,1,0,0,0,0,0] Z9b (a,b,c,())
 | .b2 a=>AA3 f106 [1,1,1,1,0] Z9D (a,())
theorem Zqw:AA1 106 [42,26,3] 26 (fun x=>Z0V x.1 x.2.1 x.2.2.1) rfl:=Bj (mc Z1U (mc ZsW (mc ZC0 Ag))) Af (al [(3,Z9b),(7,Z9D)]) ZqN func106 (fun p=>by cases p<;>kernel_rfl) (by kernel_rfl) fun _=>rfl
inductive eF where
 | b0 (a:List BO)
 | b1 (a b:List BO) (c:Int)
def Zd3:eF->Tr U ((List BO)⊕eF)
 | .b0 a=>.chk true (AP (.b1 a ([]:List BO) (0:Int)))
 | .b1 a b c=>let i:=a[(Int.toNat c)]?;.br (decide (c<(↑a.length:Int))) (.chk (kI c a) (.bind 99 i (fun(f:BO)=>.bind 3 (Rf f.Good) (fun(d:Int)=>.chk (kI c a) (.bind 99 i (fun(g:BO)=>.bind 3 (Rf g.Kq) (fun(e:Int)=>let h:=b++[(⟨(AQ (Int.tdiv d 2)),(AQ (Int.tdiv e 2))⟩:BO)];.chk true (kl b (.chk (kA (b.length+1) 16) (kl h (AP (.b1 a h (AQ (c+1)))))))))))))) (kl b (AB b))
def Z26 (a:List BO):Option (List BO):=AU Zd3 (.b0 a)
def ZaK:Lay:=LT [0,3,4] [.v 42,.o 99 2 0,.v 3] [.r 99]
def Zt7:eF->BH U
 | .b0 a=>Bg f107 [42] (a,())
 | .b1 a b c=>AA3 f107 [1,1,0,1,0,0,0,0] ZaK (a,c,b,())
theorem ZsU:AA1 107 [42] 42 (fun x=>Z26 x.1) rfl:=Bj (mc Z1u Ag) Af (al [(3,ZaK)]) Zt7 func107 (fun p=>by cases p<;>kernel_rfl) (by kernel_rfl) fun _=>rfl
inductive iR where
 | b0 (a:Ad) (b:Hw) (c:Int)
 | b1 (a:Int) (b c:Ad)
 | b2 (a:Int) (b c:Ad)
def Zgf:iR->Tr U ((Ad×Int)⊕iR)
 | .b0 a b e=>let t:=qK b.Number;.br (a.CQ != 0) (AB (a,9)) (.br (b.Kind==1) (.bind 46 (Z2p a b.Aw) (fun(k:Ad×Int)=>AB (k.1,k.2))) (.br (b.Kind==2) (.bind 46 (MO a (⟨0,b.BL,0,0,0,0,0,0,0,0,0⟩:AO) e) (fun(l:Ad×Int)=>AB (l.1,l.2))) (.br (b.Kind==3) (.bind 46 (MO a (⟨1,CE,b.Map,0,0,0,0,0,0,0,0⟩:AO) e) (fun(m:Ad×Int)=>AB (m.1,m.2))) (.br (b.Kind==4) (.bind 3 t (fun(r:Int)=>.bind 46 (MO a (⟨2,CE,0,0,r,0,0,0,0,0,0⟩:AO) e) (fun(n:Ad×Int)=>AB (n.1,n.2)))) (.br (b.Kind==6) (.bind 46 (MO a (⟨8,CE,0,0,0,0,0,0,63,0,0⟩:AO) e) (fun(o:Ad×Int)=>AB (o.1,o.2))) (.br (b.Kind==7) (.bind 46 (MO a (⟨12,CE,0,0,0,0,0,0,0,11,0⟩:AO) e) (fun(p:Ad×Int)=>AB (p.1,p.2))) (.br (b.Kind==8) (.bind 46 (MO a (⟨18,CE,0,0,0,0,0,0,0,0,0⟩:AO) e) (fun(q:Ad×Int)=>AB (q.1,q.2))) (.br (b.Kind==9) (.bind 3 t (fun(s:Int)=>.bind 46 (MO a (⟨20,CE,0,0,0,0,0,0,0,0,s⟩:AO) e) (fun(f:Ad×Int)=>AB (f.1,f.2)))) (.br (b.Kind==12) (.bind 46 (MO a (⟨15,b.BL,0,0,0,0,0,0,0,0,0⟩:AO) e) (fun(g:Ad×Int)=>AB (g.1,g.2))) (.br (b.Kind==5) (.br (b.Key==0) (AB (a,17)) (.bind 46 (MO a (⟨3,CE,0,0,0,0,a.Hq,b.Number,0,0,0⟩:AO) e) (fun(c:Ad×Int)=>.br (c.2==0) (AP (.b1 c.2 EM ({ c.1 with Key:=b.Key }:Ad))) (AP (.b1 c.2 EM c.1))))) (.br (b.Kind==10) (.bind 46 (Z3l a b.Key) (fun(h:Ad×Int)=>AB (h.1,h.2))) (.br (b.Kind==13) (.br (a.CB != 0) (AB (a,9)) (.bind 26 (Z0V a.DJ a.Df.Map (2:Int)) (fun(i:Int)=>.br (i==a.Df.Map) (AB (a,0)) (.bind 46 (MO a (⟨1,CE,i,0,0,0,0,0,0,0,0⟩:AO) e) (fun(d:Ad×Int)=>.br (d.2==0) (.bind 42 (Z26 a.DJ) (fun(j:List BO)=>AP (.b2 d.2 EM ({ d.1 with DJ:=j }:Ad)))) (AP (.b2 d.2 EM d.1))))))) (AB (a,12))))))))))))))
 | .b1 a c b=>AB (b,a)
 | .b2 a c b=>AB (b,a)
def iO (a:Ad) (b:Hw) (c:Int):Option (Ad×Int):=AU Zgf (.b0 a b c)
def Zel:Lay:=LT [6,8,9] [.p 0,.p 1,.v 45] [.s 44,.s 44]
def Zeq:Lay:=LT [6,11,12] [.p 0,.p 1,.v 45] [.s 44,.s 44]
def ZAB:iR->BH U
 | .b0 a b c=>Bg f33 [44,83,3] (a,b,c,())
 | .b1 a b c=>AA3 f33 [1,1,0,1,0,1,1,1,1,1,1,1,1,1,1,1,1,1,1,1,1,1,1,1,0,1,1,1,0] Zel (a,b,c,())
 | .b2 a b c=>AA3 f33 [1,1,0,1,0,1,1,1,1,1,1,1,1,1,1,1,1,1,1,1,1,1,1,1,1,1,1,1,0,1,1,1,1,1,0] Zeq (a,b,c,())
theorem ZAF:AA1 33 [44,83,3] 46 (fun x=>iO x.1 x.2.1 x.2.2.1) rfl:=Bj (mc Zvw (mc Zua (mc ZsH (mc ZxT (mc Zqw (mc ZsU Ag)))))) Af (al [(28,Zel),(40,Zeq)]) ZAB func33 (fun p=>by cases p<;>kernel_rfl) (by kernel_rfl) fun _=>rfl
def rP:S1 (Int×(List Int)×Unit) ((List Int)×Int)
 | (c,a,_)=>let k:=(↑a.length:Int);let i:=([]:List Int);let e:=AQ (k - 3);let j:=Int.toNat e;let h:=(a.drop j).take (a.length - j);let g:=(decide (0<=e/\e<=k));let f:=(a.drop 0).take (j - 0);.br (decide (e<0)) (.chk true (AB (i,(3:Int)))) (.chk g (.chk (NG U 5 h) (.chk g (.bind 22 (iC c f) (fun(d:Int)=>.bind 62 (eQ d) (fun(b:List Int)=>.chk (NG U 5 b) (.br (!((strOf U 5 h).toList==(strOf U 5 b).toList)) (.chk true (AB (i,(10:Int)))) (.chk g (.chk true (.chk (kA (0+f.length) 1) (kl (i++f) (AB ((i++f),(0:Int))))))))))))))
def qP (a:Int) (b:List Int):Option ((List Int)×Int):=AU rP (a,b,())
theorem Ztb:AA1 114 [22,62] 120 (fun x=>qP x.1 x.2.1) rfl:=ok1 (mc ZcP (mc Zek Ag)) Af func114 (fun _=>by kernel_rfl) (by kernel_rfl)
inductive bZ where
 | b0 (a:List Int)
 | b1 (a:BM)
 | b2 (a:List Int) (b c d:Int) (e:BM)
def Vs:bZ->Tr U ((BM×Int)⊕bZ)
 | .b0 a=>.br (decide ((↑a.length:Int)<2)) (AB (Dk,3)) (.chk (kI (0:Int) a) (.bind 5 (a[(Int.toNat 0)]?) (fun(b:Int)=>let f:=AQ (b);let d:=Int.tmod f 4;.chk (kI (1:Int) a) (.bind 5 (a[(Int.toNat 1)]?) (fun(c:Int)=>let e:=AP (bZ.b2 a f (AQ (c)) d Dk);.br (decide (f>=32)) (AB (Dk,2)) (.br (d==0) (AB (Dk,12)) (.br ((AQ (c))==0) (.br (d != 1) (AP (.b1 Dk)) e) e)))))))
 | .b1 a=>AB (Dk,1)
 | .b2 a b c d e=>let i:=Int.toNat 2;let g:=(↑a.length:Int);let j:=AQ (g - 2);let f:=(a.drop i).take (a.length - i);let h:=([]:List Int)++f;.br (decide (j<c)) (AB (Dk,3)) (.br (decide (j>c)) (AB (Dk,2)) (.chk (decide (0<=(2:Int)/\(2:Int)<=g)) (.chk true (.chk (kA (0+f.length) 1) (kl h (AB ((⟨(Int.tmod (AQ (Int.tdiv b 8)) (2:Int)),(Int.tmod (AQ (Int.tdiv b 4)) (2:Int)),(Int.tmod (AQ (Int.tdiv b 16)) (2:Int)),(⟨d,h⟩:Az)⟩:BM),(0:Int))))))))
def qB (a:List Int):Option (BM×Int):=AU Vs (.b0 a)
def Zan:Lay:=LT [2] [.p 0] [.s 70]
def Z9M:Lay:=LT [0,2,4,5,6] [.v 62,.p 0,.v 3,.v 3,.v 3] [.s 70]
def Zsq:bZ->BH U
 | .b0 a=>Bg f115 [62] (a,())
 | .b1 a=>AA3 f115 [1,1,1,1,1,1,0,1,0,0] Zan (a,())
 | .b2 a b c d e=>AA3 f115 [1,1,1,1,1,1,1,0,0] Z9M (a,b,c,d,e,())
theorem Zse:AA1 115 [62] 71 (fun x=>qB x.1) rfl:=Bj Ag Af (al [(10,Zan),(11,Z9M)]) Zsq func115 (fun p=>by cases p<;>kernel_rfl) (by kernel_rfl) fun _=>rfl
def Z2r:S1 ((List Int)×(List Int)×Unit) Bool
 | (a,b,_)=>.chk (NG U 5 a) (.chk (NG U 5 b) (AB ((strOf U 5 a).toList==(strOf U 5 b).toList)))
def uB (a b:List Int):Option Bool:=AU Z2r (a,b,())
theorem Zv8:AA1 278 [62,62] 4 (fun x=>uB x.1 x.2.1) rfl:=ok1 Ag Af func278 (fun _=>by kernel_rfl) (by kernel_rfl)
def tV:S1 (Int×Int×(List Int)×(List Int)×Unit) ((List Int)×Int)
 | (b,c,e,a,_)=>let n:=([]:List Int);let m:=(↑a.length:Int);let i:=AQ (m - 4);let k:=Int.toNat i;let l:=(a.drop 0).take (k - 0);let j:=(decide (0<=i/\i<=m));.br (decide (i<0)) (.chk true (AB (n,(3:Int)))) (.chk j (.bind 62 (fQ b c e l) (fun(f:List Int)=>.chk j (.bind 4 (uB f ((a.drop k).take (a.length - k))) (fun(g:Bool)=>.br (!g) (.chk true (AB (n,(15:Int)))) (.bind 62 (aV b c i) (fun(h:List Int)=>.bind 1350 (fU l h) (fun(d:QO)=>kl d.q0 (AB (d.q0,0))))))))))
def sJ (a b:Int) (c d:List Int):Option ((List Int)×Int):=AU tV (a,b,c,d,())
theorem Zww:AA1 211 [29,25,62,62] 120 (fun x=>sJ x.1 x.2.1 x.2.2.1 x.2.2.2.1) rfl:=ok1 (mc ZaT (mc ZeG (mc Zv8 Ag))) (hc [] Zep Af) func211 (fun _=>by kernel_rfl) (by kernel_rfl)
def Z2l:S1 (Int×Unit) Int
 | (a,_)=>.br (a==1) (AB (0:Int)) (AB (1:Int))
def rU (a:Int):Option Int:=AU Z2l (a,())
theorem Ztp:AA1 212 [3] 3 (fun x=>rU x.1) rfl:=ok1 Ag Af func212 (fun _=>by kernel_rfl) (by kernel_rfl)
inductive fB where
 | b0 (a:Bq) (b:BM)
 | b1 (a:Bq) (b c:BM)
def eX:fB->Tr U ((BM×Int)⊕fB)
 | .b0 b a=>.bind 45 (QE a) (fun(c:Int)=>.br (c != 0) (AB (Dk,c)) (.br (!b.IY) (AB (a,0)) (.bind 4 (UU a.Aw) (fun(d:Bool)=>.br d (AB (a,0)) (AP (.b1 b a Dk))))))
 | .b1 a b g=>.br (decide ((↑b.Aw.Payload.length:Int)<5)) (AB (Dk,3)) (.bind 3 (rU a.CB) (fun(d:Int)=>.bind 25 (dX a d a.Rx) (fun(e:Int)=>.chk true (.bind 120 (sJ a.Key e ([(IntKind.wrap .u8 (b.Aw.Bz))]) b.Aw.Payload) (fun(c:(List Int)×Int)=>.br (c.2 != 0) (AB (Dk,c.2)) (.bind 70 (fH b c.1) (fun(f:BM)=>AB (f,0))))))))
def tZ (a:Bq) (b:BM):Option (BM×Int):=AU eX (.b0 a b)
def Zcs:Lay:=LT [2,3,4] [.p 0,.p 1,.p 2] [.s 41,.s 70,.s 70]
def Zxg:fB->BH U
 | .b0 a b=>Bg f117 [41,70] (a,b,())
 | .b1 a b c=>AA3 f117 [1,1,1,0,0] Zcs (a,b,c,())
theorem Zx9:AA1 117 [41,70] 71 (fun x=>tZ x.1 x.2.1) rfl:=Bj (mc qC (mc Vw (mc ZcO (mc ZbD (mc Zww (mc Ztp Ag)))))) Af (al [(6,Zcs)]) Zxg func117 (fun p=>by cases p<;>kernel_rfl) (by kernel_rfl) fun _=>rfl
inductive fE where
 | b0 (a:BR) (b:BM)
 | b1 (a:BR) (b:BM) (c:BR) (d:Az)
 | b2 (a:Bool) (b:BR) (c:BM) (d:BR) (e:Az)
 | b3 (a:Bool) (b:BR) (c:BM) (d:BR) (e:Az)
 | b4 (a:Bool) (b:BR) (c:BM) (d:BR) (e:Az)
 | b5 (a:Bool) (b c:BR) (d:Az)
def Me:fE->Tr U ((BR×Az×Bool×Bool)⊕fE)
 | .b0 a b=>let e:=(⟨0,([]:List Int)⟩:Az);let d:=AP (fE.b2 false a b KJ e);.bind 45 (QE b) (fun(c:Int)=>.br (c != 0) (AB (a,(⟨0,[]⟩:Az),false,false)) (.br a.Open (.br (b.EI != a.SN) (AP (.b1 a b KJ e)) d) d))
 | .b1 a b c d=>let e:=({ a with SN:=(AQ ((1:Int) - a.SN)) }:BR);let f:=AP (fE.b4 true e b c d);.br (!a.Empty) (.br (decide ((↑a.Ap.length:Int)>0)) (AP (.b3 true e b c d)) f) f
 | .b2 b a c d e=>let g:=AQ ((1:Int) - a.EI);.br (c.SN==a.EI) (.bind 4 (aO c.Aw) (fun(f:Bool)=>.br (!f) (AB (({ a with EI:=g,Taken:=(AQ (a.Taken+1)) }:BR),c.Aw,true,b)) (AP (.b5 b ({ a with EI:=g }:BR) d e)))) (AP (.b5 b a d e))
 | .b3 b a c d e=>let h:=Int.toNat 1;let f:=(a.Ap.drop h).take (a.Ap.length - h);let g:=([]:List Az)++f;.chk (decide (0<=(1:Int)/\(1:Int)<=(↑a.Ap.length:Int))) (.chk true (.chk (kA (0+f.length) 32) (kl g (AP (.b4 b ({ a with Ap:=g,EX:=(AQ (a.EX+1)) }:BR) c d e)))))
 | .b4 a b c d e=>AP (.b2 a ({ b with Open:=false,Empty:=false }:BR) c d e)
 | .b5 a b c d=>AB (b,(⟨0,[]⟩:Az),false,a)
def uD (a:BR) (b:BM):Option (BR×Az×Bool×Bool):=AU Me (.b0 a b)
def Zcg:Lay:=LT [2,3,4,5] [.p 0,.p 1,.p 2,.p 3] [.s 33,.s 70,.s 33,.s 68]
def Vu:Lay:=LT [2,3,4,5,7] [.p 0,.p 1,.p 2,.p 3,.v 4] [.s 33,.s 70,.s 33,.s 68]
def Zce:Lay:=LT [2,4,5,7] [.p 0,.p 1,.p 2,.v 4] [.s 33,.s 33,.s 68]
def ZuX:fE->BH U
 | .b0 a b=>Bg f118 [33,70] (a,b,())
 | .b1 a b c d=>AA3 f118 [1,1,0,1,0,0] Zcg (a,b,c,d,())
 | .b2 a b c d e=>AA3 f118 [1,1,1,0,0] Vu (a,b,c,d,e,())
 | .b3 a b c d e=>AA3 f118 [1,1,0,1,0,1,1,0,1,0,0] Vu (a,b,c,d,e,())
 | .b4 a b c d e=>AA3 f118 [1,1,0,1,0,1,1,1] Vu (a,b,c,d,e,())
 | .b5 a b c d=>AA3 f118 [1,1,1,1,0] Zce (a,b,c,d,())
theorem Zv6:AA1 118 [33,70] 163 (fun x=>uD x.1 x.2.1) rfl:=Bj (mc Vw (mc Z9G Ag)) Af (al [(4,Zcg),(10,Vu),(7,Vu),(9,Vu),(15,Zce)]) ZuX func118 (fun p=>by cases p<;>kernel_rfl) (by kernel_rfl) fun _=>rfl
inductive fJ where
 | b0 (a:Bq) (b c:Bool)
 | b1 (a:Bool) (b c:Bq)
 | b2 (a:Bool) (b c:Bq)
 | b3 (a b:Bq)
def Zed:fJ->Tr U (Bq⊕fJ)
 | .b0 a c b=>let d:=AP (fJ.b2 b a MG);.br c (.br a.Nh (AP (.b1 b a MG)) d) d
 | .b1 b a c=>AP (.b2 b ({ a with Tx:=(IntKind.wrap .u64 (a.Tx+1)) }:Bq) c)
 | .b2 b a c=>.br b (.br a.IY (AP (.b3 a c)) (AB a)) (AB a)
 | .b3 a b=>AB ({ a with Rx:=(IntKind.wrap .u64 (a.Rx+1)) }:Bq)
def tH (a:Bq) (b c:Bool):Option Bq:=AU Zed (.b0 a b c)
def pY:Lay:=LT [2,3,6] [.v 4,.p 0,.p 1] [.s 41,.s 41]
def Zc5:Lay:=LT [3,6] [.p 0,.p 1] [.s 41,.s 41]
def Zxi:fJ->BH U
 | .b0 a b c=>Bg f120 [41,4,4] (a,b,c,())
 | .b1 a b c=>AA3 f120 [1,0,1,0] pY (a,b,c,())
 | .b2 a b c=>AA3 f120 [1,1,0,0] pY (a,b,c,())
 | .b3 a b=>AA3 f120 [1,1,0,1,0] Zc5 (a,b,())
theorem ZcV:AA1 120 [41,4,4] 41 (fun x=>tH x.1 x.2.1 x.2.2.1) rfl:=Bj Ag Af (al [(2,pY),(3,pY),(4,Zc5)]) Zxi func120 (fun p=>by cases p<;>kernel_rfl) (by kernel_rfl) fun _=>rfl
inductive fD where
 | b0 (a:Int)
 | b1 (a:Int) (b:CP)
 | b2 (a:Int) (b:CP)
 | b3 (a:Int) (b:CP)
 | b4 (a:Int) (b:CP)
 | b5 (a:Int) (b:CP)
 | b6 (a:Int) (b:CP)
 | b7 (a:Int) (b:CP)
 | b8 (a:Int) (b:CP)
def J6:fD->Tr U (Int⊕fD)
 | .b0 b=>.bind 262 (DU b) (fun(a:CP)=>.br a.BL (AP (.b1 (10:Int) a)) (AP (.b1 (1:Int) a)))
 | .b1 b a=>.br a.Map (AP (.b2 (AQ (b+5)) a)) (AP (.b2 b a))
 | .b2 b a=>.br a.DZ (AP (.b3 (AQ (b+2)) a)) (AP (.b3 b a))
 | .b3 b a=>let c:=AP (fD.b4 b a);.br a.CQ c (.br a.Version c (.br a.Length c (AP (.b5 b a))))
 | .b4 a b=>AP (.b5 (AQ (a+1)) b)
 | .b5 b a=>.br a.ER (AP (.b6 (AQ (b+1)) a)) (AP (.b6 b a))
 | .b6 b a=>let c:=AP (fD.b7 b a);.br a.CZ c (.br a.D7 c (AP (.b8 b a)))
 | .b7 a b=>AP (.b8 (AQ (a+8)) b)
 | .b8 a b=>.br b.Mark (AB (AQ (a+8))) (AB a)
def JG (a:Int):Option Int:=AU J6 (.b0 a)
def JW:Lay:=LT [3,4] [.p 0,.v 3] [.s 262]
def Zwf:fD->BH U
 | .b0 a=>Bg f279 [3] (a,())
 | .b1 a b=>AA3 f279 [1,1,1,1,0,0] JW (a,b,())
 | .b2 a b=>AA3 f279 [1,1,1,1,1,0,0] JW (a,b,())
 | .b3 a b=>AA3 f279 [1,1,1,1,1,1,0,0] JW (a,b,())
 | .b4 a b=>AA3 f279 [1,1,1,1,1,1,0,1,0] JW (a,b,())
 | .b5 a b=>AA3 f279 [1,1,1,1,1,1,1,0,0] JW (a,b,())
 | .b6 a b=>AA3 f279 [1,1,1,1,1,1,1,1,0,0] JW (a,b,())
 | .b7 a b=>AA3 f279 [1,1,1,1,1,1,1,1,0,1,0] JW (a,b,())
 | .b8 a b=>AA3 f279 [1,1,1,1,1,1,1,1,1,0,0] JW (a,b,())
theorem Zxn:AA1 279 [3] 3 (fun x=>JG x.1) rfl:=Bj (mc RX Ag) Af (al [(5,JW),(7,JW),(9,JW),(10,JW),(11,JW),(13,JW),(14,JW),(15,JW)]) Zwf func279 (fun p=>by cases p<;>kernel_rfl) (by kernel_rfl) fun _=>rfl
inductive gQ where
 | b0 (a:List Int) (b c:Int)
 | b1 (a:List Int) (b c d:Int)
def Wq:gQ->Tr U (Int⊕gQ)
 | .b0 a b c=>AP (.b1 a b (0:Int) (AQ (c - 1)))
 | .b1 b c d a=>.br (decide (a>=0)) (.chk (kI (AQ (c+a)) b) (.bind 5 (b[(Int.toNat (AQ (c+a)))]?) (fun(e:Int)=>AP (.b1 b c (IntKind.wrap .u64 ((IntKind.wrap .u64 (d*256))+(IntKind.wrap .u64 (e)))) (AQ (a - 1)))))) (AB d)
def Gh (a:List Int) (b c:Int):Option Int:=AU Wq (.b0 a b c)
def ZcW:Lay:=LT [0,1,7,8] [.v 62,.v 3,.v 25,.v 3] []
def ZyD:gQ->BH U
 | .b0 a b c=>Bg f345 [62,3,3] (a,b,c,())
 | .b1 a b c d=>AA3 f345 [1,1,0,1,0,0,0,0] ZcW (a,b,c,d,())
theorem Zej:AA1 345 [62,3,3] 25 (fun x=>Gh x.1 x.2.1 x.2.2.1) rfl:=Bj Ag Af (al [(3,ZcW)]) ZyD func345 (fun p=>by cases p<;>kernel_rfl) (by kernel_rfl) fun _=>rfl
def Z0l:S1 ((List Int)×Int×Unit) DR
 | (a,b,_)=>.bind 25 (Gh a b (1:Int)) (fun(c:Int)=>.bind 25 (Gh a (AQ (b+1)) (2:Int)) (fun(d:Int)=>.bind 25 (Gh a (AQ (b+3)) (2:Int)) (fun(e:Int)=>.bind 25 (Gh a (AQ (b+5)) (2:Int)) (fun(f:Int)=>.bind 25 (Gh a (AQ (b+7)) (2:Int)) (fun(g:Int)=>AB (⟨(AQ (c)),(AQ (d)),(AQ (e)),(AQ (f)),(AQ (g))⟩:DR))))))
def nU (a:List Int) (b:Int):Option DR:=AU Z0l (a,b,())
theorem ZnU:AA1 344 [62,3] 24 (fun x=>nU x.1 x.2.1) rfl:=ok1 (mc Zej Ag) Af func344 (fun _=>by kernel_rfl) (by kernel_rfl)
inductive dD where
 | b0 (a:AO) (b:List Int)
 | b1 (a:List Int) (b:Int) (c d:AO) (e:CP)
 | b2 (a:List Int) (b:Int) (c d:AO) (e:CP)
 | b3 (a:List Int) (b:Int) (c d:AO) (e:CP)
 | b4 (a:List Int) (b:Int) (c d:AO) (e:CP)
 | b5 (a:List Int) (b:Int) (c d:AO) (e:CP)
 | b6 (a:List Int) (b:Int) (c d:AO) (e:CP)
 | b7 (a:List Int) (b:Int) (c d:AO) (e:CP)
 | b8 (a:List Int) (b:Int) (c d:AO) (e:CP)
 | b9 (a:List Int) (b:Int) (c d:AO) (e:CP)
def J5:dD->Tr U (AO⊕dD)
 | .b0 a b=>.bind 262 (DU a.Kind) (fun(c:CP)=>.br c.BL (.bind 24 (nU b (1:Int)) (fun(d:DR)=>AP (.b1 b (10:Int) ({ a with BL:=d }:AO) EZ c))) (AP (.b1 b (1:Int) a EZ c)))
 | .b1 a b d e c=>.br c.Map (.bind 25 (Gh a b (5:Int)) (fun(f:Int)=>AP (.b2 a (AQ (b+5)) ({ d with Map:=f }:AO) e c))) (AP (.b2 a b d e c))
 | .b2 a b d e c=>.br c.DZ (.bind 25 (Gh a b (2:Int)) (fun(f:Int)=>AP (.b3 a b ({ d with DZ:=(IntKind.wrap .u16 (f)) }:AO) e c))) (AP (.b3 a b d e c))
 | .b3 a b d e c=>.br c.CQ (.chk (kI b a) (.bind 5 (a[(Int.toNat b)]?) (fun(f:Int)=>AP (.b4 a (AQ (b+1)) ({ d with CQ:=(AQ (f)) }:AO) e c)))) (AP (.b4 a b d e c))
 | .b4 a b d e c=>.br c.ER (.chk (kI b a) (.bind 5 (a[(Int.toNat b)]?) (fun(f:Int)=>AP (.b5 a b ({ d with ER:=(AQ (f)) }:AO) e c)))) (AP (.b5 a b d e c))
 | .b5 a b d e c=>.br c.CZ (.bind 25 (Gh a b (8:Int)) (fun(f:Int)=>AP (.b6 a (AQ (b+8)) ({ d with CZ:=f }:AO) e c))) (AP (.b6 a b d e c))
 | .b6 a b d e c=>.br c.Mark (.bind 25 (Gh a b (8:Int)) (fun(f:Int)=>AP (.b7 a b ({ d with Mark:=f }:AO) e c))) (AP (.b7 a b d e c))
 | .b7 a b d e c=>.br c.D7 (.bind 25 (Gh a b (8:Int)) (fun(f:Int)=>AP (.b8 a b ({ d with D7:=f }:AO) e c))) (AP (.b8 a b d e c))
 | .b8 a b d e c=>.br c.Version (.chk (kI b a) (.bind 5 (a[(Int.toNat b)]?) (fun(f:Int)=>AP (.b9 a b ({ d with Version:=(AQ (f)) }:AO) e c)))) (AP (.b9 a b d e c))
 | .b9 a b c f d=>.br d.Length (.chk (kI b a) (.bind 5 (a[(Int.toNat b)]?) (fun(e:Int)=>AB ({ c with Length:=(AQ (e)) }:AO)))) (AB c)
def WC (a:AO) (b:List Int):Option AO:=AU J5 (.b0 a b)
def Ir:Lay:=LT [1,2,4,5,6] [.v 62,.p 0,.p 1,.p 2,.v 3] [.s 156,.s 156,.s 262]
def Zu6:dD->BH U
 | .b0 a b=>Bg f280 [156,62] (a,b,())
 | .b1 a b c d e=>AA3 f280 [1,1,1,1,0,0] Ir (a,b,c,d,e,())
 | .b2 a b c d e=>AA3 f280 [1,1,1,1,1,0,0] Ir (a,b,c,d,e,())
 | .b3 a b c d e=>AA3 f280 [1,1,1,1,1,1,0,0] Ir (a,b,c,d,e,())
 | .b4 a b c d e=>AA3 f280 [1,1,1,1,1,1,1,0,0] Ir (a,b,c,d,e,())
 | .b5 a b c d e=>AA3 f280 [1,1,1,1,1,1,1,1,0,0] Ir (a,b,c,d,e,())
 | .b6 a b c d e=>AA3 f280 [1,1,1,1,1,1,1,1,1,0,0] Ir (a,b,c,d,e,())
 | .b7 a b c d e=>AA3 f280 [1,1,1,1,1,1,1,1,1,1,0,0] Ir (a,b,c,d,e,())
 | .b8 a b c d e=>AA3 f280 [1,1,1,1,1,1,1,1,1,1,1,0,0] Ir (a,b,c,d,e,())
 | .b9 a b c d e=>AA3 f280 [1,1,1,1,1,1,1,1,1,1,1,1,0,0] Ir (a,b,c,d,e,())
theorem Zu4:AA1 280 [156,62] 156 (fun x=>WC x.1 x.2.1) rfl:=Bj (mc RX (mc ZnU (mc Zej Ag))) Af (al [(6,Ir),(9,Ir),(11,Ir),(14,Ir),(16,Ir),(19,Ir),(21,Ir),(23,Ir),(25,Ir)]) Zu6 func280 (fun p=>by cases p<;>kernel_rfl) (by kernel_rfl) fun _=>rfl
def qL:S1 ((List Int)×Unit) (AO×Int)
 | (a,_)=>let h:=(↑a.length:Int);.br (h==0) (AB (EZ,3)) (.chk (kI (0:Int) a) (.bind 5 (a[(Int.toNat 0)]?) (fun(b:Int)=>let i:=AQ (b);.bind 262 (DU i) (fun(e:CP)=>.br (!e.Fq) (AB (EZ,12)) (.bind 3 (JG i) (fun(f:Int)=>.br (decide (h<f)) (AB (EZ,3)) (.bind 3 (JG i) (fun(g:Int)=>.br (decide (h>g)) (AB (EZ,2)) (.bind 156 (WC (⟨i,CE,0,0,0,0,0,0,0,0,0⟩:AO) a) (fun(c:AO)=>.bind 45 (JZ c) (fun(d:Int)=>.br (d != 0) (AB (EZ,d)) (AB (c,0)))))))))))))
def OC (a:List Int):Option (AO×Int):=AU qL (a,())
theorem Zav:AA1 214 [62] 231 (fun x=>OC x.1) rfl:=ok1 (mc Z1z (mc RX (mc Zxn (mc Zu4 Ag)))) Af func214 (fun _=>by kernel_rfl) (by kernel_rfl)
inductive fG where
 | b0 (a:AZ) (b:AO)
 | b1 (a:AZ) (b:AO) (c:AZ)
 | b2 (a:AZ) (b:AO) (c:AZ)
 | b3 (a b:AZ)
def ZeW:fG->Tr U ((AZ×(List Au))⊕fG)
 | .b0 a b=>let c:=AP (fG.b2 a b ED);.br (a.Eb==0) (.br (a.Own==2) (.br (b.Kind==2) (AP (.b1 a b ED)) c) c) c
 | .b1 a b c=>AP (.b2 ({ a with Eb:=22 }:AZ) b c)
 | .b2 a b c=>let e:=Tr.chk true (AB (a,([]:List Au)));.bind 4 (Rh b.Kind) (fun(d:Bool)=>.br d (.br (a.Own==b.Kind) (AP (.b3 a c)) e) e)
 | .b3 a b=>.chk true (AB (({ a with Told:=true }:AZ),([]:List Au)))
def Z2P (a:AZ) (b:AO):Option (AZ×(List Au)):=AU ZeW (.b0 a b)
def qM:Lay:=LT [2,3,4] [.p 0,.p 1,.p 2] [.s 39,.s 156,.s 39]
def Zco:Lay:=LT [2,4] [.p 0,.p 1] [.s 39,.s 39]
def Zv7:fG->BH U
 | .b0 a b=>Bg f215 [39,156] (a,b,())
 | .b1 a b c=>AA3 f215 [1,0,1,0] qM (a,b,c,())
 | .b2 a b c=>AA3 f215 [1,1,0,0] qM (a,b,c,())
 | .b3 a b=>AA3 f215 [1,1,0,1,0] Zco (a,b,())
theorem ZvO:AA1 215 [39,156] 233 (fun x=>Z2P x.1 x.2.1) rfl:=Bj (mc Vt Ag) Af (al [(2,qM),(3,qM),(4,Zco)]) Zv7 func215 (fun p=>by cases p<;>kernel_rfl) (by kernel_rfl) fun _=>rfl
end
end Go.Proofs.YtjodhcdmhobmoaaGreatDoor
