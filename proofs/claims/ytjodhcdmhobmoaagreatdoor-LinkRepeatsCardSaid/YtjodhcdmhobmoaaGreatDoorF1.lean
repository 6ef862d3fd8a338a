/- A part of it. -/
import Derived.Test.YtjodhcdmhobmoaaGreatDoorRUn
set_option linter.unusedVariables false
set_option linter.unusedSimpArgs false
namespace Go.Proofs.YtjodhcdmhobmoaaGreatDoor
open Tryz
open Go Go.Proofs.YtjodhcdmhobmoaaGreatDoor.Le
set_option maxRecDepth 100000
noncomputable section
inductive Zc where
 | b0 (a b:Aw)
def Z6S:Zc->Tr U (Bool⊕Zc)
 | .b0 a b=>.br (a.Ba==b.Ba) (.chk (MB U 5 a.Payload) (.chk (MB U 5 b.Payload) (AA ((strOf U 5 a.Payload).toList==(strOf U 5 b.Payload).toList)))) (AA false)
def UG (a b:Aw):Option Bool:=AV Z6S (.b0 a b)
def Zk0:Zc->Ac U
 | .b0 a b=>Ai f26 [68,68] (a,b,())
theorem Z6D:AA1 26 [68,68] 4 (fun x=>UG x.1 x.2.1) rfl:=Aj Ag Ah AN Zk0 func26 (fun p=>by cases p<;>kernel_rfl) (by kernel_rfl) fun _=>rfl
inductive yS where
 | b0 (a b:List Aw)
 | b1 (a b:List Aw) (c:Int)
def Wq:yS->Tr U (Bool⊕yS)
 | .b0 a b=>.br ((↑a.length:Int) != (↑b.length:Int)) (AA false) (AO (.b1 a b (0:Int)))
 | .b1 b c a=>let g:=Int.toNat a;.br (decide (a<(↑b.length:Int))) (.chk (kI a b) (.bind 68 (b[g]?) (fun(d:Aw)=>.chk (kI a c) (.bind 68 (c[g]?) (fun(e:Aw)=>.bind 4 (UG d e) (fun(f:Bool)=>.br (!f) (AA false) (AO (.b1 b c (AP (a+1)))))))))) (AA true)
def yY (a b:List Aw):Option Bool:=AV Wq (.b0 a b)
def Z5K:Lay:=⟨[0,1,5],[[.s 68 2],[.s 68 2],KP],[],⟨[OV 31,OV 31,OV 3],[]⟩⟩
def ZjJ:Nat->Option Lay
 | 4=>some Z5K
 | _=>none
def ZhQ:yS->Ac U
 | .b0 a b=>Ai f49 [31,31] (a,b,())
 | .b1 a b c=>AA3 f49 [1,1,0,1,0,0,0,0] Z5K (a,b,c,())
theorem Zj7:AA1 49 [31,31] 4 (fun x=>yY x.1 x.2.1) rfl:=Aj (mc Z6D Ag) Ah ZjJ ZhQ func49 (fun p=>by cases p<;>kernel_rfl) (by kernel_rfl) fun _=>rfl
inductive yO where
 | b0 (a b:List AL)
 | b1 (a b:List AL) (c:Int)
def WZ:yO->Tr U (Bool⊕yO)
 | .b0 a b=>.br ((↑a.length:Int) != (↑b.length:Int)) (AA false) (AO (.b1 a b (0:Int)))
 | .b1 b c a=>let f:=Int.toNat a;.br (decide (a<(↑b.length:Int))) (.chk (kI a b) (.bind 156 (b[f]?) (fun(d:AL)=>.chk (kI a c) (.bind 156 (c[f]?) (fun(e:AL)=>.br (!(Gn d e)) (AA false) (AO (.b1 b c (AP (a+1))))))))) (AA true)
def kH (a b:List AL):Option Bool:=AV WZ (.b0 a b)
def Z5t:Lay:=⟨[0,1,5],[[.s 156 15],[.s 156 15],KP],[],⟨[OV 36,OV 36,OV 3],[]⟩⟩
def ZiZ:Nat->Option Lay
 | 4=>some Z5t
 | _=>none
def Zh1:yO->Ac U
 | .b0 a b=>Ai f51 [36,36] (a,b,())
 | .b1 a b c=>AA3 f51 [1,1,0,1,0,0,0,0] Z5t (a,b,c,())
theorem Z5V:AA1 51 [36,36] 4 (fun x=>kH x.1 x.2.1) rfl:=Aj Ag Ah ZiZ Zh1 func51 (fun p=>by cases p<;>kernel_rfl) (by kernel_rfl) fun _=>rfl
inductive ZF where
 | b0 (a b:Aa)
 | b1 (a b:Aa)
 | b2 (a:Int) (b c:Aa)
def XD:ZF->Tr U (Bool⊕ZF)
 | .b0 a b=>.bind 4 (kH a.BJ b.BJ) (fun(c:Bool)=>.br (!c) (AA false) (.br ((↑a.CO.length:Int) != (↑b.CO.length:Int)) (AA false) (AO (.b1 a b))))
 | .b1 a b=>AO (.b2 (0:Int) a b)
 | .b2 e a b=>let g:=Int.toNat e;let f:=AA false;.br (decide (e<(↑a.CO.length:Int))) (.chk (kI e a.CO) (.bind 138 (a.CO[g]?) (fun(c:BP)=>.chk (kI e b.CO) (.bind 138 (b.CO[g]?) (fun(d:BP)=>.br (!((c.Kind==d.Kind)&&((c.DF==d.DF)&&((c.BI.ET==d.BI.ET)&&((c.BI.ES==d.BI.ES)&&((c.BI.Dl==d.BI.Dl)&&((c.BI.Dx==d.BI.Dx)&&((c.BI.Ea==d.BI.Ea)&&((c.Map==d.Map)&&true))))))))) f (AO (.b2 (AP (e+1)) a b))))))) (.br (a.Bz==b.Bz) (.br (a.Own==b.Own) (.br (a.Since==b.Since) (.br (a.Other==b.Other) (.br (a.JC==b.JC) (.br (a.CW==b.CW) (.br (a.MI==b.MI) (.br (a.Hm==b.Hm) (.br (a.Told==b.Told) (.br (a.JV==b.JV) (.br (a.Version==b.Version) (.br (a.Length==b.Length) (.br (a.Limit==b.Limit) (.br (a.Bq==b.Bq) (.br (a.Jc==b.Jc) (.br (a.Mark==b.Mark) (.br (a.EJ==b.EJ) (AA (a.GR==b.GR)) f) f) f) f) f) f) f) f) f) f) f) f) f) f) f) f) f)
def Zx (a b:Aa):Option Bool:=AV XD (.b0 a b)
def Z6A:Lay:=⟨[2,3],[KP,KP],[.var k1,.var k1],⟨[PQ 0,PQ 1],[VA 39 20,VA 39 20]⟩⟩
def Z6G:Lay:=⟨[2,3,5],[KP,KP,KP],[.var k1,.var k1],⟨[PQ 0,PQ 1,OV 3],[VA 39 20,VA 39 20]⟩⟩
def Zl3:Nat->Option Lay
 | 3=>some Z6A
 | 4=>some Z6G
 | _=>none
def Zkp:ZF->Ac U
 | .b0 a b=>Ai f50 [39,39] (a,b,())
 | .b1 a b=>AA3 f50 [1,1,0,0] Z6A (a,b,())
 | .b2 a b c=>AA3 f50 [1,1,0,1,0,0,0,0] Z6G (a,b,c,())
theorem Zkl:AA1 50 [39,39] 4 (fun x=>Zx x.1 x.2.1) rfl:=Aj (mc Z5V Ag) Ah Zl3 Zkp func50 (fun p=>by cases p<;>kernel_rfl) (by kernel_rfl) fun _=>rfl
inductive Z1G where
 | b0 (a b:A8)
 | b1 (a:Int) (b c:A8)
 | b2 (a b:A8)
 | b3 (a b:A8)
 | b4 (a b:A8)
def NJ:Z1G->Tr U (Bool⊕Z1G)
 | .b0 a b=>.br ((↑a.DI.length:Int) != (↑b.DI.length:Int)) (AA false) (AO (.b1 (0:Int) a b))
 | .b1 c a b=>let h:=Int.toNat c;let g:=AA false;.br (decide (c<(↑a.DI.length:Int))) (.chk (kI c a.DI) (.bind 99 (a.DI[h]?) (fun(d:BV)=>.chk (kI c b.DI) (.bind 99 (b.DI[h]?) (fun(e:BV)=>.br (!((d.Good==e.Good)&&((d.Nh==e.Nh)&&true))) g (AO (.b1 (AP (c+1)) a b))))))) (.br (a.Az.SN != b.Az.SN) g (.br (a.Az.Dp != b.Az.Dp) g (.bind 4 (yY a.Az.BA b.Az.BA) (fun(f:Bool)=>.br (!f) g (.br (!(a.Az.Open==b.Az.Open)) g (.br (!(a.Az.Empty==b.Az.Empty)) g (.br (a.Az.Fz != b.Az.Fz) g (.br (a.Az.Taken != b.Az.Taken) g (AO (.b2 a b))))))))))
 | .b2 a b=>let c:=AA false;.br (a.Bz != b.Bz) c (.br (!((a.Bl.IK==b.Bl.IK)&&((a.Bl.FQ==b.Bl.FQ)&&((a.Bl.BI.ET==b.Bl.BI.ET)&&((a.Bl.BI.ES==b.Bl.BI.ES)&&((a.Bl.BI.Dl==b.Bl.BI.Dl)&&((a.Bl.BI.Dx==b.Bl.BI.Dx)&&((a.Bl.BI.Ea==b.Bl.BI.Ea)&&((a.Bl.Map==b.Bl.Map)&&((a.Bl.Hop==b.Bl.Hop)&&((a.Bl.iY==b.Bl.iY)&&((a.Bl.KW==b.Bl.KW)&&true)))))))))))) c (.br (a.Clock != b.Clock) c (.br (a.Event != b.Event) c (.br (a.Last != b.Last) c (.br (a.IL != b.IL) c (.br (a.Size != b.Size) c (.br (a.Sync != b.Sync) c (.br (a.J6 != b.J6) c (AO (.b3 a b))))))))))
 | .b3 a b=>let c:=AA false;.br (!(a.JH==b.JH)) c (.br (!(a.Jd==b.Jd)) c (.br (!(a.Good==b.Good)) c (.br (!(a.Fz==b.Fz)) c (.br (!(a.More==b.More)) c (.br (!((a.Hg.Dx==b.Hg.Dx)&&((a.Hg.SK==b.Hg.SK)&&((a.Hg.Full==b.Hg.Full)&&true)))) c (.br (!((a.DY.Bz==b.DY.Bz)&&((a.DY.Key==b.DY.Key)&&((a.DY.Bq==b.DY.Bq)&&((a.DY.Gm==b.DY.Gm)&&((a.DY.N9==b.DY.N9)&&((a.DY.Tx==b.DY.Tx)&&((a.DY.Rx==b.DY.Rx)&&true)))))))) c (AO (.b4 a b))))))))
 | .b4 a b=>let e:=AA false;.bind 4 (Zx a.Am b.Am) (fun(c:Bool)=>.br c (.br (a.Key==b.Key) (.bind 4 (kH a.BC b.BC) (fun(d:Bool)=>.br d (.br (a.Bd==b.Bd) (AA (a.Ic==b.Ic)) e) e)) e) e)
def Z29 (a b:A8):Option Bool:=AV NJ (.b0 a b)
def Z9e:Lay:=⟨[2,3,5],[KP,KP,KP],[.var k2,.var k2],⟨[PQ 0,PQ 1,OV 3],[VA 44 66,VA 44 66]⟩⟩
def U3:Lay:=⟨[2,3],[KP,KP],[.var k2,.var k2],⟨[PQ 0,PQ 1],[VA 44 66,VA 44 66]⟩⟩
def ZwS:Nat->Option Lay
 | 4=>some Z9e
 | 11=>some U3
 | 13=>some U3
 | 15=>some U3
 | _=>none
def ZqX:Z1G->Ac U
 | .b0 a b=>Ai f13 [44,44] (a,b,())
 | .b1 a b c=>AA3 f13 [1,1,0,1,0,0,0,0] Z9e (a,b,c,())
 | .b2 a b=>AA3 f13 [1,1,1,1,1,0,0] U3 (a,b,())
 | .b3 a b=>AA3 f13 [1,1,1,1,1,1,0,0] U3 (a,b,())
 | .b4 a b=>AA3 f13 [1,1,1,1,1,1,1,0] U3 (a,b,())
theorem Zra:AA1 13 [44,44] 4 (fun x=>Z29 x.1 x.2.1) rfl:=Aj (mc Zj7 (mc Zkl (mc Z5V Ag))) Ah ZwS ZqX func13 (fun p=>by cases p<;>kernel_rfl) (by kernel_rfl) fun _=>rfl
theorem Z5a:Qh Tryz.prog 145 1 1 5:=rU Qk (t:=62) (tb:=4) (e:=5) func145 (by kernel_rfl) (by kernel_rfl) (by kernel_rfl) (by kernel_rfl) (by kernel_rfl) (by kernel_rfl) (by kernel_rfl) (by decide)
def NF (a:List Int):Option QG:=if a.length*1<=lim/\a.length<=maxLen then some ⟨a⟩ else none
def Zgu:Shape:=⟨[OV 62],[]⟩
def wQ:Shape:=⟨[.one (.own 5 0)],[.row 5 true]⟩
noncomputable def jT:HMod U:={ fa:=[[.s 5 1]],fb:=[],D5:=Zgu,Jb:=wQ,one:=true,ky:=1344,Nj:=fun(y:QG)=>(((),()),(y.q0,())),fn:=fun x=>NF x.1.1.1,ok:=okS rfl }
theorem jP:Dy Tryz.prog B0 145 jT:=qR Z5a fun x y q=>by
 simp only[jT,NF]at q;split at q
 ·rename_i h;cases q;exact⟨_,rfl,rfl,by simp[jT,HMod.out,wQ,Shape.enc,JM,Ja,I8,DD,Eg,AU],by simp[jT,HMod.out,wQ,Shape.enc,JM,Ja,I8,DD,Eg,BM,CX,Bg],by simpa using h.1,by simpa using h.2⟩
 ·cases q
theorem Z51:Qh Tryz.prog 146 15 120 156:=rU Qk (t:=36) (tb:=4) (e:=156) func146 (by kernel_rfl) (by kernel_rfl) (by kernel_rfl) (by kernel_rfl) (by kernel_rfl) (by kernel_rfl) (by kernel_rfl) (by decide)
def WO (a:List AL):Option RV:=if a.length*120<=lim/\a.length<=maxLen then some ⟨a⟩ else none
def Zge:Shape:=⟨[OV 36],[]⟩
def wJ:Shape:=⟨[.one (.own 156 0)],[.row 156 true]⟩
noncomputable def jG:HMod U:={ fa:=[[.s 156 15]],fb:=[],D5:=Zge,Jb:=wJ,one:=true,ky:=1345,Nj:=fun(y:RV)=>(((),()),(y.q0,())),fn:=fun x=>WO x.1.1.1,ok:=okS rfl }
theorem Zgh:Dy Tryz.prog B0 146 jG:=qR Z51 fun x y q=>by
 simp only[jG,WO]at q;split at q
 ·rename_i h;cases q;exact⟨_,rfl,rfl,by simp[jG,HMod.out,wJ,Shape.enc,JM,Ja,I8,DD,Eg,AU],by simp[jG,HMod.out,wJ,Shape.enc,JM,Ja,I8,DD,Eg,BM,CX,Bg],by simpa using h.1,by simpa using h.2⟩
 ·cases q
theorem Z54:Qh Tryz.prog 147 8 64 138:=rU Qk (t:=37) (tb:=4) (e:=138) func147 (by kernel_rfl) (by kernel_rfl) (by kernel_rfl) (by kernel_rfl) (by kernel_rfl) (by kernel_rfl) (by kernel_rfl) (by decide)
def jJ (a:List BP):Option WQ:=if a.length*64<=lim/\a.length<=maxLen then some ⟨a⟩ else none
def Zgk:Shape:=⟨[OV 37],[]⟩
def wK:Shape:=⟨[.one (.own 138 0)],[.row 138 true]⟩
noncomputable def jH:HMod U:={ fa:=[[.s 138 8]],fb:=[],D5:=Zgk,Jb:=wK,one:=true,ky:=1346,Nj:=fun(y:WQ)=>(((),()),(y.q0,())),fn:=fun x=>jJ x.1.1.1,ok:=okS rfl }
theorem Zgo:Dy Tryz.prog B0 147 jH:=qR Z54 fun x y q=>by
 simp only[jH,jJ]at q;split at q
 ·rename_i h;cases q;exact⟨_,rfl,rfl,by simp[jH,HMod.out,wK,Shape.enc,JM,Ja,I8,DD,Eg,AU],by simp[jH,HMod.out,wK,Shape.enc,JM,Ja,I8,DD,Eg,BM,CX,Bg],by simpa using h.1,by simpa using h.2⟩
 ·cases q
theorem Z58:Qh Tryz.prog 148 2 16 99:=rU Qk (t:=42) (tb:=4) (e:=99) func148 (by kernel_rfl) (by kernel_rfl) (by kernel_rfl) (by kernel_rfl) (by kernel_rfl) (by kernel_rfl) (by kernel_rfl) (by decide)
def jO (a:List BV):Option WR:=if a.length*16<=lim/\a.length<=maxLen then some ⟨a⟩ else none
def Zgn:Shape:=⟨[OV 42],[]⟩
def wO:Shape:=⟨[.one (.own 99 0)],[.row 99 true]⟩
noncomputable def jK:HMod U:={ fa:=[[.s 99 2]],fb:=[],D5:=Zgn,Jb:=wO,one:=true,ky:=1347,Nj:=fun(y:WR)=>(((),()),(y.q0,())),fn:=fun x=>jO x.1.1.1,ok:=okS rfl }
theorem ZgB:Dy Tryz.prog B0 148 jK:=qR Z58 fun x y q=>by
 simp only[jK,jO]at q;split at q
 ·rename_i h;cases q;exact⟨_,rfl,rfl,by simp[jK,HMod.out,wO,Shape.enc,JM,Ja,I8,DD,Eg,AU],by simp[jK,HMod.out,wO,Shape.enc,JM,Ja,I8,DD,Eg,BM,CX,Bg],by simpa using h.1,by simpa using h.2⟩
 ·cases q
end
noncomputable def Z8s:Option Bool:=some true
noncomputable def Z84:Af U:={ ts:=[],rt:=4,fn:=fun _=>Z8s,ok:=by decide }
theorem ZlZ:sN Tryz.prog gl [11,14,15,17,19,22,27,28,37,38,39,40,41,42,52,53,55,57,58,62,63,64,65,66,67,68,78,79,122,123,124,125,126,133,134,135,136,137,143,149,150,152,153,154,155,156,158,159,160,161,218,219,222,223,230,231,232,235,236,237,238,287,321,379,380,381] (fun g=>!([62,63,64,158,159,160,235].contains g)) [(65,9),(62,5)] [(145,1,1,5),(146,15,120,156),(147,8,64,138),(148,2,16,99)]=true:=by kernel_rfl
theorem ZlQ:AA0 14 Z84:=Zyc rfl Qk ZlZ (fun p q=>by simp only[List.mem_cons,List.not_mem_nil,or_false]at q;rcases q with rfl|rfl|rfl|rfl<;>first|exact Z5a|exact Z51|exact Z54|exact Z58) (by rfl) (by decide) rfl func14 (by kernel_rfl) (n:=60) (m:=Z84) rfl (a:=true) (fun _=>rfl) (by kernel_rfl)
noncomputable section
inductive Xi where
 | b0 (a b c:Int)
def Z0u:Xi->Tr U (Bool⊕Xi)
 | .b0 a b c=>.br (decide (a>=b)) (AA (decide (a<=c))) (AA false)
def Ns (a b c:Int):Option Bool:=AV Z0u (.b0 a b c)
def Zn9:Xi->Ac U
 | .b0 a b c=>Ai f129 [3,3,3] (a,b,c,())
theorem Z8T:AA1 129 [3,3,3] 4 (fun x=>Ns x.1 x.2.1 x.2.2.1) rfl:=Aj Ag Ah AN Zn9 func129 (fun p=>by cases p<;>kernel_rfl) (by kernel_rfl) fun _=>rfl
inductive Wv where
 | b0 (a:DL)
 | b1 (a:DL)
def kW:Wv->Tr U (Int⊕Wv)
 | .b0 a=>let g:=AA (5:Int);.bind 4 (Ns a.ET (1:Int) (8:Int)) (fun(b:Bool)=>.br (!b) g (.bind 4 (Ns a.ES (0:Int) (3200:Int)) (fun(c:Bool)=>.br (!c) g (.bind 4 (Ns a.Dl (6:Int) (3200:Int)) (fun(d:Bool)=>.br (!d) g (.bind 4 (Ns a.Dx (0:Int) (499:Int)) (fun(e:Bool)=>.br (!e) g (.bind 4 (Ns a.Ea (10:Int) (3200:Int)) (fun(f:Bool)=>.br (!f) g (AO (.b1 a)))))))))))
 | .b1 a=>let b:=AA (11:Int);.br (decide (a.ET>=a.Dl)) b (.br (decide (a.ES>a.Dl)) b (.br (decide ((AP (a.Ea*10000))<=(AP ((AP ((AP ((2:Int)*(AP (a.Dx+1))))*a.Dl))*1250)))) b (AA (0:Int))))
def Ws (a:DL):Option Int:=AV kW (.b0 a)
def Z5M:Lay:=⟨[1],[KP],[.var k12],⟨[PQ 0],[VA 24 5]⟩⟩
def ZjS:Nat->Option Lay
 | 3=>some Z5M
 | _=>none
def Zi2:Wv->Ac U
 | .b0 a=>Ai f127 [24] (a,())
 | .b1 a=>AA3 f127 [1,1,0,0] Z5M (a,())
theorem Z6a:AA1 127 [24] 45 (fun x=>Ws x.1) rfl:=Aj (mc Z8T Ag) Ah ZjS Zi2 func127 (fun p=>by cases p<;>kernel_rfl) (by kernel_rfl) fun _=>rfl
inductive YO where
 | b0 (a:Int)
 | b1 (a b c:Int)
def U7:YO->Tr U (Int⊕YO)
 | .b0 a=>AO (.b1 a (1:Int) (0:Int))
 | .b1 a b c=>.br (decide (c<a)) (AO (.b1 a (IntKind.wrap .u64 (b*2)) (AP (c+1)))) (AA b)
def Ro (a:Int):Option Int:=AV U7 (.b0 a)
def Z8k:Lay:=⟨[0,3,4],[KP,KP,KP],[],⟨[OV 3,OV 25,OV 3],[]⟩⟩
def Zt1:Nat->Option Lay
 | 3=>some Z8k
 | _=>none
def Zoe:YO->Ac U
 | .b0 a=>Ai f220 [3] (a,())
 | .b1 a b c=>AA3 f220 [1,1,0,1,0,0,0,0] Z8k (a,b,c,())
theorem Z0E:AA1 220 [3] 25 (fun x=>Ro x.1) rfl:=Aj Ag Ah Zt1 Zoe func220 (fun p=>by cases p<;>kernel_rfl) (by kernel_rfl) fun _=>rfl
inductive dH where
 | b0 (a b:Int)
def Z2n:dH->Tr U (Bool⊕dH)
 | .b0 c a=>.br (decide (a>=0)) (.br (decide (a<=36)) (.bind 25 (Ro a) (fun(b:Int)=>.chk (b != 0) (AA ((Int.tmod (IntKind.wrap .u64 (Int.tdiv c b)) 2)==1)))) (AA false)) (AA false)
def Uu (a b:Int):Option Bool:=AV Z2n (.b0 a b)
def ZvK:dH->Ac U
 | .b0 a b=>Ai f225 [26,3] (a,b,())
theorem Z23:AA1 225 [26,3] 4 (fun x=>Uu x.1 x.2.1) rfl:=Aj (mc Z0E Ag) Ah AN ZvK func225 (fun p=>by cases p<;>kernel_rfl) (by kernel_rfl) fun _=>rfl
inductive aS where
 | b0 (a:Int)
 | b1 (a:Int) (b:List Int) (c:Int)
 | b2 (a:Int) (b:List Int) (c:Int)
def PE:aS->Tr U ((List Int)⊕aS)
 | .b0 a=>.chk true (AO (.b1 a ([]:List Int) (0:Int)))
 | .b1 c a b=>.br (decide (b<=36)) (.bind 4 (Uu c b) (fun(d:Bool)=>.br d (.chk true (kl a (.chk (kA (a.length+1) 8) (kl (a++[b]) (AO (.b2 c (a++[b]) b)))))) (kl a (AO (.b2 c a b))))) (kl a (AA a))
 | .b2 b a c=>kl a (AO (.b1 b a (AP (c+1))))
def Uk (a:Int):Option (List Int):=AV PE (.b0 a)
def mY:Lay:=⟨[0,3,4],[KP,[.own 3 1],KP],[.row true],⟨[OV 26,.one (.own 3 0),OV 3],[.row 3 true]⟩⟩
def Zub:Nat->Option Lay
 | 3=>some mY
 | 4=>some mY
 | _=>none
def Zt8:aS->Ac U
 | .b0 a=>Ai f202 [26] (a,())
 | .b1 a b c=>AA3 f202 [1,1,0,1,0,0,0,0] mY (a,c,b,())
 | .b2 a b c=>AA3 f202 [1,1,0,1,0,0,1,1] mY (a,c,b,())
theorem Z1c:AA1 202 [26] 226 (fun x=>Uk x.1) rfl:=Aj (mc Z23 Ag) Ah Zub Zt8 func202 (fun p=>by cases p<;>kernel_rfl) (by kernel_rfl) fun _=>rfl
inductive YQ where
 | b0 (a:Int)
def Z17:YQ->Tr U (Int⊕YQ)
 | .b0 a=>.bind 226 (Uk a) (fun(b:List Int)=>AA (↑b.length:Int))
def Uc (a:Int):Option Int:=AV Z17 (.b0 a)
def Zpy:YQ->Ac U
 | .b0 a=>Ai f221 [26] (a,())
theorem Z0i:AA1 221 [26] 3 (fun x=>Uc x.1) rfl:=Aj (mc Z1c Ag) Ah AN Zpy func221 (fun p=>by cases p<;>kernel_rfl) (by kernel_rfl) fun _=>rfl
inductive Y5 where
 | b0 (a:Int)
def Z0Q:Y5->Tr U (Int⊕Y5)
 | .b0 a=>.bind 25 (Ro (37:Int)) (fun(b:Int)=>.br (decide (a>=b)) (AA (5:Int)) (.bind 3 (Uc a) (fun(c:Int)=>.br (decide (c<2)) (AA (1:Int)) (AA (0:Int)))))
def YP (a:Int):Option Int:=AV Z0Q (.b0 a)
def ZoD:Y5->Ac U
 | .b0 a=>Ai f128 [26] (a,())
theorem Z9i:AA1 128 [26] 45 (fun x=>YP x.1) rfl:=Aj (mc Z0E (mc Z0i Ag)) Ah AN ZoD func128 (fun p=>by cases p<;>kernel_rfl) (by kernel_rfl) fun _=>rfl
inductive YE where
 | b0 (a:Ey)
 | b1 (a:Ey)
 | b2 (a:Ey)
def ZaS:YE->Tr U (Int⊕YE)
 | .b0 a=>let b:=AA (1:Int);.br (a.IK==0) b (.br (a.IK==2391391958) b (AO (.b1 a)))
 | .b1 a=>let f:=AA (5:Int);.br (decide (a.FQ>=16777216)) f (.bind 45 (Ws a.BI) (fun(b:Int)=>.br (b != 0) (AA b) (.bind 45 (YP a.Map) (fun(c:Int)=>.br (c != 0) (AA c) (.bind 4 (Ns a.Hop (5:Int) (16:Int)) (fun(d:Bool)=>.br (!d) f (.bind 4 (Ns a.iY (0:Int) (500:Int)) (fun(e:Bool)=>.br (!e) f (AO (.b2 a))))))))))
 | .b2 a=>let b:=AA (0:Int);.br (a.KW != 1) (.br (a.KW != 2) (AA (12:Int)) b) b
def Z1e (a:Ey):Option Int:=AV ZaS (.b0 a)
def lV:Lay:=⟨[1],[KP],[.var k3],⟨[PQ 0],[VA 28 11]⟩⟩
def Zrz:Nat->Option Lay
 | 3=>some lV
 | 13=>some lV
 | _=>none
def ZqH:YE->Ac U
 | .b0 a=>Ai f43 [28] (a,())
 | .b1 a=>AA3 f43 [1,1,0,0] lV (a,())
 | .b2 a=>AA3 f43 [1,1,1,1,1,1,0,0] lV (a,())
theorem ZpT:AA1 43 [28] 45 (fun x=>Z1e x.1) rfl:=Aj (mc Z6a (mc Z9i (mc Z8T Ag))) Ah Zrz ZqH func43 (fun p=>by cases p<;>kernel_rfl) (by kernel_rfl) fun _=>rfl
inductive X0 where
 | b0 (a b c:Int)
def Z7N:X0->Tr U (Int⊕X0)
 | .b0 a c b=>let d:=if b<a then b else a;AA (if d>c then d else c)
def UU (a b c:Int):Option Int:=AV Z7N (.b0 a b c)
def Zm7:X0->Ac U
 | .b0 a b c=>Ai f192 [3,3,3] (a,b,c,())
theorem lN:AA1 192 [3,3,3] 3 (fun x=>UU x.1 x.2.1 x.2.2.1) rfl:=Aj Ag Ah AN Zm7 func192 (fun p=>by cases p<;>kernel_rfl) (by kernel_rfl) fun _=>rfl
inductive YJ where
 | b0 (a:Int)
def ZaT:YJ->Tr U (Int⊕YJ)
 | .b0 a=>.bind 3 (UU a (0:Int) (4398046511104:Int)) (fun(b:Int)=>AA b)
def Z14 (a:Int):Option Int:=AV ZaT (.b0 a)
def Zqo:YJ->Ac U
 | .b0 a=>Ai f130 [3] (a,())
theorem Zp7:AA1 130 [3] 3 (fun x=>Z14 x.1) rfl:=Aj (mc lN Ag) Ah AN Zqo func130 (fun p=>by cases p<;>kernel_rfl) (by kernel_rfl) fun _=>rfl
inductive Xk where
 | b0 (a:DL)
def Z8Z:Xk->Tr U (Int⊕Xk)
 | .b0 a=>.bind 3 (UU a.ES (0:Int) (3200:Int)) (fun(b:Int)=>AA (AP (b*1250)))
def Z0B (a:DL):Option Int:=AV Z8Z (.b0 a)
def ZmX:Xk->Ac U
 | .b0 a=>Ai f131 [24] (a,())
theorem ZnY:AA1 131 [24] 3 (fun x=>Z0B x.1) rfl:=Aj (mc lN Ag) Ah AN ZmX func131 (fun p=>by cases p<;>kernel_rfl) (by kernel_rfl) fun _=>rfl
inductive aX where
 | b0 (a:DL)
def Zbh:aX->Tr U (Int⊕aX)
 | .b0 a=>.bind 3 (UU a.ET (1:Int) (8:Int)) (fun(b:Int)=>AA (AP (b*1250)))
def Z1V (a:DL):Option Int:=AV Zbh (.b0 a)
def Zsc:aX->Ac U
 | .b0 a=>Ai f132 [24] (a,())
theorem Zr8:AA1 132 [24] 3 (fun x=>Z1V x.1) rfl:=Aj (mc lN Ag) Ah AN Zsc func132 (fun p=>by cases p<;>kernel_rfl) (by kernel_rfl) fun _=>rfl
inductive YR where
 | b0 (a:Int) (b:DL)
def ZaM:YR->Tr U (Oz⊕YR)
 | .b0 d a=>.bind 3 (Z14 d) (fun(b:Int)=>.bind 3 (Z0B a) (fun(c:Int)=>let f:=AP ((AP (b+1250))+c);.bind 3 (Z1V a) (fun(e:Int)=>AA (⟨f,(AP (f+e))⟩:Oz))))
def Z0Y (a:Int) (b:DL):Option Oz:=AV ZaM (.b0 a b)
def Zot:YR->Ac U
 | .b0 a b=>Ai f44 [3,24] (a,b,())
theorem Zoi:AA1 44 [3,24] 52 (fun x=>Z0Y x.1 x.2.1) rfl:=Aj (mc Zp7 (mc ZnY (mc Zr8 Ag))) Ah AN Zot func44 (fun p=>by cases p<;>kernel_rfl) (by kernel_rfl) fun _=>rfl
inductive bZ where
 | b0
def ZcJ:bZ->Tr U (BQ⊕bZ)
 | .b0 =>AA Jj
def Z2S  : Option BQ:=AV ZcJ (.b0)
def Zvi:bZ->Ac U
 | .b0 =>Ai f45 [] ()
theorem ZuM:AA1 45 [] 33 (fun x=>Z2S) rfl:=Aj Ag Ah AN Zvi func45 (fun p=>by cases p<;>kernel_rfl) (by kernel_rfl) fun _=>rfl
inductive bV where
 | b0 (a:Int)
def Zd7:bV->Tr U (Dv⊕bV)
 | .b0 a=>let b:=(if (499:Int)<a then (499:Int) else a);AA (⟨(if b>0 then b else (0:Int)),0,true⟩:Dv)
def qI (a:Int):Option Dv:=AV Zd7 (.b0 a)
def ZwI:bV->Ac U
 | .b0 a=>Ai f46 [3] (a,())
theorem Zbp:AA1 46 [3] 35 (fun x=>qI x.1) rfl:=Aj Ag Ah AN ZwI func46 (fun p=>by cases p<;>kernel_rfl) (by kernel_rfl) fun _=>rfl
inductive dW where
 | b0 (a b c:Int)
def ZcZ:dW->Tr U (Aa⊕dW)
 | .b0 c b a=>let e:=(if (27:Int)>a then (27:Int) else a);let d:=(if (251:Int)<e then (251:Int) else e);.br (c==1) (AA (⟨1,-1,0,[],-1,0,[],false,b,0,false,false,-1,27,d,0,0,0,0,0⟩:Aa)) (AA (⟨0,-1,0,[],-1,0,[],false,b,0,false,false,-1,27,d,0,0,0,0,0⟩:Aa))
def Z2B (a b c:Int):Option Aa:=AV ZcZ (.b0 a b c)
def Zw0:dW->Ac U
 | .b0 a b c=>Ai f47 [3,25,3] (a,b,c,())
theorem Zwa:AA1 47 [3,25,3] 39 (fun x=>Z2B x.1 x.2.1 x.2.2.1) rfl:=Aj Ag Ah AN Zw0 func47 (fun p=>by cases p<;>kernel_rfl) (by kernel_rfl) fun _=>rfl
inductive Y2 where
 | b0
def Z9Q:Y2->Tr U ((List BV)⊕Y2)
 | .b0 =>.chk (decide (0<=(37:Int)/\(37:Int)<=37/\Int.toNat 37*16<=lim/\(37:Int)<=(↑maxLen:Int))) (kl (List.replicate (Int.toNat 37) (⟨0,0⟩:BV)) (AA (List.replicate (Int.toNat 37) (⟨0,0⟩:BV))))
def Z1d  : Option (List BV):=AV Z9Q (.b0)
def ZpQ:Y2->Ac U
 | .b0 =>Ai f48 [] ()
theorem Zp8:AA1 48 [] 42 (fun x=>Z1d) rfl:=Aj Ag Ah AN ZpQ func48 (fun p=>by cases p<;>kernel_rfl) (by kernel_rfl) fun _=>rfl
inductive dX where
 | b0 (a:Int) (b:Ey) (c d e f:Int)
 | b1 (a:A8)
 | b2 (a b c d e:Int) (f:Ey) (g:A8)
 | b3 (a:A8)
 | b4 (a b c d e:Int) (f:Ey) (g:A8)
def Zdi:dX->Tr U ((A8×Int)⊕dX)
 | .b0 a b c d e f=>let g:=AO (dX.b2 a c d e f b Dk);.br (a != 0) (.br (a != 1) (AO (.b1 Dk)) g) g
 | .b1 a=>AA (Dk,1)
 | .b2 f b g h c d a=>let i:=AO (dX.b3 a);.bind 45 (Z1e d) (fun(e:Int)=>.br (e != 0) (AA (Dk,e)) (.br (decide (b<0)) i (.br (decide (b>500)) i (.br (decide (c<0)) i (.br (decide (c>1099511627776)) i (AO (.b4 f b g h c d a)))))))
 | .b3 a=>AA (Dk,5)
 | .b4 b e f g a c l=>.bind 52 (Z0Y a c.BI) (fun(d:Oz)=>.bind 33 (Z2S) (fun(h:BQ)=>.bind 35 (qI c.BI.Dx) (fun(i:Dv)=>.bind 39 (Z2B b (63:Int) (251:Int)) (fun(j:Aa)=>.bind 42 (Z1d) (fun(k:List BV)=>.br (b==1) (AA ((⟨b,c,e,0,0,d.Start,(AP (d.End - d.Start)),a,a,false,false,false,false,false,h,i,j,Rh,f,k,[],0,g⟩:A8),(0:Int))) (AA ((⟨b,c,e,0,0,d.Start,0,a,a,false,false,false,false,false,h,i,j,Rh,f,k,[],0,g⟩:A8),(0:Int))))))))
def qA (a:Int) (b:Ey) (c d e f:Int):Option (A8×Int):=AV Zdi (.b0 a b c d e f)
def nN:Lay:=⟨[12],[KP],[.var k2],⟨[PQ 0],[VA 44 66]⟩⟩
def oO:Lay:=⟨[0,2,3,4,5,7,12],[KP,KP,KP,KP,KP,KP,KP],[.var k3,.var k2],⟨[OV 3,OV 3,OV 29,OV 25,OV 3,PQ 0,PQ 1],[VA 28 11,VA 44 66]⟩⟩
def Zy1:Nat->Option Lay
 | 2=>some nN
 | 3=>some oO
 | 7=>some nN
 | 8=>some oO
 | _=>none
def Zwp:dX->Ac U
 | .b0 a b c d e f=>Ai f12 [3,28,3,29,25,3] (a,b,c,d,e,f,())
 | .b1 a=>AA3 f12 [1,0,1,0,0] nN (a,())
 | .b2 a b c d e f g=>AA3 f12 [1,1,0] oO (a,b,c,d,e,f,g,())
 | .b3 a=>AA3 f12 [1,1,1,1,0,1,0,0] nN (a,())
 | .b4 a b c d e f g=>AA3 f12 [1,1,1,1,1,0] oO (a,b,c,d,e,f,g,())
theorem Zvy:AA1 12 [3,28,3,29,25,3] 46 (fun x=>qA x.1 x.2.1 x.2.2.1 x.2.2.2.1 x.2.2.2.2.1 x.2.2.2.2.2.1) rfl:=Aj (mc ZpT (mc Zoi (mc ZuM (mc Zbp (mc Zwa (mc Zp8 Ag)))))) Ah Zy1 Zwp func12 (fun p=>by cases p<;>kernel_rfl) (by kernel_rfl) fun _=>rfl
inductive aT where
 | b0 (a:Dv) (b:Bool)
def Zbo:aT->Tr U (Bool⊕aT)
 | .b0 a b=>.br a.Full (AA true) (.br b (AA true) (AA (decide (a.SK>=a.Dx))))
def oZ (a:Dv) (b:Bool):Option Bool:=AV Zbo (.b0 a b)
def Zs9:aT->Ac U
 | .b0 a b=>Ai f59 [35,4] (a,b,())
theorem ZaP:AA1 59 [35,4] 4 (fun x=>oZ x.1 x.2.1) rfl:=Aj Ag Ah AN Zs9 func59 (fun p=>by cases p<;>kernel_rfl) (by kernel_rfl) fun _=>rfl
inductive bK where
 | b0 (a:BQ)
def Zbt:bK->Tr U (Bool⊕bK)
 | .b0 a=>AA ((↑a.BA.length:Int)==0)
def Z2f (a:BQ):Option Bool:=AV Zbt (.b0 a)
def Zr4:bK->Ac U
 | .b0 a=>Ai f60 [33] (a,())
theorem Zsg:AA1 60 [33] 4 (fun x=>Z2f x.1) rfl:=Aj Ag Ah AN Zr4 func60 (fun p=>by cases p<;>kernel_rfl) (by kernel_rfl) fun _=>rfl
inductive YM where
 | b0 (a:A8)
def Zah:YM->Tr U (Bool⊕YM)
 | .b0 a=>let d:=AA false;.br (a.Bd==0) (.br (a.Bz==1) (.br a.JH (.br ((↑a.BC.length:Int)==0) (.br ((↑a.Am.CO.length:Int)==0) (.bind 4 (Z2f a.Az) (fun(b:Bool)=>.bind 4 (oZ a.Hg (!b)) (fun(c:Bool)=>AA (!c)))) d) d) d) d) d
def nZ (a:A8):Option Bool:=AV Zah (.b0 a)
def ZpP:YM->Ac U
 | .b0 a=>Ai f20 [44] (a,())
theorem Z94:AA1 20 [44] 4 (fun x=>nZ x.1) rfl:=Aj (mc ZaP (mc Zsg Ag)) Ah AN ZpP func20 (fun p=>by cases p<;>kernel_rfl) (by kernel_rfl) fun _=>rfl
inductive XL where
 | b0 (a:Int)
 | b1 (a b c:Int)
def XH:XL->Tr U (Int⊕XL)
 | .b0 a=>AO (.b1 a (0:Int) (0:Int))
 | .b1 a b c=>.br (decide (c<8)) (AO (.b1 (AP (Int.tdiv a 2)) (AP ((AP ((2:Int)*b))+(Int.tmod a 2))) (AP (c+1)))) (AA b)
def XJ (a:Int):Option Int:=AV XH (.b0 a)
def Z6J:Lay:=⟨[0,3,4],[KP,KP,KP],[],⟨[OV 3,OV 3,OV 3],[]⟩⟩
def Zmr:Nat->Option Lay
 | 3=>some Z6J
 | _=>none
def Zlt:XL->Ac U
 | .b0 a=>Ai f227 [3] (a,())
 | .b1 a b c=>AA3 f227 [1,1,0,1,0,0,0,0] Z6J (a,b,c,())
theorem Zlq:AA1 227 [3] 3 (fun x=>XJ x.1) rfl:=Aj Ag Ah Zmr Zlt func227 (fun p=>by cases p<;>kernel_rfl) (by kernel_rfl) fun _=>rfl
inductive Xz where
 | b0 (a b:Int)
 | b1 (a b c:Int)
def UY:Xz->Tr U (Int⊕Xz)
 | .b0 b a=>AO (.b1 a (bits .xor .u16 b a) (0:Int))
 | .b1 a b c=>.br (decide (c<3)) (.bind 3 (XJ (AP (Int.tdiv (AP (b)) 256))) (fun(d:Int)=>.bind 3 (XJ (Int.tmod (AP (b)) 256)) (fun(e:Int)=>AO (.b1 a (IntKind.wrap .u16 ((Int.tmod (AP ((AP ((17:Int)*(AP ((AP ((256:Int)*d))+e))))+(AP (a)))) (65536:Int)))) (AP (c+1)))))) (AA (bits .xor .u16 b a))
def Xv (a b:Int):Option Int:=AV UY (.b0 a b)
def Z7n:Lay:=⟨[1,5,6],[KP,KP,KP],[],⟨[OV 30,OV 30,OV 3],[]⟩⟩
def ZpW:Nat->Option Lay
 | 3=>some Z7n
 | _=>none
def ZnB:Xz->Ac U
 | .b0 a b=>Ai f139 [30,30] (a,b,())
 | .b1 a b c=>AA3 f139 [1,1,0,1,0,0,0,0] Z7n (a,b,c,())
theorem Z7V:AA1 139 [30,30] 30 (fun x=>Xv x.1 x.2.1) rfl:=Aj (mc Zlq Ag) Ah ZpW ZnB func139 (fun p=>by cases p<;>kernel_rfl) (by kernel_rfl) fun _=>rfl
inductive YA where
 | b0 (a:Int)
def Z1g:YA->Tr U (Int⊕YA)
 | .b0 a=>AA (bits .xor .u16 (IntKind.wrap .u16 ((IntKind.wrap .u32 (Int.tdiv a 65536)))) (IntKind.wrap .u16 ((Int.tmod a 65536))))
def YU (a:Int):Option Int:=AV Z1g (.b0 a)
def Zqf:YA->Ac U
 | .b0 a=>Ai f140 [22] (a,())
theorem Z9m:AA1 140 [22] 30 (fun x=>YU x.1) rfl:=Aj Ag Ah AN Zqf func140 (fun p=>by cases p<;>kernel_rfl) (by kernel_rfl) fun _=>rfl
inductive dV where
 | b0 (a b:Int)
 | b1 (a:Int) (b:List Int)
def qE:dV->Tr U (Int⊕dV)
 | .b0 c a=>let d:=AA (-1:Int);.bind 226 (Uk c) (fun(b:List Int)=>.br (decide (a<0)) d (.br (decide (a>=(↑b.length:Int))) d (AO (.b1 a b))))
 | .b1 a b=>.chk (kI a b) (.bind 3 (b[(Int.toNat a)]?) (fun(c:Int)=>AA c))
def dG (a b:Int):Option Int:=AV qE (.b0 a b)
def ZaJ:Lay:=⟨[1,5],[KP,[.s 3 1]],[],⟨[OV 3,OV 226],[]⟩⟩
def ZyD:Nat->Option Lay
 | 4=>some ZaJ
 | _=>none
def ZvV:dV->Ac U
 | .b0 a b=>Ai f226 [26,3] (a,b,())
 | .b1 a b=>AA3 f226 [1,1,1,0] ZaJ (a,b,())
theorem Zbf:AA1 226 [26,3] 3 (fun x=>dG x.1 x.2.1) rfl:=Aj (mc Z1c Ag) Ah ZyD ZvV func226 (fun p=>by cases p<;>kernel_rfl) (by kernel_rfl) fun _=>rfl
inductive dS where
 | b0 (a b c:Int)
def Z2q:dS->Tr U (Int⊕dS)
 | .b0 a c d=>.bind 30 (YU d) (fun(e:Int)=>.bind 30 (Xv c e) (fun(b:Int)=>let i:=Int.tmod (AP (b)) 37;.bind 4 (Uu a i) (fun(f:Bool)=>.br f (AA i) (.bind 3 (Uc a) (fun(g:Int)=>.bind 3 (dG a (AP (Int.tdiv (AP (g*(AP (b)))) (65536:Int)))) (fun(h:Int)=>AA h))))))
def qG (a b c:Int):Option Int:=AV Z2q (.b0 a b c)
def Zw6:dS->Ac U
 | .b0 a b c=>Ai f138 [26,30,22] (a,b,c,())
theorem ZvW:AA1 138 [26,30,22] 3 (fun x=>qG x.1 x.2.1 x.2.2.1) rfl:=Aj (mc Z7V (mc Z9m (mc Z0i (mc Z23 (mc Zbf Ag))))) Ah AN Zw6 func138 (fun p=>by cases p<;>kernel_rfl) (by kernel_rfl) fun _=>rfl
inductive bI where
 | b0 (a b:Int)
def ZbM:bI->Tr U (Int⊕bI)
 | .b0 a b=>AA (Int.tmod (AP ((AP ((Int.tmod a 37)+(Int.tmod b 37)))+74)) (37:Int))
def oW (a b:Int):Option Int:=AV ZbM (.b0 a b)
def ZtE:bI->Ac U
 | .b0 a b=>Ai f141 [3,3] (a,b,())
theorem ZrI:AA1 141 [3,3] 3 (fun x=>oW x.1 x.2.1) rfl:=Aj Ag Ah AN ZtE func141 (fun p=>by cases p<;>kernel_rfl) (by kernel_rfl) fun _=>rfl
inductive Yo where
 | b0 (a b:Int)
def Z1l:Yo->Tr U (Int⊕Yo)
 | .b0 b a=>let g:=(if (36:Int)<a then (36:Int) else a);let f:=(if g>0 then g else (0:Int));.bind 4 (Uu b f) (fun(d:Bool)=>.br d (AA f) (.bind 3 (Uc b) (fun(c:Int)=>.br (c==0) (AA (-1:Int)) (.chk (c != 0) (.bind 3 (dG b (Int.tmod f c)) (fun(e:Int)=>AA e))))))
def oH (a b:Int):Option Int:=AV Z1l (.b0 a b)
def Zp2:Yo->Ac U
 | .b0 a b=>Ai f142 [26,3] (a,b,())
theorem Zq9:AA1 142 [26,3] 3 (fun x=>oH x.1 x.2.1) rfl:=Aj (mc Z0i (mc Z23 (mc Zbf Ag))) Ah AN Zp2 func142 (fun p=>by cases p<;>kernel_rfl) (by kernel_rfl) fun _=>rfl
inductive Yp where
 | b0 (a:Ey) (b c:Int)
def Z1B:Yp->Tr U ((Int×Int)⊕Yp)
 | .b0 a b d=>.br (a.KW==2) (.bind 3 (qG a.Map b a.IK) (fun(e:Int)=>.bind 30 (YU a.IK) (fun(f:Int)=>.bind 30 (Xv b f) (fun(g:Int)=>AA (e,(Int.tmod (AP (g)) 37)))))) (.bind 3 (oW d a.Hop) (fun(c:Int)=>.bind 3 (oH a.Map c) (fun(h:Int)=>AA (h,c))))
def aA (a:Ey) (b c:Int):Option (Int×Int):=AV Z1B (.b0 a b c)
def ZtZ:Yp->Ac U
 | .b0 a b c=>Ai f54 [28,30,3] (a,b,c,())
theorem ZaH:AA1 54 [28,30,3] 104 (fun x=>aA x.1 x.2.1 x.2.2.1) rfl:=Aj (mc ZvW (mc Z7V (mc Z9m (mc ZrI (mc Zq9 Ag))))) Ah AN ZtZ func54 (fun p=>by cases p<;>kernel_rfl) (by kernel_rfl) fun _=>rfl
inductive X3 where
 | b0 (a:A8)
def mO:X3->Tr U (Int⊕X3)
 | .b0 a=>.bind 104 (aA a.Bl a.Event a.Last) (fun(b:Int×Int)=>AA b.1)
def QR (a:A8):Option Int:=AV mO (.b0 a)
def ZlF:X3->Ac U
 | .b0 a=>Ai f16 [44] (a,())
theorem Z7i:AA1 16 [44] 3 (fun x=>QR x.1) rfl:=Aj (mc ZaH Ag) Ah AN ZlF func16 (fun p=>by cases p<;>kernel_rfl) (by kernel_rfl) fun _=>rfl
inductive YI where
 | b0 (a:Aa)
def Z0P:YI->Tr U (Bool⊕YI)
 | .b0 a=>.br (decide (a.EJ>=1)) (AA (decide (a.EJ<=3))) (AA false)
def Y4 (a:Aa):Option Bool:=AV Z0P (.b0 a)
def Zpq:YI->Ac U
 | .b0 a=>Ai f162 [39] (a,())
theorem Z95:AA1 162 [39] 4 (fun x=>Y4 x.1) rfl:=Aj Ag Ah AN Zpq func162 (fun p=>by cases p<;>kernel_rfl) (by kernel_rfl) fun _=>rfl
inductive XR where
 | b0 (a:Int)
def ZX:XR->Tr U (Bool⊕XR)
 | .b0 a=>let b:=AA true;.br (a==3) b (.br (a==4) b (.br (a==5) b (.br (a==6) b (AA (a==13)))))
def lY (a:Int):Option Bool:=AV ZX (.b0 a)
def ZlR:XR->Ac U
 | .b0 a=>Ai f163 [3] (a,())
theorem Zmh:AA1 163 [3] 4 (fun x=>lY x.1) rfl:=Aj Ag Ah AN ZlR func163 (fun p=>by cases p<;>kernel_rfl) (by kernel_rfl) fun _=>rfl
inductive Xt where
 | b0 (a:Int)
 | b1 (a:Be)
 | b2 (a:Int) (b:Be)
 | b3 (a:Be)
 | b4 (a:Int) (b:Be)
 | b5 (a:Be)
 | b6 (a:Be)
def Nu:Xt->Tr U (Be⊕Xt)
 | .b0 a=>let c:=AO (Xt.b1 ND);let b:=AO (Xt.b2 a ND);.br (a==0) (AA (⟨true,true,false,true,false,false,false,false,false,false,false⟩:Be)) (.br (a==1) (AA (⟨true,false,true,true,false,false,false,false,false,false,false⟩:Be)) (.br (a==2) (AA (⟨true,false,false,false,true,false,false,false,false,false,false⟩:Be)) (.br (a==3) (AA (⟨true,false,false,false,false,false,true,true,false,false,false⟩:Be)) (.br (a==4) (AA (⟨true,false,false,false,false,false,true,false,false,false,false⟩:Be)) (.br (a==5) (.br (a==5) c b) (.br (a==6) (.br (a==6) c b) (.br (a==18) (.br (a==18) c b) (.br (a==19) c b))))))))
 | .b1 a=>AA (⟨true,false,false,false,false,false,false,false,false,false,false⟩:Be)
 | .b2 a b=>let d:=AO (Xt.b3 b);let c:=AO (Xt.b4 a b);.br (a==7) (AA (⟨true,false,false,false,false,true,false,false,false,false,false⟩:Be)) (.br (a==8) (.br (a==8) d c) (.br (a==9) d c))
 | .b3 a=>AA (⟨true,false,false,false,false,false,false,false,true,false,false⟩:Be)
 | .b4 a b=>let d:=AO (Xt.b6 b);let c:=AO (Xt.b5 b);.br (a==12) (AA (⟨true,false,false,false,false,false,false,false,false,true,false⟩:Be)) (.br (a==13) (AA (⟨true,false,false,false,true,true,false,false,false,false,false⟩:Be)) (.br (a==15) (AA (⟨true,true,false,false,false,false,false,false,false,false,false⟩:Be)) (.br (a==20) (.br (a==20) c d) (.br (a==21) c d))))
 | .b5 a=>AA (⟨true,false,false,false,false,false,false,false,false,false,true⟩:Be)
 | .b6 a=>AA ND
def ER (a:Int):Option Be:=AV Nu (.b0 a)
def QO:Lay:=⟨[2],[KP],[.var k3],⟨[PQ 0],[VA 262 11]⟩⟩
def lL:Lay:=⟨[2,3],[KP,KP],[.var k3],⟨[PQ 0,OV 3],[VA 262 11]⟩⟩
def Zqc:Nat->Option Lay
 | 16=>some QO
 | 17=>some lL
 | 21=>some QO
 | 22=>some lL
 | 30=>some QO
 | 31=>some QO
 | _=>none
def Znj:Xt->Ac U
 | .b0 a=>Ai f240 [3] (a,())
 | .b1 a=>AA3 f240 [1,0,1,0,1,1,1,1,1,1,1,1,1,1,1,0,0] QO (a,())
 | .b2 a b=>AA3 f240 [1,0,1,0,1,1,1,1,1,1,1,1,1,1,1,1,0] lL (a,b,())
 | .b3 a=>AA3 f240 [1,0,1,0,1,1,1,1,1,1,1,1,1,1,1,1,1,1,1,0,0] QO (a,())
 | .b4 a b=>AA3 f240 [1,0,1,0,1,1,1,1,1,1,1,1,1,1,1,1,1,1,1,1,0] lL (a,b,())
 | .b5 a=>AA3 f240 [1,0,1,0,1,1,1,1,1,1,1,1,1,1,1,1,1,1,1,1,1,1,1,1,1,1,1,0,0] QO (a,())
 | .b6 a=>AA3 f240 [1,1,0] QO (a,())
theorem QP:AA1 240 [3] 262 (fun x=>ER x.1) rfl:=Aj Ag Ah Zqc Znj func240 (fun p=>by cases p<;>kernel_rfl) (by kernel_rfl) fun _=>rfl
inductive aC where
 | b0 (a:AL)
 | b1 (a b:AL) (c:Be)
 | b2 (a b:AL) (c:Be)
 | b3 (a b:AL) (c:Be)
 | b4 (a b:AL) (c:Be)
 | b5 (a b:AL) (c:Be)
 | b6 (a b:AL) (c:Be)
 | b7 (a b:AL) (c:Be)
 | b8 (a b:AL) (c:Be)
 | b9 (a b:AL) (c:Be)
def Gh:aC->Tr U (AL⊕aC)
 | .b0 a=>.bind 262 (ER a.Kind) (fun(b:Be)=>.br b.BI (AO (.b1 ({ a with Kind:=0,BI:=BR }:AL) Gg b)) (AO (.b1 ({ a with Kind:=0 }:AL) Gg b)))
 | .b1 b c a=>.br a.Map (AO (.b2 ({ b with Map:=0 }:AL) c a)) (AO (.b2 b c a))
 | .b2 b c a=>.br a.DF (AO (.b3 ({ b with DF:=0 }:AL) c a)) (AO (.b3 b c a))
 | .b3 b c a=>.br a.Bd (AO (.b4 ({ b with Bd:=0 }:AL) c a)) (AO (.b4 b c a))
 | .b4 b c a=>.br a.DT (AO (.b5 ({ b with DT:=0 }:AL) c a)) (AO (.b5 b c a))
 | .b5 b c a=>.br a.Bq (AO (.b6 ({ b with Bq:=0 }:AL) c a)) (AO (.b6 b c a))
 | .b6 b c a=>.br a.Mark (AO (.b7 ({ b with Mark:=0 }:AL) c a)) (AO (.b7 b c a))
 | .b7 b c a=>.br a.CW (AO (.b8 ({ b with CW:=0 }:AL) c a)) (AO (.b8 b c a))
 | .b8 b c a=>.br a.Version (AO (.b9 ({ b with Version:=0 }:AL) c a)) (AO (.b9 b c a))
 | .b9 a c b=>.br b.Length (AA ({ a with Length:=0 }:AL)) (AA a)
def o8 (a:AL):Option AL:=AV Gh (.b0 a)
def IY:Lay:=⟨[1,2,3],[KP,KP,KP],[.var k0,.var k0,.var k3],⟨[PQ 0,PQ 1,PQ 2],[VA 156 15,VA 156 15,VA 262 11]⟩⟩
def Zw7:Nat->Option Lay
 | 5=>some IY
 | 7=>some IY
 | 9=>some IY
 | 11=>some IY
 | 13=>some IY
 | 15=>some IY
 | 17=>some IY
 | 19=>some IY
 | 21=>some IY
 | _=>none
def Zs3:aC->Ac U
 | .b0 a=>Ai f325 [156] (a,())
 | .b1 a b c=>AA3 f325 [1,1,1,1,0,0] IY (a,b,c,())
 | .b2 a b c=>AA3 f325 [1,1,1,1,1,0,0] IY (a,b,c,())
 | .b3 a b c=>AA3 f325 [1,1,1,1,1,1,0,0] IY (a,b,c,())
 | .b4 a b c=>AA3 f325 [1,1,1,1,1,1,1,0,0] IY (a,b,c,())
 | .b5 a b c=>AA3 f325 [1,1,1,1,1,1,1,1,0,0] IY (a,b,c,())
 | .b6 a b c=>AA3 f325 [1,1,1,1,1,1,1,1,1,0,0] IY (a,b,c,())
 | .b7 a b c=>AA3 f325 [1,1,1,1,1,1,1,1,1,1,0,0] IY (a,b,c,())
 | .b8 a b c=>AA3 f325 [1,1,1,1,1,1,1,1,1,1,1,0,0] IY (a,b,c,())
 | .b9 a b c=>AA3 f325 [1,1,1,1,1,1,1,1,1,1,1,1,0,0] IY (a,b,c,())
theorem Ztk:AA1 325 [156] 156 (fun x=>o8 x.1) rfl:=Aj (mc QP Ag) Ah Zw7 Zs3 func325 (fun p=>by cases p<;>kernel_rfl) (by kernel_rfl) fun _=>rfl
end
noncomputable section
inductive Xc where
 | b0 (a:Int)
def Z0s:Xc->Tr U (Bool⊕Xc)
 | .b0 a=>.br (decide (a>=0)) (AA (decide (a<=255))) (AA false)
def U2 (a:Int):Option Bool:=AV Z0s (.b0 a)
def Zna:Xc->Ac U
 | .b0 a=>Ai f326 [3] (a,())
theorem ZnG:AA1 326 [3] 4 (fun x=>U2 x.1) rfl:=Aj Ag Ah AN Zna func326 (fun p=>by cases p<;>kernel_rfl) (by kernel_rfl) fun _=>rfl
inductive Z0J where
 | b0 (a:AL)
 | b1 (a:AL) (b:Be)
 | b2 (a:AL) (b:Be)
def Ud:Z0J->Tr U (Int⊕Z0J)
 | .b0 b=>.bind 262 (ER b.Kind) (fun(c:Be)=>let e:=AO (Z0J.b1 b c);.br (!c.Hm) (AA (12:Int)) (.bind 156 (o8 b) (fun(a:AL)=>.br (!((a.Kind==0)&&((a.BI.ET==0)&&((a.BI.ES==0)&&((a.BI.Dl==0)&&((a.BI.Dx==0)&&((a.BI.Ea==0)&&((a.Map==0)&&((a.DF==0)&&((a.Bd==0)&&((a.DT==0)&&((a.Bq==0)&&((a.Mark==0)&&((a.CW==0)&&((a.Version==0)&&((a.Length==0)&&true)))))))))))))))) (AA (1:Int)) (.br c.BI (.bind 45 (Ws b.BI) (fun(d:Int)=>.br (d != 0) (AA d) e)) e))))
 | .b1 a b=>let d:=AO (Z0J.b2 a b);.br b.Map (.bind 45 (YP a.Map) (fun(c:Int)=>.br (c != 0) (AA c) d)) d
 | .b2 a b=>let g:=AA (0:Int);let f:=AA (5:Int);.bind 4 (U2 a.Bd) (fun(c:Bool)=>.br (!c) f (.bind 4 (U2 a.DT) (fun(d:Bool)=>.br (!d) f (.bind 4 (U2 a.Version) (fun(e:Bool)=>.br (!e) f (.br b.Length (.br (decide (a.Length<27)) f (.br (decide (a.Length>251)) f g)) g))))))
def Ox (a:AL):Option Int:=AV Ud (.b0 a)
def lW:Lay:=⟨[1,3],[KP,KP],[.var k0,.var k3],⟨[PQ 0,PQ 1],[VA 156 15,VA 262 11]⟩⟩
def Ztj:Nat->Option Lay
 | 10=>some lW
 | 14=>some lW
 | _=>none
def Zpd:Z0J->Ac U
 | .b0 a=>Ai f239 [156] (a,())
 | .b1 a b=>AA3 f239 [1,1,1,1,1,0,0] lW (a,b,())
 | .b2 a b=>AA3 f239 [1,1,1,1,1,1,0,0] lW (a,b,())
theorem Z0o:AA1 239 [156] 45 (fun x=>Ox x.1) rfl:=Aj (mc Z6a (mc Z9i (mc QP (mc Ztk (mc ZnG Ag))))) Ah Ztj Zpd func239 (fun p=>by cases p<;>kernel_rfl) (by kernel_rfl) fun _=>rfl
inductive dP where
 | b0 (a b:Int)
 | b1 (a b:Int) (c:List Int) (d:Int)
def Ux:dP->Tr U (Ii⊕dP)
 | .b0 a b=>.chk true (AO (.b1 a b ([]:List Int) (0:Int)))
 | .b1 b c a d=>let e:=a++[(IntKind.wrap .u8 ((Int.tmod b 256)))];.br (decide (d<c)) (.chk true (kl a (.chk (kA (a.length+1) 1) (kl e (AO (.b1 (IntKind.wrap .u64 (Int.tdiv b 256)) c e (AP (d+1)))))))) (kl a (AA (⟨a⟩:Ii)))
def Hf (a b:Int):Option Ii:=AV Ux (.b0 a b)
def Zag:Shape:=⟨[OV 25,OV 3],[]⟩
def Zqi:Shape:=⟨[.one (.own 5 0)],[.row 5 true]⟩
noncomputable def Zy4:HMod U:=⟨[KP,KP],[],Zag,Zqi,true,1349,fun(y:Ii)=>(((),()),(y.q0,())),fun x=>Hf x.1.1.1 x.1.2.1.1,okS rfl⟩
def ZaI:Lay:=⟨[0,1,5,6],[KP,KP,[.own 5 1],KP],[.row true],⟨[OV 25,OV 3,.one (.own 5 0),OV 3],[.row 5 true]⟩⟩
def Zz0:Nat->Option Lay
 | 3=>some ZaI
 | _=>none
def Zxk:dP->Ac U
 | .b0 a b=>Ff f242 Zag (((a,()),((b,()),())),())
 | .b1 a b c d=>AA3 f242 [1,1,0,1,0,0,0,0] ZaI (a,b,d,c,())
theorem Zbl:Dy Tryz.prog B0 242 Zy4:=okR Ag Ah Zz0 [[.own 5 1]] [.row true] 0 Zxk func242 (fun p=>by cases p<;>kernel_rfl) (by kernel_rfl) fun x=>by kernel_rfl
inductive XE where
 | b0 (a:DL)
def Zw:XE->Tr U ((List Int)⊕XE)
 | .b0 a=>.bind 1349 (Hf (IntKind.wrap .u64 (a.ET)) (1:Int)) (fun(z:Ii)=>.bind 1349 (Hf (IntKind.wrap .u64 (a.ES)) (2:Int)) (fun(A:Ii)=>let d:=z.q0++A.q0;kl A.q0 (kl z.q0 (.chk (kA (z.q0.length+A.q0.length) 1) (.bind 1349 (Hf (IntKind.wrap .u64 (a.Dl)) (2:Int)) (fun(C:Ii)=>let b:=d++C.q0;kl C.q0 (kl d (.chk (kA (d.length+C.q0.length) 1) (.bind 1349 (Hf (IntKind.wrap .u64 (a.Dx)) (2:Int)) (fun(D:Ii)=>let c:=b++D.q0;kl D.q0 (kl b (.chk (kA (b.length+D.q0.length) 1) (.bind 1349 (Hf (IntKind.wrap .u64 (a.Ea)) (2:Int)) (fun(q:Ii)=>kl q.q0 (kl c (.chk (kA (c.length+q.q0.length) 1) (kl (c++q.q0) (AA (c++q.q0)))))))))))))))))))
def lF (a:DL):Option (List Int):=AV Zw (.b0 a)
def ZkJ:XE->Ac U
 | .b0 a=>Ai f241 [24] (a,())
theorem ZkP:AA1 241 [24] 62 (fun x=>lF x.1) rfl:=Aj Ag (hc [] Zbl Ah) AN ZkJ func241 (fun p=>by cases p<;>kernel_rfl) (by kernel_rfl) fun _=>rfl
inductive Xn where
 | b0 (a:AL)
 | b1 (a:List Int) (b:AL) (c:Be)
 | b2 (a:List Int) (b:AL) (c:Be)
 | b3 (a:List Int) (b:AL) (c:Be)
 | b4 (a:List Int) (b:AL) (c:Be)
 | b5 (a:List Int) (b:AL) (c:Be)
 | b6 (a:List Int) (b:AL) (c:Be)
 | b7 (a:List Int) (b:AL) (c:Be)
 | b8 (a:List Int) (b:AL) (c:Be)
 | b9 (a:List Int) (b:AL) (c:Be)
def HY:Xn->Tr U (((List Int)×Int)⊕Xn)
 | .b0 a=>let e:=IntKind.wrap .u8 (a.Kind);.bind 45 (Ox a) (fun(d:Int)=>.br (d != 0) (.chk true (AA (([]:List Int),d))) (.bind 262 (ER a.Kind) (fun(b:Be)=>.br b.BI (.bind 62 (lF a.BI) (fun(c:List Int)=>.chk true (.chk (kA (1+c.length) 1) (kl ([e]++c) (AO (.b1 ([e]++c) a b)))))) (.chk true (AO (.b1 ([e]) a b))))))
 | .b1 a b c=>.br c.Map (.bind 1349 (Hf b.Map (5:Int)) (fun(q:Ii)=>kl q.q0 (kl a (.chk (kA (a.length+q.q0.length) 1) (kl (a++q.q0) (AO (.b2 (a++q.q0) b c))))))) (kl a (AO (.b2 a b c)))
 | .b2 a b c=>.br c.DF (.bind 1349 (Hf (IntKind.wrap .u64 (b.DF)) (2:Int)) (fun(q:Ii)=>kl q.q0 (kl a (.chk (kA (a.length+q.q0.length) 1) (kl (a++q.q0) (AO (.b3 (a++q.q0) b c))))))) (kl a (AO (.b3 a b c)))
 | .b3 a b c=>let d:=a++[(IntKind.wrap .u8 (b.Bd))];.br c.Bd (.chk true (kl a (.chk (kA (a.length+1) 1) (kl d (AO (.b4 d b c)))))) (kl a (AO (.b4 a b c)))
 | .b4 a b c=>let d:=a++[(IntKind.wrap .u8 (b.DT))];.br c.DT (.chk true (kl a (.chk (kA (a.length+1) 1) (kl d (AO (.b5 d b c)))))) (kl a (AO (.b5 a b c)))
 | .b5 a b c=>.br c.Bq (.bind 1349 (Hf b.Bq (8:Int)) (fun(q:Ii)=>kl q.q0 (kl a (.chk (kA (a.length+q.q0.length) 1) (kl (a++q.q0) (AO (.b6 (a++q.q0) b c))))))) (kl a (AO (.b6 a b c)))
 | .b6 a b c=>.br c.Mark (.bind 1349 (Hf b.Mark (8:Int)) (fun(q:Ii)=>kl q.q0 (kl a (.chk (kA (a.length+q.q0.length) 1) (kl (a++q.q0) (AO (.b7 (a++q.q0) b c))))))) (kl a (AO (.b7 a b c)))
 | .b7 a b c=>.br c.CW (.bind 1349 (Hf b.CW (8:Int)) (fun(q:Ii)=>kl q.q0 (kl a (.chk (kA (a.length+q.q0.length) 1) (kl (a++q.q0) (AO (.b8 (a++q.q0) b c))))))) (kl a (AO (.b8 a b c)))
 | .b8 a b c=>let d:=a++[(IntKind.wrap .u8 (b.Version))];.br c.Version (.chk true (kl a (.chk (kA (a.length+1) 1) (kl d (AO (.b9 d b c)))))) (kl a (AO (.b9 a b c)))
 | .b9 a b c=>let d:=a++[(IntKind.wrap .u8 (b.Length))];.br c.Length (.chk true (kl a (.chk (kA (a.length+1) 1) (kl d (AA (d,(0:Int))))))) (kl a (AA (a,0)))
def QU (a:AL):Option ((List Int)×Int):=AV HY (.b0 a)
def IV:Lay:=⟨[1,5,6],[KP,KP,[.own 5 1]],[.var k0,.var k3,.row true],⟨[PQ 0,PQ 1,.one (.own 5 2)],[VA 156 15,VA 262 11,.row 5 true]⟩⟩
def Zom:Nat->Option Lay
 | 8=>some IV
 | 10=>some IV
 | 12=>some IV
 | 14=>some IV
 | 16=>some IV
 | 18=>some IV
 | 20=>some IV
 | 22=>some IV
 | 24=>some IV
 | _=>none
def ZnN:Xn->Ac U
 | .b0 a=>Ai f164 [156] (a,())
 | .b1 a b c=>AA3 f164 [1,1,1,1,1,0,0] IV (b,c,a,())
 | .b2 a b c=>AA3 f164 [1,1,1,1,1,1,0,0] IV (b,c,a,())
 | .b3 a b c=>AA3 f164 [1,1,1,1,1,1,1,0,0] IV (b,c,a,())
 | .b4 a b c=>AA3 f164 [1,1,1,1,1,1,1,1,0,0] IV (b,c,a,())
 | .b5 a b c=>AA3 f164 [1,1,1,1,1,1,1,1,1,0,0] IV (b,c,a,())
 | .b6 a b c=>AA3 f164 [1,1,1,1,1,1,1,1,1,1,0,0] IV (b,c,a,())
 | .b7 a b c=>AA3 f164 [1,1,1,1,1,1,1,1,1,1,1,0,0] IV (b,c,a,())
 | .b8 a b c=>AA3 f164 [1,1,1,1,1,1,1,1,1,1,1,1,0,0] IV (b,c,a,())
 | .b9 a b c=>AA3 f164 [1,1,1,1,1,1,1,1,1,1,1,1,1,0,0] IV (b,c,a,())
theorem Zng:AA1 164 [156] 120 (fun x=>QU x.1) rfl:=Aj (mc Z0o (mc QP (mc ZkP Ag))) (hc [] Zbl Ah) Zom ZnN func164 (fun p=>by cases p<;>kernel_rfl) (by kernel_rfl) fun _=>rfl
inductive cZ where
 | b0 (a:Int)
def Z2H:cZ->Tr U (Bool⊕cZ)
 | .b0 a=>.br (a==0) (AA true) (AA (a==1))
def Ur (a:Int):Option Bool:=AV Z2H (.b0 a)
def Zuh:cZ->Ac U
 | .b0 a=>Ai f243 [3] (a,())
theorem ZvN:AA1 243 [3] 4 (fun x=>Ur x.1) rfl:=Aj Ag Ah AN Zuh func243 (fun p=>by cases p<;>kernel_rfl) (by kernel_rfl) fun _=>rfl
inductive Wu where
 | b0 (a:Aw)
 | b1 (a:Aw)
 | b2 (a:Aw)
def RZ:Wu->Tr U (Int⊕Wu)
 | .b0 a=>let b:=AA (12:Int);.br (decide (a.Ba<1)) b (.br (decide (a.Ba>3)) b (AO (.b1 a)))
 | .b1 a=>let b:=AO (Wu.b2 a);.br ((↑a.Payload.length:Int)==0) (.br (a.Ba != 1) (AA (1:Int)) b) b
 | .b2 a=>.br (decide ((↑a.Payload.length:Int)>255)) (AA (4:Int)) (AA (0:Int))
def kS (a:Aw):Option Int:=AV RZ (.b0 a)
def jR:Lay:=⟨[1],[KP],[.var [.keep,.s 5 1]],⟨[PQ 0],[VA 68 2]⟩⟩
def Zjy:Nat->Option Lay
 | 3=>some jR
 | 5=>some jR
 | _=>none
def Zix:Wu->Ac U
 | .b0 a=>Ai f244 [68] (a,())
 | .b1 a=>AA3 f244 [1,1,0,0] jR (a,())
 | .b2 a=>AA3 f244 [1,1,1,0,0] jR (a,())
theorem Zis:AA1 244 [68] 45 (fun x=>kS x.1) rfl:=Aj Ag Ah Zjy Zix func244 (fun p=>by cases p<;>kernel_rfl) (by kernel_rfl) fun _=>rfl
inductive Yk where
 | b0 (a:BD)
 | b1 (a:BD)
def YW:Yk->Tr U (Int⊕Yk)
 | .b0 a=>let e:=AA (5:Int);.bind 4 (Ur a.SN) (fun(b:Bool)=>.br (!b) e (.bind 4 (Ur a.Dp) (fun(c:Bool)=>.br (!c) e (.bind 4 (Ur a.MD) (fun(d:Bool)=>.br (!d) e (AO (.b1 a)))))))
 | .b1 a=>.bind 45 (kS a.Ak) (fun(b:Int)=>AA b)
def Nw (a:BD):Option Int:=AV YW (.b0 a)
def Z89:Lay:=⟨[1],[KP],[.var k4],⟨[PQ 0],[VA 70 5]⟩⟩
def Zri:Nat->Option Lay
 | 3=>some Z89
 | _=>none
def Zpz:Yk->Ac U
 | .b0 a=>Ai f167 [70] (a,())
 | .b1 a=>AA3 f167 [1,1,0] Z89 (a,())
theorem U4:AA1 167 [70] 45 (fun x=>Nw x.1) rfl:=Aj (mc ZvN (mc Zis Ag)) Ah Zri Zpz func167 (fun p=>by cases p<;>kernel_rfl) (by kernel_rfl) fun _=>rfl
inductive XV where
 | b0 (a:Aw)
def Z8F:XV->Tr U (Bool⊕XV)
 | .b0 a=>.br (a.Ba==1) (AA ((↑a.Payload.length:Int)==0)) (AA false)
def XN (a:Aw):Option Bool:=AV Z8F (.b0 a)
def Zma:XV->Ac U
 | .b0 a=>Ai f213 [68] (a,())
theorem Z7J:AA1 213 [68] 4 (fun x=>XN x.1) rfl:=Aj Ag Ah AN Zma func213 (fun p=>by cases p<;>kernel_rfl) (by kernel_rfl) fun _=>rfl
inductive Y3 where
 | b0 (a:BQ) (b:Aw)
 | b1 (a:BQ) (b:Aw) (c:BQ)
def U9:Y3->Tr U ((BQ×Int)⊕Y3)
 | .b0 a b=>let e:=AA (a,1);.bind 4 (XN b) (fun(c:Bool)=>.br c e (.br (decide ((↑b.Payload.length:Int)>251)) e (.bind 45 (Nw (⟨0,0,0,b⟩:BD)) (fun(d:Int)=>.br (d != 0) e (AO (.b1 a b Jj))))))
 | .b1 a b c=>let d:=([]:List Aw)++a.BA;.br (decide ((↑a.BA.length:Int)>=64)) (AA (a,8)) (.chk true (.chk (kA (0+a.BA.length) 32) (.chk true (kl d (.chk (kA (d.length+1) 32) (kl (d++[b]) (AA (({ a with BA:=(d++[b]) }:BQ),(0:Int)))))))))
def YL (a:BQ) (b:Aw):Option (BQ×Int):=AV U9 (.b0 a b)
def Z8r:Lay:=⟨[2,3,4],[KP,KP,KP],[.var k6,.var [.keep,.s 5 1],.var k6],⟨[PQ 0,PQ 1,PQ 2],[VA 33 7,VA 68 2,VA 33 7]⟩⟩
def ZsJ:Nat->Option Lay
 | 3=>some Z8r
 | _=>none
def ZpS:Y3->Ac U
 | .b0 a b=>Ai f165 [33,68] (a,b,())
 | .b1 a b c=>AA3 f165 [1,1,0,0] Z8r (a,b,c,())
theorem Z9n:AA1 165 [33,68] 189 (fun x=>YL x.1 x.2.1) rfl:=Aj (mc U4 (mc Z7J Ag)) Ah ZsJ ZpS func165 (fun p=>by cases p<;>kernel_rfl) (by kernel_rfl) fun _=>rfl
inductive Ye where
 | b0 (a:A8)
 | b1 (a:List AL) (b:Bool) (c:Int) (d e:A8)
 | b2 (a:List AL) (b:Bool) (c:Int) (d e:A8) (f:AL)
 | b3 (a:List AL) (b:Bool) (c:Int) (d e:A8) (f:AL)
 | b4 (a:List AL) (b:Bool) (c:Int) (d e:A8)
def KE:Ye->Tr U (A8⊕Ye)
 | .b0 a=>.chk true (AO (.b1 ([]:List AL) false (0:Int) a Dk))
 | .b1 a d c b f=>.br (decide (c<(↑b.BC.length:Int))) (.chk (kI c b.BC) (.bind 156 (b.BC[(Int.toNat c)]?) (fun(e:AL)=>let j:=kl a (AO (Ye.b3 a d c b f e));let i:=kl a (AO (Ye.b2 a d c b f e));.br d i (.bind 4 (Y4 b.Am) (fun(g:Bool)=>.br g (.bind 4 (lY e.Kind) (fun(h:Bool)=>.br (!h) i j)) j))))) (kl a (AA ({ b with BC:=a }:A8)))
 | .b2 a c d e f b=>.chk true (kl a (.chk (kA (a.length+1) 120) (kl (a++[b]) (AO (.b4 (a++[b]) c d e f)))))
 | .b3 a f c b d e=>.bind 120 (QU e) (fun(g:(List Int)×Int)=>.br (g.2 != 0) (kl a (AO (.b4 a f c b d))) (.bind 189 (YL b.Az (⟨3,g.1⟩:Aw)) (fun(h:BQ×Int)=>.br (h.2 != 0) (.chk true (kl a (.chk (kA (a.length+1) 120) (kl (a++[e]) (AO (.b4 (a++[e]) true c b d)))))) (kl a (AO (.b4 a f c ({ b with Az:=h.1 }:A8) d))))))
 | .b4 a b c d e=>kl a (AO (.b1 a b (AP (c+1)) d e))
def oP (a:A8):Option A8:=AV KE (.b0 a)
def lT:Lay:=⟨[1,2,3,4,5],[KP,KP,[.own 156 15],KP,KP],[.var k2,.var k2,.row true],⟨[PQ 0,PQ 1,.one (.own 156 2),OV 4,OV 3],[VA 44 66,VA 44 66,.row 156 true]⟩⟩
def lU:Lay:=⟨[1,2,3,4,5,6],[KP,KP,[.own 156 15],KP,KP,KP],[.var k2,.var k2,.row true,.var k0],⟨[PQ 0,PQ 1,.one (.own 156 2),OV 4,OV 3,PQ 3],[VA 44 66,VA 44 66,.row 156 true,VA 156 15]⟩⟩
def ZsE:Nat->Option Lay
 | 4=>some lT
 | 8=>some lU
 | 9=>some lU
 | 5=>some lT
 | _=>none
def ZoB:Ye->Ac U
 | .b0 a=>Ai f70 [44] (a,())
 | .b1 a b c d e=>AA3 f70 [1,1,1,0,1,0,0,0,0] lT (b,c,d,e,a,())
 | .b2 a b c d e f=>AA3 f70 [1,1,1,0,1,0,0,1,0,0,1,0,1,0,0] lU (b,c,d,e,a,f,())
 | .b3 a b c d e f=>AA3 f70 [1,1,1,0,1,0,0,1,0,0,1,1,0] lU (b,c,d,e,a,f,())
 | .b4 a b c d e=>AA3 f70 [1,1,1,0,1,0,0,1,1] lT (b,c,d,e,a,())
theorem Zob:AA1 70 [44] 44 (fun x=>oP x.1) rfl:=Aj (mc Z95 (mc Zmh (mc Zng (mc Z9n Ag)))) Ah ZsE ZoB func70 (fun p=>by cases p<;>kernel_rfl) (by kernel_rfl) fun _=>rfl
inductive YZ where
 | b0
def ZaL:YZ->Tr U (Aw⊕YZ)
 | .b0 =>AA (⟨1,[]⟩:Aw)
def nU  : Option Aw:=AV ZaL (.b0)
def Zp3:YZ->Ac U
 | .b0 =>Ai f166 [] ()
theorem Zqx:AA1 166 [] 68 (fun x=>nU) rfl:=Aj Ag Ah AN Zp3 func166 (fun p=>by cases p<;>kernel_rfl) (by kernel_rfl) fun _=>rfl
inductive bF where
 | b0 (a:BQ)
 | b1 (a b:BQ) (c:BD)
 | b2 (a:Int) (b c:BQ) (d e:BD)
 | b3 (a:Int) (b c:BQ) (d e:BD)
 | b4 (a b:BQ) (c d:BD)
def IJ:bF->Tr U ((BQ×BD)⊕bF)
 | .b0 a=>.br (!a.Open) (AO (.b1 ({ a with Open:=true,Empty:=((↑a.BA.length:Int)==0) }:BQ) Jj E5)) (AO (.b1 a Jj E5))
 | .b1 a b c=>let f:=(↑a.BA.length:Int);.bind 68 (nU) (fun(d:Aw)=>let g:=(⟨a.SN,a.Dp,0,d⟩:BD);let e:=AO (bF.b3 f a b c g);.br (!a.Empty) (.br (decide (f>0)) (AO (.b2 f a b c g)) e) e)
 | .b2 b a c d e=>.chk (kI (0:Int) a.BA) (.bind 68 (a.BA[(Int.toNat 0)]?) (fun(f:Aw)=>AO (.b3 (AP (b - 1)) a c d ({ e with Ak:=f }:BD))))
 | .b3 e a b c d=>.br (decide (e>0)) (AO (.b4 a b c ({ d with MD:=1 }:BD))) (AO (.b4 a b c d))
 | .b4 a c d b=>AA (a,b)
def aP (a:BQ):Option (BQ×BD):=AV IJ (.b0 a)
def Z9t:Lay:=⟨[1,2,3],[KP,KP,KP],[.var k6,.var k6,.var k4],⟨[PQ 0,PQ 1,PQ 2],[VA 33 7,VA 33 7,VA 70 5]⟩⟩
def mZ:Lay:=⟨[1,2,3,4,5],[KP,KP,KP,KP,KP],[.var k6,.var k6,.var k4,.var k4],⟨[PQ 0,PQ 1,PQ 2,PQ 3,OV 3],[VA 33 7,VA 33 7,VA 70 5,VA 70 5]⟩⟩
def Z91:Lay:=⟨[1,2,3,4],[KP,KP,KP,KP],[.var k6,.var k6,.var k4,.var k4],⟨[PQ 0,PQ 1,PQ 2,PQ 3],[VA 33 7,VA 33 7,VA 70 5,VA 70 5]⟩⟩
def Zxb:Nat->Option Lay
 | 4=>some Z9t
 | 7=>some mZ
 | 9=>some mZ
 | 11=>some Z91
 | _=>none
def Zrk:bF->Ac U
 | .b0 a=>Ai f71 [33] (a,())
 | .b1 a b c=>AA3 f71 [1,1,0] Z9t (a,b,c,())
 | .b2 a b c d e=>AA3 f71 [1,1,1,1,0,1,0,0] mZ (a,b,c,d,e,())
 | .b3 a b c d e=>AA3 f71 [1,1,1,1,1,0,0] mZ (a,b,c,d,e,())
 | .b4 a b c d=>AA3 f71 [1,1,1,1,1,1,0] Z91 (a,b,c,d,())
theorem Ztu:AA1 71 [33] 75 (fun x=>aP x.1) rfl:=Aj (mc Zqx Ag) Ah Zxb Zrk func71 (fun p=>by cases p<;>kernel_rfl) (by kernel_rfl) fun _=>rfl
inductive Y1 where
 | b0 (a:Aw)
def Z1a:Y1->Tr U (Bool⊕Y1)
 | .b0 a=>.br (a.Ba==1) (AA ((↑a.Payload.length:Int)==0)) (AA false)
def Rq (a:Aw):Option Bool:=AV Z1a (.b0 a)
def ZpL:Y1->Ac U
 | .b0 a=>Ai f116 [68] (a,())
theorem nC:AA1 116 [68] 4 (fun x=>Rq x.1) rfl:=Aj Ag Ah AN ZpL func116 (fun p=>by cases p<;>kernel_rfl) (by kernel_rfl) fun _=>rfl
inductive Yw where
 | b0 (a:BD) (b:List Int)
def Zb9:Yw->Tr U (BD⊕Yw)
 | .b0 a b=>AA ({ a with Ak:=(⟨a.Ak.Ba,b⟩:Aw) }:BD)
def aU (a:BD) (b:List Int):Option BD:=AV Zb9 (.b0 a b)
def Zsn:Yw->Ac U
 | .b0 a b=>Ai f168 [70,62] (a,b,())
theorem Za4:AA1 168 [70,62] 70 (fun x=>aU x.1 x.2.1) rfl:=Aj Ag Ah AN Zsn func168 (fun p=>by cases p<;>kernel_rfl) (by kernel_rfl) fun _=>rfl
inductive bM where
 | b0 (a b:Int)
 | b1 (a:Int)
def dM:bM->Tr U (Int⊕bM)
 | .b0 b a=>let e:=IntKind.bits .u64;let c:=(Int.tmod (AP ((AP ((Int.tmod a 64)+64))*11)) (64:Int));let d:=AP ((64:Int) - c);.br (decide (c>0)) (.chk (decide (0<=c)) (.chk (decide (0<=d)) (AO (.b1 (bits .or .u64 (IntKind.wrap .u64 (b*2 ^ (min (Int.toNat c) e))) (Int.fdiv b (2 ^ (min (Int.toNat d) e)))))))) (AO (.b1 b))
 | .b1 a=>AA (IntKind.wrap .u32 ((Int.tmod a 4294967296)))
def Uw (a b:Int):Option Int:=AV dM (.b0 a b)
def Zaw:Lay:=⟨[6],[KP],[],⟨[OV 25],[]⟩⟩
def ZxM:Nat->Option Lay
 | 5=>some Zaw
 | _=>none
def ZvY:bM->Ac U
 | .b0 a b=>Ai f383 [29,3] (a,b,())
 | .b1 a=>AA3 f383 [1,1,1,1,0] Zaw (a,())
theorem ZvR:AA1 383 [29,3] 22 (fun x=>Uw x.1 x.2.1) rfl:=Aj Ag Ah ZxM ZvY func383 (fun p=>by cases p<;>kernel_rfl) (by kernel_rfl) fun _=>rfl
inductive bD where
 | b0 (a b:Int)
def ZbI:bD->Tr U (Int⊕bD)
 | .b0 b a=>let d:=IntKind.bits .u32;let c:=AP ((32:Int) - a);.chk (decide (0<=a)) (.chk (decide (0<=c)) (AA (bits .or .u32 (IntKind.wrap .u32 (b*2 ^ (min (Int.toNat a) d))) (Int.fdiv b (2 ^ (min (Int.toNat c) d))))))
def OC (a b:Int):Option Int:=AV ZbI (.b0 a b)
def ZtJ:bD->Ac U
 | .b0 a b=>Ai f384 [22,3] (a,b,())
theorem Zt0:AA1 384 [22,3] 22 (fun x=>OC x.1 x.2.1) rfl:=Aj Ag Ah AN ZtJ func384 (fun p=>by cases p<;>kernel_rfl) (by kernel_rfl) fun _=>rfl
inductive YF where
 | b0 (a b c:Int)
def Z1f:YF->Tr U (Int⊕YF)
 | .b0 b c d=>.bind 22 (Uw b c) (fun(a:Int)=>.bind 22 (OC (IntKind.wrap .u32 (d+a)) (7:Int)) (fun(e:Int)=>.bind 22 (OC a (16:Int)) (fun(f:Int)=>AA (bits .xor .u32 (IntKind.wrap .u32 (e*2654435761)) f))))
def oL (a b c:Int):Option Int:=AV Z1f (.b0 a b c)
def Zoj:YF->Ac U
 | .b0 a b c=>Ai f359 [29,3,22] (a,b,c,())
theorem Zpl:AA1 359 [29,3,22] 22 (fun x=>oL x.1 x.2.1 x.2.2.1) rfl:=Aj (mc ZvR (mc Zt0 Ag)) Ah AN Zoj func359 (fun p=>by cases p<;>kernel_rfl) (by kernel_rfl) fun _=>rfl
inductive dA where
 | b0 (a b:Int)
 | b1 (a b c d:Int)
def SC:dA->Tr U (Int⊕dA)
 | .b0 b a=>AO (.b1 b (IntKind.wrap .u32 ((IntKind.wrap .u64 (Int.tdiv a 4294967296)))) (IntKind.wrap .u32 ((Int.tmod a 4294967296))) (0:Int))
 | .b1 c d a b=>.br (decide (b<8)) (.bind 22 (oL c b a) (fun(e:Int)=>AO (.b1 c a (bits .xor .u32 d e) (AP (b+1))))) (AA (IntKind.wrap .u64 ((IntKind.wrap .u64 ((IntKind.wrap .u64 (d))*4294967296))+(IntKind.wrap .u64 (a)))))
def Q4 (a b:Int):Option Int:=AV SC (.b0 a b)
def Za3:Lay:=⟨[0,5,6,7],[KP,KP,KP,KP],[],⟨[OV 29,OV 22,OV 22,OV 3],[]⟩⟩
def Zy3:Nat->Option Lay
 | 4=>some Za3
 | _=>none
def Zvn:dA->Ac U
 | .b0 a b=>Ai f327 [29,25] (a,b,())
 | .b1 a b c d=>AA3 f327 [1,1,1,0,1,0,0,0,0] Za3 (a,b,c,d,())
theorem ZbJ:AA1 327 [29,25] 25 (fun x=>Q4 x.1 x.2.1) rfl:=Aj (mc Zpl Ag) Ah Zy3 Zvn func327 (fun p=>by cases p<;>kernel_rfl) (by kernel_rfl) fun _=>rfl
inductive dO where
 | b0 (a b:Int)
 | b1 (a b:Int) (c:List Int) (d:Int)
def Um:dO->Tr U (KU⊕dO)
 | .b0 a b=>.chk true (AO (.b1 a b ([]:List Int) (0:Int)))
 | .b1 c b a d=>let e:=a++[(IntKind.wrap .u8 ((Int.tmod b 256)))];.br (decide (d<c)) (.chk true (kl a (.chk (kA (a.length+1) 1) (kl e (AO (.b1 c (IntKind.wrap .u64 (Int.tdiv b 256)) e (AP (d+1)))))))) (kl a (AA (⟨a⟩:KU)))
def Lr (a b:Int):Option KU:=AV Um (.b0 a b)
def Zak:Shape:=⟨[OV 3,OV 25],[]⟩
def Zo9:Shape:=⟨[.one (.own 5 0)],[.row 5 true]⟩
noncomputable def ZzD:HMod U:=⟨[KP,KP],[],Zak,Zo9,true,1351,fun(y:KU)=>(((),()),(y.q0,())),fun x=>Lr x.1.1.1 x.1.2.1.1,okS rfl⟩
def ZaW:Lay:=⟨[0,1,5,6],[KP,KP,[.own 5 1],KP],[.row true],⟨[OV 3,OV 25,.one (.own 5 0),OV 3],[.row 5 true]⟩⟩
def Zy5:Nat->Option Lay
 | 3=>some ZaW
 | _=>none
def Zu8:dO->Ac U
 | .b0 a b=>Ff f328 Zak (((a,()),((b,()),())),())
 | .b1 a b c d=>AA3 f328 [1,1,0,1,0,0,0,0] ZaW (a,b,d,c,())
theorem pM:Dy Tryz.prog B0 328 ZzD:=okR Ag Ah Zy5 [[.own 5 1]] [.row true] 0 Zu8 func328 (fun p=>by cases p<;>kernel_rfl) (by kernel_rfl) fun x=>by kernel_rfl
inductive Xg where
 | b0 (a b c:Int)
 | b1 (a b:Int) (c:List Int) (d e:Int)
def UX:Xg->Tr U ((List Int)⊕Xg)
 | .b0 a b c=>.bind 25 (Q4 a b) (fun(d:Int)=>.chk true (AO (.b1 a c ([]:List Int) d (0:Int))))
 | .b1 c b a d e=>let h:=(↑a.length:Int);let g:=(Int.toNat b) - 0;kl a (.br (decide (h<b)) (.bind 25 (Q4 c (IntKind.wrap .u64 (d+(IntKind.wrap .u64 (e))))) (fun(f:Int)=>.bind 1351 (Lr (8:Int) f) (fun(q:KU)=>kl q.q0 (kl a (.chk (kA (a.length+q.q0.length) 1) (kl (a++q.q0) (AO (.b1 c b (a++q.q0) d (AP (e+1)))))))))) (kl a (.chk (decide (0<=b/\b<=h)) (kl a (.chk (decide (0+g<=a.length)) (AA ((a.drop 0).take g)))))))
def Xd (a b c:Int):Option (List Int):=AV UX (.b0 a b c)
def Z7r:Lay:=⟨[0,2,7,8,9],[KP,KP,[.own 5 1],KP,KP],[.row true],⟨[OV 29,OV 3,.one (.own 5 0),OV 25,OV 3],[.row 5 true]⟩⟩
def ZqD:Nat->Option Lay
 | 4=>some Z7r
 | _=>none
def Znf:Xg->Ac U
 | .b0 a b c=>Ai f246 [29,25,3] (a,b,c,())
 | .b1 a b c d e=>AA3 f246 [1,1,1,0,1,0,0,0,0] Z7r (a,b,d,e,c,())
theorem Z8H:AA1 246 [29,25,3] 62 (fun x=>Xd x.1 x.2.1 x.2.2.1) rfl:=Aj (mc ZbJ Ag) (hc [] pM Ah) ZqD Znf func246 (fun p=>by cases p<;>kernel_rfl) (by kernel_rfl) fun _=>rfl
inductive YS where
 | b0 (a:List Int)
 | b1 (a:List Int) (b c:Int)
def Ue:YS->Tr U (Int⊕YS)
 | .b0 a=>AO (.b1 a (0:Int) (AP ((↑a.length:Int) - 1)))
 | .b1 b c a=>.br (decide (a>=0)) (.chk (kI a b) (.bind 5 (b[(Int.toNat a)]?) (fun(d:Int)=>AO (.b1 b (IntKind.wrap .u64 ((IntKind.wrap .u64 (c*256))+(IntKind.wrap .u64 (d)))) (AP (a - 1)))))) (AA c)
def nR (a:List Int):Option Int:=AV Ue (.b0 a)
def Z7P:Lay:=⟨[0,3,4],[[.s 5 1],KP,KP],[],⟨[OV 62,OV 25,OV 3],[]⟩⟩
def Zs4:Nat->Option Lay
 | 3=>some Z7P
 | _=>none
def ZqB:YS->Ac U
 | .b0 a=>Ai f360 [62] (a,())
 | .b1 a b c=>AA3 f360 [1,1,0,1,0,0,0,0] Z7P (a,b,c,())
theorem Zqg:AA1 360 [62] 25 (fun x=>nR x.1) rfl:=Aj Ag Ah Zs4 ZqB func360 (fun p=>by cases p<;>kernel_rfl) (by kernel_rfl) fun _=>rfl
end
noncomputable section
inductive dC where
 | b0 (a:Int) (b:List Int)
 | b1 (a:Int) (b:List Int) (c d:Int)
def Uy:dC->Tr U (Int⊕dC)
 | .b0 a b=>.bind 25 (Q4 a (IntKind.wrap .u64 ((↑b.length:Int)))) (fun(c:Int)=>AO (.b1 a b c (0:Int)))
 | .b1 c b d a=>let k:=Int.toNat a;let i:=AP (a+8);let h:=(↑b.length:Int);let g:=if h<i then h else i;let j:=Int.toNat g;.br (decide (a<h)) (.chk (decide (0<=g/\g<=h)) (.chk (decide (0<=a/\a<=(↑j:Int))) (.bind 25 (nR ((b.drop k).take (j - k))) (fun(e:Int)=>.bind 25 (Q4 c (bits .xor .u64 d e)) (fun(f:Int)=>AO (.b1 c b f i)))))) (AA d)
def dQ (a:Int) (b:List Int):Option Int:=AV Uy (.b0 a b)
def Zb4:Lay:=⟨[0,1,5,6],[KP,[.s 5 1],KP,KP],[],⟨[OV 29,OV 62,OV 25,OV 3],[]⟩⟩
def Zzi:Nat->Option Lay
 | 3=>some Zb4
 | _=>none
def Zws:dC->Ac U
 | .b0 a b=>Ai f329 [29,62] (a,b,())
 | .b1 a b c d=>AA3 f329 [1,1,0,1,0,0,0,0] Zb4 (a,b,c,d,())
theorem ZbB:AA1 329 [29,62] 25 (fun x=>dQ x.1 x.2.1) rfl:=Aj (mc ZbJ (mc Zqg Ag)) Ah Zzi Zws func329 (fun p=>by cases p<;>kernel_rfl) (by kernel_rfl) fun _=>rfl
inductive YH where
 | b0 (a:Int) (b c:List Int)
def Z0S:YH->Tr U (Rn⊕YH)
 | .b0 c a b=>.bind 1351 (Lr (8:Int) c) (fun(q:KU)=>.bind 1351 (Lr (4:Int) (IntKind.wrap .u64 ((↑a.length:Int)))) (fun(z:KU)=>let d:=q.q0++z.q0;let e:=(d++a)++b;kl z.q0 (kl q.q0 (.chk (kA (q.q0.length+z.q0.length) 1) (kl d (.chk (kA (d.length+a.length) 1) (kl (d++a) (.chk (kA ((d++a).length+b.length) 1) (kl e (AA (⟨e⟩:Rn)))))))))))
def oD (a:Int) (b c:List Int):Option Rn:=AV Z0S (.b0 a b c)
def Z82:Shape:=⟨[OV 25,OV 62,OV 62],[]⟩
def Zm8:Shape:=⟨[.one (.own 5 0)],[.row 5 true]⟩
noncomputable def Ztp:HMod U:=⟨[KP,[.s 5 1],[.s 5 1]],[],Z82,Zm8,true,1352,fun(y:Rn)=>(((),()),(y.q0,())),fun x=>oD x.1.1.1 x.1.2.1.1 x.1.2.2.1.1,okS rfl⟩
def Zpj:YH->Ac U
 | .b0 a b c=>Ff f330 Z82 (((a,()),((b,()),((c,()),()))),())
theorem ZoK:Dy Tryz.prog B0 330 Ztp:=okR Ag (hc [] pM Ah) AN [[.own 5 1]] [.row true] 0 Zpj func330 (fun p=>by cases p<;>kernel_rfl) (by kernel_rfl) fun x=>by kernel_rfl
inductive dY where
 | b0 (a b:Int) (c d:List Int)
def Z2p:dY->Tr U ((List Int)⊕dY)
 | .b0 a b c d=>.bind 1352 (oD b c d) (fun(q:Rn)=>kl q.q0 (.bind 25 (dQ a q.q0) (fun(e:Int)=>.bind 1351 (Lr (4:Int) e) (fun(z:KU)=>kl z.q0 (AA z.q0)))))
def dR (a b:Int) (c d:List Int):Option (List Int):=AV Z2p (.b0 a b c d)
def ZuS:dY->Ac U
 | .b0 a b c d=>Ai f247 [29,25,62,62] (a,b,c,d,())
theorem Zci:AA1 247 [29,25,62,62] 62 (fun x=>dR x.1 x.2.1 x.2.2.1 x.2.2.2.1) rfl:=Aj (mc ZbB Ag) (hc [] pM (hc [] ZoK Ah)) AN ZuS func247 (fun p=>by cases p<;>kernel_rfl) (by kernel_rfl) fun _=>rfl
inductive bT where
 | b0 (a b:List Int)
 | b1 (a b c:List Int) (d:Int)
 | b2 (a b c:List Int) (d:Int)
def SH:bT->Tr U (PM⊕bT)
 | .b0 a b=>.chk true (AO (.b1 a b ([]:List Int) (0:Int)))
 | .b1 c d a b=>let e:=kl a (AA (⟨a⟩:PM));.br (decide (b<(↑c.length:Int))) (.br (decide (b<(↑d.length:Int))) (kl a (AO (.b2 c d a b))) e) e
 | .b2 c d b a=>let h:=Int.toNat a;.chk (kI a c) (.bind 5 (c[h]?) (fun(e:Int)=>.chk (kI a d) (.bind 5 (d[h]?) (fun(f:Int)=>let g:=b++[(bits .xor .u8 e f)];.chk true (kl b (.chk (kA (b.length+1) 1) (kl g (AO (.b1 c d g (AP (a+1)))))))))))
def dK (a b:List Int):Option PM:=AV SH (.b0 a b)
def ZaX:Shape:=⟨[OV 62,OV 62],[]⟩
def Zp0:Shape:=⟨[.one (.own 5 0)],[.row 5 true]⟩
noncomputable def Zyz:HMod U:=⟨[[.s 5 1],[.s 5 1]],[],ZaX,Zp0,true,1350,fun(y:PM)=>(((),()),(y.q0,())),fun x=>dK x.1.1.1 x.1.2.1.1,okS rfl⟩
def oN:Lay:=⟨[0,1,5,6],[[.s 5 1],[.s 5 1],[.own 5 1],KP],[.row true],⟨[OV 62,OV 62,.one (.own 5 0),OV 3],[.row 5 true]⟩⟩
def ZxF:Nat->Option Lay
 | 3=>some oN
 | 5=>some oN
 | _=>none
def Zx4:bT->Ac U
 | .b0 a b=>Ff f245 ZaX (((a,()),((b,()),())),())
 | .b1 a b c d=>AA3 f245 [1,1,0,1,0,0,0,0] oN (a,b,d,c,())
 | .b2 a b c d=>AA3 f245 [1,1,0,1,0,0,1,0,0] oN (a,b,d,c,())
theorem Zbe:Dy Tryz.prog B0 245 Zyz:=okR Ag Ah ZxF [[.own 5 1]] [.row true] 0 Zx4 func245 (fun p=>by cases p<;>kernel_rfl) (by kernel_rfl) fun x=>by kernel_rfl
inductive bG where
 | b0 (a b:Int) (c d:List Int)
def Z21:bG->Tr U ((List Int)⊕bG)
 | .b0 b c e d=>.bind 62 (Xd b c (↑d.length:Int)) (fun(f:List Int)=>.bind 1350 (dK d f) (fun(q:PM)=>kl q.q0 (.bind 62 (dR b c e q.q0) (fun(a:List Int)=>kl q.q0 (.chk (kA (q.q0.length+a.length) 1) (kl (q.q0++a) (AA (q.q0++a))))))))
def pV (a b:Int) (c d:List Int):Option (List Int):=AV Z21 (.b0 a b c d)
def ZrR:bG->Ac U
 | .b0 a b c d=>Ai f169 [29,25,62,62] (a,b,c,d,())
theorem Ztf:AA1 169 [29,25,62,62] 62 (fun x=>pV x.1 x.2.1 x.2.2.1 x.2.2.2.1) rfl:=Aj (mc Z8H (mc Zci Ag)) (hc [] Zbe Ah) AN ZrR func169 (fun p=>by cases p<;>kernel_rfl) (by kernel_rfl) fun _=>rfl
inductive Yn where
 | b0 (a:Cb) (b c:Int)
 | b1 (a b:Int) (c:Cb)
def oC:Yn->Tr U (Int⊕Yn)
 | .b0 a c b=>.br (c==1) (AO (.b1 b (1:Int) a)) (AO (.b1 b (0:Int) a))
 | .b1 a b c=>AA (bits .xor .u64 c.Bq (IntKind.wrap .u64 ((IntKind.wrap .u64 ((2:Int)*a))+b)))
def YK (a:Cb) (b c:Int):Option Int:=AV oC (.b0 a b c)
def Z81:Lay:=⟨[2,3,7],[KP,KP,KP],[.var k7],⟨[OV 25,PQ 0,OV 25],[VA 41 7]⟩⟩
def Ztl:Nat->Option Lay
 | 4=>some Z81
 | _=>none
def ZpA:Yn->Ac U
 | .b0 a b c=>Ai f170 [41,3,25] (a,b,c,())
 | .b1 a b c=>AA3 f170 [1,1,1,0] Z81 (a,b,c,())
theorem Z9L:AA1 170 [41,3,25] 25 (fun x=>YK x.1 x.2.1 x.2.2.1) rfl:=Aj Ag Ah Ztl ZpA func170 (fun p=>by cases p<;>kernel_rfl) (by kernel_rfl) fun _=>rfl
inductive bJ where
 | b0 (a:Cb) (b:BD)
 | b1 (a:Cb) (b c:BD)
def Oy:bJ->Tr U ((BD×Int)⊕bJ)
 | .b0 b a=>.bind 45 (Nw a) (fun(c:Int)=>.br (c != 0) (AA (E5,c)) (.br (!b.Gm) (AA (a,0)) (.bind 4 (Rq a.Ak) (fun(d:Bool)=>.br d (AA (a,0)) (AO (.b1 b a E5))))))
 | .b1 a b f=>.br (decide ((↑b.Ak.Payload.length:Int)>251)) (AA (E5,4)) (.bind 25 (YK a a.Bz a.Tx) (fun(c:Int)=>.chk true (.bind 62 (pV a.Key c ([(IntKind.wrap .u8 (b.Ak.Ba))]) b.Ak.Payload) (fun(d:List Int)=>.bind 70 (aU b d) (fun(e:BD)=>AA (e,0))))))
def Uf (a:Cb) (b:BD):Option (BD×Int):=AV Oy (.b0 a b)
def Z99:Lay:=⟨[2,3,4],[KP,KP,KP],[.var k7,.var k4,.var k4],⟨[PQ 0,PQ 1,PQ 2],[VA 41 7,VA 70 5,VA 70 5]⟩⟩
def ZvT:Nat->Option Lay
 | 6=>some Z99
 | _=>none
def ZrC:bJ->Ac U
 | .b0 a b=>Ai f72 [41,70] (a,b,())
 | .b1 a b c=>AA3 f72 [1,1,1,0,0] Z99 (a,b,c,())
theorem Zsk:AA1 72 [41,70] 71 (fun x=>Uf x.1 x.2.1) rfl:=Aj (mc nC (mc U4 (mc Za4 (mc Ztf (mc Z9L Ag))))) Ah ZvT ZrC func72 (fun p=>by cases p<;>kernel_rfl) (by kernel_rfl) fun _=>rfl
inductive Xl where
 | b0 (a:BD)
def Z0q:Xl->Tr U (((List Int)×Int)⊕Xl)
 | .b0 a=>let c:=[(IntKind.wrap .u8 ((AP ((AP ((AP (a.Ak.Ba+(AP ((4:Int)*a.Dp))))+(AP ((8:Int)*a.SN))))+(AP ((16:Int)*a.MD)))))),(IntKind.wrap .u8 ((↑a.Ak.Payload.length:Int)))]++a.Ak.Payload;.bind 45 (Nw a) (fun(b:Int)=>.br (b != 0) (.chk true (AA (([]:List Int),b))) (.chk true (.chk (kA (2+a.Ak.Payload.length) 1) (kl c (AA (c,(0:Int)))))))
def mW (a:BD):Option ((List Int)×Int):=AV Z0q (.b0 a)
def Zo6:Xl->Ac U
 | .b0 a=>Ai f73 [70] (a,())
theorem Znv:AA1 73 [70] 120 (fun x=>mW x.1) rfl:=Aj (mc U4 Ag) Ah AN Zo6 func73 (fun p=>by cases p<;>kernel_rfl) (by kernel_rfl) fun _=>rfl
inductive aN where
 | b0 (a:Int)
def Z1z:aN->Tr U ((List Int)⊕aN)
 | .b0 a=>.chk true (AA ([(IntKind.wrap .u8 ((Int.tmod a 256))),(IntKind.wrap .u8 ((Int.tmod (IntKind.wrap .u32 (Int.tdiv a 256)) (256:Int)))),(IntKind.wrap .u8 ((IntKind.wrap .u32 (Int.tdiv a 65536))))]))
def aZ (a:Int):Option (List Int):=AV Z1z (.b0 a)
def Ztq:aN->Ac U
 | .b0 a=>Ai f172 [22] (a,())
theorem Zaq:AA1 172 [22] 62 (fun x=>aZ x.1) rfl:=Aj Ag Ah AN Ztq func172 (fun p=>by cases p<;>kernel_rfl) (by kernel_rfl) fun _=>rfl
inductive aG where
 | b0 (a b:Int)
def Z1C:aG->Tr U (Int⊕aG)
 | .b0 a b=>let c:=IntKind.wrap .u32 (Int.tdiv a 2);.br ((bits .xor .u32 (Int.tmod a 2) b)==1) (AA (bits .xor .u32 c (14311424:Int))) (AA c)
def o5 (a b:Int):Option Int:=AV Z1C (.b0 a b)
def ZqR:aG->Ac U
 | .b0 a b=>Ai f250 [22,22] (a,b,())
theorem ZsM:AA1 250 [22,22] 22 (fun x=>o5 x.1 x.2.1) rfl:=Aj Ag Ah AN ZqR func250 (fun p=>by cases p<;>kernel_rfl) (by kernel_rfl) fun _=>rfl
inductive dB where
 | b0 (a:Int) (b:List Int)
 | b1 (a:List Int) (b c:Int)
 | b2 (a:List Int) (b c d e:Int)
def Ls:dB->Tr U (Int⊕dB)
 | .b0 a b=>AO (.b1 b (Int.tmod a 16777216) (0:Int))
 | .b1 a c b=>.br (decide (b<(↑a.length:Int))) (.chk (kI b a) (.bind 5 (a[(Int.toNat b)]?) (fun(d:Int)=>AO (.b2 a c b (IntKind.wrap .u32 (d)) (0:Int))))) (AA c)
 | .b2 a b c d e=>.br (decide (e<8)) (.bind 22 (o5 b (Int.tmod d 2)) (fun(f:Int)=>AO (.b2 a f c (IntKind.wrap .u32 (Int.tdiv d 2)) (AP (e+1))))) (AO (.b1 a b (AP (c+1))))
def dF (a:Int) (b:List Int):Option Int:=AV Ls (.b0 a b)
def ZaY:Lay:=⟨[1,5,6],[[.s 5 1],KP,KP],[],⟨[OV 62,OV 22,OV 3],[]⟩⟩
def ZaQ:Lay:=⟨[1,5,6,7,8],[[.s 5 1],KP,KP,KP,KP],[],⟨[OV 62,OV 22,OV 3,OV 22,OV 3],[]⟩⟩
def Zxs:Nat->Option Lay
 | 3=>some ZaY
 | 7=>some ZaQ
 | _=>none
def Zw4:dB->Ac U
 | .b0 a b=>Ai f173 [22,62] (a,b,())
 | .b1 a b c=>AA3 f173 [1,1,0,1,0,0,0,0] ZaY (a,b,c,())
 | .b2 a b c d e=>AA3 f173 [1,1,0,1,0,0,1,0,0,1,1,0,0,0,0] ZaQ (a,b,c,d,e,())
theorem Zbd:AA1 173 [22,62] 22 (fun x=>dF x.1 x.2.1) rfl:=Aj (mc ZsM Ag) Ah Zxs Zw4 func173 (fun p=>by cases p<;>kernel_rfl) (by kernel_rfl) fun _=>rfl
inductive Xu where
 | b0 (a:Int) (b:List Int)
def Z0p:Xu->Tr U ((List Int)⊕Xu)
 | .b0 c a=>let e:=([]:List Int)++a;.chk true (.chk (kA (0+a.length) 1) (.bind 22 (dF c a) (fun(d:Int)=>.bind 62 (aZ d) (fun(b:List Int)=>kl e (.chk (kA (e.length+b.length) 1) (kl (e++b) (AA (e++b))))))))
def Xo (a:Int) (b:List Int):Option (List Int):=AV Z0p (.b0 a b)
def Zns:Xu->Ac U
 | .b0 a b=>Ai f75 [22,62] (a,b,())
theorem ZnF:AA1 75 [22,62] 62 (fun x=>Xo x.1 x.2.1) rfl:=Aj (mc Zaq (mc Zbd Ag)) Ah AN Zns func75 (fun p=>by cases p<;>kernel_rfl) (by kernel_rfl) fun _=>rfl
inductive Y7 where
 | b0 (a:Int)
def Z0L:Y7->Tr U (Int⊕Y7)
 | .b0 a=>let b:=(if (39:Int)<a then (39:Int) else a);AA (AP ((64:Int)+(if b>0 then b else (0:Int))))
def oJ (a:Int):Option Int:=AV Z0L (.b0 a)
def ZpB:Y7->Ac U
 | .b0 a=>Ai f248 [3] (a,())
theorem ZoU:AA1 248 [3] 3 (fun x=>oJ x.1) rfl:=Aj Ag Ah AN ZpB func248 (fun p=>by cases p<;>kernel_rfl) (by kernel_rfl) fun _=>rfl
inductive Yq where
 | b0 (a:Int)
def Z1H:Yq->Tr U (Int⊕Yq)
 | .b0 a=>let b:=Int.tmod (AP (a*2)) 128;.br (decide (a>=64)) (AA (bits .xor .i64 b (17:Int))) (AA b)
def pK (a:Int):Option Int:=AV Z1H (.b0 a)
def ZrX:Yq->Ac U
 | .b0 a=>Ai f249 [3] (a,())
theorem Zru:AA1 249 [3] 3 (fun x=>pK x.1) rfl:=Aj Ag Ah AN ZrX func249 (fun p=>by cases p<;>kernel_rfl) (by kernel_rfl) fun _=>rfl
inductive XI where
 | b0 (a b:Int)
 | b1 (a:Int) (b:List Int) (c d:Int)
 | b2 (a:Int) (b:List Int) (c d e f g:Int)
def LD:XI->Tr U ((List Int)⊕XI)
 | .b0 a b=>.bind 3 (oJ a) (fun(c:Int)=>.chk true (AO (.b1 b ([]:List Int) c (0:Int))))
 | .b1 b a d c=>.br (decide (c<b)) (kl a (AO (.b2 b a d c (0:Int) (1:Int) (0:Int)))) (kl a (AA a))
 | .b2 d a b e c f g=>let i:=a++[(IntKind.wrap .u8 (c))];.br (decide (g<8)) (.bind 3 (pK b) (fun(h:Int)=>kl a (AO (.b2 d a h e (AP (c+(AP (f*(AP (Int.tdiv b 64)))))) (AP (f*2)) (AP (g+1)))))) (.chk true (kl a (.chk (kA (a.length+1) 1) (kl i (AO (.b1 d i b (AP (e+1))))))))
def lQ (a b:Int):Option (List Int):=AV LD (.b0 a b)
def Z6N:Lay:=⟨[1,5,6,7],[KP,[.own 5 1],KP,KP],[.row true],⟨[OV 3,.one (.own 5 0),OV 3,OV 3],[.row 5 true]⟩⟩
def Z6L:Lay:=⟨[1,5,6,7,8,9,10],[KP,[.own 5 1],KP,KP,KP,KP,KP],[.row true],⟨[OV 3,.one (.own 5 0),OV 3,OV 3,OV 3,OV 3,OV 3],[.row 5 true]⟩⟩
def ZlJ:Nat->Option Lay
 | 4=>some Z6N
 | 8=>some Z6L
 | _=>none
def Zlb:XI->Ac U
 | .b0 a b=>Ai f171 [3,3] (a,b,())
 | .b1 a b c d=>AA3 f171 [1,1,1,0,1,0,0,0,0] Z6N (a,c,d,b,())
 | .b2 a b c d e f g=>AA3 f171 [1,1,1,0,1,0,0,1,0,0,1,0,1,0,0,0,0] Z6L (a,c,d,e,f,g,b,())
theorem Zlf:AA1 171 [3,3] 62 (fun x=>lQ x.1 x.2.1) rfl:=Aj (mc ZoU (mc Zru Ag)) Ah ZlJ Zlb func171 (fun p=>by cases p<;>kernel_rfl) (by kernel_rfl) fun _=>rfl
inductive Y6 where
 | b0 (a:Int) (b:List Int)
 | b1 (a b c:List Int) (d:Int)
def U6:Y6->Tr U (QV⊕Y6)
 | .b0 b a=>.bind 62 (lQ b (↑a.length:Int)) (fun(c:List Int)=>.chk true (AO (.b1 a c ([]:List Int) (0:Int))))
 | .b1 c d a b=>let h:=Int.toNat b;.br (decide (b<(↑c.length:Int))) (.chk (kI b c) (.bind 5 (c[h]?) (fun(e:Int)=>.chk (kI b d) (.bind 5 (d[h]?) (fun(f:Int)=>let g:=a++[(bits .xor .u8 e f)];.chk true (kl a (.chk (kA (a.length+1) 1) (kl g (AO (.b1 c d g (AP (b+1)))))))))))) (kl a (AA (⟨a⟩:QV)))
def Yc (a:Int) (b:List Int):Option QV:=AV U6 (.b0 a b)
def Z7Z:Shape:=⟨[OV 3,OV 62],[]⟩
def ZlM:Shape:=⟨[.one (.own 5 0)],[.row 5 true]⟩
noncomputable def Zrr:HMod U:=⟨[KP,[.s 5 1]],[],Z7Z,ZlM,true,1348,fun(y:QV)=>(((),()),(y.q0,())),fun x=>Yc x.1.1.1 x.1.2.1.1,okS rfl⟩
def Z8R:Lay:=⟨[1,5,6,7],[[.s 5 1],[.s 5 1],[.own 5 1],KP],[.row true],⟨[OV 62,OV 62,.one (.own 5 0),OV 3],[.row 5 true]⟩⟩
def Zr0:Nat->Option Lay
 | 4=>some Z8R
 | _=>none
def ZpF:Y6->Ac U
 | .b0 a b=>Ff f74 Z7Z (((a,()),((b,()),())),())
 | .b1 a b c d=>AA3 f74 [1,1,1,0,1,0,0,0,0] Z8R (a,b,d,c,())
theorem Z9h:Dy Tryz.prog B0 74 Zrr:=okR (mc Zlf Ag) Ah Zr0 [[.own 5 1]] [.row true] 0 ZpF func74 (fun p=>by cases p<;>kernel_rfl) (by kernel_rfl) fun x=>by kernel_rfl
inductive Yv where
 | b0 (a:A8)
 | b1 (a b:A8) (c:BD)
def Nz:Yv->Tr U ((A8×(List Int))⊕Yv)
 | .b0 c=>.br (c.Bd != 0) (.chk true (AA (c,([]:List Int)))) (.bind 44 (oP c) (fun(b:A8)=>.bind 75 (aP b.Az) (fun(a:BQ×BD)=>let e:=({ b with More:=(a.2.MD==1),Az:=a.1 }:A8);let f:=AO (Yv.b1 e Dk a.2);.br b.DY.Gm (.bind 71 (Uf b.DY a.2) (fun(d:BD×Int)=>.br (d.2==0) (AO (.b1 e Dk d.1)) f)) f)))
 | .b1 a f b=>.bind 120 (mW b) (fun(c:(List Int)×Int)=>.bind 3 (QR a) (fun(d:Int)=>.bind 62 (Xo a.Bl.FQ c.1) (fun(e:List Int)=>.bind 1348 (Yc d e) (fun(q:QV)=>kl q.q0 (AA (a,q.q0))))))
def PD (a:A8):Option (A8×(List Int)):=AV Nz (.b0 a)
def Z9G:Lay:=⟨[1,2,5],[KP,KP,KP],[.var k2,.var k2,.var k4],⟨[PQ 0,PQ 1,PQ 2],[VA 44 66,VA 44 66,VA 70 5]⟩⟩
def Zxd:Nat->Option Lay
 | 11=>some Z9G
 | _=>none
def ZsQ:Yv->Ac U
 | .b0 a=>Ai f24 [44] (a,())
 | .b1 a b c=>AA3 f24 [1,1,1,1,1,1,1,0] Z9G (a,b,c,())
theorem ZqY:AA1 24 [44] 63 (fun x=>PD x.1) rfl:=Aj (mc Z7i (mc Zob (mc Ztu (mc Zsk (mc Znv (mc ZnF Ag)))))) (hc [] Z9h Ah) Zxd ZsQ func24 (fun p=>by cases p<;>kernel_rfl) (by kernel_rfl) fun _=>rfl
inductive Yu where
 | b0 (a:Dv)
def Zbg:Yu->Tr U ((Dv×Int)⊕Yu)
 | .b0 a=>.bind 4 (oZ a false) (fun(b:Bool)=>.br b (AA (a,9)) (AA (({ a with SK:=(AP (a.SK+1)) }:Dv),(0:Int))))
def Z2h (a:Dv):Option (Dv×Int):=AV Zbg (.b0 a)
def Zso:Yu->Ac U
 | .b0 a=>Ai f91 [35] (a,())
theorem Zs6:AA1 91 [35] 129 (fun x=>Z2h x.1) rfl:=Aj (mc ZaP Ag) Ah AN Zso func91 (fun p=>by cases p<;>kernel_rfl) (by kernel_rfl) fun _=>rfl
inductive Xr where
 | b0 (a:Dv) (b:Bool)
def Z9N:Xr->Tr U (Dv⊕Xr)
 | .b0 a b=>.br b (AA (⟨a.Dx,0,false⟩:Dv)) (AA ({ a with SK:=0 }:Dv))
def Z0w (a:Dv) (b:Bool):Option Dv:=AV Z9N (.b0 a b)
def ZmM:Xr->Ac U
 | .b0 a b=>Ai f92 [35,4] (a,b,())
theorem ZmP:AA1 92 [35,4] 35 (fun x=>Z0w x.1 x.2.1) rfl:=Aj Ag Ah AN ZmM func92 (fun p=>by cases p<;>kernel_rfl) (by kernel_rfl) fun _=>rfl
inductive Xe where
 | b0 (a:List BV) (b:Int) (c:Bool)
 | b1 (a:Int) (b:Bool) (c:List BV)
 | b2 (a:Int) (b:Bool) (c:List BV)
 | b3 (a:Int) (b:Bool) (c:List BV)
 | b4 (a:Int) (b:List BV)
def Z9c:Xe->Tr U ((List BV)⊕Xe)
 | .b0 a b c=>let d:=([]:List BV)++a;let e:=kl d (AA d);.chk true (.chk (kA (0+a.length) 16) (.br (decide (b<0)) e (.br (decide (b>=(↑a.length:Int))) e (kl d (AO (.b1 b c d))))))
 | .b1 b c a=>let e:=kl a (AO (Xe.b3 b c a));.br c (kl a (.chk (kI b a) (kl a (.bind 99 (a[(Int.toNat b)]?) (fun(d:BV)=>.br (decide (d.Good<65536)) (kl a (AO (.b2 b c a))) e))))) e
 | .b2 b e a=>let g:=Int.toNat b;kl a (.chk (kI b a) (kl a (.bind 99 (a[g]?) (fun(c:BV)=>kl a (.chk (kI b a) (.chk (a.length==a.length&&decide (0<=g)) (.bind 99 (a[g]?) (fun(d:BV)=>let f:=(a.set g (⟨(AP (c.Good+1)),d.Nh⟩:BV));.chk (f.length==a.length) (AO (.b3 b e f))))))))))
 | .b3 b c a=>let e:=kl a (AA a);.br (!c) (kl a (.chk (kI b a) (kl a (.bind 99 (a[(Int.toNat b)]?) (fun(d:BV)=>.br (decide (d.Nh<65536)) (kl a (AO (.b4 b a))) e))))) e
 | .b4 b a=>let f:=Int.toNat b;kl a (.chk (kI b a) (kl a (.bind 99 (a[f]?) (fun(c:BV)=>kl a (.chk (kI b a) (.chk (a.length==a.length&&decide (0<=f)) (.bind 99 (a[f]?) (fun(d:BV)=>let e:=(a.set f (⟨d.Good,(AP (c.Nh+1))⟩:BV));.chk (e.length==a.length) (AA e)))))))))
def Xb (a:List BV) (b:Int) (c:Bool):Option (List BV):=AV Z9c (.b0 a b c)
def UO:Lay:=⟨[1,2,7],[KP,KP,[.own 99 2]],[.row true],⟨[OV 3,OV 4,.one (.own 99 0)],[.row 99 true]⟩⟩
def Z7F:Lay:=⟨[1,7],[KP,[.own 99 2]],[.row true],⟨[OV 3,.one (.own 99 0)],[.row 99 true]⟩⟩
def ZpZ:Nat->Option Lay
 | 4=>some UO
 | 5=>some UO
 | 6=>some UO
 | 7=>some Z7F
 | _=>none
def ZnO:Xe->Ac U
 | .b0 a b c=>Ai f93 [42,3,4] (a,b,c,())
 | .b1 a b c=>AA3 f93 [1,1,1,0,0] UO (a,b,c,())
 | .b2 a b c=>AA3 f93 [1,1,1,0,1,0] UO (a,b,c,())
 | .b3 a b c=>AA3 f93 [1,1,1,1,0,0] UO (a,b,c,())
 | .b4 a b=>AA3 f93 [1,1,1,1,0,1,0] Z7F (a,b,())
theorem Z8e:AA1 93 [42,3,4] 42 (fun x=>Xb x.1 x.2.1 x.2.2.1) rfl:=Aj Ag Ah ZpZ ZnO func93 (fun p=>by cases p<;>kernel_rfl) (by kernel_rfl) fun _=>rfl
inductive aF where
 | b0 (a b:Int)
 | b1 (a:Int)
def Zcl:aF->Tr U (Int⊕aF)
 | .b0 a b=>let c:=AP ((AP (b)) - (AP (a)));.br (decide (c < -32768)) (AO (.b1 (AP (c+65536)))) (AO (.b1 c))
 | .b1 a=>.br (decide (a>32767)) (AA (AP (a - 65536))) (AA a)
def Z22 (a b:Int):Option Int:=AV Zcl (.b0 a b)
def Z9o:Lay:=⟨[5],[KP],[],⟨[OV 3],[]⟩⟩
def Zwq:Nat->Option Lay
 | 4=>some Z9o
 | _=>none
def ZrK:aF->Ac U
 | .b0 a b=>Ai f333 [30,30] (a,b,())
 | .b1 a=>AA3 f333 [1,1,1,0,0] Z9o (a,())
theorem ZrU:AA1 333 [30,30] 3 (fun x=>Z22 x.1 x.2.1) rfl:=Aj Ag Ah Zwq ZrK func333 (fun p=>by cases p<;>kernel_rfl) (by kernel_rfl) fun _=>rfl
inductive Xp where
 | b0 (a b:Int)
def Z9l:Xp->Tr U (Bool⊕Xp)
 | .b0 a b=>.bind 3 (Z22 b a) (fun(c:Int)=>AA (decide (c>=0)))
def nI (a b:Int):Option Bool:=AV Z9l (.b0 a b)
def Zo3:Xp->Ac U
 | .b0 a b=>Ai f258 [30,30] (a,b,())
theorem Z7R:AA1 258 [30,30] 4 (fun x=>nI x.1 x.2.1) rfl:=Aj (mc ZrU Ag) Ah AN Zo3 func258 (fun p=>by cases p<;>kernel_rfl) (by kernel_rfl) fun _=>rfl
inductive dL where
 | b0 (a:List BP) (b:Int)
 | b1 (a:List BP) (b:Int) (c d:List BP) (e:Int)
 | b2 (a:List BP) (b:Int) (c d:List BP) (e:Int)
def ZcE:dL->Tr U (((List BP)×(List BP))⊕dL)
 | .b0 a b=>let c:=([]:List BP);.chk (true&&true) (AO (.b1 a b c c (0:Int)))
 | .b1 a e c d b=>let k:=kI b a;let j:=a[(Int.toNat b)]?;.br (decide (b<(↑a.length:Int))) (.chk k (.bind 138 j (fun(h:BP)=>.bind 4 (nI e h.DF) (fun(i:Bool)=>.br i (.chk k (.bind 138 j (fun(f:BP)=>.chk true (kl d (.chk (kA (d.length+1) 64) (.chk (kL c&&kL (d++[f])) (AO (.b2 a e c (d++[f]) b)))))))) (.chk k (.bind 138 j (fun(g:BP)=>.chk true (kl c (.chk (kA (c.length+1) 64) (.chk (kL (c++[g])&&kL d) (AO (.b2 a e (c++[g]) d b)))))))))))) (kl c (kl d (AA (c,d))))
 | .b2 c d a b e=>.chk (kL a&&kL b) (AO (.b1 c d a b (AP (e+1))))
def Z2J (a:List BP) (b:Int):Option ((List BP)×(List BP)):=AV ZcE (.b0 a b)
def oK:Lay:=⟨[0,1,4,5,6],[[.s 138 8],KP,[.own 138 8],[.own 138 8],KP],[.row true,.row true],⟨[OV 37,OV 30,.one (.own 138 0),.one (.own 138 1),OV 3],[.row 138 true,.row 138 true]⟩⟩
def Zzb:Nat->Option Lay
 | 3=>some oK
 | 4=>some oK
 | _=>none
def ZuJ:dL->Ac U
 | .b0 a b=>Ai f186 [37,30] (a,b,())
 | .b1 a b c d e=>AA3 f186 [1,1,0,1,0,0,0,0] oK (a,b,e,c,d,())
 | .b2 a b c d e=>AA3 f186 [1,1,0,1,0,0,1,1] oK (a,b,e,c,d,())
theorem ZwV:AA1 186 [37,30] 208 (fun x=>Z2J x.1 x.2.1) rfl:=Aj (mc Z7R Ag) Ah Zzb ZuJ func186 (fun p=>by cases p<;>kernel_rfl) (by kernel_rfl) fun _=>rfl
inductive eG where
 | b0 (a:Aa) (b:Int)
 | b1 (a b:Aa)
 | b2 (a:List BP) (b c:Aa)
 | b3 (a:List BP) (b:Int) (c d:Aa)
 | b4 (a:List BP) (b:Int) (c d:Aa)
 | b5 (a:List BP) (b:Int) (c d:Aa)
def Zdb:eG->Tr U ((Aa×(List BP))⊕eG)
 | .b0 b c=>.bind 208 (Z2J b.CO c) (fun(a:(List BP)×(List BP))=>let e:=({ b with CO:=a.1 }:Aa);let d:=AO (eG.b2 a.2 e EW);.br (b.Bz==0) (.br (decide ((↑a.2.length:Int)>0)) (.br (!b.Told) (AO (.b1 e EW)) d) d) d)
 | .b1 a b=>let c:=([]:List BP);.br (a.GR==0) (.chk true (AA (({ a with GR:=40 }:Aa),c))) (.chk true (AA (a,c)))
 | .b2 a b c=>AO (.b3 a (0:Int) b c)
 | .b3 a b c d=>.br (decide (b<(↑a.length:Int))) (.chk (kI b a) (.bind 138 (a[(Int.toNat b)]?) (fun(e:BP)=>.br (c.Own==e.Kind) (AO (.b4 a b ({ c with Own:=-1 }:Aa) d)) (AO (.b4 a b c d))))) (AA (c,a))
 | .b4 a b c d=>.chk (kI b a) (.bind 138 (a[(Int.toNat b)]?) (fun(e:BP)=>.br (c.Other==e.Kind) (AO (.b5 a b ({ c with Other:=-1 }:Aa) d)) (AO (.b5 a b c d))))
 | .b5 a b c d=>AO (.b3 a (AP (b+1)) c d)
def Z2R (a:Aa) (b:Int):Option (Aa×(List BP)):=AV Zdb (.b0 a b)
def Z9X:Lay:=⟨[2,4],[KP,KP],[.var k1,.var k1],⟨[PQ 0,PQ 1],[VA 39 20,VA 39 20]⟩⟩
def ZaE:Lay:=⟨[2,4,7],[KP,KP,[.s 138 8]],[.var k1,.var k1],⟨[PQ 0,PQ 1,OV 37],[VA 39 20,VA 39 20]⟩⟩
def Ub:Lay:=⟨[2,4,7,8],[KP,KP,[.s 138 8],KP],[.var k1,.var k1],⟨[PQ 0,PQ 1,OV 37,OV 3],[VA 39 20,VA 39 20]⟩⟩
def Zyr:Nat->Option Lay
 | 4=>some Z9X
 | 7=>some ZaE
 | 8=>some Ub
 | 12=>some Ub
 | 9=>some Ub
 | _=>none
def Zxj:eG->Ac U
 | .b0 a b=>Ai f94 [39,30] (a,b,())
 | .b1 a b=>AA3 f94 [1,1,1,0,1,0,0,0] Z9X (a,b,())
 | .b2 a b c=>AA3 f94 [1,1,1,1,0,0] ZaE (a,b,c,())
 | .b3 a b c d=>AA3 f94 [1,1,1,1,0,1,0,0,0,0] Ub (a,b,c,d,())
 | .b4 a b c d=>AA3 f94 [1,1,1,1,0,1,0,0,1,0,0,1,0] Ub (a,b,c,d,())
 | .b5 a b c d=>AA3 f94 [1,1,1,1,0,1,0,0,1,1] Ub (a,b,c,d,())
theorem Zxc:AA1 94 [39,30] 135 (fun x=>Z2R x.1 x.2.1) rfl:=Aj (mc ZwV Ag) Ah Zyr Zxj func94 (fun p=>by cases p<;>kernel_rfl) (by kernel_rfl) fun _=>rfl
end
noncomputable section
inductive bQ where
 | b0 (a:Dv) (b:Int)
def ZcR:bQ->Tr U (Dv⊕bQ)
 | .b0 c a=>.bind 35 (qI a) (fun(b:Dv)=>AA b)
def Z2Q (a:Dv) (b:Int):Option Dv:=AV ZcR (.b0 a b)
def Zwl:bQ->Ac U
 | .b0 a b=>Ai f187 [35,3] (a,b,())
theorem Zw2:AA1 187 [35,3] 35 (fun x=>Z2Q x.1 x.2.1) rfl:=Aj (mc Zbp Ag) Ah AN Zwl func187 (fun p=>by cases p<;>kernel_rfl) (by kernel_rfl) fun _=>rfl
inductive Ya where
 | b0 (a:A8) (b:BP)
 | b1 (a:A8) (b:BP) (c:A8)
def ZaV:Ya->Tr U (A8⊕Ya)
 | .b0 a b=>let d:=({ a.Bl with BI:=b.BI }:Ey);let c:=AP (a.IL+(AP ((1250:Int)*b.BI.ES)));.br (b.Kind==1) (AA ({ a with Bl:=({ a.Bl with Map:=b.Map }:Ey) }:A8)) (.br (a.Bz==1) (AO (.b1 ({ a with Bl:=d,IL:=c,Size:=(AP (a.Size+(AP ((1250:Int)*b.BI.ET)))) }:A8) b Dk)) (AO (.b1 ({ a with Bl:=d,IL:=c }:A8) b Dk)))
 | .b1 a b d=>.bind 35 (Z2Q a.Hg b.BI.Dx) (fun(c:Dv)=>AA ({ a with Hg:=c }:A8))
def Z0W (a:A8) (b:BP):Option A8:=AV ZaV (.b0 a b)
def Z8M:Lay:=⟨[2,3,4],[KP,KP,KP],[.var k2,.var k13,.var k2],⟨[PQ 0,PQ 1,PQ 2],[VA 44 66,VA 138 8,VA 44 66]⟩⟩
def Zrj:Nat->Option Lay
 | 8=>some Z8M
 | _=>none
def Zqw:Ya->Ac U
 | .b0 a b=>Ai f95 [44,138] (a,b,())
 | .b1 a b c=>AA3 f95 [1,1,1,1,1,0] Z8M (a,b,c,())
theorem ZoV:AA1 95 [44,138] 44 (fun x=>Z0W x.1 x.2.1) rfl:=Aj (mc Zw2 Ag) Ah Zrj Zqw func95 (fun p=>by cases p<;>kernel_rfl) (by kernel_rfl) fun _=>rfl
inductive YD where
 | b0 (a:Int)
def ZaK:YD->Tr U (Bool⊕YD)
 | .b0 a=>.br (a==0) (AA true) (AA (a==1))
def QY (a:Int):Option Bool:=AV ZaK (.b0 a)
def ZoP:YD->Ac U
 | .b0 a=>Ai f259 [3] (a,())
theorem U1:AA1 259 [3] 4 (fun x=>QY x.1) rfl:=Aj Ag Ah AN ZoP func259 (fun p=>by cases p<;>kernel_rfl) (by kernel_rfl) fun _=>rfl
inductive bW where
 | b0 (a:Aa) (b:AL)
def ZcN:bW->Tr U (Bool⊕bW)
 | .b0 a b=>.bind 4 (QY b.Kind) (fun(c:Bool)=>.br (!c) (AA true) (AA ((↑a.CO.length:Int)==0)))
def qO (a:Aa) (b:AL):Option Bool:=AV ZcN (.b0 a b)
def Zwg:bW->Ac U
 | .b0 a b=>Ai f188 [39,156] (a,b,())
theorem Zbj:AA1 188 [39,156] 4 (fun x=>qO x.1 x.2.1) rfl:=Aj (mc U1 Ag) Ah AN Zwg func188 (fun p=>by cases p<;>kernel_rfl) (by kernel_rfl) fun _=>rfl
inductive dZ where
 | b0 (a b:Int)
def ZcI:dZ->Tr U (Int⊕dZ)
 | .b0 a b=>AA (IntKind.wrap .u16 ((Int.tmod (AP ((AP ((AP (a))+(Int.tmod b 65536)))+65536)) (65536:Int))))
def qM (a b:Int):Option Int:=AV ZcI (.b0 a b)
def Zvj:dZ->Ac U
 | .b0 a b=>Ai f190 [30,3] (a,b,())
theorem ZbU:AA1 190 [30,3] 30 (fun x=>qM x.1 x.2.1) rfl:=Aj Ag Ah AN Zvj func190 (fun p=>by cases p<;>kernel_rfl) (by kernel_rfl) fun _=>rfl
inductive Yz where
 | b0 (a b:Int)
def Zba:Yz->Tr U (Int⊕Yz)
 | .b0 b a=>let d:=(if (499:Int)<a then (499:Int) else a);.bind 30 (qM b (AP ((6:Int)+(if d>0 then d else (0:Int))))) (fun(c:Int)=>AA c)
def Z1T (a b:Int):Option Int:=AV Zba (.b0 a b)
def ZtO:Yz->Ac U
 | .b0 a b=>Ai f260 [30,3] (a,b,())
theorem Zto:AA1 260 [30,3] 30 (fun x=>Z1T x.1 x.2.1) rfl:=Aj (mc ZbU Ag) Ah AN ZtO func260 (fun p=>by cases p<;>kernel_rfl) (by kernel_rfl) fun _=>rfl
inductive Yf where
 | b0 (a:Int) (b:BP)
 | b1 (a:Int) (b:BP)
def ZaN:Yf->Tr U (Int⊕Yf)
 | .b0 b a=>let c:=AO (Yf.b1 b a);.br (a.Kind != 0) (.br (a.Kind != 1) (AA (12:Int)) c) c
 | .b1 a b=>.bind 4 (nI a b.DF) (fun(c:Bool)=>.br c (AA (18:Int)) (AA (0:Int)))
def Z0K (a:Int) (b:BP):Option Int:=AV ZaN (.b0 a b)
def Z8E:Lay:=⟨[0,3],[KP,KP],[.var k13],⟨[OV 30,PQ 0],[VA 138 8]⟩⟩
def Zrs:Nat->Option Lay
 | 3=>some Z8E
 | _=>none
def Zog:Yf->Ac U
 | .b0 a b=>Ai f334 [30,138] (a,b,())
 | .b1 a b=>AA3 f334 [1,1,0,0] Z8E (a,b,())
theorem Zor:AA1 334 [30,138] 45 (fun x=>Z0K x.1 x.2.1) rfl:=Aj (mc Z7R Ag) Ah Zrs Zog func334 (fun p=>by cases p<;>kernel_rfl) (by kernel_rfl) fun _=>rfl
inductive dJ where
 | b0 (a:List BP) (b:Int) (c:BP)
def Zdo:dJ->Tr U (((List BP)×Int)⊕dJ)
 | .b0 a d b=>let e:=([]:List BP)++a;.chk true (.chk (kA (0+a.length) 64) (.bind 45 (Z0K d b) (fun(c:Int)=>.br (c != 0) (kl e (AA (e,c))) (.br (decide ((↑a.length:Int)>0)) (kl e (AA (e,(20:Int)))) (.chk true (kl e (.chk (kA (e.length+1) 64) (kl (e++[b]) (AA ((e++[b]),(0:Int)))))))))))
def qW (a:List BP) (b:Int) (c:BP):Option ((List BP)×Int):=AV Zdo (.b0 a b c)
def Zx0:dJ->Ac U
 | .b0 a b c=>Ai f261 [37,30,138] (a,b,c,())
theorem ZbS:AA1 261 [37,30,138] 269 (fun x=>qW x.1 x.2.1 x.2.2.1) rfl:=Aj (mc Zor Ag) Ah AN Zx0 func261 (fun p=>by cases p<;>kernel_rfl) (by kernel_rfl) fun _=>rfl
inductive X7 where
 | b0 (a:AL)
def Z9f:X7->Tr U (BP⊕X7)
 | .b0 a=>AA (⟨a.Kind,a.DF,a.BI,a.Map⟩:BP)
def nJ (a:AL):Option BP:=AV Z9f (.b0 a)
def Zne:X7->Ac U
 | .b0 a=>Ai f262 [156] (a,())
theorem Z8Q:AA1 262 [156] 138 (fun x=>nJ x.1) rfl:=Aj Ag Ah AN Zne func262 (fun p=>by cases p<;>kernel_rfl) (by kernel_rfl) fun _=>rfl
inductive YV where
 | b0 (a:Aa) (b:AL) (c d:Int)
 | b1 (a:Int) (b:Aa) (c:AL) (d:Aa) (e:AL)
 | b2 (a:Int) (b:Aa) (c:AL) (d:Aa) (e:AL)
 | b3 (a:Aa) (b:AL) (c:Aa) (d:AL)
 | b4 (a:Aa) (b:AL) (c:Aa) (d:AL)
 | b5 (a:Aa) (b:AL) (c:Aa) (d:AL)
def ZaO:YV->Tr U ((Aa×AL)⊕YV)
 | .b0 b a d c=>let h:=a.Kind==0;let e:=({ b with Own:=a.Kind,Since:=c }:Aa);let g:=AO (YV.b1 d e a EW Gg);let f:=AO (YV.b2 a.Kind e a EW Gg);.br h (.br h g f) (.br (a.Kind==1) g f)
 | .b1 d a b e f=>.bind 30 (Z1T d (0:Int)) (fun(c:Int)=>let i:=({ b with DF:=c }:AL);.bind 138 (nJ i) (fun(h:BP)=>.bind 269 (qW a.CO d h) (fun(g:(List BP)×Int)=>.br (g.2==0) (AO (.b3 ({ a with CO:=g.1 }:Aa) i e f)) (AO (.b3 a i e f)))))
 | .b2 e b a c d=>.br (e==3) (AO (.b4 ({ b with Bq:=a.Bq,Mark:=a.Mark,EJ:=1 }:Aa) a c d)) (.br (e==12) (AO (.b4 ({ b with JV:=true }:Aa) a c d)) (.br (e==20) (AO (.b4 ({ b with Limit:=a.Length }:Aa) a c d)) (AO (.b4 b a c d))))
 | .b3 a b c d=>let e:=({ a with Told:=false }:Aa);let f:=AO (YV.b4 e b c d);.br (b.Kind==0) (.br (a.Other==15) (AO (.b5 e b c d)) f) f
 | .b4 a b c d=>AA (a,b)
 | .b5 a b c d=>AO (.b4 ({ a with Other:=-1 }:Aa) b c d)
def oU (a:Aa) (b:AL) (c d:Int):Option (Aa×AL):=AV ZaO (.b0 a b c d)
def Z85:Lay:=⟨[2,4,5,8,9],[KP,KP,KP,KP,KP],[.var k1,.var k0,.var k1,.var k0],⟨[OV 30,PQ 0,PQ 1,PQ 2,PQ 3],[VA 39 20,VA 156 15,VA 39 20,VA 156 15]⟩⟩
def Z8n:Lay:=⟨[4,5,8,9,18],[KP,KP,KP,KP,KP],[.var k1,.var k0,.var k1,.var k0],⟨[PQ 0,PQ 1,PQ 2,PQ 3,OV 3],[VA 39 20,VA 156 15,VA 39 20,VA 156 15]⟩⟩
def UQ:Lay:=⟨[4,5,8,9],[KP,KP,KP,KP],[.var k1,.var k0,.var k1,.var k0],⟨[PQ 0,PQ 1,PQ 2,PQ 3],[VA 39 20,VA 156 15,VA 39 20,VA 156 15]⟩⟩
def ZrD:Nat->Option Lay
 | 6=>some Z85
 | 13=>some Z8n
 | 10=>some UQ
 | 21=>some UQ
 | 12=>some UQ
 | _=>none
def ZoX:YV->Ac U
 | .b0 a b c d=>Ai f189 [39,156,30,3] (a,b,c,d,())
 | .b1 a b c d e=>AA3 f189 [1,1,1,0,1,0,1,0,0] Z85 (a,b,c,d,e,())
 | .b2 a b c d e=>AA3 f189 [1,1,1,0,1,0,1,1,0] Z8n (a,b,c,d,e,())
 | .b3 a b c d=>AA3 f189 [1,1,1,0,1,0,1,0,1,1,1,0] UQ (a,b,c,d,())
 | .b4 a b c d=>AA3 f189 [1,1,1,1,0] UQ (a,b,c,d,())
 | .b5 a b c d=>AA3 f189 [1,1,1,0,1,0,1,0,1,1,1,1,1,0] UQ (a,b,c,d,())
theorem Z9F:AA1 189 [39,156,30,3] 216 (fun x=>oU x.1 x.2.1 x.2.2.1 x.2.2.2.1) rfl:=Aj (mc Zto (mc ZbS (mc Z8Q Ag))) Ah ZrD ZoX func189 (fun p=>by cases p<;>kernel_rfl) (by kernel_rfl) fun _=>rfl
inductive Y8 where
 | b0 (a:Aa) (b c:Int)
 | b1 (a b:Int) (c:List AL) (d e:Aa)
 | b2 (a b:Int) (c:List AL) (d e:Aa)
 | b3 (a:List AL) (b c:Aa)
 | b4 (a b:Int) (c:List AL) (d e:Aa) (f:AL)
def ZaA:Y8->Tr U ((Aa×(List AL))⊕Y8)
 | .b0 a b c=>.chk true (AO (.b1 b c ([]:List AL) a EW))
 | .b1 d e b a c=>let h:=kl b (AO (Y8.b3 b a c));.br (a.GR==0) (.br (decide (a.Own<0)) (.br (decide ((↑a.BJ.length:Int)>0)) (.chk (kI (0:Int) a.BJ) (.bind 156 (a.BJ[(Int.toNat 0)]?) (fun(f:AL)=>.bind 4 (qO a f) (fun(g:Bool)=>.br g (kl b (AO (.b2 d e b a c))) h)))) h) h) h
 | .b2 c d b a e=>let l:=Int.toNat 1;let j:=(a.BJ.drop l).take (a.BJ.length - l);let g:=([]:List AL)++j;let k:=({ a with BJ:=g }:Aa);.chk (kI (0:Int) a.BJ) (.bind 156 (a.BJ[(Int.toNat 0)]?) (fun(f:AL)=>let i:=Tr.chk (kL b&&(g.length==g.length)) (AO (Y8.b4 c d b k e f));let h:=Tr.br (f.Kind==3) (.br (a.EJ != 0) (kl g (kl b (AO (Y8.b1 c d b k e)))) i) i;.chk (decide (0<=(1:Int)/\(1:Int)<=(↑a.BJ.length:Int))) (.chk true (.chk (kA (0+j.length) 120) (.br (f.Kind==12) (.br a.JV (kl g (kl b (AO (.b1 c d b k e)))) h) h)))))
 | .b3 a b c=>kl a (AA (b,a))
 | .b4 c d a e f g=>kl e.BJ (.bind 216 (oU e g c d) (fun(b:Aa×AL)=>.chk true (kl a (.chk (kA (a.length+1) 120) (kl (a++[b.2]) (AO (.b1 c d (a++[b.2]) b.1 f)))))))
def Z1h (a:Aa) (b c:Int):Option (Aa×(List AL)):=AV ZaA (.b0 a b c)
def mD:Lay:=⟨[1,2,3,6,8],[KP,KP,KP,KP,[.own 156 15]],[.var k1,.var k1,.row true],⟨[OV 30,OV 3,PQ 0,PQ 1,.one (.own 156 2)],[VA 39 20,VA 39 20,.row 156 true]⟩⟩
def Z7W:Lay:=⟨[3,6,8],[KP,KP,[.own 156 15]],[.var k1,.var k1,.row true],⟨[PQ 0,PQ 1,.one (.own 156 2)],[VA 39 20,VA 39 20,.row 156 true]⟩⟩
def Z8y:Lay:=⟨[1,2,3,6,8,9],[KP,KP,KP,KP,[.own 156 15],KP],[.var [.keep,.keep,.keep,.own 156 15,.keep,.keep,.s 138 8,.keep,.keep,.keep,.keep,.keep,.keep,.keep,.keep,.keep,.keep,.keep,.keep,.keep],.var k1,.row true,.var k0,.row true],⟨[OV 30,OV 3,PQ 0,PQ 1,.one (.own 156 2),PQ 3],[.var 39 20 (.agg [VC 3 1,VC 3 1,VC 3 1,.own 156 4,VC 3 1,VC 3 1,VC 37 1,VC 4 1,VC 25 1,VC 25 1,VC 4 1,VC 4 1,VC 3 1,VC 3 1,VC 3 1,VC 25 1,VC 25 1,VC 25 1,VC 3 1,VC 3 1]),VA 39 20,.row 156 true,VA 156 15,.row 156 true]⟩⟩
def ZsI:Nat->Option Lay
 | 2=>some mD
 | 3=>some mD
 | 8=>some Z7W
 | 6=>some Z8y
 | _=>none
def ZoJ:Y8->Ac U
 | .b0 a b c=>Ai f96 [39,30,3] (a,b,c,())
 | .b1 a b c d e=>AA3 f96 [1,1,0,0,0,0,0] mD (a,b,d,e,c,())
 | .b2 a b c d e=>AA3 f96 [1,1,0,0,0,1,0,0] mD (a,b,d,e,c,())
 | .b3 a b c=>AA3 f96 [1,1,1,0] Z7W (b,c,a,())
 | .b4 b c d a e f=>AA3 f96 [1,1,0,0,0,1,0,1,1,1,0] Z8y (b,c,a.Bz,a.Own,a.Since,a.Other,a.JC,a.CO,a.Told,a.CW,a.MI,a.Hm,a.JV,a.Version,a.Length,a.Limit,a.Bq,a.Jc,a.Mark,a.EJ,a.GR,e,d,f,a.BJ,())
theorem Zqs:AA1 96 [39,30,3] 140 (fun x=>Z1h x.1 x.2.1 x.2.2.1) rfl:=Aj (mc Zbj (mc Z9F Ag)) Ah ZsI ZoJ func96 (fun p=>by cases p<;>kernel_rfl) (by kernel_rfl) fun _=>rfl
inductive Ym where
 | b0 (a:A8)
def Zab:Ym->Tr U (Int⊕Ym)
 | .b0 a=>.bind 30 (qM a.Event a.Bl.BI.Dx) (fun(b:Int)=>AA b)
def oG (a:A8):Option Int:=AV Zab (.b0 a)
def Zqk:Ym->Ac U
 | .b0 a=>Ai f97 [44] (a,())
theorem Z9E:AA1 97 [44] 30 (fun x=>oG x.1) rfl:=Aj (mc ZbU Ag) Ah AN Zqk func97 (fun p=>by cases p<;>kernel_rfl) (by kernel_rfl) fun _=>rfl
inductive aK where
 | b0 (a b c:Int)
def ZbO:aK->Tr U (Bool⊕aK)
 | .b0 a b c=>.br (decide (a>=0)) (.bind 4 (QY a) (fun(d:Bool)=>.br (!d) (AA (decide ((AP (c - b))>40000000))) (AA false))) (AA false)
def pW (a b c:Int):Option Bool:=AV ZbO (.b0 a b c)
def Zrn:aK->Ac U
 | .b0 a b c=>Ai f191 [3,3,3] (a,b,c,())
theorem Zsp:AA1 191 [3,3,3] 4 (fun x=>pW x.1 x.2.1 x.2.2.1) rfl:=Aj (mc U1 Ag) Ah AN Zrn func191 (fun p=>by cases p<;>kernel_rfl) (by kernel_rfl) fun _=>rfl
inductive XU where
 | b0 (a:Aa) (b:Int)
def Z8a:XU->Tr U (Bool⊕XU)
 | .b0 a b=>.bind 4 (pW a.Own a.Since b) (fun(c:Bool)=>.br c (AA true) (.bind 4 (pW a.Other a.JC b) (fun(d:Bool)=>AA d)))
def Z0c (a:Aa) (b:Int):Option Bool:=AV Z8a (.b0 a b)
def Zmz:XU->Ac U
 | .b0 a b=>Ai f98 [39,3] (a,b,())
theorem ZlH:AA1 98 [39,3] 4 (fun x=>Z0c x.1 x.2.1) rfl:=Aj (mc Zsp Ag) Ah AN Zmz func98 (fun p=>by cases p<;>kernel_rfl) (by kernel_rfl) fun _=>rfl
inductive XT where
 | b0 (a:DL)
def Z8j:XT->Tr U (Int⊕XT)
 | .b0 a=>.bind 3 (UU a.Ea (10:Int) (3200:Int)) (fun(b:Int)=>AA (AP (b*10000)))
def ZV (a:DL):Option Int:=AV Z8j (.b0 a)
def ZlI:XT->Ac U
 | .b0 a=>Ai f99 [24] (a,())
theorem Zm2:AA1 99 [24] 3 (fun x=>ZV x.1) rfl:=Aj (mc lN Ag) Ah AN ZlI func99 (fun p=>by cases p<;>kernel_rfl) (by kernel_rfl) fun _=>rfl
inductive dI where
 | b0 (a:A8) (b:Int)
def ZcL:dI->Tr U ((A8×(List BB))⊕dI)
 | .b0 a b=>.chk true (AA (({ a with Bd:=b }:A8),[(⟨4,a.Event,(⟨0,[]⟩:Aw),U0,(IntKind.wrap .u64 (b)),BR⟩:BB)]))
def qC (a:A8) (b:Int):Option (A8×(List BB)):=AV ZcL (.b0 a b)
def Zw3:dI->Ac U
 | .b0 a b=>Ai f100 [44,3] (a,b,())
theorem ZbP:AA1 100 [44,3] 78 (fun x=>qC x.1 x.2.1) rfl:=Aj Ag Ah AN Zw3 func100 (fun p=>by cases p<;>kernel_rfl) (by kernel_rfl) fun _=>rfl
inductive Yi where
 | b0 (a:A8) (b:Int)
 | b1 (a:Int) (b:Bool) (c d:A8)
 | b2 (a:Int) (b:Bool) (c d:A8)
 | b3 (a b c:Int) (d e:A8)
 | b4 (a b:Int) (c d:A8)
 | b5 (a:Int) (b:List BB) (c:List BP) (d:Int) (e f:A8) (g:Aa)
 | b6 (a:List BB) (b:Int) (c d:A8)
 | b7 (a:List BB) (b c:A8)
 | b8 (a:Int) (b:List BB) (c:Int) (d e:A8)
 | b9 (a:List BB) (b c:A8)
def Zad:Yi->Tr U ((A8×(List BB))⊕Yi)
 | .b0 a b=>let d:=AO (Yi.b1 b false a Dk);.br (a.Bd != 0) (.chk true (AA (a,([]:List BB)))) (.br (a.Bz==1) (.br (!a.Jd) (.bind 4 (nZ a) (fun(c:Bool)=>AO (.b1 b c a Dk))) d) d)
 | .b1 c b a d=>.br b (.bind 129 (Z2h a.Hg) (fun(e:Dv×Int)=>AO (.b2 c b ({ a with Hg:=e.1 }:A8) d))) (.br (a.Bz==1) (.bind 35 (Z0w a.Hg a.Fz) (fun(f:Dv)=>AO (.b2 c b ({ a with Hg:=f }:A8) d))) (AO (.b2 c b a d)))
 | .b2 c e a d=>.bind 104 (aA a.Bl a.Event a.Last) (fun(b:Int×Int)=>let f:=AO (Yi.b4 c b.2 a d);.br (!a.Good) (.br (!e) (AO (.b3 c b.1 b.2 a d)) f) f)
 | .b3 b c d a e=>.bind 42 (Xb a.DI c false) (fun(f:List BV)=>AO (.b4 b d ({ a with DI:=f }:A8) e))
 | .b4 c d a e=>let f:=IntKind.wrap .u16 (a.Event+1);.bind 135 (Z2R a.Am f) (fun(b:Aa×(List BP))=>.chk true (AO (.b5 c ([]:List BB) b.2 (0:Int) ({ a with Event:=f,Last:=d,IL:=(AP (a.IL+(AP ((1250:Int)*a.Bl.BI.Dl)))),Jd:=false,Good:=false,Fz:=false,More:=false,Am:=b.1 }:A8) e b.1)))
 | .b5 d c e f a g j=>let u:=e[(Int.toNat f)]?;let t:=([]:List AL)++a.BC;.br (decide (f<(↑e.length:Int))) (.chk (kI f e) (.bind 138 u (fun(k:BP)=>.bind 44 (Z0W a k) (fun(h:A8)=>.chk (kI f e) (.bind 138 u (fun(i:BP)=>let r:=c++[(⟨2,h.Event,(⟨0,[]⟩:Aw),i,0,BR⟩:BB)];.chk true (kl c (.chk (kA (c.length+1) 160) (kl r (AO (.b5 d r e (AP (f+1)) h g j))))))))))) (.bind 30 (oG a) (fun(l:Int)=>.bind 140 (Z1h a.Am l d) (fun(b:Aa×(List AL))=>let o:=t++b.2;let q:=kL c&&(o.length==o.length);let p:=({ a with Am:=b.1,BC:=o }:A8);let s:=Tr.chk q (AO (Yi.b8 d c (0:Int) p g));.chk true (.chk (kA (0+a.BC.length) 120) (kl t (.chk (kA (t.length+b.2.length) 120) (.br (b.1.GR != 0) (.chk q (AO (.b6 c b.1.GR p g))) (.bind 4 (Z0c b.1 d) (fun(m:Bool)=>.br m (.chk q (AO (.b6 c (34:Int) p g))) (.br a.JH (.bind 3 (ZV a.Bl.BI) (fun(n:Int)=>.br (decide ((AP (d - a.J6))>n)) (.chk q (AO (.b7 c p g))) s)) s))))))))))
 | .b6 a d b e=>.br (d != 0) (kl b.BC (.bind 78 (qC b d) (fun(c:A8×(List BB))=>kl a (.chk (kA (a.length+c.2.length) 160) (kl (a++c.2) (AA (c.1,(a++c.2)))))))) (kl b.BC (kl a (AA (b,a))))
 | .b7 a b c=>.chk (kL a&&kL b.BC) (AO (.b6 a (8:Int) b c))
 | .b8 e b d a c=>let g:=kL b&&kL a.BC;let f:=Tr.chk g (AO (Yi.b6 b d a c));.br (!a.JH) (.br (decide ((AP (e - a.J6))>(AP ((7500:Int)*a.Bl.BI.Dl)))) (.chk g (AO (.b9 b a c))) f) f
 | .b9 a b c=>.chk (kL a&&kL b.BC) (AO (.b6 a (62:Int) b c))
def nK (a:A8) (b:Int):Option (A8×(List BB)):=AV Zad (.b0 a b)
def mG:Lay:=⟨[1,2,4,6],[KP,KP,KP,KP],[.var k2,.var k2],⟨[OV 3,PQ 0,PQ 1,OV 4],[VA 44 66,VA 44 66]⟩⟩
def Z7Y:Lay:=⟨[1,2,4,9,10],[KP,KP,KP,KP,KP],[.var k2,.var k2],⟨[OV 3,PQ 0,PQ 1,OV 3,OV 3],[VA 44 66,VA 44 66]⟩⟩
def Z8o:Lay:=⟨[1,2,4,10],[KP,KP,KP,KP],[.var k2,.var k2],⟨[OV 3,PQ 0,PQ 1,OV 3],[VA 44 66,VA 44 66]⟩⟩
def Z8A:Lay:=⟨[1,2,4,11,12,13,14],[KP,KP,KP,[.own 148 18],KP,[.s 138 8],KP],[.var k2,.var k2,.row true,.var k1],⟨[OV 3,PQ 0,PQ 1,.one (.own 148 2),PQ 3,OV 37,OV 3],[VA 44 66,VA 44 66,.row 148 true,VA 39 20]⟩⟩
def Z8P:Lay:=⟨[2,4,11,16],[KP,KP,[.own 148 18],KP],[.var k9,.var k2,.row true,.row true],⟨[PQ 0,PQ 1,.one (.own 148 2),OV 3],[.var 44 66 (iW 3),VA 44 66,.row 148 true,.row 156 true]⟩⟩
def mF:Lay:=⟨[2,4,11],[KP,KP,[.own 148 18]],[.var k9,.var k2,.row true,.row true],⟨[PQ 0,PQ 1,.one (.own 148 2)],[.var 44 66 (iW 3),VA 44 66,.row 148 true,.row 156 true]⟩⟩
def Z7X:Lay:=⟨[1,2,4,11,16],[KP,KP,KP,[.own 148 18],KP],[.var k9,.var k2,.row true,.row true],⟨[OV 3,PQ 0,PQ 1,.one (.own 148 2),OV 3],[.var 44 66 (iW 3),VA 44 66,.row 148 true,.row 156 true]⟩⟩
def ZsD:Nat->Option Lay
 | 4=>some mG
 | 9=>some mG
 | 11=>some Z7Y
 | 12=>some Z8o
 | 20=>some Z8A
 | 36=>some Z8P
 | 33=>some mF
 | 34=>some Z7X
 | 35=>some mF
 | _=>none
def ZoA:Yi->Ac U
 | .b0 a b=>Ai f30 [44,3] (a,b,())
 | .b1 a b c d=>AA3 f30 [1,1,1,0,0] mG (a,b,c,d,())
 | .b2 a b c d=>AA3 f30 [1,1,1,1,0] mG (a,b,c,d,())
 | .b3 a b c d e=>AA3 f30 [1,1,1,1,1,0,1,0] Z7Y (a,b,c,d,e,())
 | .b4 a b c d=>AA3 f30 [1,1,1,1,1,1,0] Z8o (a,b,c,d,())
 | .b5 a b c d e f g=>AA3 f30 [1,1,1,1,1,1,1,1,1,1,1,1,1,0,1,0,0,0,0] Z8A (a,c,d,e,f,b,g,())
 | .b6 b c a d=>Ad f30 [1,1,1,1,1,1,1,1,1,1,1,1,1,1,1,1,1,1,1,0,0] Z8P (((),((),((),((c,()),())))),((WM a),((d,()),(b,(a.BC,())))))
 | .b7 b a c=>Ad f30 [1,1,1,1,1,1,1,1,1,1,1,1,1,1,1,1,1,1,0,0,1,1,1,1,1,0] mF (((),((),((),()))),((WM a),((c,()),(b,(a.BC,())))))
 | .b8 b c d a e=>Ad f30 [1,1,1,1,1,1,1,1,1,1,1,1,1,1,1,1,1,1,0,0,1,1,1,1,1,1,0] Z7X (((b,()),((),((),((),((d,()),()))))),((WM a),((e,()),(c,(a.BC,())))))
 | .b9 b a c=>Ad f30 [1,1,1,1,1,1,1,1,1,1,1,1,1,1,1,1,1,1,0,0,1,1,1,1,1,1,1,0] mF (((),((),((),()))),((WM a),((c,()),(b,(a.BC,())))))
theorem ZpO:AA1 30 [44,3] 78 (fun x=>nK x.1 x.2.1) rfl:=Aj (mc Z94 (mc ZaH (mc Zs6 (mc ZmP (mc Z8e (mc Zxc (mc ZoV (mc Zqs (mc Z9E (mc ZlH (mc Zm2 (mc ZbP Ag)))))))))))) Ah ZsD ZoA func30 (fun p=>by cases p<;>kernel_rfl) (by kernel_rfl) fun _=>rfl
inductive bC where
 | b0 (a:A8) (b:Aw)
 | b1 (a:A8) (b:Aw) (c:A8)
def Zbq:bC->Tr U ((A8×Int)⊕bC)
 | .b0 b a=>let c:=AO (bC.b1 b a Dk);.br (a.Ba != 2) (.br (a.Ba != 1) (AA (b,1)) c) c
 | .b1 a b f=>.bind 45 (Nw (⟨0,0,0,b⟩:BD)) (fun(d:Int)=>.br (d != 0) (AA (a,d)) (.br (decide ((↑b.Payload.length:Int)>a.Am.Length)) (AA (a,4)) (.bind 4 (Y4 a.Am) (fun(e:Bool)=>.br e (AA (a,20)) (.bind 189 (YL a.Az b) (fun(c:BQ×Int)=>.br (c.2 != 0) (AA (a,c.2)) (AA (({ a with Az:=c.1 }:A8),(0:Int)))))))))
def Z1J (a:A8) (b:Aw):Option (A8×Int):=AV Zbq (.b0 a b)
def Z9O:Lay:=⟨[2,3,4],[KP,KP,KP],[.var k2,.var [.keep,.s 5 1],.var k2],⟨[PQ 0,PQ 1,PQ 2],[VA 44 66,VA 68 2,VA 44 66]⟩⟩
def Zu6:Nat->Option Lay
 | 3=>some Z9O
 | _=>none
def ZrH:bC->Ac U
 | .b0 a b=>Ai f102 [44,68] (a,b,())
 | .b1 a b c=>AA3 f102 [1,1,0] Z9O (a,b,c,())
theorem Zr3:AA1 102 [44,68] 46 (fun x=>Z1J x.1 x.2.1) rfl:=Aj (mc Z95 (mc Z9n (mc U4 Ag))) Ah Zu6 ZrH func102 (fun p=>by cases p<;>kernel_rfl) (by kernel_rfl) fun _=>rfl
inductive XF where
 | b0 (a:Int)
 | b1 (a:Int)
 | b2 (a:Int)
 | b3 (a:Int)
 | b4 (a:Int)
def Z7e:XF->Tr U (Int⊕XF)
 | .b0 a=>let b:=AO (XF.b1 a);.br (a==0) (.br (a==0) (AA a) b) (.br (a==1) (.br (a==1) (AA a) b) (.br (a==2) (.br (a==2) (AA a) b) (.br (a==12) (.br (a==12) (AA a) b) (.br (a==15) (AA a) b))))
 | .b1 a=>let c:=AA (8:Int);let b:=AO (XF.b2 a);.br (a==8) (.br (a==8) c b) (.br (a==9) c b)
 | .b2 a=>let c:=AA (3:Int);let b:=AO (XF.b3 a);.br (a==3) (.br (a==3) c b) (.br (a==4) (.br (a==4) c b) (.br (a==5) (.br (a==5) c b) (.br (a==6) c b)))
 | .b3 a=>let c:=AA (18:Int);let b:=AO (XF.b4 a);.br (a==18) (.br (a==18) c b) (.br (a==19) c b)
 | .b4 a=>let c:=AA (-1:Int);let b:=AA (20:Int);.br (a==20) (.br (a==20) b c) (.br (a==21) b c)
def Zm (a:Int):Option Int:=AV Z7e (.b0 a)
def QI:Lay:=⟨[3],[KP],[],⟨[OV 3],[]⟩⟩
def Zlg:Nat->Option Lay
 | 8=>some QI
 | 11=>some QI
 | 16=>some QI
 | 19=>some QI
 | _=>none
def Zkf:XF->Ac U
 | .b0 a=>Ai f341 [3] (a,())
 | .b1 a=>AA3 f341 [1,0,1,0,1,1,0,0] QI (a,())
 | .b2 a=>AA3 f341 [1,0,1,0,1,1,1,1,0,0] QI (a,())
 | .b3 a=>AA3 f341 [1,0,1,0,1,1,1,1,1,1,0,0] QI (a,())
 | .b4 a=>AA3 f341 [1,0,1,0,1,1,1,1,1,1,1,1,0,0] QI (a,())
theorem Zkj:AA1 341 [3] 3 (fun x=>Zm x.1) rfl:=Aj Ag Ah Zlg Zkf func341 (fun p=>by cases p<;>kernel_rfl) (by kernel_rfl) fun _=>rfl
end
noncomputable section
inductive XC where
 | b0 (a:Int)
def Z77:XC->Tr U (Bool⊕XC)
 | .b0 a=>.bind 262 (ER a) (fun(b:Be)=>.br b.Hm (.bind 3 (Zm a) (fun(c:Int)=>AA (c==a))) (AA false))
def Zn (a:Int):Option Bool:=AV Z77 (.b0 a)
def ZkK:XC->Ac U
 | .b0 a=>Ai f268 [3] (a,())
theorem Zkx:AA1 268 [3] 4 (fun x=>Zn x.1) rfl:=Aj (mc QP (mc Zkj Ag)) Ah AN ZkK func268 (fun p=>by cases p<;>kernel_rfl) (by kernel_rfl) fun _=>rfl
inductive X8 where
 | b0 (a:Aa) (b:AL)
 | b1 (a b:AL)
def Z9d:X8->Tr U (AL⊕X8)
 | .b0 b a=>let d:=a.Kind==0;let c:=AO (X8.b1 a Gg);.br (a.Kind==8) (AA ({ a with CW:=b.CW }:AL)) (.br (a.Kind==12) (AA ({ a with Version:=11 }:AL)) (.br d (.br d c (AA a)) (.br (a.Kind==1) c (AA a))))
 | .b1 a b=>AA ({ a with DF:=0 }:AL)
def Z0H (a:Aa) (b:AL):Option AL:=AV Z9d (.b0 a b)
def Z7k:Lay:=⟨[3,4],[KP,KP],[.var k0,.var k0],⟨[PQ 0,PQ 1],[VA 156 15,VA 156 15]⟩⟩
def ZqG:Nat->Option Lay
 | 8=>some Z7k
 | _=>none
def ZnL:X8->Ac U
 | .b0 a b=>Ai f269 [39,156] (a,b,())
 | .b1 a b=>AA3 f269 [1,0,1,0,1,1,1,1,1,0] Z7k (a,b,())
theorem Zn5:AA1 269 [39,156] 156 (fun x=>Z0H x.1 x.2.1) rfl:=Aj Ag Ah ZqG ZnL func269 (fun p=>by cases p<;>kernel_rfl) (by kernel_rfl) fun _=>rfl
inductive Yl where
 | b0 (a:Aa) (b:Int)
 | b1 (a b:Int) (c:Aa)
def Zas:Yl->Tr U (Bool⊕Yl)
 | .b0 a b=>AO (.b1 b (0:Int) a)
 | .b1 c a b=>.br (decide (a<(↑b.BJ.length:Int))) (.chk (kI a b.BJ) (.bind 156 (b.BJ[(Int.toNat a)]?) (fun(d:AL)=>.br (d.Kind==c) (AA true) (AO (.b1 c (AP (a+1)) b))))) (AA false)
def Z1w (a:Aa) (b:Int):Option Bool:=AV Zas (.b0 a b)
def Z8u:Lay:=⟨[1,2,5],[KP,KP,KP],[.var k1],⟨[OV 3,PQ 0,OV 3],[VA 39 20]⟩⟩
def ZtC:Nat->Option Lay
 | 2=>some Z8u
 | _=>none
def Zq1:Yl->Ac U
 | .b0 a b=>Ai f342 [39,3] (a,b,())
 | .b1 a b c=>AA3 f342 [1,0,1,0,0,0,0] Z8u (a,b,c,())
theorem Zox:AA1 342 [39,3] 4 (fun x=>Z1w x.1 x.2.1) rfl:=Aj Ag Ah ZtC Zq1 func342 (fun p=>by cases p<;>kernel_rfl) (by kernel_rfl) fun _=>rfl
inductive XO where
 | b0 (a:Aa) (b:Int)
 | b1 (a:Int) (b:Aa)
 | b2 (a:Int) (b:Aa)
def Z8z:XO->Tr U (Bool⊕XO)
 | .b0 a b=>.br (a.GR != 0) (AA false) (.br (a.Own==2) (AA false) (AO (.b1 b a)))
 | .b1 a b=>let f:=AO (XO.b2 a b);let d:=Tr.br (a==15) (.br (b.Bz != 1) (AA false) f) f;let e:=Tr.br (b.Bz != 0) (AA false) d;.bind 4 (QY a) (fun(c:Bool)=>.br c e (.br (a==3) e d))
 | .b2 b a=>.br (b != 3) (AA true) (.br (a.EJ==0) (.bind 4 (Z1w a (3:Int)) (fun(c:Bool)=>AA (!c))) (AA false))
def Z09 (a:Aa) (b:Int):Option Bool:=AV Z8z (.b0 a b)
def lD:Lay:=⟨[1,2],[KP,KP],[.var k1],⟨[OV 3,PQ 0],[VA 39 20]⟩⟩
def Znx:Nat->Option Lay
 | 3=>some lD
 | 5=>some lD
 | _=>none
def Zml:XO->Ac U
 | .b0 a b=>Ai f270 [39,3] (a,b,())
 | .b1 a b=>AA3 f270 [1,1,0,0] lD (a,b,())
 | .b2 a b=>AA3 f270 [1,1,1,0] lD (a,b,())
theorem Zmd:AA1 270 [39,3] 4 (fun x=>Z09 x.1 x.2.1) rfl:=Aj (mc U1 (mc Zox Ag)) Ah Znx Zml func270 (fun p=>by cases p<;>kernel_rfl) (by kernel_rfl) fun _=>rfl
inductive YY where
 | b0 (a:Aa) (b:AL) (c d:Int)
 | b1 (a b:Aa)
 | b2 (a b:Int) (c:Aa) (d:AL) (e:Aa)
 | b3 (a b:Int) (c:Aa) (d:AL) (e:Aa)
 | b4 (a:Aa) (b:AL) (c:Aa)
def Zb1:YY->Tr U ((Aa×(List AL)×Int)⊕YY)
 | .b0 a c d e=>let i:=([]:List AL);.bind 4 (Zn c.Kind) (fun(g:Bool)=>.br (!g) (.chk true (AA (a,i,(12:Int)))) (.bind 156 (Z0H a c) (fun(b:AL)=>let j:=AO (YY.b2 d e a b EW);.bind 45 (Ox b) (fun(f:Int)=>.br (f != 0) (.chk true (AA (a,i,f))) (.bind 4 (Z09 a b.Kind) (fun(h:Bool)=>.br (!h) (.chk true (AA (a,i,(9:Int)))) (.br (b.Kind==12) (.br a.JV (AO (.b1 a EW)) j) j)))))))
 | .b1 a b=>.chk true (AA (a,([]:List AL),(0:Int)))
 | .b2 d e a b c=>let g:=AO (YY.b4 a b c);.br (b.Kind==2) (AO (.b3 d e ({ a with BJ:=([]:List AL) }:Aa) b c)) (.br (decide (a.Own>=0)) g (.br (decide ((↑a.BJ.length:Int)>0)) g (.bind 4 (qO a b) (fun(f:Bool)=>.br (!f) g (AO (.b3 d e a b c))))))
 | .b3 b c d e f=>.bind 216 (oU d e b c) (fun(a:Aa×AL)=>.chk true (AA (a.1,[a.2],(0:Int))))
 | .b4 a b c=>let e:=([]:List AL);let d:=e++a.BJ;.br (decide ((↑a.BJ.length:Int)>=8)) (.chk true (AA (a,e,(8:Int)))) (.chk true (.chk (kA (0+a.BJ.length) 120) (.chk true (kl d (.chk (kA (d.length+1) 120) (kl (d++[b]) (.chk true (AA (({ a with BJ:=(d++[b]) }:Aa),e,(0:Int))))))))))
def Z19 (a:Aa) (b:AL) (c d:Int):Option (Aa×(List AL)×Int):=AV Zb1 (.b0 a b c d)
def Z8p:Lay:=⟨[4,8],[KP,KP],[.var k1,.var k1],⟨[PQ 0,PQ 1],[VA 39 20,VA 39 20]⟩⟩
def mM:Lay:=⟨[2,3,4,5,8],[KP,KP,KP,KP,KP],[.var k1,.var k0,.var k1],⟨[OV 30,OV 3,PQ 0,PQ 1,PQ 2],[VA 39 20,VA 156 15,VA 39 20]⟩⟩
def Z8I:Lay:=⟨[4,5,8],[KP,KP,KP],[.var k1,.var k0,.var k1],⟨[PQ 0,PQ 1,PQ 2],[VA 39 20,VA 156 15,VA 39 20]⟩⟩
def ZtH:Nat->Option Lay
 | 10=>some Z8p
 | 11=>some mM
 | 18=>some mM
 | 14=>some Z8I
 | _=>none
def Zp4:YY->Ac U
 | .b0 a b c d=>Ai f198 [39,156,30,3] (a,b,c,d,())
 | .b1 a b=>AA3 f198 [1,1,1,1,1,0,1,0,0] Z8p (a,b,())
 | .b2 a b c d e=>AA3 f198 [1,1,1,1,1,1,0,0] mM (a,b,c,d,e,())
 | .b3 a b c d e=>AA3 f198 [1,1,1,1,1,1,1,0] mM (a,b,c,d,e,())
 | .b4 a b c=>AA3 f198 [1,1,1,1,1,1,0,1,1,1,0,0,0] Z8I (a,b,c,())
theorem ZoL:AA1 198 [39,156,30,3] 222 (fun x=>Z19 x.1 x.2.1 x.2.2.1 x.2.2.2.1) rfl:=Aj (mc Zbj (mc Z9F (mc Z0o (mc Zkx (mc Zn5 (mc Zmd Ag)))))) Ah ZtH Zp4 func198 (fun p=>by cases p<;>kernel_rfl) (by kernel_rfl) fun _=>rfl
inductive YG where
 | b0 (a:A8) (b:AL) (c:Int)
def Z9Z:YG->Tr U ((A8×Int)⊕YG)
 | .b0 a c d=>let f:=([]:List AL)++a.BC;.bind 30 (oG a) (fun(e:Int)=>.bind 222 (Z19 a.Am c e d) (fun(b:Aa×(List AL)×Int)=>.br (b.2.2 != 0) (AA (a,b.2.2)) (.chk true (.chk (kA (0+a.BC.length) 120) (kl f (.chk (kA (f.length+b.2.1.length) 120) (kl (f++b.2.1) (AA (({ a with Am:=b.1,BC:=(f++b.2.1) }:A8),(0:Int))))))))))
def LV (a:A8) (b:AL) (c:Int):Option (A8×Int):=AV Z9Z (.b0 a b c)
def Zpb:YG->Ac U
 | .b0 a b c=>Ai f103 [44,156,3] (a,b,c,())
theorem Zos:AA1 103 [44,156,3] 46 (fun x=>LV x.1 x.2.1 x.2.2.1) rfl:=Aj (mc Z9E (mc ZoL Ag)) Ah AN Zpb func103 (fun p=>by cases p<;>kernel_rfl) (by kernel_rfl) fun _=>rfl
inductive Xq where
 | b0 (a:Int)
def Z9r:Xq->Tr U (Int⊕Xq)
 | .b0 a=>.br (decide (a>2147483647)) (AA (2147483647:Int)) (AA (AP (a)))
def nH (a:Int):Option Int:=AV Z9r (.b0 a)
def ZnA:Xq->Ac U
 | .b0 a=>Ai f104 [25] (a,())
theorem ZnU:AA1 104 [25] 3 (fun x=>nH x.1) rfl:=Aj Ag Ah AN ZnA func104 (fun p=>by cases p<;>kernel_rfl) (by kernel_rfl) fun _=>rfl
inductive dN where
 | b0 (a:AL)
def Zd2:dN->Tr U ((List AL)⊕dN)
 | .b0 a=>.chk true (AA ([a]))
def NK (a:AL):Option (List AL):=AV Zd2 (.b0 a)
def ZwZ:dN->Ac U
 | .b0 a=>Ai f271 [156] (a,())
theorem Uh:AA1 271 [156] 36 (fun x=>NK x.1) rfl:=Aj Ag Ah AN ZwZ func271 (fun p=>by cases p<;>kernel_rfl) (by kernel_rfl) fun _=>rfl
inductive Xf where
 | b0 (a:Aa) (b:Bool) (c:Int)
 | b1 (a:Bool) (b:Int) (c d:Aa)
def Z97:Xf->Tr U ((Aa×(List AL))⊕Xf)
 | .b0 a b c=>let d:=Tr.chk true (AA (a,([]:List AL)));.br (a.Bz != 1) d (.br (a.GR != 0) d (.br (a.EJ != 1) d (AO (.b1 b c a EW))))
 | .b1 c a b e=>.br (!c) (.bind 36 (NK (⟨13,BR,0,0,6,3,0,0,0,0,0⟩:AL)) (fun(d:List AL)=>AA (({ b with Other:=-1,EJ:=0 }:Aa),d))) (.chk true (AA (({ b with Bq:=a,EJ:=3 }:Aa),[(⟨4,BR,0,0,0,0,a,0,0,0,0⟩:AL),(⟨5,BR,0,0,0,0,0,0,0,0,0⟩:AL)])))
def Z0l (a:Aa) (b:Bool) (c:Int):Option (Aa×(List AL)):=AV Z97 (.b0 a b c)
def Z7H:Lay:=⟨[1,2,3,6],[KP,KP,KP,KP],[.var k1,.var k1],⟨[OV 4,OV 25,PQ 0,PQ 1],[VA 39 20,VA 39 20]⟩⟩
def ZoZ:Nat->Option Lay
 | 3=>some Z7H
 | _=>none
def ZmL:Xf->Ac U
 | .b0 a b c=>Ai f199 [39,4,25] (a,b,c,())
 | .b1 a b c d=>AA3 f199 [1,1,0,0] Z7H (a,b,c,d,())
theorem Zn2:AA1 199 [39,4,25] 140 (fun x=>Z0l x.1 x.2.1 x.2.2.1) rfl:=Aj (mc Uh Ag) Ah ZoZ ZmL func199 (fun p=>by cases p<;>kernel_rfl) (by kernel_rfl) fun _=>rfl
inductive aQ where
 | b0 (a:Cb) (b c:Bool)
def Zbn:aQ->Tr U (Cb⊕aQ)
 | .b0 a b c=>AA ({ a with Gm:=b,N9:=c }:Cb)
def Yt (a:Cb) (b c:Bool):Option Cb:=AV Zbn (.b0 a b c)
def Zr2:aQ->Ac U
 | .b0 a b c=>Ai f200 [41,4,4] (a,b,c,())
theorem Z1v:AA1 200 [41,4,4] 41 (fun x=>Yt x.1 x.2.1 x.2.2.1) rfl:=Aj Ag Ah AN Zr2 func200 (fun p=>by cases p<;>kernel_rfl) (by kernel_rfl) fun _=>rfl
inductive Xm where
 | b0 (a:Int) (b:ByteArray) (c:List Int)
 | b1 (a:Int) (b c:List Int) (d:Int)
def Z8X:Xm->Tr U (Int⊕Xm)
 | .b0 b a c=>let d:=OD U 5 a;let e:=d++[(0:Int)];.chk (uN U 5 a) (.chk true (kl d (.chk (kA (d.length+1) 1) (kl e (AO (.b1 b c e (0:Int)))))))
 | .b1 d b a c=>.br (decide (c<(↑b.length:Int))) (.chk (kI c b) (.bind 25 (b[(Int.toNat c)]?) (fun(e:Int)=>.bind 1351 (Lr (8:Int) e) (fun(q:KU)=>kl q.q0 (kl a (.chk (kA (a.length+q.q0.length) 1) (kl (a++q.q0) (AO (.b1 d b (a++q.q0) (AP (c+1))))))))))) (kl a (.bind 25 (dQ d a) (fun(f:Int)=>AA f)))
def Z0y (a:Int) (b:ByteArray) (c:List Int):Option Int:=AV Z8X (.b0 a b c)
def Z7B:Lay:=⟨[0,2,7,8],[KP,[.s 25 1],[.own 5 1],KP],[.row true],⟨[OV 29,OV 254,.one (.own 5 0),OV 3],[.row 5 true]⟩⟩
def ZpV:Nat->Option Lay
 | 3=>some Z7B
 | _=>none
def Zn4:Xm->Ac U
 | .b0 a b c=>Ai f272 [29,9,254] (a,b,c,())
 | .b1 a b c d=>AA3 f272 [1,1,0,1,0,0,0,0] Z7B (a,b,d,c,())
theorem Znw:AA1 272 [29,9,254] 29 (fun x=>Z0y x.1 x.2.1 x.2.2.1) rfl:=Aj (mc ZbB Ag) (hc [] pM Ah) ZpV Zn4 func272 (fun p=>by cases p<;>kernel_rfl) (by kernel_rfl) fun _=>rfl
inductive bP where
 | b0 (a b c d:Int)
def Zcw:bP->Tr U (Cb⊕bP)
 | .b0 d e a b=>let f:=bits .xor .u64 a b;.chk true (.bind 29 (Z0y e (⟨#[115,101,115,115,105,111,110]⟩:ByteArray) ([a,b])) (fun(c:Int)=>.br (d==1) (AA (⟨1,c,f,false,false,0,0⟩:Cb)) (AA (⟨0,c,f,false,false,0,0⟩:Cb))))
def qJ (a b c d:Int):Option Cb:=AV Zcw (.b0 a b c d)
def ZvB:bP->Ac U
 | .b0 a b c d=>Ai f201 [3,29,25,25] (a,b,c,d,())
theorem ZbT:AA1 201 [3,29,25,25] 41 (fun x=>qJ x.1 x.2.1 x.2.2.1 x.2.2.2.1) rfl:=Aj (mc Znw Ag) Ah AN ZvB func201 (fun p=>by cases p<;>kernel_rfl) (by kernel_rfl) fun _=>rfl
inductive dD where
 | b0 (a:A8) (b:Int)
 | b1 (a:Int) (b c:A8)
def Zco:dD->Tr U ((A8×Int)⊕dD)
 | .b0 a b=>.br (a.Bz != 1) (AA (a,9)) (.br (a.Am.EJ != 1) (AA (a,9)) (AO (.b1 b a Dk)))
 | .b1 c a f=>let g:=([]:List AL)++a.BC;.bind 140 (Z0l a.Am (c != 0) a.Ic) (fun(b:Aa×(List AL))=>let h:=g++b.2;.chk true (.chk (kA (0+a.BC.length) 120) (kl g (.chk (kA (g.length+b.2.length) 120) (.br (c != 0) (.bind 41 (qJ a.Bz c b.1.Jc b.1.Bq) (fun(d:Cb)=>.bind 41 (Yt d false true) (fun(e:Cb)=>kl h (AA (({ a with Am:=b.1,DY:=e,Key:=c,BC:=h }:A8),(0:Int)))))) (kl h (AA (({ a with Am:=b.1,BC:=h }:A8),(0:Int)))))))))
def Z2U (a:A8) (b:Int):Option (A8×Int):=AV Zco (.b0 a b)
def Za2:Lay:=⟨[1,2,4],[KP,KP,KP],[.var k2,.var k2],⟨[OV 29,PQ 0,PQ 1],[VA 44 66,VA 44 66]⟩⟩
def ZyG:Nat->Option Lay
 | 3=>some Za2
 | _=>none
def ZuW:dD->Ac U
 | .b0 a b=>Ai f105 [44,29] (a,b,())
 | .b1 a b c=>AA3 f105 [1,1,0] Za2 (a,b,c,())
theorem Zux:AA1 105 [44,29] 46 (fun x=>Z2U x.1 x.2.1) rfl:=Aj (mc Zn2 (mc Z1v (mc ZbT Ag))) Ah ZyG ZuW func105 (fun p=>by cases p<;>kernel_rfl) (by kernel_rfl) fun _=>rfl
inductive Yh where
 | b0 (a:Int)
def Za0:Yh->Tr U (Int⊕Yh)
 | .b0 a=>let b:=(if (65536:Int)<a then (65536:Int) else a);AA (if b>0 then b else (0:Int))
def QW (a:Int):Option Int:=AV Za0 (.b0 a)
def ZpR:Yh->Ac U
 | .b0 a=>Ai f205 [3] (a,())
theorem Z0r:AA1 205 [3] 3 (fun x=>QW x.1) rfl:=Aj Ag Ah AN ZpR func205 (fun p=>by cases p<;>kernel_rfl) (by kernel_rfl) fun _=>rfl
inductive aJ where
 | b0 (a:BV)
def Zcb:aJ->Tr U (Int⊕aJ)
 | .b0 c=>.bind 3 (QW c.Good) (fun(b:Int)=>.bind 3 (QW c.Nh) (fun(a:Int)=>let d:=AP (b+a);.br (d==0) (AA (0:Int)) (.chk (d != 0) (AA (AP (Int.tdiv (AP (a*1000)) d))))))
def aW (a:BV):Option Int:=AV Zcb (.b0 a)
def Zth:aJ->Ac U
 | .b0 a=>Ai f275 [99] (a,())
theorem Zay:AA1 275 [99] 3 (fun x=>aW x.1) rfl:=Aj (mc Z0r Ag) Ah AN Zth func275 (fun p=>by cases p<;>kernel_rfl) (by kernel_rfl) fun _=>rfl
inductive cO where
 | b0 (a:BV)
def Zcy:cO->Tr U (Bool⊕cO)
 | .b0 a=>.bind 3 (QW a.Good) (fun(b:Int)=>.bind 3 (QW a.Nh) (fun(c:Int)=>.br (decide ((AP (b+c))>=8)) (.bind 3 (aW a) (fun(d:Int)=>AA (decide (d>=250)))) (AA false)))
def Z2L (a:BV):Option Bool:=AV Zcy (.b0 a)
def ZuK:cO->Ac U
 | .b0 a=>Ai f273 [99] (a,())
theorem ZuP:AA1 273 [99] 4 (fun x=>Z2L x.1) rfl:=Aj (mc Z0r (mc Zay Ag)) Ah AN ZuK func273 (fun p=>by cases p<;>kernel_rfl) (by kernel_rfl) fun _=>rfl
inductive fA where
 | b0 (a:List BV) (b:Int)
 | b1 (a:BV)
 | b2 (a:List BV) (b:Int) (c:BV)
def Zdu:fA->Tr U (BV⊕fA)
 | .b0 b a=>let c:=(⟨0,0⟩:BV);let d:=AO (fA.b1 c);.br (decide (a<0)) d (.br (decide (a>=(↑b.length:Int))) d (AO (.b2 b a c)))
 | .b1 a=>AA (⟨0,0⟩:BV)
 | .b2 a b d=>.chk (kI b a) (.bind 99 (a[(Int.toNat b)]?) (fun(c:BV)=>AA c))
def eX (a:List BV) (b:Int):Option BV:=AV Zdu (.b0 a b)
def ZbC:Lay:=⟨[4],[KP],[.var [.keep,.keep]],⟨[PQ 0],[VA 99 2]⟩⟩
def Zcf:Lay:=⟨[0,1,4],[[.s 99 2],KP,KP],[.var [.keep,.keep]],⟨[OV 42,OV 3,PQ 0],[VA 99 2]⟩⟩
def ZAd:Nat->Option Lay
 | 2=>some ZbC
 | 3=>some Zcf
 | _=>none
def ZxI:fA->Ac U
 | .b0 a b=>Ai f274 [42,3] (a,b,())
 | .b1 a=>AA3 f274 [1,0,1,0,0] ZbC (a,())
 | .b2 a b c=>AA3 f274 [1,1,0] Zcf (a,b,c,())
theorem ZyJ:AA1 274 [42,3] 99 (fun x=>eX x.1 x.2.1) rfl:=Aj Ag Ah ZAd ZxI func274 (fun p=>by cases p<;>kernel_rfl) (by kernel_rfl) fun _=>rfl
inductive YC where
 | b0 (a:List BV) (b:List Int)
 | b1 (a:List BV) (b:List Int) (c d:Int)
 | b2 (a:List BV) (b:List Int) (c d:Int)
 | b3 (a:List BV) (b:List Int) (c:Int)
def ZaB:YC->Tr U (Int⊕YC)
 | .b0 a b=>AO (.b1 a b (-1:Int) (0:Int))
 | .b1 c a d b=>let p:=AO (YC.b3 c a b);let o:=a[(Int.toNat b)]?;let n:=AO (YC.b2 c a d b);.br (decide (b<(↑a.length:Int))) (.chk (kI b a) (.bind 3 o (fun(e:Int)=>.bind 99 (eX c e) (fun(f:BV)=>.bind 4 (Z2L f) (fun(g:Bool)=>.br (!g) n (.br (decide (d<0)) p (.chk (kI b a) (.bind 3 o (fun(h:Int)=>.bind 99 (eX c h) (fun(i:BV)=>.bind 3 (aW i) (fun(j:Int)=>.chk (kI d a) (.bind 3 (a[(Int.toNat d)]?) (fun(k:Int)=>.bind 99 (eX c k) (fun(l:BV)=>.bind 3 (aW l) (fun(m:Int)=>.br (decide (j>m)) p n))))))))))))))) (AA d)
 | .b2 a b c d=>AO (.b1 a b c (AP (d+1)))
 | .b3 b c a=>AO (.b2 b c a a)
def Z1t (a:List BV) (b:List Int):Option Int:=AV ZaB (.b0 a b)
def l9:Lay:=⟨[0,1,5,6],[[.s 99 2],[.s 3 1],KP,KP],[],⟨[OV 42,OV 226,OV 3,OV 3],[]⟩⟩
def Z8L:Lay:=⟨[0,1,6],[[.s 99 2],[.s 3 1],KP],[],⟨[OV 42,OV 226,OV 3],[]⟩⟩
def ZtK:Nat->Option Lay
 | 3=>some l9
 | 4=>some l9
 | 7=>some Z8L
 | _=>none
def ZoI:YC->Ac U
 | .b0 a b=>Ai f203 [42,226] (a,b,())
 | .b1 a b c d=>AA3 f203 [1,1,0,1,0,0,0,0] l9 (a,b,c,d,())
 | .b2 a b c d=>AA3 f203 [1,1,0,1,0,0,1,1] l9 (a,b,c,d,())
 | .b3 a b c=>AA3 f203 [1,1,0,1,0,0,1,0,0,1,1,0] Z8L (a,b,c,())
theorem Zok:AA1 203 [42,226] 3 (fun x=>Z1t x.1 x.2.1) rfl:=Aj (mc ZuP (mc ZyJ (mc Zay Ag))) Ah ZtK ZoI func203 (fun p=>by cases p<;>kernel_rfl) (by kernel_rfl) fun _=>rfl
inductive eQ where
 | b0 (a:List Int)
 | b1 (a:List Int) (b c:Int)
def ZdZ:eQ->Tr U (Int⊕eQ)
 | .b0 a=>AO (.b1 a (0:Int) (0:Int))
 | .b1 a c b=>.br (decide (b<(↑a.length:Int))) (.chk (kI b a) (.bind 3 (a[(Int.toNat b)]?) (fun(d:Int)=>.bind 25 (Ro d) (fun(e:Int)=>AO (.b1 a (IntKind.wrap .u64 (c+e)) (AP (b+1))))))) (AA c)
def Z37 (a:List Int):Option Int:=AV ZdZ (.b0 a)
def Zbw:Lay:=⟨[0,3,4],[[.s 3 1],KP,KP],[],⟨[OV 226,OV 25,OV 3],[]⟩⟩
def ZAP:Nat->Option Lay
 | 3=>some Zbw
 | _=>none
def Zzw:eQ->Ac U
 | .b0 a=>Ai f204 [226] (a,())
 | .b1 a b c=>AA3 f204 [1,1,0,1,0,0,0,0] Zbw (a,b,c,())
theorem ZyO:AA1 204 [226] 26 (fun x=>Z37 x.1) rfl:=Aj (mc Z0E Ag) Ah ZAP Zzw func204 (fun p=>by cases p<;>kernel_rfl) (by kernel_rfl) fun _=>rfl
inductive XX where
 | b0 (a:List BV) (b c:Int)
 | b1 (a:List BV) (b:Int) (c:List Int)
 | b2 (a:List Int)
def Z8t:XX->Tr U (Int⊕XX)
 | .b0 b c a=>let e:=(if (37:Int)<a then (37:Int) else a);.bind 226 (Uk c) (fun(d:List Int)=>AO (.b1 b (if e>2 then e else (2:Int)) d))
 | .b1 c d a=>let j:=AO (XX.b2 a);let h:=(↑a.length:Int);.br (decide (h>d)) (.bind 3 (Z1t c a) (fun(b:Int)=>let i:=AP (b+1);let k:=Int.toNat i;let g:=(a.drop 0).take ((Int.toNat b) - 0);let f:=(a.drop k).take (a.length - k);let e:=([]:List Int)++g;.br (decide (b<0)) j (.chk (decide (0<=b/\b<=h)) (.chk true (.chk (kA (0+g.length) 8) (.chk (decide (0<=i/\i<=h)) (kl e (.chk (kA (e.length+f.length) 8) (kl (e++f) (AO (.b1 c d (e++f)))))))))))) j
 | .b2 a=>.bind 26 (Z37 a) (fun(b:Int)=>AA b)
def Z0a (a:List BV) (b c:Int):Option Int:=AV Z8t (.b0 a b c)
def Z7c:Lay:=⟨[0,2,7],[[.s 99 2],KP,[.s 3 1]],[],⟨[OV 42,OV 3,OV 226],[]⟩⟩
def Z7a:Lay:=⟨[7],[[.s 3 1]],[],⟨[OV 226],[]⟩⟩
def ZmE:Nat->Option Lay
 | 3=>some Z7c
 | 7=>some Z7a
 | _=>none
def Zm0:XX->Ac U
 | .b0 a b c=>Ai f106 [42,26,3] (a,b,c,())
 | .b1 a b c=>AA3 f106 [1,1,1,0,0,0,0,0] Z7c (a,b,c,())
 | .b2 a=>AA3 f106 [1,1,1,1,0] Z7a (a,())
theorem Zmw:AA1 106 [42,26,3] 26 (fun x=>Z0a x.1 x.2.1 x.2.2.1) rfl:=Aj (mc Z1c (mc Zok (mc ZyO Ag))) Ah ZmE Zm0 func106 (fun p=>by cases p<;>kernel_rfl) (by kernel_rfl) fun _=>rfl
inductive Yj where
 | b0 (a:List BV)
 | b1 (a b:List BV) (c:Int)
def Zaf:Yj->Tr U ((List BV)⊕Yj)
 | .b0 a=>.chk true (AO (.b1 a ([]:List BV) (0:Int)))
 | .b1 a b c=>let i:=a[(Int.toNat c)]?;.br (decide (c<(↑a.length:Int))) (.chk (kI c a) (.bind 99 i (fun(f:BV)=>.bind 3 (QW f.Good) (fun(d:Int)=>.chk (kI c a) (.bind 99 i (fun(g:BV)=>.bind 3 (QW g.Nh) (fun(e:Int)=>let h:=b++[(⟨(AP (Int.tdiv d 2)),(AP (Int.tdiv e 2))⟩:BV)];.chk true (kl b (.chk (kA (b.length+1) 16) (kl h (AO (.b1 a h (AP (c+1)))))))))))))) (kl b (AA b))
def Z1i (a:List BV):Option (List BV):=AV Zaf (.b0 a)
def Z7Q:Lay:=⟨[0,3,4],[[.s 99 2],[.own 99 2],KP],[.row true],⟨[OV 42,.one (.own 99 0),OV 3],[.row 99 true]⟩⟩
def Zsq:Nat->Option Lay
 | 3=>some Z7Q
 | _=>none
def Zon:Yj->Ac U
 | .b0 a=>Ai f107 [42] (a,())
 | .b1 a b c=>AA3 f107 [1,1,0,1,0,0,0,0] Z7Q (a,c,b,())
theorem Zp9:AA1 107 [42] 42 (fun x=>Z1i x.1) rfl:=Aj (mc Z0r Ag) Ah Zsq Zon func107 (fun p=>by cases p<;>kernel_rfl) (by kernel_rfl) fun _=>rfl
inductive eY where
 | b0 (a:A8) (b:Gi) (c:Int)
 | b1 (a:Int) (b c:A8)
 | b2 (a:Int) (b c:A8)
def Zds:eY->Tr U ((A8×Int)⊕eY)
 | .b0 a b e=>let t:=nH b.Number;.br (a.Bd != 0) (AA (a,9)) (.br (b.Kind==1) (.bind 46 (Z1J a b.Ak) (fun(k:A8×Int)=>AA (k.1,k.2))) (.br (b.Kind==2) (.bind 46 (LV a (⟨0,b.BI,0,0,0,0,0,0,0,0,0⟩:AL) e) (fun(l:A8×Int)=>AA (l.1,l.2))) (.br (b.Kind==3) (.bind 46 (LV a (⟨1,BR,b.Map,0,0,0,0,0,0,0,0⟩:AL) e) (fun(m:A8×Int)=>AA (m.1,m.2))) (.br (b.Kind==4) (.bind 3 t (fun(r:Int)=>.bind 46 (LV a (⟨2,BR,0,0,r,0,0,0,0,0,0⟩:AL) e) (fun(n:A8×Int)=>AA (n.1,n.2)))) (.br (b.Kind==6) (.bind 46 (LV a (⟨8,BR,0,0,0,0,0,0,63,0,0⟩:AL) e) (fun(o:A8×Int)=>AA (o.1,o.2))) (.br (b.Kind==7) (.bind 46 (LV a (⟨12,BR,0,0,0,0,0,0,0,11,0⟩:AL) e) (fun(p:A8×Int)=>AA (p.1,p.2))) (.br (b.Kind==8) (.bind 46 (LV a (⟨18,BR,0,0,0,0,0,0,0,0,0⟩:AL) e) (fun(q:A8×Int)=>AA (q.1,q.2))) (.br (b.Kind==9) (.bind 3 t (fun(s:Int)=>.bind 46 (LV a (⟨20,BR,0,0,0,0,0,0,0,0,s⟩:AL) e) (fun(f:A8×Int)=>AA (f.1,f.2)))) (.br (b.Kind==12) (.bind 46 (LV a (⟨15,b.BI,0,0,0,0,0,0,0,0,0⟩:AL) e) (fun(g:A8×Int)=>AA (g.1,g.2))) (.br (b.Kind==5) (.br (b.Key==0) (AA (a,17)) (.bind 46 (LV a (⟨3,BR,0,0,0,0,a.Ic,b.Number,0,0,0⟩:AL) e) (fun(c:A8×Int)=>.br (c.2==0) (AO (.b1 c.2 Dk ({ c.1 with Key:=b.Key }:A8))) (AO (.b1 c.2 Dk c.1))))) (.br (b.Kind==10) (.bind 46 (Z2U a b.Key) (fun(h:A8×Int)=>AA (h.1,h.2))) (.br (b.Kind==13) (.br (a.Bz != 0) (AA (a,9)) (.bind 26 (Z0a a.DI a.Bl.Map (2:Int)) (fun(i:Int)=>.br (i==a.Bl.Map) (AA (a,0)) (.bind 46 (LV a (⟨1,BR,i,0,0,0,0,0,0,0,0⟩:AL) e) (fun(d:A8×Int)=>.br (d.2==0) (.bind 42 (Z1i a.DI) (fun(j:List BV)=>AO (.b2 d.2 Dk ({ d.1 with DI:=j }:A8)))) (AO (.b2 d.2 Dk d.1))))))) (AA (a,12))))))))))))))
 | .b1 a c b=>AA (b,a)
 | .b2 a c b=>AA (b,a)
def eP (a:A8) (b:Gi) (c:Int):Option (A8×Int):=AV Zds (.b0 a b c)
def Zc9:Lay:=⟨[6,8,9],[KP,KP,KP],[.var k2,.var k2],⟨[PQ 0,PQ 1,OV 45],[VA 44 66,VA 44 66]⟩⟩
def ZbD:Lay:=⟨[6,11,12],[KP,KP,KP],[.var k2,.var k2],⟨[PQ 0,PQ 1,OV 45],[VA 44 66,VA 44 66]⟩⟩
def ZAj:Nat->Option Lay
 | 28=>some Zc9
 | 40=>some ZbD
 | _=>none
def Zy6:eY->Ac U
 | .b0 a b c=>Ai f33 [44,83,3] (a,b,c,())
 | .b1 a b c=>AA3 f33 [1,1,0,1,0,1,1,1,1,1,1,1,1,1,1,1,1,1,1,1,1,1,1,1,0,1,1,1,0] Zc9 (a,b,c,())
 | .b2 a b c=>AA3 f33 [1,1,0,1,0,1,1,1,1,1,1,1,1,1,1,1,1,1,1,1,1,1,1,1,1,1,1,1,0,1,1,1,1,1,0] ZbD (a,b,c,())
theorem Zxn:AA1 33 [44,83,3] 46 (fun x=>eP x.1 x.2.1 x.2.2.1) rfl:=Aj (mc Zr3 (mc Zos (mc ZnU (mc Zux (mc Zmw (mc Zp9 Ag)))))) Ah ZAj Zy6 func33 (fun p=>by cases p<;>kernel_rfl) (by kernel_rfl) fun _=>rfl
end
end Go.Proofs.YtjodhcdmhobmoaaGreatDoor
