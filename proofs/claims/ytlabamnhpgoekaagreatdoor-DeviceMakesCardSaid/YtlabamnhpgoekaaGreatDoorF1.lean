/- A part of it. -/
import Derived.Test.YtlabamnhpgoekaaGreatDoorDUn
set_option linter.unusedVariables false
set_option linter.unusedSimpArgs false
namespace Go.Proofs.YtlabamnhpgoekaaGreatDoor
open Go Go.Proofs.YtlabamnhpgoekaaGreatDoor.Le
set_option maxRecDepth 100000
noncomputable section
def WZ:S1 (Int×Unit) Bool
 | (a0,_)=>.br (decide (a0>=64)) ( AQ (decide (a0<=65536))) ( AQ false)
def Q8 (a0:Int):Option Bool:=AY WZ (a0,())
def Zay:Ai U:=⟨[3],4,fun x=>Q8 x.1,by decide⟩
theorem Zw:Ag Tryz.prog B0 49 Zay:=ok1 Ar Ap Tryz.func49 (fun _=>by kernel_rfl) (by kernel_rfl)
inductive eG where
 | b0 (a0:Int)
 | b1 (a0:List Int) (a1 a2:Int)
def MQ:eG->Tr U ((List Int)⊕eG)
 | .b0 a0=>.chk (decide (0<=a0/\a0<=a0/\Int.toNat a0*1<=lim/\a0<=(↑maxLen:Int))) ( kl (List.replicate (Int.toNat a0) (0:Int)) ( kl (List.replicate (Int.toNat a0) (0:Int)) ( A8 (.b1 (List.replicate (Int.toNat a0) (0:Int)) (↑((List.replicate (Int.toNat a0) (0:Int)).length):Int) (0:Int)))))
 | .b1 a0 a1 a2=>.br (decide (a2<a1)) ( kl a0 ( .chk (kI a2 a0) ( .chk (a0.length==a0.length&&decide (0<=(Int.toNat a2))) ( .bind 5 (a0[(Int.toNat a2)]?) (fun(x1:Int)=>.chk ((a0.set (Int.toNat a2) (255:Int)).length==a0.length) ( A8 (.b1 (a0.set (Int.toNat a2) (255:Int)) a1 (Af (a2+1))))))))) ( kl a0 ( AQ a0))
def TL (a0:Int):Option (List Int):=AY MQ (.b0 a0)
def Z8y:Ai U:=⟨[3],41,fun x=>TL x.1,by decide⟩
def yI:Lay:=LT [3,8,9] [.o 5 1 0,.v 3,.v 3] [.r 5]
def Z7B:eG->BI U
 | .b0 a0=>Bl Tryz.f50 [3] (a0,())
 | .b1 a0 a1 a2=>BA Tryz.f50 [1,1,0,1,0,0,0] yI (((),((a1,()),((a2,()),()))),(a0,()))
theorem Z7E:Ag Tryz.prog B0 50 Z8y:=CZ Ar Ap (al [(3,yI)]) Z7B Tryz.func50 (fun p=>by cases p<;>kernel_rfl) (by kernel_rfl) fun _=>rfl
def WT:S1 (Int×Unit) (BV×Int)
 | (a0,_)=>.bind 4 (Q8 a0) (fun(x1:Bool)=>.br (!x1) ( AQ ((⟨(⟨[],[]⟩:Dx)⟩:BV),(5:Int))) ( .bind 41 (TL a0) (fun(x2:List Int)=>.bind 41 (TL a0) (fun(x3:List Int)=>AQ ((⟨(⟨x2,x3⟩:Dx)⟩:BV),(0:Int))))))
def TQ (a0:Int):Option (BV×Int):=AY WT (a0,())
def gZ:Ai U:=⟨[3],99,fun x=>TQ x.1,by decide⟩
theorem zK:Ag Tryz.prog B0 15 gZ:=ok1 (mc Zw (mc Z7E Ar)) Ap Tryz.func15 (fun _=>by kernel_rfl) (by kernel_rfl)
theorem wI:Ez Tryz.prog 124 1 1 5:=Gy FB (t:=41) (tb:=4) (e:=5) Tryz.func124 (by kernel_rfl) (by kernel_rfl) (by kernel_rfl) (by kernel_rfl) (by kernel_rfl) (by kernel_rfl) (by kernel_rfl) (by decide)
def KC (a0:List Int):Option LM:=if a0.length*1<=lim/\a0.length<=maxLen then some ⟨a0⟩ else none
def Z6i:Shape:=⟨[OV 41],[]⟩
def aS:Shape:=⟨[.one (.own 5 0)],[.row 5 true]⟩
noncomputable def Vm:HMod U:={ fa:=[[.s 5 1]],fb:=[],BU:=Z6i,GV:=aS,one:=true,ky:=1723,Iz:=fun(y:LM)=>(((),()),(y.q0,())),fn:=fun x=>KC x.1.1.1,ok:=okS rfl }
theorem TD:Dh Tryz.prog B0 124 Vm:=nS wI fun x y hx=>by
 simp only [Vm,KC] at hx
 split at hx
 ·rename_i h
  cases hx
  exact⟨_,rfl,rfl,by simp [Vm,HMod.out,aS,Shape.enc,Hr,JR,IW,D5,Fg,AO],by simp [Vm,HMod.out,aS,Shape.enc,Hr,JR,IW,D5,Fg,Aj,BM,BH],by simpa using h.1,by simpa using h.2⟩
 ·cases hx
theorem Z56:Ez Tryz.prog 127 2 16 265:=Gy FB (t:=137) (tb:=4) (e:=265) Tryz.func127 (by kernel_rfl) (by kernel_rfl) (by kernel_rfl) (by kernel_rfl) (by kernel_rfl) (by kernel_rfl) (by kernel_rfl) (by decide)
theorem vM:Ez Tryz.prog 131 2 16 26:=Gy FB (t:=51) (tb:=4) (e:=26) Tryz.func131 (by kernel_rfl) (by kernel_rfl) (by kernel_rfl) (by kernel_rfl) (by kernel_rfl) (by kernel_rfl) (by kernel_rfl) (by decide)
def TC (a0:List Aa):Option QV:=if a0.length*16<=lim/\a0.length<=maxLen then some ⟨a0⟩ else none
def Z5I:Shape:=⟨[OV 51],[]⟩
def aG:Shape:=⟨[.one (.own 26 0)],[.row 26 true]⟩
noncomputable def Ve:HMod U:={ fa:=[[.s 26 2]],fb:=[],BU:=Z5I,GV:=aG,one:=true,ky:=1725,Iz:=fun(y:QV)=>(((),()),(y.q0,())),fn:=fun x=>TC x.1.1.1,ok:=okS rfl }
theorem wH:Dh Tryz.prog B0 131 Ve:=nS vM fun x y hx=>by
 simp only [Ve,TC] at hx
 split at hx
 ·rename_i h
  cases hx
  exact⟨_,rfl,rfl,by simp [Ve,HMod.out,aG,Shape.enc,Hr,JR,IW,D5,Fg,AO],by simp [Ve,HMod.out,aG,Shape.enc,Hr,JR,IW,D5,Fg,Aj,BM,BH],by simpa using h.1,by simpa using h.2⟩
 ·cases hx
theorem vG:Ez Tryz.prog 132 3 24 29:=Gy FB (t:=52) (tb:=4) (e:=29) Tryz.func132 (by kernel_rfl) (by kernel_rfl) (by kernel_rfl) (by kernel_rfl) (by kernel_rfl) (by kernel_rfl) (by kernel_rfl) (by decide)
def Vd (a0:List Bv):Option TA:=if a0.length*24<=lim/\a0.length<=maxLen then some ⟨a0⟩ else none
def Z5v:Shape:=⟨[OV 52],[]⟩
def aF:Shape:=⟨[.one (.own 29 0)],[.row 29 true]⟩
noncomputable def Vb:HMod U:={ fa:=[[.s 29 3]],fb:=[],BU:=Z5v,GV:=aF,one:=true,ky:=1726,Iz:=fun(y:TA)=>(((),()),(y.q0,())),fn:=fun x=>Vd x.1.1.1,ok:=okS rfl }
theorem vY:Dh Tryz.prog B0 132 Vb:=nS vG fun x y hx=>by
 simp only [Vb,Vd] at hx
 split at hx
 ·rename_i h
  cases hx
  exact⟨_,rfl,rfl,by simp [Vb,HMod.out,aF,Shape.enc,Hr,JR,IW,D5,Fg,AO],by simp [Vb,HMod.out,aF,Shape.enc,Hr,JR,IW,D5,Fg,Aj,BM,BH],by simpa using h.1,by simpa using h.2⟩
 ·cases hx
theorem Z5D:Ez Tryz.prog 137 6 32 277:=Gy FB (t:=88) (tb:=4) (e:=277) Tryz.func137 (by kernel_rfl) (by kernel_rfl) (by kernel_rfl) (by kernel_rfl) (by kernel_rfl) (by kernel_rfl) (by kernel_rfl) (by decide)
theorem Z5k:Ez Tryz.prog 199 15 120 348:=Gy FB (t:=119) (tb:=4) (e:=348) Tryz.func199 (by kernel_rfl) (by kernel_rfl) (by kernel_rfl) (by kernel_rfl) (by kernel_rfl) (by kernel_rfl) (by kernel_rfl) (by decide)
theorem Z5r:Ez Tryz.prog 200 8 64 93:=Gy FB (t:=120) (tb:=4) (e:=93) Tryz.func200 (by kernel_rfl) (by kernel_rfl) (by kernel_rfl) (by kernel_rfl) (by kernel_rfl) (by kernel_rfl) (by kernel_rfl) (by decide)
theorem Z5A:Ez Tryz.prog 201 2 16 288:=Gy FB (t:=125) (tb:=4) (e:=288) Tryz.func201 (by kernel_rfl) (by kernel_rfl) (by kernel_rfl) (by kernel_rfl) (by kernel_rfl) (by kernel_rfl) (by kernel_rfl) (by decide)
theorem Z5b:Ez Tryz.prog 202 5 40 293:=Gy FB (t:=128) (tb:=4) (e:=293) Tryz.func202 (by kernel_rfl) (by kernel_rfl) (by kernel_rfl) (by kernel_rfl) (by kernel_rfl) (by kernel_rfl) (by kernel_rfl) (by decide)
theorem Z5o:Ez Tryz.prog 205 14 96 298:=Gy FB (t:=130) (tb:=4) (e:=298) Tryz.func205 (by kernel_rfl) (by kernel_rfl) (by kernel_rfl) (by kernel_rfl) (by kernel_rfl) (by kernel_rfl) (by kernel_rfl) (by decide)
theorem Z5R:Ez Tryz.prog 341 8 80 142:=Gy FB (t:=146) (tb:=4) (e:=142) Tryz.func341 (by kernel_rfl) (by kernel_rfl) (by kernel_rfl) (by kernel_rfl) (by kernel_rfl) (by kernel_rfl) (by kernel_rfl) (by decide)
theorem Z5c:Ez Tryz.prog 385 3 40 302:=Gy FB (t:=136) (tb:=4) (e:=302) Tryz.func385 (by kernel_rfl) (by kernel_rfl) (by kernel_rfl) (by kernel_rfl) (by kernel_rfl) (by kernel_rfl) (by kernel_rfl) (by decide)
theorem Z5p:Ez Tryz.prog 386 12 120 145:=Gy FB (t:=138) (tb:=4) (e:=145) Tryz.func386 (by kernel_rfl) (by kernel_rfl) (by kernel_rfl) (by kernel_rfl) (by kernel_rfl) (by kernel_rfl) (by kernel_rfl) (by decide)
theorem Z5j:Ez Tryz.prog 411 15 136 296:=Gy FB (t:=129) (tb:=4) (e:=296) Tryz.func411 (by kernel_rfl) (by kernel_rfl) (by kernel_rfl) (by kernel_rfl) (by kernel_rfl) (by kernel_rfl) (by kernel_rfl) (by decide)
theorem Z5H:Ez Tryz.prog 412 2 32 357:=Gy FB (t:=133) (tb:=4) (e:=357) Tryz.func412 (by kernel_rfl) (by kernel_rfl) (by kernel_rfl) (by kernel_rfl) (by kernel_rfl) (by kernel_rfl) (by kernel_rfl) (by decide)
theorem Z5h:Ez Tryz.prog 422 5 48 439:=Gy FB (t:=143) (tb:=4) (e:=439) Tryz.func422 (by kernel_rfl) (by kernel_rfl) (by kernel_rfl) (by kernel_rfl) (by kernel_rfl) (by kernel_rfl) (by kernel_rfl) (by decide)
theorem Z5S:Ez Tryz.prog 427 2 32 254:=Gy FB (t:=45) (tb:=4) (e:=254) Tryz.func427 (by kernel_rfl) (by kernel_rfl) (by kernel_rfl) (by kernel_rfl) (by kernel_rfl) (by kernel_rfl) (by kernel_rfl) (by decide)
end
noncomputable section
theorem wB_of {n:Int} (h : -9223372036854775808<=n) (h' : n<=9223372036854775807):Af n=n:=by
 simp only [Af,IntKind.wrap,IntKind.signed,IntKind.bits]
 simp
 omega
theorem fillB {R α:Type} (F:List α->Int->Option R) (l:List α) (fin:List α->Option R) (z:α)
  (hstep:∀(i:Nat) s (h:i<l.length),s.length=l.length->F s i=F (s.set i l[i]) ((i+1:Nat):Int)) (hfin:∀s,s.length=l.length->F s (l.length:Int)=fin s) :
  F (List.replicate l.length z) 0=fin l:=by
 have key:∀d i:Nat,i+d=l.length->F (l.take i++List.replicate d z) i=fin l:=by
  intro d
  induction d with
  | zero=>
   intro i hi
   obtain rfl:i=l.length:=by omega
   rw [List.replicate_zero,List.append_nil,List.take_length]
   exact hfin l rfl
  | succ d ih=>
   intro i hi
   rw [hstep i _ (by omega) (by simp;omega)]
   have:(l.take i++List.replicate (d+1) z).set i l[i]=l.take (i+1)++List.replicate d z:=by
    have hl:(l.take i).length=i:=by simp;omega
    rw [List.set_append_right _ _ (by omega),hl,Nat.sub_self,List.replicate_succ,List.set_cons_zero,List.take_add_one,List.getElem?_eq_getElem (show i<l.length by omega),Option.toList_some,List.append_assoc]
    rfl
   rw [this]
   exact ih (i+1) (by omega)
 have:=key l.length 0 (by omega)
 simpa using this
theorem eraB (n:Nat) (hn:n<=65536):TL n=some (List.replicate n 255):=(AU _ _).trans (by
 have hf:=fillB (fun s k=>AY MQ (.b1 s n k)) (List.replicate n 255) some 0 (fun i s h hs=>(AU _ _).trans (by
   rw [List.length_replicate] at h hs
   have h1:kI (i:Int) s=true:=decide_eq_true ⟨Int.natCast_nonneg i,by omega⟩
   have h2:s[Int.toNat (i:Int)]? = some s[i]:=by rw [Int.toNat_natCast];exact List.getElem?_eq_getElem (by omega)
   simp only [MQ,DN,decide_eq_true (show (i:Int)<(n:Int) by omega),cond_true,h2,Option.bind_some,List.length_set,beq_self_eq_true,Bool.true_and,decide_eq_true (Nat.zero_le _),show decide (0<=(i:Int)/\(i:Int)<(s.length:Int))=true from h1]
   rw [wB_of (by omega) (by omega),Int.toNat_natCast]
   simp)) (fun s hs=>(AU _ _).trans (by
   rw [List.length_replicate]
   simp only [MQ,DN,decide_eq_false (Int.lt_irrefl (n:Int)),cond_false,cond_true]))
 rw [List.length_replicate] at hf
 simp only [MQ,DN]
 rw [show decide (0<=(n:Int)/\(n:Int)<=(n:Int)/\Int.toNat (n:Int)*1<=lim/\(n:Int)<=(↑maxLen:Int))=true from decide_eq_true ⟨Int.natCast_nonneg n,Int.le_refl _,by rw [Int.toNat_natCast];exact Nat.le_trans (show n*1<=65536 by omega) (by decide),by have:n<=maxLen:=Nat.le_trans hn (by decide);exact_mod_cast this⟩,cond_true]
 simp only [Int.toNat_natCast,List.length_replicate]
 exact hf)
theorem Z7K:TQ 600=some (⟨⟨List.replicate 600 255,List.replicate 600 255⟩⟩,0):=(AU _ _).trans (by
 have hf:Q8 600=some true:=(AU _ _).trans (by simp only [WZ,DN];rfl)
 have e:=eraB 600 (by decide)
 simp only [WT,DN,hf,Option.bind_some,Bool.not_true,cond_false,show ((600:Nat):Int)=600 from rfl] at e ⊢
 simp only [e,Option.bind_some])
theorem Z6d:TQ 63=some (⟨⟨[],[]⟩⟩,5):=(AU _ _).trans (by
 have hf:Q8 63=some false:=(AU _ _).trans (by simp only [WZ,DN];rfl)
 simp only [WT,DN,hf,Option.bind_some,Bool.not_false,cond_true])
def qM:List V->Option V
 | [.lit (.int .i64 n)]=>if n=600 then some (U.enc gZ.rt (⟨⟨List.replicate 600 255,List.replicate 600 255⟩⟩,0)) else if n=63 then some (U.enc gZ.rt (⟨⟨[],[]⟩⟩,5)) else none
 | _=>none
theorem Zb9:PI Tryz.prog gl 15 qM:=ZfX rfl zK (fun ys r h=>by
 unfold qM at h
 split at h
 ·split at h
  ·rename_i hn
   subst hn
   cases h
   exact⟨((600:Int),()),_,rfl,Z7K,rfl⟩
  ·split at h
   ·rename_i hn
    subst hn
    cases h
    exact⟨((63:Int),()),_,rfl,Z6d,rfl⟩
   ·cases h
 ·cases h)
def Z4y:List V->Option V:=uO (EC Tryz.prog gl [225] (fun _=>false) [] []) 20 225
theorem rk225:Xn Tryz.prog gl [225] (fun _=>false) [] []=true:=by kernel_rfl
theorem rg225:PI Tryz.prog gl 225 Z4y:=Zfj FB rk225 (fun p hp=>by cases hp) (by rfl) Tryz.func225 (by kernel_rfl) 20
def fA:FuncId->Option (List V->Option V)
 | 15=>some qM
 | 225=>some Z4y
 | _=>none
theorem Z7w:∀g F,fA g=some F->PI Tryz.prog gl g F:=fun g F h=>by
 unfold fA at h
 split at h<;>cases h
 ·exact Zb9
 ·exact rg225
def gI:Option Bool:=some true
def Zv:Ai U:={ ts:=[],rt:=4,fn:=fun _=>gI,ok:=by decide }
theorem Z8x:pV Tryz.prog gl [4,5,8,10,11,12,13,14,16,17,35,37,38,39,40,41,42,43,44,45,46,47,48,49,50,51,52,53,54,55,56,57,58,59,60,61,62,63,64,65,66,67,92,93,96,97,98,99,100,101,102,103,104,105,106,107,108,109,110,111,112,113,114,115,116,117,118,119,120,121,122,123,125,126,128,129,130,133,134,135,136,138,139,157,158,161,162,163,164,165,166,167,168,169,170,171,172,173,174,175,176,177,178,179,180,181,182,183,184,185,186,187,188,189,190,191,192,193,194,195,196,197,198,203,204,206,207,208,209,210,211,218,219,220,221,224,226,227,228,229,230,231,232,233,234,235,236,237,238,239,240,241,242,243,244,245,246,247,248,249,250,251,252,253,254,255,256,257,258,259,260,261,262,263,264,265,267,268,269,270,274,275,276,278,279,280,281,282,283,284,285,286,287,288,289,290,291,292,293,294,295,296,297,298,299,300,301,302,303,304,305,306,307,308,309,310,311,312,313,314,315,316,317,318,319,320,321,322,323,324,325,326,327,328,329,330,331,332,333,334,335,336,337,338,339,340,342,343,344,345,346,347,348,349,350,351,352,353,354,355,356,357,358,359,360,361,362,363,364,365,366,367,368,369,371,372,373,374,375,376,377,378,379,380,381,382,383,384,387,388,389,390,391,392,393,394,395,396,397,398,399,400,401,402,403,404,405,406,407,408,409,410,413,414,415,416,417,418,419,420,421,423,424,425,426,428,429,430,431,432,433,434,437,438,439,440,441,442,443,444,445,446,447,448,449,450,451,452,453,454,455,456,457,458,459,460,461,462,463,464,465,466,467,468,469,470,471,472,473,474,475,476,477,478,479,480,481,482,483,484,485,486,487,488,489,490,491,492,493,494,495,496,497,498,499,500,501,502,503,504,505,506,507,508,509,510,511,512,513,514,515,516,517,518,519,520,521,522,523,524,525,526,527,528,529,530,531,532,533,534,535,536,537,538,539,540,541,542,543,544,545,546,547,548,549,550,551,552,553,554,555,556,557,558,559,560,561,562,563] (fun g=>!([37,38,39,40,41,54,57,60,64,66,96,98,100,101,102,103,106,107,112,122,125,128,138,162,165,166,167,168,169,170,171,172,173,174,175,176,177,178,180,181,183,197,203,206,208,210,225,240,241,243,246,250,253,254,255,259,268,269,275,286,288,290,299,300,309,310,311,312,313,314,315,316,317,318,319,320,321,322,323,324,326,328,329,332,333,334,337,342,343,344,347,352,355,356,357,358,360,369,375,376,378,379,380,381,383,384,387,388,393,394,395,396,397,400,401,403,404,405,406,408,409,410,414,415,416,417,418,421,423,439,440,446,456,460,462,463,465,466,467,472,477,479,481,482,485,498,499,500,505,521,525,528,531,535,538,540,543,546,548,550,554,556,558,561].contains g)) [(103,3),(103,5),(103,6),(162,3),(175,9),(179,2),(179,10),(180,2),(180,4),(250,2),(255,2),(299,1),(309,5),(317,9),(321,1),(323,4),(323,8),(328,1),(328,5),(394,1),(405,2),(406,2),(425,6),(425,10),(477,1),(480,1),(480,5)] [(124,1,1,5),(127,2,16,265),(131,2,16,26),(132,3,24,29),(137,6,32,277),(199,15,120,348),(200,8,64,93),(201,2,16,288),(202,5,40,293),(205,14,96,298),(341,8,80,142),(385,3,40,302),(386,12,120,145),(411,15,136,296),(412,2,32,357),(422,5,48,439),(427,2,32,254)] fA=true:=by kernel_rfl
theorem Z8O:Ag Tryz.prog B0 4 Zv:=Zdz rfl FB Z8x Z7w (fun p hp=>by simp only [List.mem_cons,List.not_mem_nil,or_false] at hp;rcases hp with rfl|rfl|rfl|rfl|rfl|rfl|rfl|rfl|rfl|rfl|rfl|rfl|rfl|rfl|rfl|rfl|rfl<;>first|exact wI|exact Z56|exact vM|exact vG|exact Z5D|exact Z5k|exact Z5r|exact Z5A|exact Z5b|exact Z5o|exact Z5R|exact Z5c|exact Z5p|exact Z5j|exact Z5H|exact Z5h|exact Z5S) (by rfl) (by decide) rfl Tryz.func4 (by kernel_rfl) (n:=2000) (m:=Zv) rfl (a:=true) (fun _=>rfl) (by kernel_rfl)
end
noncomputable section
def Z9u:S1 (Int×Int×Int×Unit) Int
 | (a0,a1,a2,_)=>AQ (if a2<(if a1>a0 then a1 else a0) then a2 else (if a1>a0 then a1 else a0))
def WH (a0 a1 a2:Int):Option Int:=AY Z9u (a0,a1,a2,())
def Z9p:Ai U:=⟨[3,3,3],3,fun x=>WH x.1 x.2.1 x.2.2.1,by decide⟩
theorem Z8Y:Ag Tryz.prog B0 108 Z9p:=ok1 Ar Ap Tryz.func108 (fun _=>by kernel_rfl) (by kernel_rfl)
def ZQ:S1 (Gv×Unit) Int
 | (a0,_)=>.bind 3 (WH a0.He (-500:Int) (500:Int)) (fun(x1:Int)=>.br (a0.He != x1) ( AQ (5:Int)) ( .bind 3 (WH a0.Start (0:Int) (1099511627776:Int)) (fun(x2:Int)=>.br (a0.Start != x2) ( AQ (5:Int)) ( AQ (0:Int)))))
def fU (a0:Gv):Option Int:=AY ZQ (a0,())
def Z99:Ai U:=⟨[23],65,fun x=>fU x.1,by decide⟩
theorem Z8v:Ag Tryz.prog B0 43 Z99:=ok1 (mc Z8Y Ar) Ap Tryz.func43 (fun _=>by kernel_rfl) (by kernel_rfl)
def Z8:S1 (Int×Unit) Int
 | (a0,_)=>.chk (decide (0<=a0)) ( AQ (IntKind.wrap .u64 ((IntKind.wrap .u64 ((1:Int)*2 ^ (min (Int.toNat a0) (IntKind.bits .u64)))) - 1)))
def JU (a0:Int):Option Int:=AY Z8 (a0,())
def Z8N:Ai U:=⟨[3],24,fun x=>JU x.1,by decide⟩
theorem Vy:Ag Tryz.prog B0 110 Z8N:=ok1 Ar Ap Tryz.func110 (fun _=>by kernel_rfl) (by kernel_rfl)
def zT:S1 (Aa×Unit) (Int×Int)
 | (a0,_)=>.br (a0.Kind==3) ( .bind 24 (JU (22:Int)) (fun(x1:Int)=>AQ ((bits .and .u64 (Int.fdiv a0.Bits (2 ^ (24:Nat))) x1),(22:Int)))) ( .bind 24 (JU (46:Int)) (fun(x2:Int)=>AQ ((bits .and .u64 a0.Bits x2),(46:Int))))
def eY (a0:Aa):Option (Int×Int):=AY zT (a0,())
def Z8H:Ai U:=⟨[26],243,fun x=>eY x.1,by decide⟩
theorem Z7H:Ag Tryz.prog B0 109 Z8H:=ok1 (mc Vy Ar) Ap Tryz.func109 (fun _=>by kernel_rfl) (by kernel_rfl)
inductive dX where
 | b0 (a0:Aa)
 | b1 (a0:Aa)
def WA:dX->Tr U (Int⊕dX)
 | .b0 a0=>.br (decide (a0.Kind<=0)) ( AQ (12:Int)) ( .br (decide (a0.Kind>=5)) ( AQ (12:Int)) ( A8 (.b1 a0)))
 | .b1 a0=>.br ((Int.fdiv a0.Bits (2 ^ (48:Nat))) != 0) ( AQ (5:Int)) ( .br (a0.Kind==1) ( AQ (0:Int)) ( .bind 243 (eY a0) (fun(x1:Int×Int)=>.chk (decide (0<=a0.Kind/\a0.Kind<5)) ( .bind 24 (([0,0,3,1,0]:List Int)[(Int.toNat a0.Kind)]?) (fun(x2:Int)=>.br ((Int.fdiv a0.Bits (2 ^ (46:Nat))) != x2) ( AQ (1:Int)) ( .br (x1.1==0) ( AQ (1:Int)) ( .bind 24 (JU x1.2) (fun(x3:Int)=>.br (x1.1==x3) ( AQ (1:Int)) ( AQ (0:Int))))))))))
def dP (a0:Aa):Option Int:=AY WA (.b0 a0)
def Z85:Ai U:=⟨[26],65,fun x=>dP x.1,by decide⟩
def yF:Lay:=LT [1] [.p 0] [.s 26]
def Z7k:dX->BI U
 | .b0 a0=>Bl Tryz.f44 [26] (a0,())
 | .b1 a0=>BA Tryz.f44 [1,0,0,1,1,0] yF (((),()),((a0,()),()))
theorem Z7i:Ag Tryz.prog B0 44 Z85:=CZ (mc Z7H (mc Vy Ar)) Ap (al [(3,yF)]) Z7k Tryz.func44 (fun p=>by cases p<;>kernel_rfl) (by kernel_rfl) fun _=>rfl
def zH:S1 (Aa×Unit) Bool
 | (a0,_)=>.br (a0.Kind==1) ( AQ true) ( AQ (a0.Kind==2))
def dY (a0:Aa):Option Bool:=AY zH (a0,())
def Z8j:Ai U:=⟨[26],4,fun x=>dY x.1,by decide⟩
theorem Z86:Ag Tryz.prog B0 45 Z8j:=ok1 Ar Ap Tryz.func45 (fun _=>by kernel_rfl) (by kernel_rfl)
def zV:S1 (GZ×Unit) Int
 | (a0,_)=>.br (decide (a0.IO<0)) ( AQ (5:Int)) ( .br (decide (a0.IO>=5)) ( AQ (5:Int)) ( AQ (0:Int)))
def fE (a0:GZ):Option Int:=AY zV (a0,())
def Z8K:Ai U:=⟨[32],65,fun x=>fE x.1,by decide⟩
theorem Z7Z:Ag Tryz.prog B0 46 Z8K:=ok1 Ar Ap Tryz.func46 (fun _=>by kernel_rfl) (by kernel_rfl)
inductive eP where
 | b0 (a0:C9)
 | b1 (a0:C9)
 | b2 (a0:C9)
def Q4:eP->Tr U (Int⊕eP)
 | .b0 a0=>.bind 65 (fU a0.Clock) (fun(x1:Int)=>.br (x1 != 0) ( AQ x1) ( .bind 65 (dP a0.DT.Address) (fun(x2:Int)=>.br (x2 != 0) ( AQ x2) ( .bind 4 (dY a0.DT.Address) (fun(x3:Bool)=>.br (!x3) ( AQ (12:Int)) ( .br a0.Fa ( .br (a0.DT.Dq==0) ( AQ (17:Int)) ( A8 (.b1 a0))) ( A8 (.b1 a0))))))))
 | .b1 a0=>.br a0.Fa ( .br (decide (a0.Hq<1)) ( AQ (5:Int)) ( A8 (.b2 a0))) ( A8 (.b2 a0))
 | .b2 a0=>.bind 65 (fE a0.Cc) (fun(x1:Int)=>.br (x1 != 0) ( AQ x1) ( .br a0.Cc.IE ( AQ (1:Int)) ( AQ (0:Int))))
def dZ (a0:C9):Option Int:=AY Q4 (.b0 a0)
def Z8g:Ai U:=⟨[34],65,fun x=>dZ x.1,by decide⟩
def Vw:Lay:=LT [1] [.p 0] [.s 34]
def Z83:eP->BI U
 | .b0 a0=>Bl Tryz.f13 [34] (a0,())
 | .b1 a0=>BA Tryz.f13 [1,1,1,0,0,1,1,1,1,0] Vw (((),()),((a0,()),()))
 | .b2 a0=>BA Tryz.f13 [1,1,1,1,0,0] Vw (((),()),((a0,()),()))
theorem Z7X:Ag Tryz.prog B0 13 Z8g:=CZ (mc Z8v (mc Z7i (mc Z86 (mc Z7Z Ar)))) Ap (al [(11,Vw),(13,Vw)]) Z83 Tryz.func13 (fun p=>by cases p<;>kernel_rfl) (by kernel_rfl) fun _=>rfl
def ZZ:S1 (Int×Unit) BB
 | (a0,_)=>AQ (⟨(bits .or .u64 (IntKind.wrap .u64 ((IntKind.wrap .u64 (a0))*2 ^ (32:Nat))) (4096:Int)),9223372588214596859⟩:BB)
def Nw (a0:Int):Option BB:=AY ZZ (a0,())
def ZaY:Ai U:=⟨[75],37,fun x=>Nw x.1,by decide⟩
theorem Zt:Ag Tryz.prog B0 47 ZaY:=ok1 Ar Ap Tryz.func47 (fun _=>by kernel_rfl) (by kernel_rfl)
def Z8d:S1 (BG×Unit) Bool
 | (a0,_)=>AQ ((bits .and .i64 a0.Props (48:Int)) != 0)
def QZ (a0:BG):Option Bool:=AY Z8d (a0,())
def Z7L:Ai U:=⟨[179],4,fun x=>QZ x.1,by decide⟩
theorem yH:Ag Tryz.prog B0 115 Z7L:=ok1 Ar Ap Tryz.func115 (fun _=>by kernel_rfl) (by kernel_rfl)
def ZW:S1 (BB×Unit) KO
 | (a0,_)=>AQ (⟨(IntKind.wrap .u8 ((Int.fdiv a0.Low (2 ^ (0:Nat))))),(IntKind.wrap .u8 ((Int.fdiv a0.Low (2 ^ (8:Nat))))),(IntKind.wrap .u8 ((Int.fdiv a0.Low (2 ^ (16:Nat))))),(IntKind.wrap .u8 ((Int.fdiv a0.Low (2 ^ (24:Nat))))),(IntKind.wrap .u8 ((Int.fdiv a0.Low (2 ^ (32:Nat))))),(IntKind.wrap .u8 ((Int.fdiv a0.Low (2 ^ (40:Nat))))),(IntKind.wrap .u8 ((Int.fdiv a0.Low (2 ^ (48:Nat))))),(IntKind.wrap .u8 ((Int.fdiv a0.Low (2 ^ (56:Nat))))),(IntKind.wrap .u8 ((Int.fdiv a0.High (2 ^ (0:Nat))))),(IntKind.wrap .u8 ((Int.fdiv a0.High (2 ^ (8:Nat))))),(IntKind.wrap .u8 ((Int.fdiv a0.High (2 ^ (16:Nat))))),(IntKind.wrap .u8 ((Int.fdiv a0.High (2 ^ (24:Nat))))),(IntKind.wrap .u8 ((Int.fdiv a0.High (2 ^ (32:Nat))))),(IntKind.wrap .u8 ((Int.fdiv a0.High (2 ^ (40:Nat))))),(IntKind.wrap .u8 ((Int.fdiv a0.High (2 ^ (48:Nat))))),(IntKind.wrap .u8 ((Int.fdiv a0.High (2 ^ (56:Nat)))))⟩:KO)
def TT (a0:BB):Option KO:=AY ZW (a0,())
def Za6:Ai U:=⟨[37],338,fun x=>TT x.1,by decide⟩
theorem Zy:Ag Tryz.prog B0 190 Za6:=ok1 Ar Ap Tryz.func190 (fun _=>by kernel_rfl) (by kernel_rfl)
def Zx:S1 (BB×Unit) (Int×Bool)
 | (a0,_)=>.bind 338 (TT a0) (fun(x1:KO)=>.bind 338 (TT (⟨4096,9223372588214596859⟩:BB)) (fun(x2:KO)=>.br (!((x1.x0==x2.x0)&&((x1.x1==x2.x1)&&((x1.x2==x2.x2)&&((x1.x3==x2.x3)&&((x1.x4==x2.x4)&&((x1.x5==x2.x5)&&((x1.x6==x2.x6)&&((x1.x7==x2.x7)&&((x1.x8==x2.x8)&&((x1.x9==x2.x9)&&((x1.x10==x2.x10)&&((x1.x11==x2.x11)&&(((0:Int)==x2.x12)&&(((0:Int)==x2.Yy)&&((x1.x14==x2.x14)&&((x1.x15==x2.x15)&&true))))))))))))))))) ( AQ ((0:Int),false)) ( AQ ((bits .or .u16 (IntKind.wrap .u16 (x1.x12)) (IntKind.wrap .u16 ((IntKind.wrap .u16 (x1.Yy))*2 ^ (8:Nat)))),true))))
def WN (a0:BB):Option (Int×Bool):=AY Zx (a0,())
def Z9G:Ai U:=⟨[37],281,fun x=>WN x.1,by decide⟩
theorem zN:Ag Tryz.prog B0 189 Z9G:=ok1 (mc Zy Ar) Ap Tryz.func189 (fun _=>by kernel_rfl) (by kernel_rfl)
inductive bF where
 | b0 (a0:List Int) (a1:Int)
 | b1 (a0:List Int) (a1 a2 a3:Int)
def Vh:bF->Tr U (Int⊕bF)
 | .b0 a0 a1=>A8 (.b1 a0 a1 (↑a0.length:Int) (0:Int))
 | .b1 a0 a1 a2 a3=>.br (decide (a3<a2)) ( .chk (kI a3 a0) ( .bind 75 (a0[(Int.toNat a3)]?) (fun(x1:Int)=>.br (a1==x1) ( AQ a3) ( A8 (.b1 a0 a1 a2 (Af (a3+1))))))) ( AQ (-1:Int))
def Vg (a0:List Int) (a1:Int):Option Int:=AY Vh (.b0 a0 a1)
def Z6l:Ai U:=⟨[467,75],3,fun x=>Vg x.1 x.2.1,by decide⟩
def wF:Lay:=LT [0,1,7,8] [.v 467,.v 75,.v 3,.v 3] []
def Z65:bF->BI U
 | .b0 a0 a1=>Bl Tryz.f441 [467,75] (a0,a1,())
 | .b1 a0 a1 a2 a3=>BA Tryz.f441 [1,0,1,0,0,0] wF (((a0,()),((a1,()),((a2,()),((a3,()),())))),())
theorem Z5Z:Ag Tryz.prog B0 441 Z6l:=CZ Ar Ap (al [(2,wF)]) Z65 Tryz.func441 (fun p=>by cases p<;>kernel_rfl) (by kernel_rfl) fun _=>rfl
def aK:S1 ((List Int)×Int×Unit) Bool
 | (a0,a1,_)=>.bind 3 (Vg a0 a1) (fun(x1:Int)=>AQ (decide (x1>=0)))
def Va (a0:List Int) (a1:Int):Option Bool:=AY aK (a0,a1,())
def Z5F:Ai U:=⟨[467,75],4,fun x=>Va x.1 x.2.1,by decide⟩
theorem Z5s:Ag Tryz.prog B0 382 Z5F:=ok1 (mc Z5Z Ar) Ap Tryz.func382 (fun _=>by kernel_rfl) (by kernel_rfl)
def gW:S1 (BB×(List Int)×Unit) Bool
 | (a0,a1,_)=>.bind 281 (WN a0) (fun(x1:Int×Bool)=>.br x1.2 ( .bind 4 (Va a1 x1.1) (fun(x2:Bool)=>AQ x2)) ( AQ false))
def Q5 (a0:BB) (a1:List Int):Option Bool:=AY gW (a0,a1,())
def Z9i:Ai U:=⟨[37,467],4,fun x=>Q5 x.1 x.2.1,by decide⟩
theorem eU:Ag Tryz.prog B0 292 Z9i:=ok1 (mc zN (mc Z5s Ar)) Ap Tryz.func292 (fun _=>by kernel_rfl) (by kernel_rfl)
def xR:S1 (BB×Unit) Bool
 | (a0,_)=>.chk true ( .bind 4 (Q5 a0 ([(10240:Int),(10241:Int)])) (fun(x1:Bool)=>AQ x1))
def bY (a0:BB):Option Bool:=AY xR (a0,())
def Z6Y:Ai U:=⟨[37],4,fun x=>bY x.1,by decide⟩
theorem Z6F:Ag Tryz.prog B0 293 Z6Y:=ok1 (mc eU Ar) Ap Tryz.func293 (fun _=>by kernel_rfl) (by kernel_rfl)
def wM:S1 (BB×Unit) Bool
 | (a0,_)=>.bind 4 (bY a0) (fun(x1:Bool)=>.br x1 ( AQ true) ( .chk true ( .bind 4 (Q5 a0 ([(10242:Int),(10243:Int)])) (fun(x2:Bool)=>AQ x2))))
def aV (a0:BB):Option Bool:=AY wM (a0,())
def Z68:Ai U:=⟨[37],4,fun x=>aV x.1,by decide⟩
theorem Z5L:Ag Tryz.prog B0 302 Z68:=ok1 (mc eU (mc Z6F Ar)) Ap Tryz.func302 (fun _=>by kernel_rfl) (by kernel_rfl)
def xE:S1 (BB×Unit) Bool
 | (a0,_)=>.bind 4 (aV a0) (fun(x1:Bool)=>.br x1 ( AQ true) ( .chk true ( .bind 4 (Q5 a0 ([(10498:Int)])) (fun(x2:Bool)=>AQ x2))))
def bI (a0:BB):Option Bool:=AY xE (a0,())
def Z6R:Ai U:=⟨[37],4,fun x=>bI x.1,by decide⟩
theorem Z6C:Ag Tryz.prog B0 263 Z6R:=ok1 (mc eU (mc Z5L Ar)) Ap Tryz.func263 (fun _=>by kernel_rfl) (by kernel_rfl)
inductive cO where
 | b0 (a0:BB) (a1 a2:Int) (a3:List Int)
 | b1 (a0:List Int)
def Vr:cO->Tr U (Int⊕cO)
 | .b0 a0 a1 a2 a3=>.bind 4 (bI a0) (fun(x1:Bool)=>.br x1 ( AQ (1:Int)) ( .br (decide (a1<0)) ( AQ (5:Int)) ( .br (decide (a1>255)) ( AQ (5:Int)) ( .br (decide (a2<0)) ( AQ (5:Int)) ( .br (decide (a2>15)) ( AQ (5:Int)) ( A8 (.b1 a3)))))))
 | .b1 a0=>.br (decide ((↑a0.length:Int)>512)) ( AQ (4:Int)) ( AQ (0:Int))
def Vs (a0:BB) (a1 a2:Int) (a3:List Int):Option Int:=AY Vr (.b0 a0 a1 a2 a3)
def Z7d:Ai U:=⟨[37,3,3,41],65,fun x=>Vs x.1 x.2.1 x.2.2.1 x.2.2.2.1,by decide⟩
def xG:Lay:=LT [3] [.v 41] []
def Z6W:cO->BI U
 | .b0 a0 a1 a2 a3=>Bl Tryz.f188 [37,3,3,41] (a0,a1,a2,a3,())
 | .b1 a0=>BA Tryz.f188 [1,0,0,1,1,1,1,0] xG (((a0,()),()),())
theorem Z6S:Ag Tryz.prog B0 188 Z7d:=CZ (mc Z6C Ar) Ap (al [(5,xG)]) Z6W Tryz.func188 (fun p=>by cases p<;>kernel_rfl) (by kernel_rfl) fun _=>rfl
inductive dM where
 | b0 (a0:List Am)
 | b1 (a0:Int) (a1:List Am) (a2 a3:Int)
 | b2 (a0:Int) (a1:List Am) (a2 a3:Int) (a4:List BG) (a5 a6:Int)
 | b3 (a0:Int) (a1:List Am) (a2 a3:Int) (a4:List BG) (a5 a6:Int) (a7:BG)
 | b4 (a0:Int) (a1:List Am) (a2 a3:Int) (a4:List BG) (a5 a6:Int) (a7:List Ac) (a8 a9:Int)
def FO:dM->Tr U ((Int×Int)⊕dM)
 | .b0 a0=>A8 (.b1 (0:Int) a0 (↑a0.length:Int) (0:Int))
 | .b1 a0 a1 a2 a3=>.br (decide (a3<a2)) ( .chk (kI a3 a1) ( .bind 40 (a1[(Int.toNat a3)]?) (fun(x1:Am)=>A8 (.b2 (Af (a0+1)) a1 a2 a3 x1.BC (↑x1.BC.length:Int) (0:Int))))) ( AQ (a0,0))
 | .b2 a0 a1 a2 a3 a4 a5 a6=>.br (decide (a6<a5)) ( .chk (kI a6 a4) ( .bind 179 (a4[(Int.toNat a6)]?) (fun(x1:BG)=>.bind 65 (Vs x1.BL x1.Props x1.EH x1.Value) (fun(x2:Int)=>.br (x2 != 0) ( AQ ((0:Int),x2)) ( .bind 4 (QZ x1) (fun(x3:Bool)=>.br x3 ( A8 (.b3 (Af ((Af (a0+(Af ((2:Int)+(↑x1.More.length:Int)))))+1)) a1 a2 a3 a4 a5 a6 x1)) ( A8 (.b3 (Af (a0+(Af ((2:Int)+(↑x1.More.length:Int))))) a1 a2 a3 a4 a5 a6 x1)))))))) ( A8 (.b1 a0 a1 a2 (Af (a3+1))))
 | .b3 a0 a1 a2 a3 a4 a5 a6 a7=>A8 (.b4 a0 a1 a2 a3 a4 a5 a6 a7.More (↑a7.More.length:Int) (0:Int))
 | .b4 a0 a1 a2 a3 a4 a5 a6 a7 a8 a9=>.br (decide (a9<a8)) ( .chk (kI a9 a7) ( .bind 222 (a7[(Int.toNat a9)]?) (fun(x1:Ac)=>.bind 65 (Vs x1.BL (0:Int) x1.EH x1.Value) (fun(x2:Int)=>.br (x2 != 0) ( AQ ((0:Int),x2)) ( A8 (.b4 a0 a1 a2 a3 a4 a5 a6 a7 a8 (Af (a9+1)))))))) ( A8 (.b2 a0 a1 a2 a3 a4 a5 (Af (a6+1))))
def dE (a0:List Am):Option (Int×Int):=AY FO (.b0 a0)
def Z7l:Ai U:=⟨[30],206,fun x=>dE x.1,by decide⟩
def xU:Lay:=LT [4,13,14,15] [.v 3,.v 30,.v 3,.v 3] []
def xO:Lay:=LT [4,13,14,15,22,23,24] [.v 3,.v 30,.v 3,.v 3,.v 38,.v 3,.v 3] []
def xX:Lay:=LT [4,8,13,14,15,22,23,24] [.v 3,.p 0,.v 30,.v 3,.v 3,.v 38,.v 3,.v 3] [.s 179]
def xY:Lay:=LT [4,13,14,15,22,23,24,51,52,53] [.v 3,.v 30,.v 3,.v 3,.v 38,.v 3,.v 3,.v 49,.v 3,.v 3] []
def Z7a:dM->BI U
 | .b0 a0=>Bl Tryz.f111 [30] (a0,())
 | .b1 a0 a1 a2 a3=>BA Tryz.f111 [1,1,0,1,0,0,0] xU (((a0,()),((a1,()),((a2,()),((a3,()),())))),())
 | .b2 a0 a1 a2 a3 a4 a5 a6=>BA Tryz.f111 [1,1,0,1,0,0,1,1,0,0,1,1,1,0,0,0] xO (((a0,()),((a1,()),((a2,()),((a3,()),((a4,()),((a5,()),((a6,()),()))))))),())
 | .b3 a0 a1 a2 a3 a4 a5 a6 a7=>BA Tryz.f111 [1,1,0,1,0,0,1,1,0,0,1,1,1,0,0,1,1,0,0,1,1,1,1,0] xX (((a0,()),((),((a1,()),((a2,()),((a3,()),((a4,()),((a5,()),((a6,()),())))))))),((a7,()),()))
 | .b4 a0 a1 a2 a3 a4 a5 a6 a7 a8 a9=>BA Tryz.f111 [1,1,0,1,0,0,1,1,0,0,1,1,1,0,0,1,1,0,0,1,1,1,1,1,0,0,0] xY (((a0,()),((a1,()),((a2,()),((a3,()),((a4,()),((a5,()),((a6,()),((a7,()),((a8,()),((a9,()),())))))))))),())
theorem Z7c:Ag Tryz.prog B0 111 Z7l:=CZ (mc yH (mc Z6S Ar)) Ap (al [(3,xU),(7,xO),(15,xX),(16,xY)]) Z7a Tryz.func111 (fun p=>by cases p<;>kernel_rfl) (by kernel_rfl) fun _=>rfl
inductive fQ where
 | b0 (a0:List (List Int))
 | b1 (a0:List Int) (a1:List (List Int)) (a2 a3:Int)
def TS:fQ->Tr U ((List Int)⊕fQ)
 | .b0 a0=>.chk true ( A8 (.b1 ([]:List Int) a0 (↑a0.length:Int) (0:Int)))
 | .b1 a0 a1 a2 a3=>.br (decide (a3<a2)) ( .chk (kI a3 a1) ( .bind 41 (a1[(Int.toNat a3)]?) (fun(x1:List Int)=>kl a0 ( .chk (kA (a0.length+x1.length) 1) ( kl (a0++x1) ( A8 (.b1 (a0++x1) a1 a2 (Af (a3+1))))))))) ( kl a0 ( AQ a0))
def MR (a0:List (List Int)):Option (List Int):=AY TS (.b0 a0)
def Z9h:Ai U:=⟨[246],41,fun x=>MR x.1,by decide⟩
def zA:Lay:=LT [3,6,7,8] [.o 5 1 0,.v 246,.v 3,.v 3] [.r 5]
def Z8k:fQ->BI U
 | .b0 a0=>Bl Tryz.f113 [246] (a0,())
 | .b1 a0 a1 a2 a3=>BA Tryz.f113 [1,1,0,1,0,0,0] zA (((),((a1,()),((a2,()),((a3,()),())))),(a0,()))
theorem Q3:Ag Tryz.prog B0 113 Z9h:=CZ Ar Ap (al [(3,zA)]) Z8k Tryz.func113 (fun p=>by cases p<;>kernel_rfl) (by kernel_rfl) fun _=>rfl
def Zu:S1 (BB×Unit) (List Int)
 | (a0,_)=>.bind 281 (WN a0) (fun(x1:Int×Bool)=>.br x1.2 ( .chk true ( AQ ([(IntKind.wrap .u8 (x1.1)),(IntKind.wrap .u8 ((Int.fdiv x1.1 (2 ^ (8:Nat)))))]))) ( .bind 338 (TT a0) (fun(x2:KO)=>.chk true ( .bind 41 (MR ([(List.take 16 [x2.x0,x2.x1,x2.x2,x2.x3,x2.x4,x2.x5,x2.x6,x2.x7,x2.x8,x2.x9,x2.x10,x2.x11,x2.x12,x2.Yy,x2.x14,x2.x15])])) (fun(x3:List Int)=>AQ x3)))))
def WO (a0:BB):Option (List Int):=AY Zu (a0,())
def Z9r:Ai U:=⟨[37],41,fun x=>WO x.1,by decide⟩
theorem Z8e:Ag Tryz.prog B0 114 Z9r:=ok1 (mc Q3 (mc zN (mc Zy Ar))) Ap Tryz.func114 (fun _=>by kernel_rfl) (by kernel_rfl)
inductive bW where
 | b0 (a0:BB) (a1:Int) (a2:List (List Int)) (a3:List Ac) (a4:Int)
def yB:bW->Tr U (LP⊕bW)
 | .b0 a0 a1 a2 a3 a4=>kl a2 ( .bind 41 (MR a2) (fun(x1:List Int)=>.chk true ( kl a3 ( .chk (kA (a3.length+1) 56) ( .chk (kL a2&&kL (a3++[(⟨a4,a0,a1,x1⟩:Ac)])) ( AQ (⟨(a3++[(⟨a4,a0,a1,x1⟩:Ac)]),(IntKind.wrap .u16 (a4+1)),a2⟩:LP)))))))
def Oe (a0:BB) (a1:Int) (a2:List (List Int)) (a3:List Ac) (a4:Int):Option LP:=AY yB (.b0 a0 a1 a2 a3 a4)
def xB:Shape:=⟨[.agg [.v 37 2 true],OV 3,.one (.own 41 0),PQ 1,PQ 2],[.row 41 true,.var 49 1 (.one (.own 222 3)),.var 75 1 (OV 75),.row 222 true]⟩
def Z6m:Shape:=⟨[],[.row 41 false,.var 49 1 (.one (.own 222 3)),.var 75 1 (OV 75),.row 222 true]⟩
noncomputable def Z6U:HMod U:=⟨[[.keep,.keep],KP,[.own 41 1],KP,KP],[.row true,.var [.own 222 5],.var KP,.row true],xB,Z6m,false,1740,fun(y:LP)=>((),(y.q2,((),((y.q1,()),(y.q0,()))))),fun x=>Oe x.1.1.1 x.1.2.1.1 x.2.1 x.2.2.2.2.1 x.2.2.2.1.1,okS rfl⟩
def Z6G:bW->BI U
 | .b0 a0 a1 a2 a3 a4=>H6 Tryz.f112 xB (((a0,()),((a1,()),((),((),((),()))))),(a2,((),((a4,()),(a3,())))))
theorem Z6O:Dh Tryz.prog B0 112 Z6U:=okR (mc Q3 Ar) Ap AN [] [.row false,.var [.own 222 5],.var KP,.row true] 4 Z6G Tryz.func112 (fun p=>by cases p<;>kernel_rfl) (by kernel_rfl) fun x=>by kernel_rfl
inductive dL where
 | b0 (a0:List Am) (a1:Int)
 | b1 (a0:List Am) (a1 a2:Int) (a3:List Ac) (a4:Int)
 | b2 (a0:Int) (a1:List Am) (a2 a3:Int) (a4:List Ac) (a5:Int) (a6:Am)
 | b3 (a0:List Am) (a1 a2:Int) (a3:List BG) (a4 a5:Int) (a6:List Ac) (a7:Int)
 | b4 (a0:List Am) (a1 a2:Int) (a3:List BG) (a4 a5:Int) (a6:List Ac) (a7:Int) (a8:BG)
 | b5 (a0:List Am) (a1 a2:Int) (a3:List BG) (a4 a5:Int) (a6:List Ac) (a7 a8:Int) (a9:List Ac) (a10:Int)
def En:dL->Tr U (((List Ac)×Int)⊕dL)
 | .b0 a0 a1=>.br (a1==0) ( .chk true ( AQ (([]:List Ac),(5:Int)))) ( .bind 206 (dE a0) (fun(x1:Int×Int)=>.br (x1.2 != 0) ( .chk true ( AQ (([]:List Ac),x1.2))) ( .br (decide (x1.1>1000)) ( .chk true ( AQ (([]:List Ac),(4:Int)))) ( .br (decide ((Af ((Af ((Af (a1))+x1.1)) - 1))>65535)) ( .chk true ( AQ (([]:List Ac),(8:Int)))) ( .chk true ( A8 (.b1 a0 (↑a0.length:Int) (0:Int) ([]:List Ac) a1)))))))
 | .b1 a0 a1 a2 a3 a4=>.br (decide (a2<a1)) ( .chk (kI a2 a0) ( .bind 40 (a0[(Int.toNat a2)]?) (fun(x1:Am)=>.br x1.KR ( kl a3 ( A8 (.b2 (10240:Int) a0 a1 a2 a3 a4 x1))) ( kl a3 ( A8 (.b2 (10241:Int) a0 a1 a2 a3 a4 x1)))))) ( kl a3 ( AQ (a3,0)))
 | .b2 a0 a1 a2 a3 a4 a5 a6=>.bind 37 (Nw a0) (fun(x1:BB)=>.bind 41 (WO a6.BL) (fun(x2:List Int)=>.chk (true&&kL a4) ( .bind 1740 (Oe x1 (1:Int) ([x2]) a4 a5) (fun(y3:LP)=>kl y3.q0 ( A8 (.b3 a1 a2 a3 a6.BC (↑a6.BC.length:Int) (0:Int) y3.q0 y3.q1))))))
 | .b3 a0 a1 a2 a3 a4 a5 a6 a7=>.br (decide (a5<a4)) ( .chk (kI a5 a3) ( .bind 179 (a3[(Int.toNat a5)]?) (fun(x1:BG)=>.bind 37 (Nw (10243:Int)) (fun(x2:BB)=>.bind 41 (WO x1.BL) (fun(x3:List Int)=>.chk true ( .chk (true&&kL a6) ( .bind 1740 (Oe x2 (1:Int) ([[(IntKind.wrap .u8 (x1.Props)),(IntKind.wrap .u8 ((IntKind.wrap .u16 (a7+1)))),(IntKind.wrap .u8 ((Int.fdiv (IntKind.wrap .u16 (a7+1)) (2 ^ (8:Nat)))))],x3]) a6 a7) (fun(y4:LP)=>.chk (true&&kL y4.q0) ( .bind 1740 (Oe x1.BL x1.EH ([x1.Value]) y4.q0 y4.q1) (fun(y5:LP)=>.bind 4 (QZ x1) (fun(x6:Bool)=>.br x6 ( .bind 37 (Nw (10498:Int)) (fun(x7:BB)=>.chk true ( .chk (true&&kL y5.q0) ( .bind 1740 (Oe x7 (3:Int) ([[(0:Int),(0:Int)]]) y5.q0 y5.q1) (fun(y8:LP)=>kl y8.q0 ( A8 (.b4 a0 a1 a2 a3 a4 a5 y8.q0 y8.q1 x1))))))) ( kl y5.q0 ( A8 (.b4 a0 a1 a2 a3 a4 a5 y5.q0 y5.q1 x1)))))))))))))) ( kl a6 ( A8 (.b1 a0 a1 (Af (a2+1)) a6 a7)))
 | .b4 a0 a1 a2 a3 a4 a5 a6 a7 a8=>kl a6 ( A8 (.b5 a0 a1 a2 a3 a4 a5 a8.More (↑a8.More.length:Int) (0:Int) a6 a7))
 | .b5 a0 a1 a2 a3 a4 a5 a6 a7 a8 a9 a10=>.br (decide (a8<a7)) ( .chk (kI a8 a6) ( .bind 222 (a6[(Int.toNat a8)]?) (fun(x1:Ac)=>.chk (true&&kL a9) ( .bind 1740 (Oe x1.BL x1.EH ([x1.Value]) a9 a10) (fun(y2:LP)=>kl y2.q0 ( A8 (.b5 a0 a1 a2 a3 a4 a5 a6 a7 (Af (a8+1)) y2.q0 y2.q1))))))) ( kl a9 ( A8 (.b3 a0 a1 a2 a3 a4 (Af (a5+1)) a9 a10)))
def dF (a0:List Am) (a1:Int):Option ((List Ac)×Int):=AY En (.b0 a0 a1)
def Z7p:Ai U:=⟨[30,75],97,fun x=>dF x.1 x.2.1,by decide⟩
def yA:Lay:=⟨[8,9,10,42,43,44],[KP,KP,KP,[.s 40 4],KP,KP],[.var [.own 222 5],.var KP,.row true],⟨[PQ 0,PQ 1,.one (.fn 112 [] [0,1]),OV 30,OV 3,OV 3],[.var 49 1 (.one (.own 222 2)),.var 75 1 (OV 75),.row 222 true]⟩⟩
def xN:Lay:=⟨[8,9,10,12,13,42,43,44],[KP,KP,KP,KP,KP,[.s 40 4],KP,KP],[.var [.own 222 5],.var KP,.var k2,.row true],⟨[PQ 0,PQ 1,.one (.fn 112 [] [0,1]),PQ 2,OV 75,OV 30,OV 3,OV 3],[.var 49 1 (.one (.own 222 3)),.var 75 1 (OV 75),VA 40 4,.row 222 true]⟩⟩
def xZ:Lay:=⟨[8,9,10,42,43,44,59,60,61],[KP,KP,KP,[.s 40 4],KP,KP,[.s 179 6],KP,KP],[.var [.own 222 5],.var KP,.row true],⟨[PQ 0,PQ 1,.one (.fn 112 [] [0,1]),OV 30,OV 3,OV 3,OV 38,OV 3,OV 3],[.var 49 1 (.one (.own 222 2)),.var 75 1 (OV 75),.row 222 true]⟩⟩
def xP:Lay:=⟨[8,9,10,15,42,43,44,59,60,61],[KP,KP,KP,KP,[.s 40 4],KP,KP,[.s 179 6],KP,KP],[.var [.own 222 5],.var KP,.var k1,.row true],⟨[PQ 0,PQ 1,.one (.fn 112 [] [0,1]),PQ 2,OV 30,OV 3,OV 3,OV 38,OV 3,OV 3],[.var 49 1 (.one (.own 222 3)),.var 75 1 (OV 75),VA 179 6,.row 222 true]⟩⟩
def yD:Lay:=⟨[8,9,10,42,43,44,59,60,61,100,101,102],[KP,KP,KP,[.s 40 4],KP,KP,[.s 179 6],KP,KP,[.s 222 5],KP,KP],[.var [.own 222 5],.var KP,.row true],⟨[PQ 0,PQ 1,.one (.fn 112 [] [0,1]),OV 30,OV 3,OV 3,OV 38,OV 3,OV 3,OV 49,OV 3,OV 3],[.var 49 1 (.one (.own 222 2)),.var 75 1 (OV 75),.row 222 true]⟩⟩
def Z7e:dL->BI U
 | .b0 a0 a1=>Bl Tryz.f48 [30,75] (a0,a1,())
 | .b1 a0 a1 a2 a3 a4=>BA Tryz.f48 [1,1,1,1,1,1,1,0,1,0,0,0] yA (((),((),((),((a0,()),((a1,()),((a2,()),())))))),((),((a4,()),(a3,()))))
 | .b2 a0 a1 a2 a3 a4 a5 a6=>BA Tryz.f48 [1,1,1,1,1,1,1,0,1,0,0,1,1,0,0,1,1,1,0] xN (((),((),((),((),((a0,()),((a1,()),((a2,()),((a3,()),())))))))),((),((a5,()),((a6,()),(a4,())))))
 | .b3 a0 a1 a2 a3 a4 a5 a6 a7=>BA Tryz.f48 [1,1,1,1,1,1,1,0,1,0,0,1,1,0,0,1,1,1,1,1,0,0,0] xZ (((),((),((),((a0,()),((a1,()),((a2,()),((a3,()),((a4,()),((a5,()),()))))))))),((),((a7,()),(a6,()))))
 | .b4 a0 a1 a2 a3 a4 a5 a6 a7 a8=>BA Tryz.f48 [1,1,1,1,1,1,1,0,1,0,0,1,1,0,0,1,1,1,1,1,0,0,1,1,0,0,1,1,1,1,1,0] xP (((),((),((),((),((a0,()),((a1,()),((a2,()),((a3,()),((a4,()),((a5,()),())))))))))),((),((a7,()),((a8,()),(a6,())))))
 | .b5 a0 a1 a2 a3 a4 a5 a6 a7 a8 a9 a10=>BA Tryz.f48 [1,1,1,1,1,1,1,0,1,0,0,1,1,0,0,1,1,1,1,1,0,0,1,1,0,0,1,1,1,1,1,1,0,0,0] yD (((),((),((),((a0,()),((a1,()),((a2,()),((a3,()),((a4,()),((a5,()),((a6,()),((a7,()),((a8,()),())))))))))))),((),((a10,()),(a9,()))))
theorem Z78:Ag Tryz.prog B0 48 Z7p:=CZ (mc Zt (mc Z7c (mc Z8e (mc yH Ar)))) (hc [] Z6O Ap) (al [(14,yA),(19,xN),(21,xZ),(28,xP),(29,yD)]) Z7e Tryz.func48 (fun p=>by cases p<;>kernel_rfl) (by kernel_rfl) fun _=>rfl
def zU:S1 ((List Am)×Unit) ((List Ac)×Int)
 | (a0,_)=>.bind 37 (Nw (10757:Int)) (fun(x1:BB)=>.chk (decide (0<=(4:Int)/\(4:Int)<=4/\Int.toNat 4*1<=lim/\(4:Int)<=(↑maxLen:Int))) ( .bind 37 (Nw (11050:Int)) (fun(x2:BB)=>.bind 37 (Nw (6145:Int)) (fun(x3:BB)=>kl (List.replicate (Int.toNat 4) (0:Int)) ( .chk true ( .chk true ( .chk (kA (1+a0.length) 48) ( kl ([(⟨x3,true,[(⟨x1,32,0,(List.replicate (Int.toNat 4) (0:Int)),[]⟩:BG),(⟨x2,2,1,[],[]⟩:BG)]⟩:Am)]++a0) ( .bind 97 (dF ([(⟨x3,true,[(⟨x1,32,0,(List.replicate (Int.toNat 4) (0:Int)),[]⟩:BG),(⟨x2,2,1,[],[]⟩:BG)]⟩:Am)]++a0) (1:Int)) (fun(x4:(List Ac)×Int)=>AQ (x4.1,x4.2)))))))))))
def eX (a0:List Am):Option ((List Ac)×Int):=AY zU (a0,())
def Z8I:Ai U:=⟨[30],97,fun x=>eX x.1,by decide⟩
theorem Z89:Ag Tryz.prog B0 14 Z8I:=ok1 (mc Zt (mc Z78 Ar)) Ap Tryz.func14 (fun _=>by kernel_rfl) (by kernel_rfl)
def Z4:S1 (BV×Unit) BV
 | (a0,_)=>.chk true ( .bind 41 (MR ([a0.DV.x0])) (fun(x1:List Int)=>.chk true ( .bind 41 (MR ([a0.DV.x1])) (fun(x2:List Int)=>AQ (⟨(⟨x1,x2⟩:Dx)⟩:BV)))))
def fP (a0:BV):Option BV:=AY Z4 (a0,())
def Z8B:Ai U:=⟨[44],44,fun x=>fP x.1,by decide⟩
theorem Z81:Ag Tryz.prog B0 51 Z8B:=ok1 (mc Q3 Ar) Ap Tryz.func51 (fun _=>by kernel_rfl) (by kernel_rfl)
inductive iD where
 | b0 (a0:List Int)
 | b1 (a0:List Int) (a1 a2:Int)
def TR:iD->Tr U (Int⊕iD)
 | .b0 a0=>A8 (.b1 a0 (0:Int) (Af ((↑a0.length:Int) - 1)))
 | .b1 a0 a1 a2=>.br (decide (a2>=0)) ( .chk (kI a2 a0) ( .bind 5 (a0[(Int.toNat a2)]?) (fun(x1:Int)=>A8 (.b1 a0 (bits .or .i64 (Af (a1*2 ^ (8:Nat))) (Af (x1))) (Af (a2 - 1)))))) ( AQ a1)
def WR (a0:List Int):Option Int:=AY TR (.b0 a0)
def Z9o:Ai U:=⟨[41],3,fun x=>WR x.1,by decide⟩
def zD:Lay:=LT [0,3,4] [.v 41,.v 3,.v 3] []
def Z8Q:iD->BI U
 | .b0 a0=>Bl Tryz.f116 [41] (a0,())
 | .b1 a0 a1 a2=>BA Tryz.f116 [1,1,0,1,0,0,0,0] zD (((a0,()),((a1,()),((a2,()),()))),())
theorem Z8i:Ag Tryz.prog B0 116 Z9o:=CZ Ar Ap (al [(3,zD)]) Z8Q Tryz.func116 (fun p=>by cases p<;>kernel_rfl) (by kernel_rfl) fun _=>rfl
inductive bK where
 | b0 (a0 a1:List Int)
 | b1 (a0 a1:List Int) (a2 a3:Int)
def Vl:bK->Tr U (Bool⊕bK)
 | .b0 a0 a1=>.br ((↑a0.length:Int) != (↑a1.length:Int)) ( AQ false) ( A8 (.b1 a0 a1 (↑a0.length:Int) (0:Int)))
 | .b1 a0 a1 a2 a3=>.br (decide (a3<a2)) ( .chk (kI a3 a0) ( .bind 5 (a0[(Int.toNat a3)]?) (fun(x1:Int)=>.chk (kI a3 a1) ( .bind 5 (a1[(Int.toNat a3)]?) (fun(x2:Int)=>.br (x1 != x2) ( AQ false) ( A8 (.b1 a0 a1 a2 (Af (a3+1))))))))) ( AQ true)
def bT (a0 a1:List Int):Option Bool:=AY Vl (.b0 a0 a1)
def Z6K:Ai U:=⟨[41,41],4,fun x=>bT x.1 x.2.1,by decide⟩
def wP:Lay:=LT [0,1,12,13] [.v 41,.v 41,.v 3,.v 3] []
def Z6t:bK->BI U
 | .b0 a0 a1=>Bl Tryz.f117 [41,41] (a0,a1,())
 | .b1 a0 a1 a2 a3=>BA Tryz.f117 [1,1,0,1,0,0,0] wP (((a0,()),((a1,()),((a2,()),((a3,()),())))),())
theorem Z6r:Ag Tryz.prog B0 117 Z6K:=CZ Ar Ap (al [(4,wP)]) Z6t Tryz.func117 (fun p=>by cases p<;>kernel_rfl) (by kernel_rfl) fun _=>rfl
def Z1s:S1 (Int×Int×Unit) Int
 | (a0,a1,_)=>.chk (decide (0<=(bits .and .u32 (bits .xor .u32 a0 (IntKind.wrap .u32 (a1))) (15:Int))/\(bits .and .u32 (bits .xor .u32 a0 (IntKind.wrap .u32 (a1))) (15:Int))<16)) ( .bind 111 (([0,1788928,3577856,3003392,7155712,7764992,6006784,4252672,14311424,12659712,15529984,16233472,12013568,11279360,8505344,10126336]:List Int)[(Int.toNat (bits .and .u32 (bits .xor .u32 a0 (IntKind.wrap .u32 (a1))) (15:Int)))]?) (fun(x1:Int)=>.chk (decide (0<=(bits .and .u32 (bits .xor .u32 (bits .xor .u32 (Int.fdiv a0 (2 ^ (4:Nat))) x1) (IntKind.wrap .u32 ((Int.fdiv a1 (2 ^ (4:Nat)))))) (15:Int))/\(bits .and .u32 (bits .xor .u32 (bits .xor .u32 (Int.fdiv a0 (2 ^ (4:Nat))) x1) (IntKind.wrap .u32 ((Int.fdiv a1 (2 ^ (4:Nat)))))) (15:Int))<16)) ( .bind 111 (([0,1788928,3577856,3003392,7155712,7764992,6006784,4252672,14311424,12659712,15529984,16233472,12013568,11279360,8505344,10126336]:List Int)[(Int.toNat (bits .and .u32 (bits .xor .u32 (bits .xor .u32 (Int.fdiv a0 (2 ^ (4:Nat))) x1) (IntKind.wrap .u32 ((Int.fdiv a1 (2 ^ (4:Nat)))))) (15:Int)))]?) (fun(x2:Int)=>AQ (bits .xor .u32 (Int.fdiv (bits .xor .u32 (Int.fdiv a0 (2 ^ (4:Nat))) x1) (2 ^ (4:Nat))) x2)))))
def kT (a0 a1:Int):Option Int:=AY Z1s (a0,a1,())
def ZcR:Ai U:=⟨[111,5],111,fun x=>kT x.1 x.2.1,by decide⟩
theorem Zbi:Ag Tryz.prog B0 430 ZcR:=ok1 Ar Ap Tryz.func430 (fun _=>by kernel_rfl) (by kernel_rfl)
end
noncomputable section
inductive nJ where
 | b0 (a0:Int) (a1:List Int)
 | b1 (a0:Int) (a1:List Int) (a2 a3:Int)
def XP:nJ->Tr U (Int⊕nJ)
 | .b0 a0 a1=>A8 (.b1 (bits .and .u32 a0 (16777215:Int)) a1 (↑a1.length:Int) (0:Int))
 | .b1 a0 a1 a2 a3=>.br (decide (a3<a2)) ( .chk (kI a3 a1) ( .bind 5 (a1[(Int.toNat a3)]?) (fun(x1:Int)=>.bind 111 (kT a0 x1) (fun(x2:Int)=>A8 (.b1 x2 a1 a2 (Af (a3+1))))))) ( AQ a0)
def mM (a0:Int) (a1:List Int):Option Int:=AY XP (.b0 a0 a1)
def ZeM:Ai U:=⟨[111,41],111,fun x=>mM x.1 x.2.1,by decide⟩
def Z0S:Lay:=LT [5,10,11,12] [.v 111,.v 41,.v 3,.v 3] []
def Zdf:nJ->BI U
 | .b0 a0 a1=>Bl Tryz.f364 [111,41] (a0,a1,())
 | .b1 a0 a1 a2 a3=>BA Tryz.f364 [1,1,0,1,0,0,0] Z0S (((a0,()),((a1,()),((a2,()),((a3,()),())))),())
theorem ZcF:Ag Tryz.prog B0 364 ZeM:=CZ (mc Zbi Ar) Ap (al [(3,Z0S)]) Zdf Tryz.func364 (fun p=>by cases p<;>kernel_rfl) (by kernel_rfl) fun _=>rfl
def Z0j:S1 (Int×(List Int)×Unit) (List Int)
 | (a0,a1,_)=>.bind 111 (mM a0 a1) (fun(x1:Int)=>.bind 1723 (KC a1) (fun(y2:LM)=>.chk true ( kl y2.q0 ( .chk (kA (y2.q0.length+3) 1) ( kl (y2.q0++[(IntKind.wrap .u8 (x1)),(IntKind.wrap .u8 ((Int.fdiv x1 (2 ^ (8:Nat))))),(IntKind.wrap .u8 ((Int.fdiv x1 (2 ^ (16:Nat)))))]) ( AQ (y2.q0++[(IntKind.wrap .u8 (x1)),(IntKind.wrap .u8 ((Int.fdiv x1 (2 ^ (8:Nat))))),(IntKind.wrap .u8 ((Int.fdiv x1 (2 ^ (16:Nat)))))])))))))
def iL (a0:Int) (a1:List Int):Option (List Int):=AY Z0j (a0,a1,())
def ZaA:Ai U:=⟨[111,41],41,fun x=>iL x.1 x.2.1,by decide⟩
theorem Z94:Ag Tryz.prog B0 264 ZaA:=ok1 (mc ZcF Ar) (hc [] TD Ap) Tryz.func264 (fun _=>by kernel_rfl) (by kernel_rfl)
def Z9:S1 ((List Int)×Unit) (List Int)
 | (a0,_)=>.bind 41 (iL (0:Int) a0) (fun(x1:List Int)=>.chk true ( .chk true ( .bind 41 (MR ([x1,[(0:Int)]])) (fun(x2:List Int)=>AQ x2))))
def fG (a0:List Int):Option (List Int):=AY Z9 (a0,())
def Z8F:Ai U:=⟨[41],41,fun x=>fG x.1,by decide⟩
theorem Z7O:Ag Tryz.prog B0 191 Z8F:=ok1 (mc Q3 (mc Z94 Ar)) Ap Tryz.func191 (fun _=>by kernel_rfl) (by kernel_rfl)
def zL:S1 (Int×Unit) Bool
 | (a0,_)=>.br (decide (a0>=1)) ( AQ (decide (a0<=8))) ( AQ false)
def fK (a0:Int):Option Bool:=AY zL (a0,())
def Z8Z:Ai U:=⟨[3],4,fun x=>fK x.1,by decide⟩
theorem Z7Y:Ag Tryz.prog B0 262 Z8Z:=ok1 Ar Ap Tryz.func262 (fun _=>by kernel_rfl) (by kernel_rfl)
inductive iU where
 | b0 (a0:List D7)
 | b1 (a0:List Int) (a1:List D7) (a2 a3:Int)
 | b2 (a0:List Int) (a1:List D7) (a2 a3:Int) (a4:D7)
 | b3 (a0:List Int) (a1:List D7) (a2 a3 a4 a5:Int) (a6:D7)
def JV:iU->Tr U (((List Int)×Int)⊕iU)
 | .b0 a0=>.chk true ( A8 (.b1 ([]:List Int) a0 (↑a0.length:Int) (0:Int)))
 | .b1 a0 a1 a2 a3=>.br (decide (a3<a2)) ( .chk (kI a3 a1) ( .bind 434 (a1[(Int.toNat a3)]?) (fun(x1:D7)=>.bind 4 (fK x1.Size) (fun(x2:Bool)=>.br (!x2) ( .chk true ( AQ (([]:List Int),(5:Int)))) ( .br (decide (x1.Size<8)) ( .chk (decide (0<=(Af ((8:Int)*x1.Size)))) ( .br ((Int.fdiv x1.Value (2 ^ (min (Int.toNat (Af ((8:Int)*x1.Size))) (IntKind.bits .u64)))) != 0) ( .chk true ( AQ (([]:List Int),(5:Int)))) ( kl a0 ( A8 (.b2 a0 a1 a2 a3 x1))))) ( kl a0 ( A8 (.b2 a0 a1 a2 a3 x1)))))))) ( kl a0 ( AQ (a0,0)))
 | .b2 a0 a1 a2 a3 a4=>kl a0 ( A8 (.b3 a0 a1 a2 a3 a4.Size (0:Int) a4))
 | .b3 a0 a1 a2 a3 a4 a5 a6=>.br (decide (a5<a4)) ( .chk (decide (0<=(Af ((8:Int)*a5)))) ( .chk true ( kl a0 ( .chk (kA (a0.length+1) 1) ( kl (a0++[(IntKind.wrap .u8 ((Int.fdiv a6.Value (2 ^ (min (Int.toNat (Af ((8:Int)*a5))) (IntKind.bits .u64))))))]) ( A8 (.b3 (a0++[(IntKind.wrap .u8 ((Int.fdiv a6.Value (2 ^ (min (Int.toNat (Af ((8:Int)*a5))) (IntKind.bits .u64))))))]) a1 a2 a3 a4 (Af (a5+1)) a6))))))) ( kl a0 ( A8 (.b1 a0 a1 a2 (Af (a3+1)))))
def TW (a0:List D7):Option ((List Int)×Int):=AY JV (.b0 a0)
def ZaU:Ai U:=⟨[446],421,fun x=>TW x.1,by decide⟩
def Za:Lay:=LT [4,8,9,10] [.o 5 1 0,.v 446,.v 3,.v 3] [.r 5]
def Zd:Lay:=LT [4,6,8,9,10] [.o 5 1 0,.p 1,.v 446,.v 3,.v 3] [.r 5,.s 434]
def zM:Lay:=LT [4,6,8,9,10,33,34] [.o 5 1 0,.p 1,.v 446,.v 3,.v 3,.v 3,.v 3] [.r 5,.s 434]
def Z9F:iU->BI U
 | .b0 a0=>Bl Tryz.f265 [446] (a0,())
 | .b1 a0 a1 a2 a3=>BA Tryz.f265 [1,1,0,1,0,0,0] Za (((),((a1,()),((a2,()),((a3,()),())))),(a0,()))
 | .b2 a0 a1 a2 a3 a4=>BA Tryz.f265 [1,1,0,1,0,0,1,1,0,0,1,1,0] Zd (((),((),((a1,()),((a2,()),((a3,()),()))))),(a0,((a4,()),())))
 | .b3 a0 a1 a2 a3 a4 a5 a6=>BA Tryz.f265 [1,1,0,1,0,0,1,1,0,0,1,1,1,0,0,0] zM (((),((),((a1,()),((a2,()),((a3,()),((a4,()),((a5,()),()))))))),(a0,((a6,()),())))
theorem Zz:Ag Tryz.prog B0 265 ZaU:=CZ (mc Z7Y Ar) Ap (al [(3,Za),(7,Zd),(8,zM)]) Z9F Tryz.func265 (fun p=>by cases p<;>kernel_rfl) (by kernel_rfl) fun _=>rfl
def zO:S1 (Int×Int×Unit) (List Int)
 | (a0,a1,_)=>.chk true ( .bind 421 (TW ([(⟨a0,a1⟩:D7)])) (fun(x1:(List Int)×Int)=>AQ x1.1))
def fO (a0 a1:Int):Option (List Int):=AY zO (a0,a1,())
def Z8p:Ai U:=⟨[3,24],41,fun x=>fO x.1 x.2.1,by decide⟩
theorem Z8b:Ag Tryz.prog B0 192 Z8p:=ok1 (mc Zz Ar) Ap Tryz.func192 (fun _=>by kernel_rfl) (by kernel_rfl)
def zF:S1 (Int×Unit) (List Int)
 | (a0,_)=>.bind 41 (fO (4:Int) (IntKind.wrap .u64 (a0))) (fun(x1:List Int)=>.chk true ( .chk true ( .bind 41 (MR ([[(66:Int),(75:Int)],x1])) (fun(x2:List Int)=>.bind 41 (fG x2) (fun(x3:List Int)=>AQ x3)))))
def eQ (a0:Int):Option (List Int):=AY zF (a0,())
def Z8h:Ai U:=⟨[3],41,fun x=>eQ x.1,by decide⟩
theorem Z7G:Ag Tryz.prog B0 118 Z8h:=ok1 (mc Q3 (mc Z7O (mc Z8b Ar))) Ap Tryz.func118 (fun _=>by kernel_rfl) (by kernel_rfl)
def ZC:S1 ((List Int)×Unit) Int
 | (a0,_)=>.br (decide ((↑a0.length:Int)<10)) ( AQ (-1:Int)) ( .chk (decide (0<=(6:Int)/\(6:Int)<=(↑a0.length:Int))) ( .chk (decide (0<=(2:Int)/\(2:Int)<=(↑(Int.toNat 6):Int))) ( .bind 3 (WR ((a0.drop (Int.toNat 2)).take ((Int.toNat 6) - (Int.toNat 2)))) (fun(x1:Int)=>.bind 41 (eQ x1) (fun(x2:List Int)=>.chk (decide (0<=(10:Int)/\(10:Int)<=(↑a0.length:Int))) ( .bind 4 (bT x2 ((a0.drop 0).take ((Int.toNat 10) - 0))) (fun(x3:Bool)=>.br (!x3) ( AQ (-1:Int)) ( AQ x1))))))))
def WM (a0:List Int):Option Int:=AY ZC (a0,())
def Z9y:Ai U:=⟨[41],3,fun x=>WM x.1,by decide⟩
theorem Z8f:Ag Tryz.prog B0 52 Z9y:=ok1 (mc Z8i (mc Z6r (mc Z7G Ar))) Ap Tryz.func52 (fun _=>by kernel_rfl) (by kernel_rfl)
inductive gV where
 | b0 (a0:BV)
 | b1 (a0:Bj)
 | b2 (a0:Int) (a1:BV) (a2:Bj)
 | b3 (a0:Int) (a1 a2:Bj) (a3:PK)
def TP:gV->Tr U ((Bj×Int)⊕gV)
 | .b0 a0=>.br ((↑a0.DV.x1.length:Int) != (↑a0.DV.x0.length:Int)) ( A8 (.b1 (⟨(⟨(⟨([]:List Int),([]:List Int)⟩:Dx)⟩:BV),0,0,0,([]:List CQ)⟩:Bj))) ( .bind 4 (Q8 (↑a0.DV.x0.length:Int)) (fun(x1:Bool)=>.br (!x1) ( A8 (.b1 (⟨(⟨(⟨([]:List Int),([]:List Int)⟩:Dx)⟩:BV),0,0,0,([]:List CQ)⟩:Bj))) ( A8 (.b2 (↑a0.DV.x0.length:Int) a0 (⟨(⟨(⟨([]:List Int),([]:List Int)⟩:Dx)⟩:BV),0,0,0,([]:List CQ)⟩:Bj)))))
 | .b1 a0=>AQ (W9,5)
 | .b2 a0 a1 a2=>.bind 44 (fP a1) (fun(x1:BV)=>.bind 3 (WM a1.DV.x0) (fun(x2:Int)=>.bind 3 (WM a1.DV.x1) (fun(x3:Int)=>.br (decide (x3>x2)) ( A8 (.b3 a0 a2 (⟨x1,1,0,a0,([]:List CQ)⟩:Bj) (⟨x2,x3⟩:PK))) ( A8 (.b3 a0 a2 (⟨x1,0,0,a0,([]:List CQ)⟩:Bj) (⟨x2,x3⟩:PK))))))
 | .b3 a0 a1 a2 a3=>.br (a2.Ew==0) ( .br (decide (a3.x0<0)) ( AQ (a2,0)) ( .br (a2.Ew==0) ( .br (a2.Ew==0) ( .fail) ( .br (a2.Ew==1) ( .fail) ( .fail))) ( .br (a2.Ew==1) ( .br (a2.Ew==0) ( .fail) ( .br (a2.Ew==1) ( .fail) ( .fail))) ( .fail)))) ( .br (a2.Ew==1) ( .br (decide (a3.x1<0)) ( AQ (a2,0)) ( .br (a2.Ew==0) ( .br (a2.Ew==0) ( .fail) ( .br (a2.Ew==1) ( .fail) ( .fail))) ( .br (a2.Ew==1) ( .br (a2.Ew==0) ( .fail) ( .br (a2.Ew==1) ( .fail) ( .fail))) ( .fail)))) ( .fail))
def iG (a0:BV):Option (Bj×Int):=AY TP (.b0 a0)
def Z9J:Ai U:=⟨[44],101,fun x=>iG x.1,by decide⟩
def yT:Lay:=LT [2] [.p 0] [.s 47]
def yY:Lay:=LT [1,2,4] [.p 0,.p 1,.v 3] [.s 44,.s 47]
def yU:Lay:=LT [2,4,5,6] [.p 0,.v 3,.p 1,.p 2] [.s 47,.s 47,.s 184]
def Z8w:gV->BI U
 | .b0 a0=>Bl Tryz.f16 [44] (a0,())
 | .b1 a0=>BA Tryz.f16 [1,0,1,0,1,0,0] yT (((),()),((a0,()),()))
 | .b2 a0 a1 a2=>BA Tryz.f16 [1,0,1,1,0] yY (((),((),((a0,()),()))),((a1,()),((a2,()),())))
 | .b3 a0 a1 a2 a3=>BA Tryz.f16 [1,0,1,1,1,1,1,0,0] yU (((),((a0,()),((),((),())))),((a1,()),((a2,()),((a3,()),()))))
theorem Z8m:Ag Tryz.prog B0 16 Z9J:=CZ (mc Zw (mc Z81 (mc Z8f Ar))) Ap (al [(3,yT),(4,yY),(8,yU)]) Z8w Tryz.func16 (fun p=>by cases p<;>kernel_rfl) (by kernel_rfl) fun _=>rfl
inductive aZ where
 | b0 (a0:List CQ)
 | b1 (a0 a1:List CQ) (a2 a3:Int)
def wJ:aZ->Tr U (QU⊕aZ)
 | .b0 a0=>.chk (decide (0<=(↑a0.length:Int)/\(↑a0.length:Int)<=(↑a0.length:Int)/\Int.toNat (↑a0.length:Int)*32<=lim/\(↑a0.length:Int)<=(↑maxLen:Int))) ( kl (List.replicate (Int.toNat (↑a0.length:Int)) ((⟨0,[]⟩:CQ):CQ)) ( A8 (.b1 (List.replicate (Int.toNat (↑a0.length:Int)) ((⟨0,[]⟩:CQ):CQ)) a0 (↑a0.length:Int) (0:Int))))
 | .b1 a0 a1 a2 a3=>.br (decide (a3<a2)) ( .chk (kI a3 a1) ( .bind 254 (a1[(Int.toNat a3)]?) (fun(x1:CQ)=>.fail))) ( kl a0 ( AQ (⟨a0⟩:QU)))
def Vf (a0:List CQ):Option QU:=AY wJ (.b0 a0)
def vW:Shape:=⟨[OV 45,.one (.fn 126 [] [])],[]⟩
def Z5u:Shape:=⟨[.one (.own 254 0)],[.row 254 true]⟩
noncomputable def Z6c:HMod U:=⟨[[.s 254 2],KP],[],vW,Z5u,true,1746,fun(y:QU)=>(((),()),(y.q0,())),fun x=>Vf x.1.1.1,okS rfl⟩
def vU:Lay:=⟨[1,5,11,12,13],[KP,[.own 254 2],[.s 254 2],KP,KP],[.row true],⟨[.one (.fn 126 [] []),.one (.own 254 0),OV 45,OV 3,OV 3],[.row 254 true]⟩⟩
def Z5T:aZ->BI U
 | .b0 a0=>H6 Tryz.f125 vW (((a0,()),((),())),())
 | .b1 a0 a1 a2 a3=>BA Tryz.f125 [1,1,0,1,0,0,0] vU (((),((),((a1,()),((a2,()),((a3,()),()))))),(a0,()))
theorem Z5U:Dh Tryz.prog B0 125 Z6c:=okR Ar Ap (al [(3,vU)]) [[.own 254 2]] [.row true] 0 Z5T Tryz.func125 (fun p=>by cases p<;>kernel_rfl) (by kernel_rfl) fun x=>by kernel_rfl
inductive cZ where
 | b0 (a0:Bj)
 | b1 (a0:Dx) (a1:Int) (a2 a3:Bj)
def Og:cZ->Tr U (Bj⊕cZ)
 | .b0 a0=>A8 (.b1 a0.Gh.DV (0:Int) a0 (⟨(⟨(⟨([]:List Int),([]:List Int)⟩:Dx)⟩:BV),0,0,0,([]:List CQ)⟩:Bj))
 | .b1 a0 a1 a2 a3=>.br (decide (a1<2)) ( .br (a1==0) ( .bind 1723 (KC a0.x0) (fun(y2:LM)=>.br (a1==0) ( kl y2.q0 ( A8 (.b1 a0 (Af (a1+1)) ({ a2 with Gh:=(⟨(⟨y2.q0,a2.Gh.DV.x1⟩:Dx)⟩:BV) }:Bj) a3))) ( .br (a1==1) ( kl y2.q0 ( A8 (.b1 a0 (Af (a1+1)) ({ a2 with Gh:=(⟨(⟨a2.Gh.DV.x0,y2.q0⟩:Dx)⟩:BV) }:Bj) a3))) ( .fail)))) ( .br (a1==1) ( .bind 1723 (KC a0.x1) (fun(y1:LM)=>.br (a1==0) ( kl y1.q0 ( A8 (.b1 a0 (Af (a1+1)) ({ a2 with Gh:=(⟨(⟨y1.q0,a2.Gh.DV.x1⟩:Dx)⟩:BV) }:Bj) a3))) ( .br (a1==1) ( kl y1.q0 ( A8 (.b1 a0 (Af (a1+1)) ({ a2 with Gh:=(⟨(⟨a2.Gh.DV.x0,y1.q0⟩:Dx)⟩:BV) }:Bj) a3))) ( .fail)))) ( .fail))) ( .bind 1746 (Vf a2.Items) (fun(y3:QU)=>kl y3.q0 ( AQ ({ a2 with Items:=y3.q0 }:Bj))))
def dB (a0:Bj):Option Bj:=AY Og (.b0 a0)
def Z72:Ai U:=⟨[47],47,fun x=>dB x.1,by decide⟩
def xM:Lay:=LT [1,2,7,8] [.p 0,.p 1,.a 42,.v 3] [.s 47,.s 47]
def Z6V:cZ->BI U
 | .b0 a0=>Bl Tryz.f56 [47] (a0,())
 | .b1 a0 a1 a2 a3=>BA Tryz.f56 [1,0,1,0,0,0] xM (((),((),((a0,()),((a1,()),())))),((a2,()),((a3,()),())))
theorem Z6X:Ag Tryz.prog B0 56 Z72:=CZ Ar (hc [] TD (hc [126] Z5U Ap)) (al [(2,xM)]) Z6V Tryz.func56 (fun p=>by cases p<;>kernel_rfl) (by kernel_rfl) fun _=>rfl
def wS:S1 (Ac×Unit) Ac
 | (a0,_)=>.bind 1723 (KC a0.Value) (fun(y1:LM)=>kl y1.q0 ( AQ ({ a0 with Value:=y1.q0 }:Ac)))
def bD (a0:Ac):Option Ac:=AY wS (a0,())
def Z6k:Ai U:=⟨[222],222,fun x=>bD x.1,by decide⟩
theorem Z60:Ag Tryz.prog B0 129 Z6k:=ok1 Ar (hc [] TD Ap) Tryz.func129 (fun _=>by kernel_rfl) (by kernel_rfl)
inductive aC where
 | b0 (a0:List Ac)
 | b1 (a0 a1:List Ac) (a2 a3:Int)
def Sv:aC->Tr U (QP⊕aC)
 | .b0 a0=>.chk (decide (0<=(↑a0.length:Int)/\(↑a0.length:Int)<=(↑a0.length:Int)/\Int.toNat (↑a0.length:Int)*56<=lim/\(↑a0.length:Int)<=(↑maxLen:Int))) ( kl (List.replicate (Int.toNat (↑a0.length:Int)) dV) ( A8 (.b1 (List.replicate (Int.toNat (↑a0.length:Int)) dV) a0 (↑a0.length:Int) (0:Int))))
 | .b1 a0 a1 a2 a3=>.br (decide (a3<a2)) ( .chk (kI a3 a1) ( .bind 222 (a1[(Int.toNat a3)]?) (fun(x1:Ac)=>.bind 222 (bD x1) (fun(x2:Ac)=>kl a0 ( .chk (kI a3 a0) ( .chk (a0.length==a0.length&&decide (0<=(Int.toNat a3))) ( .bind 222 (a0[(Int.toNat a3)]?) (fun(x3:Ac)=>.chk ((a0.set (Int.toNat a3) x2).length==a0.length) ( A8 (.b1 (a0.set (Int.toNat a3) x2) a1 a2 (Af (a3+1)))))))))))) ( kl a0 ( AQ (⟨a0⟩:QP)))
def aB (a0:List Ac):Option QP:=AY Sv (.b0 a0)
def vC:Shape:=⟨[OV 49,.one (.fn 129 [] [])],[]⟩
def Z57:Shape:=⟨[.one (.own 222 0)],[.row 222 true]⟩
noncomputable def Z5f:HMod U:=⟨[[.s 222 5],KP],[],vC,Z57,true,1747,fun(y:QP)=>(((),()),(y.q0,())),fun x=>aB x.1.1.1,okS rfl⟩
def vF:Lay:=⟨[1,5,11,12,13],[KP,[.own 222 5],[.s 222 5],KP,KP],[.row true],⟨[.one (.fn 129 [] []),.one (.own 222 0),OV 49,OV 3,OV 3],[.row 222 true]⟩⟩
def Z58:aC->BI U
 | .b0 a0=>H6 Tryz.f128 vC (((a0,()),((),())),())
 | .b1 a0 a1 a2 a3=>BA Tryz.f128 [1,1,0,1,0,0,0] vF (((),((),((a1,()),((a2,()),((a3,()),()))))),(a0,()))
theorem Z5a:Dh Tryz.prog B0 128 Z5f:=okR (mc Z60 Ar) Ap (al [(3,vF)]) [[.own 222 5]] [.row true] 0 Z58 Tryz.func128 (fun p=>by cases p<;>kernel_rfl) (by kernel_rfl) fun x=>by kernel_rfl
def Z5:S1 ((List Ac)×Unit) (List Ac)
 | (a0,_)=>.bind 1747 (aB a0) (fun(y1:QP)=>kl y1.q0 ( AQ y1.q0))
def WG (a0:List Ac):Option (List Ac):=AY Z5 (a0,())
def Z8r:Ai U:=⟨[49],49,fun x=>WG x.1,by decide⟩
theorem yR:Ag Tryz.prog B0 59 Z8r:=ok1 Ar (hc [129] Z5a Ap) Tryz.func59 (fun _=>by kernel_rfl) (by kernel_rfl)
def Z6a:S1 (Fq×Unit) Fq
 | (a0,_)=>.bind 1723 (KC a0.CX.Data) (fun(y1:LM)=>.bind 1723 (KC a0.CX.VG) (fun(y2:LM)=>.bind 1725 (TC a0.CX.KZ) (fun(y3:QV)=>.bind 1726 (Vd a0.CX.KJ) (fun(y4:TA)=>kl y1.q0 ( kl y2.q0 ( kl y3.q0 ( kl y4.q0 ( AQ ({ a0 with CX:=({ a0.CX with Data:=y1.q0,VG:=y2.q0,KZ:=y3.q0,KJ:=y4.q0 }:KF) }:Fq)))))))))
def aX (a0:Fq):Option Fq:=AY Z6a (a0,())
def Z69:Ai U:=⟨[56],56,fun x=>aX x.1,by decide⟩
theorem Z5P:Ag Tryz.prog B0 62 Z69:=ok1 Ar (hc [] TD (hc [] wH (hc [] vY Ap))) Tryz.func62 (fun _=>by kernel_rfl) (by kernel_rfl)
def Z6L:S1 (Fv×Unit) Fv
 | (a0,_)=>.bind 1725 (TC a0.CX.KZ) (fun(y1:QV)=>.bind 1726 (Vd a0.CX.KJ) (fun(y2:TA)=>.bind 1725 (TC a0.Seen) (fun(y3:QV)=>kl y1.q0 ( kl y2.q0 ( kl y3.q0 ( AQ ({ a0 with CX:=({ a0.CX with KZ:=y1.q0,KJ:=y2.q0 }:KE),Seen:=y3.q0 }:Fv)))))))
def bH (a0:Fv):Option Fv:=AY Z6L (a0,())
def Z6M:Ai U:=⟨[60],60,fun x=>bH x.1,by decide⟩
theorem Z6z:Ag Tryz.prog B0 63 Z6M:=ok1 Ar (hc [] wH (hc [] vY Ap)) Tryz.func63 (fun _=>by kernel_rfl) (by kernel_rfl)
def yL:S1 (BG×Unit) BG
 | (a0,_)=>.bind 1723 (KC a0.Value) (fun(y1:LM)=>.bind 49 (WG a0.More) (fun(x2:List Ac)=>kl y1.q0 ( AQ ({ a0 with Value:=y1.q0,More:=x2 }:BG))))
def dG (a0:BG):Option BG:=AY yL (a0,())
def Z7h:Ai U:=⟨[179],179,fun x=>dG x.1,by decide⟩
theorem Z7f:Ag Tryz.prog B0 123 Z7h:=ok1 (mc yR Ar) (hc [] TD Ap) Tryz.func123 (fun _=>by kernel_rfl) (by kernel_rfl)
inductive bC where
 | b0 (a0:List BG)
 | b1 (a0 a1:List BG) (a2 a3:Int)
def TB:bC->Tr U (QY⊕bC)
 | .b0 a0=>.chk (decide (0<=(↑a0.length:Int)/\(↑a0.length:Int)<=(↑a0.length:Int)/\Int.toNat (↑a0.length:Int)*80<=lim/\(↑a0.length:Int)<=(↑maxLen:Int))) ( kl (List.replicate (Int.toNat (↑a0.length:Int)) lK) ( A8 (.b1 (List.replicate (Int.toNat (↑a0.length:Int)) lK) a0 (↑a0.length:Int) (0:Int))))
 | .b1 a0 a1 a2 a3=>.br (decide (a3<a2)) ( .chk (kI a3 a1) ( .bind 179 (a1[(Int.toNat a3)]?) (fun(x1:BG)=>.bind 179 (dG x1) (fun(x2:BG)=>kl a0 ( .chk (kI a3 a0) ( .chk (a0.length==a0.length&&decide (0<=(Int.toNat a3))) ( .bind 179 (a0[(Int.toNat a3)]?) (fun(x3:BG)=>.chk ((a0.set (Int.toNat a3) x2).length==a0.length) ( A8 (.b1 (a0.set (Int.toNat a3) x2) a1 a2 (Af (a3+1)))))))))))) ( kl a0 ( AQ (⟨a0⟩:QY)))
def aT (a0:List BG):Option QY:=AY TB (.b0 a0)
def vT:Shape:=⟨[OV 38,.one (.fn 123 [] [])],[]⟩
def Z5x:Shape:=⟨[.one (.own 179 0)],[.row 179 true]⟩
noncomputable def Z61:HMod U:=⟨[[.s 179 6],KP],[],vT,Z5x,true,1748,fun(y:QY)=>(((),()),(y.q0,())),fun x=>aT x.1.1.1,okS rfl⟩
def vP:Lay:=⟨[1,5,11,12,13],[KP,[.own 179 6],[.s 179 6],KP,KP],[.row true],⟨[.one (.fn 123 [] []),.one (.own 179 0),OV 38,OV 3,OV 3],[.row 179 true]⟩⟩
def Z5V:bC->BI U
 | .b0 a0=>H6 Tryz.f122 vT (((a0,()),((),())),())
 | .b1 a0 a1 a2 a3=>BA Tryz.f122 [1,1,0,1,0,0,0] vP (((),((),((a1,()),((a2,()),((a3,()),()))))),(a0,()))
theorem Z5M:Dh Tryz.prog B0 122 Z61:=okR (mc Z7f Ar) Ap (al [(3,vP)]) [[.own 179 6]] [.row true] 0 Z5V Tryz.func122 (fun p=>by cases p<;>kernel_rfl) (by kernel_rfl) fun x=>by kernel_rfl
def xJ:S1 (Am×Unit) Am
 | (a0,_)=>.bind 1748 (aT a0.BC) (fun(y1:QY)=>kl y1.q0 ( AQ ({ a0 with BC:=y1.q0 }:Am)))
def bQ (a0:Am):Option Am:=AY xJ (a0,())
def Z6I:Ai U:=⟨[40],40,fun x=>bQ x.1,by decide⟩
theorem Z6x:Ag Tryz.prog B0 55 Z6I:=ok1 Ar (hc [123] Z5M Ap) Tryz.func55 (fun _=>by kernel_rfl) (by kernel_rfl)
inductive aI where
 | b0 (a0:List Am)
 | b1 (a0 a1:List Am) (a2 a3:Int)
def Sz:aI->Tr U (QQ⊕aI)
 | .b0 a0=>.chk (decide (0<=(↑a0.length:Int)/\(↑a0.length:Int)<=(↑a0.length:Int)/\Int.toNat (↑a0.length:Int)*48<=lim/\(↑a0.length:Int)<=(↑maxLen:Int))) ( kl (List.replicate (Int.toNat (↑a0.length:Int)) gJ) ( A8 (.b1 (List.replicate (Int.toNat (↑a0.length:Int)) gJ) a0 (↑a0.length:Int) (0:Int))))
 | .b1 a0 a1 a2 a3=>.br (decide (a3<a2)) ( .chk (kI a3 a1) ( .bind 40 (a1[(Int.toNat a3)]?) (fun(x1:Am)=>.bind 40 (bQ x1) (fun(x2:Am)=>kl a0 ( .chk (kI a3 a0) ( .chk (a0.length==a0.length&&decide (0<=(Int.toNat a3))) ( .bind 40 (a0[(Int.toNat a3)]?) (fun(x3:Am)=>.chk ((a0.set (Int.toNat a3) x2).length==a0.length) ( A8 (.b1 (a0.set (Int.toNat a3) x2) a1 a2 (Af (a3+1)))))))))))) ( kl a0 ( AQ (⟨a0⟩:QQ)))
def aH (a0:List Am):Option QQ:=AY Sz (.b0 a0)
def vH:Shape:=⟨[OV 30,.one (.fn 55 [] [])],[]⟩
def Z59:Shape:=⟨[.one (.own 40 0)],[.row 40 true]⟩
noncomputable def Z5y:HMod U:=⟨[[.s 40 4],KP],[],vH,Z59,true,1741,fun(y:QQ)=>(((),()),(y.q0,())),fun x=>aH x.1.1.1,okS rfl⟩
def vI:Lay:=⟨[1,5,11,12,13],[KP,[.own 40 4],[.s 40 4],KP,KP],[.row true],⟨[.one (.fn 55 [] []),.one (.own 40 0),OV 30,OV 3,OV 3],[.row 40 true]⟩⟩
def Z5n:aI->BI U
 | .b0 a0=>H6 Tryz.f54 vH (((a0,()),((),())),())
 | .b1 a0 a1 a2 a3=>BA Tryz.f54 [1,1,0,1,0,0,0] vI (((),((),((a1,()),((a2,()),((a3,()),()))))),(a0,()))
theorem Z5m:Dh Tryz.prog B0 54 Z5y:=okR (mc Z6x Ar) Ap (al [(3,vI)]) [[.own 40 4]] [.row true] 0 Z5n Tryz.func54 (fun p=>by cases p<;>kernel_rfl) (by kernel_rfl) fun x=>by kernel_rfl
inductive aQ where
 | b0 (a0:List Di)
 | b1 (a0 a1:List Di) (a2 a3:Int)
def wO:aQ->Tr U (QW⊕aQ)
 | .b0 a0=>.chk (decide (0<=(↑a0.length:Int)/\(↑a0.length:Int)<=(↑a0.length:Int)/\Int.toNat (↑a0.length:Int)*96<=lim/\(↑a0.length:Int)<=(↑maxLen:Int))) ( kl (List.replicate (Int.toNat (↑a0.length:Int)) Z1u) ( A8 (.b1 (List.replicate (Int.toNat (↑a0.length:Int)) Z1u) a0 (↑a0.length:Int) (0:Int))))
 | .b1 a0 a1 a2 a3=>.br (decide (a3<a2)) ( .chk (kI a3 a1) ( .bind 192 (a1[(Int.toNat a3)]?) (fun(x1:Di)=>.fail))) ( kl a0 ( AQ (⟨a0⟩:QW)))
def aW (a0:List Di):Option QW:=AY wO (.b0 a0)
def vV:Shape:=⟨[OV 48,.one (.fn 58 [] [])],[]⟩
def Z5w:Shape:=⟨[.one (.own 192 0)],[.row 192 true]⟩
noncomputable def Z67:HMod U:=⟨[[.s 192 10],KP],[],vV,Z5w,true,1742,fun(y:QW)=>(((),()),(y.q0,())),fun x=>aW x.1.1.1,okS rfl⟩
def vX:Lay:=⟨[1,5,11,12,13],[KP,[.own 192 10],[.s 192 10],KP,KP],[.row true],⟨[.one (.fn 58 [] []),.one (.own 192 0),OV 48,OV 3,OV 3],[.row 192 true]⟩⟩
def Z5X:aQ->BI U
 | .b0 a0=>H6 Tryz.f57 vV (((a0,()),((),())),())
 | .b1 a0 a1 a2 a3=>BA Tryz.f57 [1,1,0,1,0,0,0] vX (((),((),((a1,()),((a2,()),((a3,()),()))))),(a0,()))
theorem Z5Y:Dh Tryz.prog B0 57 Z67:=okR Ar Ap (al [(3,vX)]) [[.own 192 10]] [.row true] 0 Z5X Tryz.func57 (fun p=>by cases p<;>kernel_rfl) (by kernel_rfl) fun x=>by kernel_rfl
inductive aJ where
 | b0 (a0:List Dv)
 | b1 (a0 a1:List Dv) (a2 a3:Int)
def wB:aJ->Tr U (QS⊕aJ)
 | .b0 a0=>.chk (decide (0<=(↑a0.length:Int)/\(↑a0.length:Int)<=(↑a0.length:Int)/\Int.toNat (↑a0.length:Int)*64<=lim/\(↑a0.length:Int)<=(↑maxLen:Int))) ( kl (List.replicate (Int.toNat (↑a0.length:Int)) (⟨(⟨0,0⟩:Aa),jH⟩:Dv)) ( A8 (.b1 (List.replicate (Int.toNat (↑a0.length:Int)) (⟨(⟨0,0⟩:Aa),jH⟩:Dv)) a0 (↑a0.length:Int) (0:Int))))
 | .b1 a0 a1 a2 a3=>.br (decide (a3<a2)) ( .chk (kI a3 a1) ( .bind 160 (a1[(Int.toNat a3)]?) (fun(x1:Dv)=>.fail))) ( kl a0 ( AQ (⟨a0⟩:QS)))
def aN (a0:List Dv):Option QS:=AY wB (.b0 a0)
def vJ:Shape:=⟨[OV 50,.one (.fn 61 [] [])],[]⟩
def Z5d:Shape:=⟨[.one (.own 160 0)],[.row 160 true]⟩
noncomputable def Z5E:HMod U:=⟨[[.s 160 6],KP],[],vJ,Z5d,true,1743,fun(y:QS)=>(((),()),(y.q0,())),fun x=>aN x.1.1.1,okS rfl⟩
def vK:Lay:=⟨[1,5,11,12,13],[KP,[.own 160 6],[.s 160 6],KP,KP],[.row true],⟨[.one (.fn 61 [] []),.one (.own 160 0),OV 50,OV 3,OV 3],[.row 160 true]⟩⟩
def Z5t:aJ->BI U
 | .b0 a0=>H6 Tryz.f60 vJ (((a0,()),((),())),())
 | .b1 a0 a1 a2 a3=>BA Tryz.f60 [1,1,0,1,0,0,0] vK (((),((),((a1,()),((a2,()),((a3,()),()))))),(a0,()))
theorem Z5q:Dh Tryz.prog B0 60 Z5E:=okR Ar Ap (al [(3,vK)]) [[.own 160 6]] [.row true] 0 Z5t Tryz.func60 (fun p=>by cases p<;>kernel_rfl) (by kernel_rfl) fun x=>by kernel_rfl
inductive aU where
 | b0 (a0:List EM)
 | b1 (a0 a1:List EM) (a2 a3:Int)
def wK:aU->Tr U (QX⊕aU)
 | .b0 a0=>.chk (decide (0<=(↑a0.length:Int)/\(↑a0.length:Int)<=(↑a0.length:Int)/\Int.toNat (↑a0.length:Int)*1600<=lim/\(↑a0.length:Int)<=(↑maxLen:Int))) ( kl (List.replicate (Int.toNat (↑a0.length:Int)) Z1y) ( A8 (.b1 (List.replicate (Int.toNat (↑a0.length:Int)) Z1y) a0 (↑a0.length:Int) (0:Int))))
 | .b1 a0 a1 a2 a3=>.br (decide (a3<a2)) ( .chk (kI a3 a1) ( .bind 158 (a1[(Int.toNat a3)]?) (fun(x1:EM)=>.fail))) ( kl a0 ( AQ (⟨a0⟩:QX)))
def aY (a0:List EM):Option QX:=AY wK (.b0 a0)
def wE:Shape:=⟨[OV 61,.one (.fn 65 [] [])],[]⟩
def Z5z:Shape:=⟨[.one (.own 158 0)],[.row 158 true]⟩
noncomputable def Z64:HMod U:=⟨[[.s 158 186],KP],[],wE,Z5z,true,1744,fun(y:QX)=>(((),()),(y.q0,())),fun x=>aY x.1.1.1,okS rfl⟩
def wC:Lay:=⟨[1,5,11,12,13],[KP,[.own 158 186],[.s 158 186],KP,KP],[.row true],⟨[.one (.fn 65 [] []),.one (.own 158 0),OV 61,OV 3,OV 3],[.row 158 true]⟩⟩
def Z5N:aU->BI U
 | .b0 a0=>H6 Tryz.f64 wE (((a0,()),((),())),())
 | .b1 a0 a1 a2 a3=>BA Tryz.f64 [1,1,0,1,0,0,0] wC (((),((),((a1,()),((a2,()),((a3,()),()))))),(a0,()))
theorem Z5W:Dh Tryz.prog B0 64 Z64:=okR Ar Ap (al [(3,wC)]) [[.own 158 186]] [.row true] 0 Z5N Tryz.func64 (fun p=>by cases p<;>kernel_rfl) (by kernel_rfl) fun x=>by kernel_rfl
inductive aP where
 | b0 (a0:List DY)
 | b1 (a0 a1:List DY) (a2 a3:Int)
def wG:aP->Tr U (QT⊕aP)
 | .b0 a0=>.chk (decide (0<=(↑a0.length:Int)/\(↑a0.length:Int)<=(↑a0.length:Int)/\Int.toNat (↑a0.length:Int)*48<=lim/\(↑a0.length:Int)<=(↑maxLen:Int))) ( kl (List.replicate (Int.toNat (↑a0.length:Int)) Z0p) ( A8 (.b1 (List.replicate (Int.toNat (↑a0.length:Int)) Z0p) a0 (↑a0.length:Int) (0:Int))))
 | .b1 a0 a1 a2 a3=>.br (decide (a3<a2)) ( .chk (kI a3 a1) ( .bind 203 (a1[(Int.toNat a3)]?) (fun(x1:DY)=>.fail))) ( kl a0 ( AQ (⟨a0⟩:QT)))
def aO (a0:List DY):Option QT:=AY wG (.b0 a0)
def vO:Shape:=⟨[OV 62,.one (.fn 67 [] [])],[]⟩
def Z5l:Shape:=⟨[.one (.own 203 0)],[.row 203 true]⟩
noncomputable def Z5Q:HMod U:=⟨[[.s 203 4],KP],[],vO,Z5l,true,1745,fun(y:QT)=>(((),()),(y.q0,())),fun x=>aO x.1.1.1,okS rfl⟩
def vN:Lay:=⟨[1,5,11,12,13],[KP,[.own 203 4],[.s 203 4],KP,KP],[.row true],⟨[.one (.fn 67 [] []),.one (.own 203 0),OV 62,OV 3,OV 3],[.row 203 true]⟩⟩
def Z5G:aP->BI U
 | .b0 a0=>H6 Tryz.f66 vO (((a0,()),((),())),())
 | .b1 a0 a1 a2 a3=>BA Tryz.f66 [1,1,0,1,0,0,0] vN (((),((),((a1,()),((a2,()),((a3,()),()))))),(a0,()))
theorem Z5C:Dh Tryz.prog B0 66 Z5Q:=okR Ar Ap (al [(3,vN)]) [[.own 203 4]] [.row true] 0 Z5G Tryz.func66 (fun p=>by cases p<;>kernel_rfl) (by kernel_rfl) fun x=>by kernel_rfl
def Z02:S1 (Cb×Unit) Cb
 | (a0,_)=>.bind 1741 (aH a0.GH.CO) (fun(y1:QQ)=>.bind 47 (dB a0.Store) (fun(x2:Bj)=>.bind 1742 (aW a0.Y1) (fun(y3:QW)=>.bind 49 (WG a0.DB) (fun(x4:List Ac)=>.bind 1743 (aN a0.JI) (fun(y5:QS)=>.bind 56 (aX a0.XG) (fun(x6:Fq)=>.bind 60 (bH a0.Xo) (fun(x7:Fv)=>.bind 1744 (aY a0.N9) (fun(y8:QX)=>.bind 1745 (aO a0.Writes) (fun(y9:QT)=>kl y1.q0 ( kl y3.q0 ( kl y5.q0 ( kl y8.q0 ( kl y9.q0 ( AQ (⟨({ a0.GH with CO:=y1.q0 }:C9),a0.Up,x2,y3.q0,x4,y5.q0,x6,x7,a0.Rn,y8.q0,y9.q0,a0.X4,a0.YS⟩:Cb)))))))))))))))
def iK (a0:Cb):Option Cb:=AY Z02 (a0,())
def Zar:Ai U:=⟨[64],64,fun x=>iK x.1,by decide⟩
theorem Z97:Ag Tryz.prog B0 17 Zar:=ok1 (mc Z6X (mc yR (mc Z5P (mc Z6z Ar)))) (hc [55] Z5m (hc [58] Z5Y (hc [61] Z5q (hc [65] Z5W (hc [67] Z5C Ap))))) Tryz.func17 (fun _=>by kernel_rfl) (by kernel_rfl)
end
noncomputable section
def Z09:S1 (C9×Unit) (Cb×Int)
 | (a0,_)=>.bind 65 (dZ a0) (fun(x1:Int)=>.br (x1 != 0) ( AQ (E8,x1)) ( .bind 97 (eX a0.CO) (fun(x2:(List Ac)×Int)=>.br (x2.2 != 0) ( AQ (E8,x2.2)) ( .bind 99 (TQ a0.Ea) (fun(x3:BV×Int)=>.br (x3.2 != 0) ( AQ (E8,x3.2)) ( .bind 101 (iG x3.1) (fun(x4:Bj×Int)=>.br (x4.2 != 0) ( AQ (E8,x4.2)) ( .bind 64 (iK (⟨a0,true,x4.1,[],x2.1,[],II,IJ,(⟨0,0⟩:Aa),[],[],0,0⟩:Cb)) (fun(x5:Cb)=>AQ (x5,0))))))))))
def iR (a0:C9):Option (Cb×Int):=AY Z09 (a0,())
def ZaW:Ai U:=⟨[34],66,fun x=>iR x.1,by decide⟩
theorem Z91:Ag Tryz.prog B0 5 ZaW:=ok1 (mc Z7X (mc Z89 (mc zK (mc Z8m (mc Z97 Ar))))) Ap Tryz.func5 (fun _=>by kernel_rfl) (by kernel_rfl)
def Z0u:S1 (Gv×Unit) Int
 | (a0,_)=>.br (decide (a0.He < -500)) ( AQ (5:Int)) ( .br (decide (a0.He>500)) ( AQ (5:Int)) ( .br (decide (a0.Start<0)) ( AQ (5:Int)) ( .br (decide (a0.Start>1099511627776)) ( AQ (5:Int)) ( AQ (0:Int)))))
def jE (a0:Gv):Option Int:=AY Z0u (a0,())
def ZbL:Ai U:=⟨[23],65,fun x=>jE x.1,by decide⟩
theorem Z9Z:Ag Tryz.prog B0 18 ZbL:=ok1 Ar Ap Tryz.func18 (fun _=>by kernel_rfl) (by kernel_rfl)
def ZX:S1 (Int×Unit) Int
 | (a0,_)=>.br (a0==2) ( AQ (3:Int)) ( .br (a0==3) ( AQ (1:Int)) ( AQ (0:Int)))
def iJ (a0:Int):Option Int:=AY ZX (a0,())
def Zat:Ai U:=⟨[3],24,fun x=>iJ x.1,by decide⟩
theorem Z9x:Ag Tryz.prog B0 68 Zat:=ok1 Ar Ap Tryz.func68 (fun _=>by kernel_rfl) (by kernel_rfl)
inductive jI where
 | b0 (a0:Aa)
 | b1 (a0:Aa)
 | b2 (a0 a1:Int) (a2:Aa)
def Qb:jI->Tr U (Int⊕jI)
 | .b0 a0=>.br (decide (a0.Kind<1)) ( AQ (12:Int)) ( .br (decide (a0.Kind>4)) ( AQ (12:Int)) ( A8 (.b1 a0)))
 | .b1 a0=>.br (decide (a0.Bits>=281474976710656)) ( AQ (5:Int)) ( .br (a0.Kind==1) ( AQ (0:Int)) ( .br (a0.Kind==3) ( A8 (.b2 (IntKind.wrap .u64 (Int.tdiv (Int.tmod a0.Bits (70368744177664:Int)) 16777216)) (4194303:Int) a0)) ( A8 (.b2 (Int.tmod a0.Bits 70368744177664) (70368744177663:Int) a0))))
 | .b2 a0 a1 a2=>.bind 24 (iJ a2.Kind) (fun(x1:Int)=>.br ((IntKind.wrap .u64 (Int.tdiv a2.Bits 70368744177664)) != x1) ( AQ (1:Int)) ( .br (a0==0) ( AQ (1:Int)) ( .br (a0==a1) ( AQ (1:Int)) ( AQ (0:Int)))))
def jQ (a0:Aa):Option Int:=AY Qb (.b0 a0)
def ZbK:Ai U:=⟨[26],65,fun x=>jQ x.1,by decide⟩
def Zo:Lay:=LT [1] [.p 0] [.s 26]
def Zl:Lay:=LT [1,3,4] [.p 0,.v 24,.v 24] [.s 26]
def Zab:jI->BI U
 | .b0 a0=>Bl Tryz.f19 [26] (a0,())
 | .b1 a0=>BA Tryz.f19 [1,1,0,0] Zo (((),()),((a0,()),()))
 | .b2 a0 a1 a2=>BA Tryz.f19 [1,1,1,1,1,1,1,0,0] Zl (((),((a0,()),((a1,()),()))),((a2,()),()))
theorem ZaP:Ag Tryz.prog B0 19 ZbK:=CZ (mc Z9x Ar) Ap (al [(3,Zo),(12,Zl)]) Zab Tryz.func19 (fun p=>by cases p<;>kernel_rfl) (by kernel_rfl) fun _=>rfl
def Z0H:S1 (Aa×Unit) Bool
 | (a0,_)=>.br (a0.Kind==1) ( AQ true) ( AQ (a0.Kind==2))
def jM (a0:Aa):Option Bool:=AY Z0H (a0,())
def Zc7:Ai U:=⟨[26],4,fun x=>jM x.1,by decide⟩
theorem ZaJ:Ag Tryz.prog B0 20 Zc7:=ok1 Ar Ap Tryz.func20 (fun _=>by kernel_rfl) (by kernel_rfl)
def Z0D:S1 (GZ×Unit) Int
 | (a0,_)=>.br (decide (a0.IO<0)) ( AQ (5:Int)) ( .br (decide (a0.IO>4)) ( AQ (5:Int)) ( AQ (0:Int)))
def kD (a0:GZ):Option Int:=AY Z0D (a0,())
def ZbO:Ai U:=⟨[32],65,fun x=>kD x.1,by decide⟩
theorem ZaS:Ag Tryz.prog B0 21 ZbO:=ok1 Ar Ap Tryz.func21 (fun _=>by kernel_rfl) (by kernel_rfl)
def Z0B:S1 (Int×Unit) BB
 | (a0,_)=>AQ (⟨(IntKind.wrap .u64 ((IntKind.wrap .u64 ((IntKind.wrap .u64 (a0))*4294967296))+4096)),9223372588214596859⟩:BB)
def LU (a0:Int):Option BB:=AY Z0B (a0,())
def Zbf:Ai U:=⟨[75],37,fun x=>LU x.1,by decide⟩
theorem TV:Ag Tryz.prog B0 71 Zbf:=ok1 Ar Ap Tryz.func71 (fun _=>by kernel_rfl) (by kernel_rfl)
def Z2S:S1 (BB×Int×Unit) Bool
 | (a0,a1,_)=>.bind 37 (LU a1) (fun(x1:BB)=>AQ ((a0.High==x1.High)&&((a0.Low==x1.Low)&&true)))
def Oz (a0:BB) (a1:Int):Option Bool:=AY Z2S (a0,a1,())
def Zgk:Ai U:=⟨[37,75],4,fun x=>Oz x.1 x.2.1,by decide⟩
theorem Z1V:Ag Tryz.prog B0 272 Zgk:=ok1 (mc TV Ar) Ap Tryz.func272 (fun _=>by kernel_rfl) (by kernel_rfl)
def zX:S1 (BB×Unit) Bool
 | (a0,_)=>.bind 4 (Oz a0 (10240:Int)) (fun(x1:Bool)=>.br x1 ( AQ true) ( .bind 4 (Oz a0 (10241:Int)) (fun(x2:Bool)=>.br x2 ( AQ true) ( .bind 4 (Oz a0 (10242:Int)) (fun(x3:Bool)=>.br x3 ( AQ true) ( .bind 4 (Oz a0 (10243:Int)) (fun(x4:Bool)=>AQ x4)))))))
def fH (a0:BB):Option Bool:=AY zX (a0,())
def Z8G:Ai U:=⟨[37],4,fun x=>fH x.1,by decide⟩
theorem Z7D:Ag Tryz.prog B0 271 Z8G:=ok1 (mc Z1V Ar) Ap Tryz.func271 (fun _=>by kernel_rfl) (by kernel_rfl)
def Z1a:S1 (BB×Unit) Bool
 | (a0,_)=>.bind 4 (fH a0) (fun(x1:Bool)=>.br x1 ( AQ true) ( .bind 4 (Oz a0 (10498:Int)) (fun(x2:Bool)=>AQ x2)))
def lM (a0:BB):Option Bool:=AY Z1a (a0,())
def ZcC:Ai U:=⟨[37],4,fun x=>lM x.1,by decide⟩
theorem Zbc:Ag Tryz.prog B0 212 ZcC:=ok1 (mc Z7D (mc Z1V Ar)) Ap Tryz.func212 (fun _=>by kernel_rfl) (by kernel_rfl)
inductive kK where
 | b0 (a0:BB) (a1 a2:Int) (a3:List Int)
 | b1 (a0:List Int)
def Wx:kK->Tr U (Int⊕kK)
 | .b0 a0 a1 a2 a3=>.bind 4 (lM a0) (fun(x1:Bool)=>.br x1 ( AQ (1:Int)) ( .br (decide (a1<0)) ( AQ (5:Int)) ( .br (decide (a1>255)) ( AQ (5:Int)) ( .br (decide (a2<0)) ( AQ (5:Int)) ( .br (decide (a2>15)) ( AQ (5:Int)) ( A8 (.b1 a3)))))))
 | .b1 a0=>.br (decide ((↑a0.length:Int)>512)) ( AQ (4:Int)) ( AQ (0:Int))
def Wy (a0:BB) (a1 a2:Int) (a3:List Int):Option Int:=AY Wx (.b0 a0 a1 a2 a3)
def ZdK:Ai U:=⟨[37,3,3,41],65,fun x=>Wy x.1 x.2.1 x.2.2.1 x.2.2.2.1,by decide⟩
def Z0a:Lay:=LT [3] [.v 41] []
def ZbT:kK->BI U
 | .b0 a0 a1 a2 a3=>Bl Tryz.f140 [37,3,3,41] (a0,a1,a2,a3,())
 | .b1 a0=>BA Tryz.f140 [1,1,1,0,0] Z0a (((a0,()),()),())
theorem ZbF:Ag Tryz.prog B0 140 ZdK:=CZ (mc Zbc Ar) Ap (al [(5,Z0a)]) ZbT Tryz.func140 (fun p=>by cases p<;>kernel_rfl) (by kernel_rfl) fun _=>rfl
inductive bM where
 | b0 (a0:List Am)
 | b1 (a0:List Am) (a1 a2:Int)
 | b2 (a0:List Am) (a1 a2 a3:Int)
 | b3 (a0:List Am) (a1 a2 a3:Int) (a4:BG)
 | b4 (a0:List Am) (a1 a2 a3 a4:Int) (a5:BG)
def FM:bM->Tr U ((Int×Int)⊕bM)
 | .b0 a0=>A8 (.b1 a0 (0:Int) (0:Int))
 | .b1 a0 a1 a2=>.br (decide (a2<(↑a0.length:Int))) ( A8 (.b2 a0 (Af (a1+1)) a2 (0:Int))) ( AQ (a1,0))
 | .b2 a0 a1 a2 a3=>.chk (kI a2 a0) ( .bind 40 (a0[(Int.toNat a2)]?) (fun(x1:Am)=>.br (decide (a3<(↑x1.BC.length:Int))) ( .chk (kI a2 a0) ( .bind 40 (a0[(Int.toNat a2)]?) (fun(x2:Am)=>.chk (kI a3 x2.BC) ( .bind 179 (x2.BC[(Int.toNat a3)]?) (fun(x3:BG)=>.bind 65 (Wy x3.BL x3.Props x3.EH x3.Value) (fun(x4:Int)=>.br (x4 != 0) ( AQ ((0:Int),x4)) ( .br ((bits .and .i64 x3.Props (48:Int)) != 0) ( A8 (.b3 a0 (Af ((Af ((Af (a1+2))+(↑x3.More.length:Int)))+1)) a2 a3 x3)) ( A8 (.b3 a0 (Af ((Af (a1+2))+(↑x3.More.length:Int))) a2 a3 x3))))))))) ( A8 (.b1 a0 a1 (Af (a2+1))))))
 | .b3 a0 a1 a2 a3 a4=>A8 (.b4 a0 a1 a2 a3 (0:Int) a4)
 | .b4 a0 a1 a2 a3 a4 a5=>.br (decide (a4<(↑a5.More.length:Int))) ( .chk (kI a4 a5.More) ( .bind 222 (a5.More[(Int.toNat a4)]?) (fun(x1:Ac)=>.chk (kI a4 a5.More) ( .bind 222 (a5.More[(Int.toNat a4)]?) (fun(x2:Ac)=>.chk (kI a4 a5.More) ( .bind 222 (a5.More[(Int.toNat a4)]?) (fun(x3:Ac)=>.bind 65 (Wy x1.BL (0:Int) x2.EH x3.Value) (fun(x4:Int)=>.br (x4 != 0) ( AQ ((0:Int),x4)) ( A8 (.b4 a0 a1 a2 a3 (Af (a4+1)) a5)))))))))) ( A8 (.b2 a0 a1 a2 (Af (a3+1))))
def bP (a0:List Am):Option (Int×Int):=AY FM (.b0 a0)
def Z6E:Ai U:=⟨[30],206,fun x=>bP x.1,by decide⟩
def wY:Lay:=LT [0,4,5] [.v 30,.v 3,.v 3] []
def wW:Lay:=LT [0,4,5,6] [.v 30,.v 3,.v 3,.v 3] []
def wV:Lay:=LT [0,4,5,6,7] [.v 30,.v 3,.v 3,.v 3,.p 0] [.s 179]
def wQ:Lay:=LT [0,4,5,6,7,9] [.v 30,.v 3,.v 3,.v 3,.p 0,.v 3] [.s 179]
def Z6A:bM->BI U
 | .b0 a0=>Bl Tryz.f69 [30] (a0,())
 | .b1 a0 a1 a2=>BA Tryz.f69 [1,1,0,1,0,0,0,0] wY (((a0,()),((a1,()),((a2,()),()))),())
 | .b2 a0 a1 a2 a3=>BA Tryz.f69 [1,1,0,1,0,0,1,0,0,1,1,0,0,0,0] wW (((a0,()),((a1,()),((a2,()),((a3,()),())))),())
 | .b3 a0 a1 a2 a3 a4=>BA Tryz.f69 [1,1,0,1,0,0,1,0,0,1,1,0,0,1,0,0,1,1,1,1,0] wV (((a0,()),((a1,()),((a2,()),((a3,()),((),()))))),((a4,()),()))
 | .b4 a0 a1 a2 a3 a4 a5=>BA Tryz.f69 [1,1,0,1,0,0,1,0,0,1,1,0,0,1,0,0,1,1,1,1,1,0,0,0,0] wQ (((a0,()),((a1,()),((a2,()),((a3,()),((),((a4,()),())))))),((a5,()),()))
theorem Z6B:Ag Tryz.prog B0 69 Z6E:=CZ (mc ZbF Ar) Ap (al [(3,wY),(7,wW),(16,wV),(17,wQ)]) Z6A Tryz.func69 (fun p=>by cases p<;>kernel_rfl) (by kernel_rfl) fun _=>rfl
inductive iP where
 | b0 (a0:BB)
 | b1 (a0:Int)
def jA:iP->Tr U ((Int×Bool)⊕iP)
 | .b0 a0=>.br (decide ((IntKind.wrap .u64 (Int.tdiv a0.High 4294967296))>65535)) ( AQ ((0:Int),false)) ( .bind 37 (LU (IntKind.wrap .u16 ((IntKind.wrap .u64 (Int.tdiv a0.High 4294967296))))) (fun(x1:BB)=>.br (!((x1.High==a0.High)&&((x1.Low==a0.Low)&&true))) ( AQ ((0:Int),false)) ( A8 (.b1 (IntKind.wrap .u64 (Int.tdiv a0.High 4294967296))))))
 | .b1 a0=>AQ ((IntKind.wrap .u16 (a0)),true)
def iY (a0:BB):Option (Int×Bool):=AY jA (.b0 a0)
def ZaE:Ai U:=⟨[37],281,fun x=>iY x.1,by decide⟩
def zJ:Lay:=LT [4] [.v 24] []
def Z9k:iP->BI U
 | .b0 a0=>Bl Tryz.f141 [37] (a0,())
 | .b1 a0=>BA Tryz.f141 [1,1,1,0] zJ (((a0,()),()),())
theorem Z9A:Ag Tryz.prog B0 141 ZaE:=CZ (mc TV Ar) Ap (al [(4,zJ)]) Z9k Tryz.func141 (fun p=>by cases p<;>kernel_rfl) (by kernel_rfl) fun _=>rfl
inductive mV where
 | b0 (a0 a1:Int)
 | b1 (a0 a1:Int) (a2:List Int) (a3:Int)
def UF:mV->Tr U (NF⊕mV)
 | .b0 a0 a1=>.chk true ( A8 (.b1 a0 a1 ([]:List Int) (0:Int)))
 | .b1 a0 a1 a2 a3=>.br (decide (a3<a1)) ( .chk true ( kl a2 ( .chk (kA (a2.length+1) 1) ( kl (a2++[(IntKind.wrap .u8 ((Int.tmod a0 256)))]) ( A8 (.b1 (IntKind.wrap .u64 (Int.tdiv a0 256)) a1 (a2++[(IntKind.wrap .u8 ((Int.tmod a0 256)))]) (Af (a3+1)))))))) ( kl a2 ( AQ (⟨a2⟩:NF)))
def LX (a0 a1:Int):Option NF:=AY UF (.b0 a0 a1)
def Z0R:Shape:=⟨[OV 24,OV 3],[]⟩
def Z9P:Shape:=⟨[.one (.own 5 0)],[.row 5 true]⟩
noncomputable def Zff:HMod U:=⟨[KP,KP],[],Z0R,Z9P,true,1751,fun(y:NF)=>(((),()),(y.q0,())),fun x=>LX x.1.1.1 x.1.2.1.1,okS rfl⟩
def Z0Q:Lay:=LT [0,1,5,6] [.v 24,.v 3,.o 5 1 0,.v 3] [.r 5]
def ZcO:mV->BI U
 | .b0 a0 a1=>H6 Tryz.f142 Z0R (((a0,()),((a1,()),())),())
 | .b1 a0 a1 a2 a3=>BA Tryz.f142 [1,1,0,1,0,0,0,0] Z0Q (((a0,()),((a1,()),((),((a3,()),())))),(a2,()))
theorem Z1m:Dh Tryz.prog B0 142 Zff:=okR Ar Ap (al [(3,Z0Q)]) [[.own 5 1]] [.row true] 0 ZcO Tryz.func142 (fun p=>by cases p<;>kernel_rfl) (by kernel_rfl) fun x=>by kernel_rfl
def Z0b:S1 (BB×Unit) (List Int)
 | (a0,_)=>.bind 281 (iY a0) (fun(x1:Int×Bool)=>.br x1.2 ( .bind 1751 (LX (IntKind.wrap .u64 (x1.1)) (2:Int)) (fun(y2:NF)=>kl y2.q0 ( AQ y2.q0))) ( .bind 1751 (LX a0.Low (8:Int)) (fun(y3:NF)=>.bind 1751 (LX a0.High (8:Int)) (fun(y4:NF)=>kl y4.q0 ( kl y3.q0 ( .chk (kA (y3.q0.length+y4.q0.length) 1) ( kl (y3.q0++y4.q0) ( AQ (y3.q0++y4.q0)))))))))
def WX (a0:BB):Option (List Int):=AY Z0b (a0,())
def ZaC:Ai U:=⟨[37],41,fun x=>WX x.1,by decide⟩
theorem Zf:Ag Tryz.prog B0 72 ZaC:=ok1 (mc Z9A Ar) (hc [] Z1m Ap) Tryz.func72 (fun _=>by kernel_rfl) (by kernel_rfl)
inductive lY where
 | b0 (a0:List Ac) (a1:Int) (a2:BB) (a3:Int) (a4:List Int)
def Z2g:lY->Tr U (KL⊕lY)
 | .b0 a0 a1 a2 a3 a4=>kl a0 ( .chk true ( .chk (kA (0+a4.length) 1) ( kl (([]:List Int)++a4) ( .chk true ( kl a0 ( .chk (kA (a0.length+1) 56) ( kl (a0++[(⟨(IntKind.wrap .u16 (a1+(IntKind.wrap .u16 ((↑a0.length:Int))))),a2,a3,(([]:List Int)++a4)⟩:Ac)]) ( AQ (⟨(a0++[(⟨(IntKind.wrap .u16 (a1+(IntKind.wrap .u16 ((↑a0.length:Int))))),a2,a3,(([]:List Int)++a4)⟩:Ac)])⟩:KL)))))))))
def LW (a0:List Ac) (a1:Int) (a2:BB) (a3:Int) (a4:List Int):Option KL:=AY Z2g (.b0 a0 a1 a2 a3 a4)
def Z0v:Shape:=⟨[.one (.own 222 0),OV 75,.agg [.v 37 2 true],OV 3,OV 41],[.row 222 true]⟩
def Za2:Shape:=⟨[.one (.own 222 1)],[.gone,.row 222 true]⟩
noncomputable def ZeD:HMod U:=⟨[[.own 222 5],KP,[.keep,.keep],KP,[.s 5 1]],[.row true],Z0v,Za2,true,1749,fun(y:KL)=>(((),()),(y.q0,())),fun x=>LW x.2.1 x.1.2.1.1 x.1.2.2.1.1 x.1.2.2.2.1.1 x.1.2.2.2.2.1.1,okS rfl⟩
def Zcq:lY->BI U
 | .b0 a0 a1 a2 a3 a4=>H6 Tryz.f70 Z0v (((),((a1,()),((a2,()),((a3,()),((a4,()),()))))),(a0,()))
def ZkI:Shape:=⟨[.one (.own 222 0)],[.row 222 true]⟩
theorem Z15:Dh Tryz.prog B0 70 ZeD:=okM Ar Ap AN [[.own 222 5]] [.row true] 1 ZkI (fun(y:KL)=>(((),()),(y.q0,()))) Zcq Tryz.func70 (fun p=>by cases p<;>kernel_rfl) (by kernel_rfl) (fun x=>by kernel_rfl) fun y=>by kernel_rfl
inductive fZ where
 | b0 (a0:List Ac) (a1:Int) (a2:BG)
 | b1 (a0:List Ac) (a1:Int) (a2:BG)
 | b2 (a0:List Ac) (a1 a2:Int) (a3:BG)
def Ns:fZ->Tr U (Oh⊕fZ)
 | .b0 a0 a1 a2=>kl a0 ( .bind 1751 (LX (IntKind.wrap .u64 ((Af ((Af ((Af (a1))+(↑a0.length:Int)))+1)))) (2:Int)) (fun(y1:NF)=>kl y1.q0 ( .chk true ( .chk (kA (1+y1.q0.length) 1) ( .bind 37 (LU (10243:Int)) (fun(x2:BB)=>.bind 41 (WX a2.BL) (fun(x3:List Int)=>kl ([(IntKind.wrap .u8 (a2.Props))]++y1.q0) ( .chk (kA (([(IntKind.wrap .u8 (a2.Props))]++y1.q0).length+x3.length) 1) ( kl (([(IntKind.wrap .u8 (a2.Props))]++y1.q0)++x3) ( kl a0 ( .bind 1749 (LW a0 a1 x2 (1:Int) (([(IntKind.wrap .u8 (a2.Props))]++y1.q0)++x3)) (fun(y4:KL)=>kl y4.q0 ( .bind 1749 (LW y4.q0 a1 a2.BL a2.EH a2.Value) (fun(y5:KL)=>.br ((bits .and .i64 a2.Props (48:Int)) != 0) ( .bind 37 (LU (10498:Int)) (fun(x6:BB)=>.chk true ( kl y5.q0 ( .bind 1749 (LW y5.q0 a1 x6 (3:Int) ([(0:Int),(0:Int)])) (fun(y7:KL)=>kl y7.q0 ( A8 (.b1 y7.q0 a1 a2))))))) ( kl y5.q0 ( A8 (.b1 y5.q0 a1 a2)))))))))))))))))
 | .b1 a0 a1 a2=>kl a0 ( A8 (.b2 a0 a1 (0:Int) a2))
 | .b2 a0 a1 a2 a3=>.br (decide (a2<(↑a3.More.length:Int))) ( .chk (kI a2 a3.More) ( .bind 222 (a3.More[(Int.toNat a2)]?) (fun(x1:Ac)=>.chk (kI a2 a3.More) ( .bind 222 (a3.More[(Int.toNat a2)]?) (fun(x2:Ac)=>.chk (kI a2 a3.More) ( .bind 222 (a3.More[(Int.toNat a2)]?) (fun(x3:Ac)=>kl a0 ( .bind 1749 (LW a0 a1 x1.BL x2.EH x3.Value) (fun(y4:KL)=>kl y4.q0 ( A8 (.b2 y4.q0 a1 (Af (a2+1)) a3))))))))))) ( kl a0 ( AQ (⟨a0⟩:Oh)))
def gB (a0:List Ac) (a1:Int) (a2:BG):Option Oh:=AY Ns (.b0 a0 a1 a2)
def yV:Shape:=⟨[.one (.own 222 0),OV 75,.agg [.v 179 6 true]],[.row 222 true]⟩
def Z7n:Shape:=⟨[.one (.own 222 1)],[.gone,.row 222 true]⟩
noncomputable def Z9s:HMod U:=⟨[[.own 222 5],KP,k1],[.row true],yV,Z7n,true,1750,fun(y:Oh)=>(((),()),(y.q0,())),fun x=>gB x.2.1 x.1.2.1.1 x.1.2.2.1.1,okS rfl⟩
def yQ:Lay:=LT [0,1,5] [.o 222 5 0,.v 75,.p 1] [.r 222,.s 179]
def yP:Lay:=LT [0,1,5,8] [.o 222 5 0,.v 75,.p 1,.v 3] [.r 222,.s 179]
def Z8R:fZ->BI U
 | .b0 a0 a1 a2=>H6 Tryz.f73 yV (((),((a1,()),((a2,()),()))),(a0,()))
 | .b1 a0 a1 a2=>BA Tryz.f73 [1,1,1,1,1,0,0] yQ (((),((a1,()),((),()))),(a0,((a2,()),())))
 | .b2 a0 a1 a2 a3=>BA Tryz.f73 [1,1,1,1,1,0,1,0,0,0,0] yP (((),((a1,()),((),((a2,()),())))),(a0,((a3,()),())))
def Zl5:Shape:=⟨[.one (.own 222 0)],[.row 222 true]⟩
theorem Z8E:Dh Tryz.prog B0 73 Z9s:=okM (mc TV (mc Zf Ar)) (hc [] Z15 (hc [] Z1m Ap)) (al [(6,yQ),(7,yP)]) [[.own 222 5]] [.row true] 1 Zl5 (fun(y:Oh)=>(((),()),(y.q0,()))) Z8R Tryz.func73 (fun p=>by cases p<;>kernel_rfl) (by kernel_rfl) (fun x=>by kernel_rfl) fun y=>by kernel_rfl
inductive jO where
 | b0 (a0:List Am) (a1:Int)
 | b1 (a0:List Am) (a1:Int) (a2:List Ac) (a3:Int)
 | b2 (a0:List Am) (a1:Int) (a2:List Ac) (a3 a4:Int)
 | b3 (a0:List Am) (a1:Int) (a2:List Ac) (a3 a4:Int)
def IK:jO->Tr U (((List Ac)×Int)⊕jO)
 | .b0 a0 a1=>.br (a1==0) ( .chk true ( AQ (([]:List Ac),(5:Int)))) ( .bind 206 (bP a0) (fun(x1:Int×Int)=>.br (x1.2 != 0) ( .chk true ( AQ (([]:List Ac),x1.2))) ( .br (decide (x1.1>1000)) ( .chk true ( AQ (([]:List Ac),(4:Int)))) ( .br (decide ((Af ((Af ((Af (a1))+x1.1)) - 1))>65535)) ( .chk true ( AQ (([]:List Ac),(8:Int)))) ( .chk true ( A8 (.b1 a0 a1 ([]:List Ac) (0:Int))))))))
 | .b1 a0 a1 a2 a3=>.br (decide (a3<(↑a0.length:Int))) ( .chk (kI a3 a0) ( .bind 40 (a0[(Int.toNat a3)]?) (fun(x1:Am)=>.br x1.KR ( kl a2 ( A8 (.b2 a0 a1 a2 a3 (10240:Int)))) ( kl a2 ( A8 (.b2 a0 a1 a2 a3 (10241:Int))))))) ( kl a2 ( AQ (a2,0)))
 | .b2 a0 a1 a2 a3 a4=>.bind 37 (LU a4) (fun(x1:BB)=>.chk (kI a3 a0) ( .bind 40 (a0[(Int.toNat a3)]?) (fun(x2:Am)=>.bind 41 (WX x2.BL) (fun(x3:List Int)=>kl a2 ( .bind 1749 (LW a2 a1 x1 (1:Int) x3) (fun(y4:KL)=>kl y4.q0 ( A8 (.b3 a0 a1 y4.q0 a3 (0:Int)))))))))
 | .b3 a0 a1 a2 a3 a4=>.chk (kI a3 a0) ( .bind 40 (a0[(Int.toNat a3)]?) (fun(x1:Am)=>.br (decide (a4<(↑x1.BC.length:Int))) ( .chk (kI a3 a0) ( .bind 40 (a0[(Int.toNat a3)]?) (fun(x2:Am)=>.chk (kI a4 x2.BC) ( .bind 179 (x2.BC[(Int.toNat a4)]?) (fun(x3:BG)=>kl a2 ( .bind 1750 (gB a2 a1 x3) (fun(y4:Oh)=>kl y4.q0 ( A8 (.b3 a0 a1 y4.q0 a3 (Af (a4+1))))))))))) ( kl a2 ( A8 (.b1 a0 a1 a2 (Af (a3+1)))))))
def jP (a0:List Am) (a1:Int):Option ((List Ac)×Int):=AY IK (.b0 a0 a1)
def Zbv:Ai U:=⟨[30,75],97,fun x=>jP x.1 x.2.1,by decide⟩
def ZM:Lay:=LT [0,1,8,9] [.v 30,.v 75,.o 222 5 0,.v 3] [.r 222]
def ZT:Lay:=LT [0,1,8,9,10] [.v 30,.v 75,.o 222 5 0,.v 3,.v 75] [.r 222]
def Zk:Lay:=LT [0,1,8,9,11] [.v 30,.v 75,.o 222 5 0,.v 3,.v 3] [.r 222]
def ZaK:jO->BI U
 | .b0 a0 a1=>Bl Tryz.f22 [30,75] (a0,a1,())
 | .b1 a0 a1 a2 a3=>BA Tryz.f22 [1,1,1,1,1,1,1,0,1,0,0,0,0] ZM (((a0,()),((a1,()),((),((a3,()),())))),(a2,()))
 | .b2 a0 a1 a2 a3 a4=>BA Tryz.f22 [1,1,1,1,1,1,1,0,1,0,0,1,0,0,1,1,0] ZT (((a0,()),((a1,()),((),((a3,()),((a4,()),()))))),(a2,()))
 | .b3 a0 a1 a2 a3 a4=>BA Tryz.f22 [1,1,1,1,1,1,1,0,1,0,0,1,0,0,1,1,1,1,0,0,0,0] Zk (((a0,()),((a1,()),((),((a3,()),((a4,()),()))))),(a2,()))
theorem ZaV:Ag Tryz.prog B0 22 Zbv:=CZ (mc Z6B (mc TV (mc Zf Ar))) (hc [] Z15 (hc [] Z8E Ap)) (al [(12,ZM),(17,ZT),(19,Zk)]) ZaK Tryz.func22 (fun p=>by cases p<;>kernel_rfl) (by kernel_rfl) fun _=>rfl
def zZ:S1 ((List Am)×Unit) (List Am)
 | (a0,_)=>.bind 37 (LU (10757:Int)) (fun(x1:BB)=>.bind 37 (LU (11050:Int)) (fun(x2:BB)=>.bind 37 (LU (6145:Int)) (fun(x3:BB)=>.chk true ( .chk true ( .chk true ( .chk (kA (1+a0.length) 48) ( kl ([(⟨x3,true,[(⟨x1,32,0,[(0:Int),0,0,(0:Int)],[]⟩:BG),(⟨x2,2,1,[],[]⟩:BG)]⟩:Am)]++a0) ( AQ ([(⟨x3,true,[(⟨x1,32,0,[(0:Int),0,0,(0:Int)],[]⟩:BG),(⟨x2,2,1,[],[]⟩:BG)]⟩:Am)]++a0)))))))))
def fM (a0:List Am):Option (List Am):=AY zZ (a0,())
def Z8T:Ai U:=⟨[30],30,fun x=>fM x.1,by decide⟩
theorem Z82:Ag Tryz.prog B0 23 Z8T:=ok1 (mc TV Ar) Ap Tryz.func23 (fun _=>by kernel_rfl) (by kernel_rfl)
inductive iH where
 | b0 (a0:Int)
 | b1 (a0:Int) (a1:List Int) (a2:Int)
def Tc:iH->Tr U (Oj⊕iH)
 | .b0 a0=>.chk (decide (0<=a0/\a0<=a0/\Int.toNat a0*1<=lim/\a0<=(↑maxLen:Int))) ( kl (List.replicate (Int.toNat a0) (0:Int)) ( A8 (.b1 a0 (List.replicate (Int.toNat a0) (0:Int)) (0:Int))))
 | .b1 a0 a1 a2=>.br (decide (a2<a0)) ( kl a1 ( .chk (kI a2 a1) ( .chk (a1.length==a1.length&&decide (0<=(Int.toNat a2))) ( .bind 5 (a1[(Int.toNat a2)]?) (fun(x1:Int)=>.chk ((a1.set (Int.toNat a2) (255:Int)).length==a1.length) ( A8 (.b1 a0 (a1.set (Int.toNat a2) (255:Int)) (Af (a2+1))))))))) ( kl a1 ( AQ (⟨a1⟩:Oj)))
def WY (a0:Int):Option Oj:=AY Tc (.b0 a0)
def zG:Shape:=⟨[OV 3],[]⟩
def Z7N:Shape:=⟨[.one (.own 5 0)],[.row 5 true]⟩
noncomputable def Zaz:HMod U:=⟨[KP],[],zG,Z7N,true,1753,fun(y:Oj)=>(((),()),(y.q0,())),fun x=>WY x.1.1.1,okS rfl⟩
def zI:Lay:=LT [0,3,4] [.v 3,.o 5 1 0,.v 3] [.r 5]
def Z9b:iH->BI U
 | .b0 a0=>H6 Tryz.f74 zG (((a0,()),()),())
 | .b1 a0 a1 a2=>BA Tryz.f74 [1,1,0,1,0,0,0,0] zI (((a0,()),((),((a2,()),()))),(a1,()))
theorem Zg:Dh Tryz.prog B0 74 Zaz:=okR Ar Ap (al [(3,zI)]) [[.own 5 1]] [.row true] 0 Z9b Tryz.func74 (fun p=>by cases p<;>kernel_rfl) (by kernel_rfl) fun x=>by kernel_rfl
inductive jC where
 | b0 (a0:Int)
 | b1 (a0:BV)
 | b2 (a0:Int) (a1:BV)
def Ti:jC->Tr U ((BV×Int)⊕jC)
 | .b0 a0=>.br (decide (a0<64)) ( A8 (.b1 (⟨(⟨([]:List Int),([]:List Int)⟩:Dx)⟩:BV))) ( .br (decide (a0>65536)) ( A8 (.b1 (⟨(⟨([]:List Int),([]:List Int)⟩:Dx)⟩:BV))) ( A8 (.b2 a0 (⟨(⟨([]:List Int),([]:List Int)⟩:Dx)⟩:BV))))
 | .b1 a0=>AQ ((⟨(⟨[],[]⟩:Dx)⟩:BV),(5:Int))
 | .b2 a0 a1=>.bind 1753 (WY a0) (fun(y1:Oj)=>.bind 1753 (WY a0) (fun(y2:Oj)=>kl y1.q0 ( kl y2.q0 ( AQ ((⟨(⟨y1.q0,y2.q0⟩:Dx)⟩:BV),(0:Int))))))
def kC (a0:Int):Option (BV×Int):=AY Ti (.b0 a0)
def Zc9:Ai U:=⟨[3],99,fun x=>kC x.1,by decide⟩
def ZE:Lay:=LT [2] [.p 0] [.s 44]
def ZH:Lay:=LT [0,2] [.v 3,.p 0] [.s 44]
def Zai:jC->BI U
 | .b0 a0=>Bl Tryz.f24 [3] (a0,())
 | .b1 a0=>BA Tryz.f24 [1,0,1,0,0] ZE (((),()),((a0,()),()))
 | .b2 a0 a1=>BA Tryz.f24 [1,1,0] ZH (((a0,()),((),())),((a1,()),()))
theorem Zap:Ag Tryz.prog B0 24 Zc9:=CZ Ar (hc [] Zg Ap) (al [(2,ZE),(3,ZH)]) Zai Tryz.func24 (fun p=>by cases p<;>kernel_rfl) (by kernel_rfl) fun _=>rfl
def Z1q:S1 (BV×Unit) BV
 | (a0,_)=>.chk true ( .chk (kA (0+a0.DV.x0.length) 1) ( .chk true ( .chk (kA (0+a0.DV.x1.length) 1) ( kl (([]:List Int)++a0.DV.x0) ( kl (([]:List Int)++a0.DV.x1) ( AQ (⟨(⟨(([]:List Int)++a0.DV.x0),(([]:List Int)++a0.DV.x1)⟩:Dx)⟩:BV)))))))
def kJ (a0:BV):Option BV:=AY Z1q (a0,())
def Zcr:Ai U:=⟨[44],44,fun x=>kJ x.1,by decide⟩
theorem Zbt:Ag Tryz.prog B0 75 Zcr:=ok1 Ar Ap Tryz.func75 (fun _=>by kernel_rfl) (by kernel_rfl)
inductive jX where
 | b0 (a0:List Int)
 | b1 (a0:List Int) (a1 a2:Int)
def MW:jX->Tr U (Int⊕jX)
 | .b0 a0=>A8 (.b1 a0 (0:Int) (Af ((↑a0.length:Int) - 1)))
 | .b1 a0 a1 a2=>.br (decide (a2>=0)) ( .chk (kI a2 a0) ( .bind 5 (a0[(Int.toNat a2)]?) (fun(x1:Int)=>A8 (.b1 a0 (IntKind.wrap .u64 ((IntKind.wrap .u64 (a1*256))+(IntKind.wrap .u64 (x1)))) (Af (a2 - 1)))))) ( AQ a1)
def Qa (a0:List Int):Option Int:=AY MW (.b0 a0)
def Zbw:Ai U:=⟨[41],24,fun x=>Qa x.1,by decide⟩
def ZA:Lay:=LT [0,3,4] [.v 41,.v 24,.v 3] []
def Zaj:jX->BI U
 | .b0 a0=>Bl Tryz.f143 [41] (a0,())
 | .b1 a0 a1 a2=>BA Tryz.f143 [1,1,0,1,0,0,0,0] ZA (((a0,()),((a1,()),((a2,()),()))),())
theorem Z0l:Ag Tryz.prog B0 143 Zbw:=CZ Ar Ap (al [(3,ZA)]) Zaj Tryz.func143 (fun p=>by cases p<;>kernel_rfl) (by kernel_rfl) fun _=>rfl
def lJ:S1 (Int×Int×Unit) Int
 | (a0,a1,_)=>.br ((bits .xor .u32 (Int.tmod a0 2) a1)==1) ( AQ (bits .xor .u32 (IntKind.wrap .u32 (Int.tdiv a0 2)) (14311424:Int))) ( AQ (IntKind.wrap .u32 (Int.tdiv a0 2)))
def kW (a0 a1:Int):Option Int:=AY lJ (a0,a1,())
def ZcL:Ai U:=⟨[111,111],111,fun x=>kW x.1 x.2.1,by decide⟩
theorem Zbe:Ag Tryz.prog B0 273 ZcL:=ok1 Ar Ap Tryz.func273 (fun _=>by kernel_rfl) (by kernel_rfl)
inductive nT where
 | b0 (a0:Int) (a1:List Int)
 | b1 (a0:List Int) (a1 a2:Int)
 | b2 (a0:List Int) (a1 a2 a3 a4:Int)
def Ox:nT->Tr U (Int⊕nT)
 | .b0 a0 a1=>A8 (.b1 a1 (Int.tmod a0 16777216) (0:Int))
 | .b1 a0 a1 a2=>.br (decide (a2<(↑a0.length:Int))) ( .chk (kI a2 a0) ( .bind 5 (a0[(Int.toNat a2)]?) (fun(x1:Int)=>A8 (.b2 a0 a1 a2 (IntKind.wrap .u32 (x1)) (0:Int))))) ( AQ a1)
 | .b2 a0 a1 a2 a3 a4=>.br (decide (a4<8)) ( .bind 111 (kW a1 (Int.tmod a3 2)) (fun(x1:Int)=>A8 (.b2 a0 x1 a2 (IntKind.wrap .u32 (Int.tdiv a3 2)) (Af (a4+1))))) ( A8 (.b1 a0 a1 (Af (a2+1))))
def nD (a0:Int) (a1:List Int):Option Int:=AY Ox (.b0 a0 a1)
def Zfg:Ai U:=⟨[111,41],111,fun x=>nD x.1 x.2.1,by decide⟩
def Z0L:Lay:=LT [1,5,6] [.v 41,.v 111,.v 3] []
def Z0N:Lay:=LT [1,5,6,7,8] [.v 41,.v 111,.v 3,.v 111,.v 3] []
def ZcY:nT->BI U
 | .b0 a0 a1=>Bl Tryz.f214 [111,41] (a0,a1,())
 | .b1 a0 a1 a2=>BA Tryz.f214 [1,1,0,1,0,0,0,0] Z0L (((a0,()),((a1,()),((a2,()),()))),())
 | .b2 a0 a1 a2 a3 a4=>BA Tryz.f214 [1,1,0,1,0,0,1,0,0,1,1,0,0,0,0] Z0N (((a0,()),((a1,()),((a2,()),((a3,()),((a4,()),()))))),())
theorem ZdF:Ag Tryz.prog B0 214 Zfg:=CZ (mc Zbe Ar) Ap (al [(3,Z0L),(7,Z0N)]) ZcY Tryz.func214 (fun p=>by cases p<;>kernel_rfl) (by kernel_rfl) fun _=>rfl
inductive nP where
 | b0 (a0 a1:Int)
 | b1 (a0 a1:Int) (a2:List Int) (a3:Int)
def UG:nP->Tr U (OH⊕nP)
 | .b0 a0 a1=>.chk true ( A8 (.b1 a0 a1 ([]:List Int) (0:Int)))
 | .b1 a0 a1 a2 a3=>.br (decide (a3<a0)) ( .chk true ( kl a2 ( .chk (kA (a2.length+1) 1) ( kl (a2++[(IntKind.wrap .u8 ((Int.tmod a1 256)))]) ( A8 (.b1 a0 (IntKind.wrap .u64 (Int.tdiv a1 256)) (a2++[(IntKind.wrap .u8 ((Int.tmod a1 256)))]) (Af (a3+1)))))))) ( kl a2 ( AQ (⟨a2⟩:OH)))
def OI (a0 a1:Int):Option OH:=AY UG (.b0 a0 a1)
def Z0s:Shape:=⟨[OV 3,OV 24],[]⟩
def ZaH:Shape:=⟨[.one (.own 5 0)],[.row 5 true]⟩
noncomputable def ZeP:HMod U:=⟨[KP,KP],[],Z0s,ZaH,true,1754,fun(y:OH)=>(((),()),(y.q0,())),fun x=>OI x.1.1.1 x.1.2.1.1,okS rfl⟩
def Z0q:Lay:=LT [0,1,5,6] [.v 3,.v 24,.o 5 1 0,.v 3] [.r 5]
def ZdM:nP->BI U
 | .b0 a0 a1=>H6 Tryz.f213 Z0s (((a0,()),((a1,()),())),())
 | .b1 a0 a1 a2 a3=>BA Tryz.f213 [1,1,0,1,0,0,0,0] Z0q (((a0,()),((a1,()),((),((a3,()),())))),(a2,()))
theorem Z14:Dh Tryz.prog B0 213 ZeP:=okR Ar Ap (al [(3,Z0q)]) [[.own 5 1]] [.row true] 0 ZdM Tryz.func213 (fun p=>by cases p<;>kernel_rfl) (by kernel_rfl) fun x=>by kernel_rfl
def Z04:S1 (Int×Unit) (List Int)
 | (a0,_)=>.bind 1754 (OI (4:Int) (IntKind.wrap .u64 (a0))) (fun(y1:OH)=>kl y1.q0 ( .chk true ( .chk (kA (2+y1.q0.length) 1) ( kl ([(66:Int),(75:Int)]++y1.q0) ( .bind 111 (nD (0:Int) ([(66:Int),(75:Int)]++y1.q0)) (fun(x2:Int)=>.bind 1754 (OI (3:Int) (IntKind.wrap .u64 (x2))) (fun(y3:OH)=>kl y3.q0 ( kl ([(66:Int),(75:Int)]++y1.q0) ( .chk (kA (([(66:Int),(75:Int)]++y1.q0).length+y3.q0.length) 1) ( .chk true ( kl (([(66:Int),(75:Int)]++y1.q0)++y3.q0) ( .chk (kA ((([(66:Int),(75:Int)]++y1.q0)++y3.q0).length+1) 1) ( kl ((([(66:Int),(75:Int)]++y1.q0)++y3.q0)++[(0:Int)]) ( AQ ((([(66:Int),(75:Int)]++y1.q0)++y3.q0)++[(0:Int)])))))))))))))))
def iQ (a0:Int):Option (List Int):=AY Z04 (a0,())
def ZaF:Ai U:=⟨[3],41,fun x=>iQ x.1,by decide⟩
theorem Z9N:Ag Tryz.prog B0 144 ZaF:=ok1 (mc ZdF Ar) (hc [] Z14 Ap) Tryz.func144 (fun _=>by kernel_rfl) (by kernel_rfl)
def Z0m:S1 ((List Int)×Unit) Int
 | (a0,_)=>.br (decide ((↑a0.length:Int)<10)) ( AQ (-1:Int)) ( .chk (decide (0<=(6:Int)/\(6:Int)<=(↑a0.length:Int))) ( .chk (decide (0<=(2:Int)/\(2:Int)<=(↑(Int.toNat 6):Int))) ( .bind 24 (Qa ((a0.drop (Int.toNat 2)).take ((Int.toNat 6) - (Int.toNat 2)))) (fun(x1:Int)=>.chk (decide (0<=(10:Int)/\(10:Int)<=(↑a0.length:Int))) ( .chk (Fe U 5 ((a0.drop 0).take ((Int.toNat 10) - 0))) ( .bind 41 (iQ (Af (x1))) (fun(x2:List Int)=>.chk (Fe U 5 x2) ( .br (!((strOf U 5 ((a0.drop 0).take ((Int.toNat 10) - 0))).toList==(strOf U 5 x2).toList)) ( AQ (-1:Int)) ( AQ (Af (x1)))))))))))
def Wp (a0:List Int):Option Int:=AY Z0m (a0,())
def ZbJ:Ai U:=⟨[41],3,fun x=>Wp x.1,by decide⟩
theorem ZaB:Ag Tryz.prog B0 76 ZbJ:=ok1 (mc Z0l (mc Z9N Ar)) Ap Tryz.func76 (fun _=>by kernel_rfl) (by kernel_rfl)
end
noncomputable section
inductive jJ where
 | b0 (a0:BV)
 | b1 (a0:Bj)
 | b2 (a0:Int) (a1:BV) (a2:Bj)
 | b3 (a0 a1 a2:Int) (a3:BV) (a4 a5:Bj)
 | b4 (a0:Int) (a1:BV) (a2 a3:Bj)
def Wj:jJ->Tr U ((Bj×Int)⊕jJ)
 | .b0 a0=>.br ((↑a0.DV.x0.length:Int) != (↑a0.DV.x1.length:Int)) ( A8 (.b1 (⟨(⟨(⟨([]:List Int),([]:List Int)⟩:Dx)⟩:BV),0,0,0,([]:List CQ)⟩:Bj))) ( .br (decide ((↑a0.DV.x0.length:Int)<64)) ( A8 (.b1 (⟨(⟨(⟨([]:List Int),([]:List Int)⟩:Dx)⟩:BV),0,0,0,([]:List CQ)⟩:Bj))) ( .br (decide ((↑a0.DV.x0.length:Int)>65536)) ( A8 (.b1 (⟨(⟨(⟨([]:List Int),([]:List Int)⟩:Dx)⟩:BV),0,0,0,([]:List CQ)⟩:Bj))) ( A8 (.b2 (↑a0.DV.x0.length:Int) a0 (⟨(⟨(⟨([]:List Int),([]:List Int)⟩:Dx)⟩:BV),0,0,0,([]:List CQ)⟩:Bj)))))
 | .b1 a0=>AQ (W9,5)
 | .b2 a0 a1 a2=>.bind 44 (kJ a1) (fun(x1:BV)=>.bind 3 (Wp a1.DV.x0) (fun(x2:Int)=>.bind 3 (Wp a1.DV.x1) (fun(x3:Int)=>.br (decide (x2<0)) ( .br (decide (x3<0)) ( AQ ((⟨x1,0,0,a0,[]⟩:Bj),(0:Int))) ( A8 (.b3 a0 x2 x3 a1 a2 (⟨x1,0,0,a0,([]:List CQ)⟩:Bj)))) ( A8 (.b3 a0 x2 x3 a1 a2 (⟨x1,0,0,a0,([]:List CQ)⟩:Bj))))))
 | .b3 a0 a1 a2 a3 a4 a5=>.br (decide (a2>a1)) ( A8 (.b4 a0 a3 a4 ({ a5 with Ew:=1,Count:=a2 }:Bj))) ( A8 (.b4 a0 a3 a4 ({ a5 with Count:=a1 }:Bj)))
 | .b4 a0 a1 a2 a3=>.br (a3.Ew==0) ( .fail) ( .br (a3.Ew==1) ( .fail) ( .fail))
def jG (a0:BV):Option (Bj×Int):=AY Wj (.b0 a0)
def Zb3:Ai U:=⟨[44],101,fun x=>jG x.1,by decide⟩
def ZO:Lay:=LT [2] [.p 0] [.s 47]
def ZK:Lay:=LT [1,2,4] [.p 0,.p 1,.v 3] [.s 44,.s 47]
def ZN:Lay:=LT [1,2,4,5,6,7] [.p 0,.p 1,.v 3,.p 2,.v 3,.v 3] [.s 44,.s 47,.s 47]
def ZP:Lay:=LT [1,2,4,5] [.p 0,.p 1,.v 3,.p 2] [.s 44,.s 47,.s 47]
def Zau:jJ->BI U
 | .b0 a0=>Bl Tryz.f25 [44] (a0,())
 | .b1 a0=>BA Tryz.f25 [1,1,0,1,0,0] ZO (((),()),((a0,()),()))
 | .b2 a0 a1 a2=>BA Tryz.f25 [1,1,1,0] ZK (((),((),((a0,()),()))),((a1,()),((a2,()),())))
 | .b3 a0 a1 a2 a3 a4 a5=>BA Tryz.f25 [1,1,1,1,1,1,0] ZN (((),((),((a0,()),((),((a1,()),((a2,()),())))))),((a3,()),((a4,()),((a5,()),()))))
 | .b4 a0 a1 a2 a3=>BA Tryz.f25 [1,1,1,1,1,1,1,1,0] ZP (((),((),((a0,()),((),())))),((a1,()),((a2,()),((a3,()),()))))
theorem Zae:Ag Tryz.prog B0 25 Zb3:=CZ (mc Zbt (mc ZaB Ar)) (hc [] Zg Ap) (al [(3,ZO),(4,ZK),(8,ZN),(11,ZP)]) Zau Tryz.func25 (fun p=>by cases p<;>kernel_rfl) (by kernel_rfl) fun _=>rfl
inductive lX where
 | b0 (a0:C9)
 | b1 (a0:Cb)
 | b2 (a0:C9) (a1:Cb)
 | b3 (a0:Cb)
 | b4 (a0:C9) (a1:Cb)
def OC:lX->Tr U ((Cb×Int)⊕lX)
 | .b0 a0=>.bind 65 (jE a0.Clock) (fun(x1:Int)=>.br (x1 != 0) ( AQ (E8,x1)) ( .bind 65 (jQ a0.DT.Address) (fun(x2:Int)=>.br (x2 != 0) ( AQ (E8,x2)) ( .bind 4 (jM a0.DT.Address) (fun(x3:Bool)=>.br (!x3) ( AQ (E8,12)) ( .br a0.Fa ( .br (a0.DT.Dq==0) ( A8 (.b1 (⟨(⟨(⟨0,0⟩:Gv),(⟨(⟨0,0⟩:Aa),0⟩:Bv),false,0,([]:List Am),Nr,false,0,0⟩:C9),false,(⟨(⟨(⟨([]:List Int),([]:List Int)⟩:Dx)⟩:BV),0,0,0,([]:List CQ)⟩:Bj),([]:List Di),([]:List Ac),([]:List Dv),(⟨(⟨0,0,(⟨0,0⟩:Aa),(⟨0,0⟩:Aa),([]:List Int),([]:List Int),0,([]:List Aa),([]:List Bv),0⟩:KF),false,0,0⟩:Fq),(⟨(⟨0,0,false,0,([]:List Aa),([]:List Bv),(⟨0,0⟩:Aa),false⟩:KE),false,0,0,0,0,0,(⟨0,0⟩:Aa),([]:List Aa),0⟩:Fv),(⟨0,0⟩:Aa),([]:List EM),([]:List DY),0,0⟩:Cb))) ( A8 (.b2 a0 (⟨(⟨(⟨0,0⟩:Gv),(⟨(⟨0,0⟩:Aa),0⟩:Bv),false,0,([]:List Am),Nr,false,0,0⟩:C9),false,(⟨(⟨(⟨([]:List Int),([]:List Int)⟩:Dx)⟩:BV),0,0,0,([]:List CQ)⟩:Bj),([]:List Di),([]:List Ac),([]:List Dv),(⟨(⟨0,0,(⟨0,0⟩:Aa),(⟨0,0⟩:Aa),([]:List Int),([]:List Int),0,([]:List Aa),([]:List Bv),0⟩:KF),false,0,0⟩:Fq),(⟨(⟨0,0,false,0,([]:List Aa),([]:List Bv),(⟨0,0⟩:Aa),false⟩:KE),false,0,0,0,0,0,(⟨0,0⟩:Aa),([]:List Aa),0⟩:Fv),(⟨0,0⟩:Aa),([]:List EM),([]:List DY),0,0⟩:Cb)))) ( A8 (.b2 a0 (⟨(⟨(⟨0,0⟩:Gv),(⟨(⟨0,0⟩:Aa),0⟩:Bv),false,0,([]:List Am),Nr,false,0,0⟩:C9),false,(⟨(⟨(⟨([]:List Int),([]:List Int)⟩:Dx)⟩:BV),0,0,0,([]:List CQ)⟩:Bj),([]:List Di),([]:List Ac),([]:List Dv),(⟨(⟨0,0,(⟨0,0⟩:Aa),(⟨0,0⟩:Aa),([]:List Int),([]:List Int),0,([]:List Aa),([]:List Bv),0⟩:KF),false,0,0⟩:Fq),(⟨(⟨0,0,false,0,([]:List Aa),([]:List Bv),(⟨0,0⟩:Aa),false⟩:KE),false,0,0,0,0,0,(⟨0,0⟩:Aa),([]:List Aa),0⟩:Fv),(⟨0,0⟩:Aa),([]:List EM),([]:List DY),0,0⟩:Cb)))))))))
 | .b1 a0=>AQ (E8,17)
 | .b2 a0 a1=>.br a0.Fa ( .br (decide (a0.Hq<1)) ( A8 (.b3 a1)) ( A8 (.b4 a0 a1))) ( A8 (.b4 a0 a1))
 | .b3 a0=>AQ (E8,5)
 | .b4 a0 a1=>.bind 65 (kD a0.Cc) (fun(x1:Int)=>.br (x1 != 0) ( AQ (E8,x1)) ( .br a0.Cc.IE ( AQ (E8,1)) ( .bind 30 (fM a0.CO) (fun(x2:List Am)=>.bind 97 (jP x2 (1:Int)) (fun(x3:(List Ac)×Int)=>.br (x3.2 != 0) ( AQ (E8,x3.2)) ( .bind 99 (kC a0.Ea) (fun(x4:BV×Int)=>.br (x4.2 != 0) ( AQ (E8,x4.2)) ( .bind 101 (jG x4.1) (fun(x5:Bj×Int)=>AQ ((⟨a0,true,x5.1,[],x3.1,[],II,IJ,(⟨0,0⟩:Aa),[],[],0,0⟩:Cb),(0:Int)))))))))))
def mX (a0:C9):Option (Cb×Int):=AY OC (.b0 a0)
def Ze9:Ai U:=⟨[34],66,fun x=>mX x.1,by decide⟩
def Wq:Lay:=LT [2] [.p 0] [.s 64]
def Wn:Lay:=LT [1,2] [.p 0,.p 1] [.s 34,.s 64]
def Zdy:lX->BI U
 | .b0 a0=>Bl Tryz.f6 [34] (a0,())
 | .b1 a0=>BA Tryz.f6 [1,1,1,1,1,1,0,1,0,0] Wq (((),()),((a0,()),()))
 | .b2 a0 a1=>BA Tryz.f6 [1,1,1,1,1,1,1,0,0] Wn (((),((),())),((a0,()),((a1,()),())))
 | .b3 a0=>BA Tryz.f6 [1,1,1,1,1,1,1,0,1,0,0] Wq (((),()),((a0,()),()))
 | .b4 a0 a1=>BA Tryz.f6 [1,1,1,1,1,1,1,1,0] Wn (((),((),())),((a0,()),((a1,()),())))
theorem ZdQ:Ag Tryz.prog B0 6 Ze9:=CZ (mc Z9Z (mc ZaP (mc ZaJ (mc ZaS (mc ZaV (mc Z82 (mc Zap (mc Zae Ar)))))))) Ap (al [(10,Wq),(11,Wn),(12,Wq),(13,Wn)]) Zdy Tryz.func6 (fun p=>by cases p<;>kernel_rfl) (by kernel_rfl) fun _=>rfl
def Z17:S1 ((List Int)×(List Int)×Unit) Bool
 | (a0,a1,_)=>.chk (Fe U 5 a0) ( .chk (Fe U 5 a1) ( AQ ((strOf U 5 a0).toList==(strOf U 5 a1).toList)))
def lD (a0 a1:List Int):Option Bool:=AY Z17 (a0,a1,())
def Zdc:Ai U:=⟨[41,41],4,fun x=>lD x.1 x.2.1,by decide⟩
theorem ZbP:Ag Tryz.prog B0 88 Zdc:=ok1 Ar Ap Tryz.func88 (fun _=>by kernel_rfl) (by kernel_rfl)
inductive iM where
 | b0 (a0 a1:List Ac)
 | b1 (a0 a1:List Ac) (a2:Int)
 | b2 (a0 a1:List Ac) (a2:Int)
def Nv:iM->Tr U (Bool⊕iM)
 | .b0 a0 a1=>.br ((↑a0.length:Int) != (↑a1.length:Int)) ( AQ false) ( A8 (.b1 a0 a1 (0:Int)))
 | .b1 a0 a1 a2=>.br (decide (a2<(↑a0.length:Int))) ( .chk (kI a2 a0) ( .bind 222 (a0[(Int.toNat a2)]?) (fun(x1:Ac)=>.chk (kI a2 a1) ( .bind 222 (a1[(Int.toNat a2)]?) (fun(x2:Ac)=>.br (x1.G8 != x2.G8) ( AQ false) ( .chk (kI a2 a0) ( .bind 222 (a0[(Int.toNat a2)]?) (fun(x3:Ac)=>.chk (kI a2 a1) ( .bind 222 (a1[(Int.toNat a2)]?) (fun(x4:Ac)=>.br (!((x3.BL.High==x4.BL.High)&&((x3.BL.Low==x4.BL.Low)&&true))) ( AQ false) ( .chk (kI a2 a0) ( .bind 222 (a0[(Int.toNat a2)]?) (fun(x5:Ac)=>.chk (kI a2 a1) ( .bind 222 (a1[(Int.toNat a2)]?) (fun(x6:Ac)=>.br (x5.EH != x6.EH) ( AQ false) ( .chk (kI a2 a0) ( .bind 222 (a0[(Int.toNat a2)]?) (fun(x7:Ac)=>.chk (kI a2 a1) ( .bind 222 (a1[(Int.toNat a2)]?) (fun(x8:Ac)=>.bind 4 (lD x7.Value x8.Value) (fun(x9:Bool)=>.br (!x9) ( AQ false) ( A8 (.b2 a0 a1 a2))))))))))))))))))))))) ( AQ true)
 | .b2 a0 a1 a2=>A8 (.b1 a0 a1 (Af (a2+1)))
def WV (a0 a1:List Ac):Option Bool:=AY Nv (.b0 a0 a1)
def Zag:Ai U:=⟨[49,49],4,fun x=>WV x.1 x.2.1,by decide⟩
def WE:Lay:=LT [0,1,5] [.v 49,.v 49,.v 3] []
def Z9e:iM->BI U
 | .b0 a0 a1=>Bl Tryz.f31 [49,49] (a0,a1,())
 | .b1 a0 a1 a2=>BA Tryz.f31 [1,1,0,1,0,0,0,0] WE (((a0,()),((a1,()),((a2,()),()))),())
 | .b2 a0 a1 a2=>BA Tryz.f31 [1,1,0,1,0,0,1,1] WE (((a0,()),((a1,()),((a2,()),()))),())
theorem ZB:Ag Tryz.prog B0 31 Zag:=CZ (mc ZbP Ar) Ap (al [(4,WE),(5,WE)]) Z9e Tryz.func31 (fun p=>by cases p<;>kernel_rfl) (by kernel_rfl) fun _=>rfl
inductive bU where
 | b0 (a0 a1:List Am)
 | b1 (a0 a1:List Am) (a2:Int)
 | b2 (a0 a1:List Am) (a2:Int) (a3 a4:Am)
 | b3 (a0 a1:List Am) (a2 a3:Int) (a4 a5:Am)
 | b4 (a0 a1:List Am) (a2 a3:Int) (a4 a5:Am)
def IG:bU->Tr U (Bool⊕bU)
 | .b0 a0 a1=>.br ((↑a0.length:Int) != (↑a1.length:Int)) ( AQ false) ( A8 (.b1 a0 a1 (0:Int)))
 | .b1 a0 a1 a2=>.br (decide (a2<(↑a0.length:Int))) ( .chk (kI a2 a0) ( .bind 40 (a0[(Int.toNat a2)]?) (fun(x1:Am)=>.chk (kI a2 a1) ( .bind 40 (a1[(Int.toNat a2)]?) (fun(x2:Am)=>.br (!((x1.BL.High==x2.BL.High)&&((x1.BL.Low==x2.BL.Low)&&true))) ( AQ false) ( .br (!(x1.KR==x2.KR)) ( AQ false) ( .br ((↑x1.BC.length:Int) != (↑x2.BC.length:Int)) ( AQ false) ( A8 (.b2 a0 a1 a2 x1 x2))))))))) ( AQ true)
 | .b2 a0 a1 a2 a3 a4=>A8 (.b3 a0 a1 a2 (0:Int) a3 a4)
 | .b3 a0 a1 a2 a3 a4 a5=>.br (decide (a3<(↑a4.BC.length:Int))) ( .chk (kI a3 a4.BC) ( .bind 179 (a4.BC[(Int.toNat a3)]?) (fun(x1:BG)=>.chk (kI a3 a5.BC) ( .bind 179 (a5.BC[(Int.toNat a3)]?) (fun(x2:BG)=>.br (!((x1.BL.High==x2.BL.High)&&((x1.BL.Low==x2.BL.Low)&&true))) ( AQ false) ( .br (x1.Props != x2.Props) ( AQ false) ( .br (x1.EH != x2.EH) ( AQ false) ( .chk (Fe U 5 x1.Value) ( .chk (Fe U 5 x2.Value) ( .br (!((strOf U 5 x1.Value).toList==(strOf U 5 x2.Value).toList)) ( AQ false) ( .bind 4 (WV x1.More x2.More) (fun(x3:Bool)=>.br (!x3) ( AQ false) ( A8 (.b4 a0 a1 a2 a3 a4 a5)))))))))))))) ( A8 (.b1 a0 a1 (Af (a2+1))))
 | .b4 a0 a1 a2 a3 a4 a5=>A8 (.b3 a0 a1 a2 (Af (a3+1)) a4 a5)
def bV (a0 a1:List Am):Option Bool:=AY IG (.b0 a0 a1)
def Z6T:Ai U:=⟨[30,30],4,fun x=>bV x.1 x.2.1,by decide⟩
def wZ:Lay:=LT [0,1,5] [.v 30,.v 30,.v 3] []
def xA:Lay:=LT [0,1,5,6,7] [.v 30,.v 30,.v 3,.p 0,.p 1] [.s 40,.s 40]
def Vk:Lay:=LT [0,1,5,6,7,8] [.v 30,.v 30,.v 3,.p 0,.p 1,.v 3] [.s 40,.s 40]
def Z6N:bU->BI U
 | .b0 a0 a1=>Bl Tryz.f84 [30,30] (a0,a1,())
 | .b1 a0 a1 a2=>BA Tryz.f84 [1,1,0,1,0,0,0,0] wZ (((a0,()),((a1,()),((a2,()),()))),())
 | .b2 a0 a1 a2 a3 a4=>BA Tryz.f84 [1,1,0,1,0,0,1,0,0,1,1,0] xA (((a0,()),((a1,()),((a2,()),((),((),()))))),((a3,()),((a4,()),())))
 | .b3 a0 a1 a2 a3 a4 a5=>BA Tryz.f84 [1,1,0,1,0,0,1,0,0,1,1,1,0,0,0,0] Vk (((a0,()),((a1,()),((a2,()),((),((),((a3,()),())))))),((a4,()),((a5,()),())))
 | .b4 a0 a1 a2 a3 a4 a5=>BA Tryz.f84 [1,1,0,1,0,0,1,0,0,1,1,1,0,0,1,1] Vk (((a0,()),((a1,()),((a2,()),((),((),((a3,()),())))))),((a4,()),((a5,()),())))
theorem Z6H:Ag Tryz.prog B0 84 Z6T:=CZ (mc ZB Ar) Ap (al [(4,wZ),(9,xA),(10,Vk),(11,Vk)]) Z6N Tryz.func84 (fun p=>by cases p<;>kernel_rfl) (by kernel_rfl) fun _=>rfl
def yK:S1 (C9×C9×Unit) Bool
 | (a0,a1,_)=>.br ((a0.Clock.He==a1.Clock.He)&&((a0.Clock.Start==a1.Clock.Start)&&true)) ( .br ((a0.DT.Address.Kind==a1.DT.Address.Kind)&&((a0.DT.Address.Bits==a1.DT.Address.Bits)&&((a0.DT.Dq==a1.DT.Dq)&&true))) ( .br (a0.Fa==a1.Fa) ( .br (a0.Hq==a1.Hq) ( .br ((a0.Cc.IO==a1.Cc.IO)&&((a0.Cc.IE==a1.Cc.IE)&&((a0.Cc.Rz==a1.Cc.Rz)&&((a0.Cc.Yf==a1.Cc.Yf)&&((a0.Cc.YR==a1.Cc.YR)&&((a0.Cc.YM==a1.Cc.YM)&&true)))))) ( .br (a0.RP==a1.RP) ( .br (a0.Hz==a1.Hz) ( .br (a0.Ea==a1.Ea) ( .bind 4 (bV a0.CO a1.CO) (fun(x1:Bool)=>AQ x1)) ( AQ false)) ( AQ false)) ( AQ false)) ( AQ false)) ( AQ false)) ( AQ false)) ( AQ false)) ( AQ false)
def dH (a0 a1:C9):Option Bool:=AY yK (a0,a1,())
def Z7A:Ai U:=⟨[34,34],4,fun x=>dH x.1 x.2.1,by decide⟩
theorem Z73:Ag Tryz.prog B0 28 Z7A:=ok1 (mc Z6H Ar) Ap Tryz.func28 (fun _=>by kernel_rfl) (by kernel_rfl)
def zB:S1 (BV×BV×Unit) Bool
 | (a0,a1,_)=>.chk (Fe U 5 a0.DV.x0) ( .chk (Fe U 5 a1.DV.x0) ( .br ((strOf U 5 a0.DV.x0).toList==(strOf U 5 a1.DV.x0).toList) ( .chk (Fe U 5 a0.DV.x1) ( .chk (Fe U 5 a1.DV.x1) ( AQ ((strOf U 5 a0.DV.x1).toList==(strOf U 5 a1.DV.x1).toList)))) ( AQ false)))
def dR (a0 a1:BV):Option Bool:=AY zB (a0,a1,())
def Z84:Ai U:=⟨[44,44],4,fun x=>dR x.1 x.2.1,by decide⟩
theorem Z7o:Ag Tryz.prog B0 85 Z84:=ok1 Ar Ap Tryz.func85 (fun _=>by kernel_rfl) (by kernel_rfl)
inductive dU where
 | b0 (a0 a1:List CQ)
 | b1 (a0 a1:List CQ) (a2:Int)
 | b2 (a0 a1:List CQ) (a2:Int)
def Z8a:dU->Tr U (Bool⊕dU)
 | .b0 a0 a1=>.br ((↑a0.length:Int) != (↑a1.length:Int)) ( AQ false) ( A8 (.b1 a0 a1 (0:Int)))
 | .b1 a0 a1 a2=>.br (decide (a2<(↑a0.length:Int))) ( .chk (kI a2 a0) ( .bind 254 (a0[(Int.toNat a2)]?) (fun(x1:CQ)=>.chk (kI a2 a1) ( .bind 254 (a1[(Int.toNat a2)]?) (fun(x2:CQ)=>.br (x1.Key != x2.Key) ( AQ false) ( .chk (kI a2 a0) ( .bind 254 (a0[(Int.toNat a2)]?) (fun(x3:CQ)=>.chk (Fe U 5 x3.Value) ( .chk (kI a2 a1) ( .bind 254 (a1[(Int.toNat a2)]?) (fun(x4:CQ)=>.chk (Fe U 5 x4.Value) ( .br (!((strOf U 5 x3.Value).toList==(strOf U 5 x4.Value).toList)) ( AQ false) ( A8 (.b2 a0 a1 a2)))))))))))))) ( AQ true)
 | .b2 a0 a1 a2=>A8 (.b1 a0 a1 (Af (a2+1)))
def dS (a0 a1:List CQ):Option Bool:=AY Z8a (.b0 a0 a1)
def Z7U:Ai U:=⟨[45,45],4,fun x=>dS x.1 x.2.1,by decide⟩
def Vt:Lay:=LT [0,1,5] [.v 45,.v 45,.v 3] []
def Z7x:dU->BI U
 | .b0 a0 a1=>Bl Tryz.f86 [45,45] (a0,a1,())
 | .b1 a0 a1 a2=>BA Tryz.f86 [1,1,0,1,0,0,0,0] Vt (((a0,()),((a1,()),((a2,()),()))),())
 | .b2 a0 a1 a2=>BA Tryz.f86 [1,1,0,1,0,0,1,1] Vt (((a0,()),((a1,()),((a2,()),()))),())
theorem Z7j:Ag Tryz.prog B0 86 Z7U:=CZ Ar Ap (al [(4,Vt),(5,Vt)]) Z7x Tryz.func86 (fun p=>by cases p<;>kernel_rfl) (by kernel_rfl) fun _=>rfl
def Z0X:S1 (Bj×Bj×Unit) Bool
 | (a0,a1,_)=>.bind 4 (dR a0.Gh a1.Gh) (fun(x1:Bool)=>.br x1 ( .br (a0.Ew==a1.Ew) ( .br (a0.Count==a1.Count) ( .br (a0.End==a1.End) ( .bind 4 (dS a0.Items a1.Items) (fun(x2:Bool)=>AQ x2)) ( AQ false)) ( AQ false)) ( AQ false)) ( AQ false))
def kZ (a0 a1:Bj):Option Bool:=AY Z0X (a0,a1,())
def Zcd:Ai U:=⟨[47,47],4,fun x=>kZ x.1 x.2.1,by decide⟩
theorem ZbB:Ag Tryz.prog B0 29 Zcd:=ok1 (mc Z7o (mc Z7j Ar)) Ap Tryz.func29 (fun _=>by kernel_rfl) (by kernel_rfl)
inductive fC where
 | b0 (a0 a1:Di)
 | b1 (a0 a1:Di)
 | b2 (a0:Int) (a1 a2:Di)
def Z8s:fC->Tr U (Bool⊕fC)
 | .b0 a0 a1=>.br (!((a0.GX.Address.Kind==a1.GX.Address.Kind)&&((a0.GX.Address.Bits==a1.GX.Address.Bits)&&((a0.GX.Dq==a1.GX.Dq)&&true)))) ( AQ false) ( .br (a0.V8 != a1.V8) ( AQ false) ( .br (a0.Mark != a1.Mark) ( AQ false) ( .br (!(a0.qK==a1.qK)) ( AQ false) ( .br (a0.Hash != a1.Hash) ( AQ false) ( .br (!(a0.Ut==a1.Ut)) ( AQ false) ( .br (a0.tK != a1.tK) ( AQ false) ( .br ((↑a0.ML.length:Int) != (↑a1.ML.length:Int)) ( AQ false) ( A8 (.b1 a0 a1)))))))))
 | .b1 a0 a1=>A8 (.b2 (0:Int) a0 a1)
 | .b2 a0 a1 a2=>.br (decide (a0<(↑a1.ML.length:Int))) ( .chk (kI a0 a1.ML) ( .bind 265 (a1.ML[(Int.toNat a0)]?) (fun(x1:FN)=>.chk (kI a0 a2.ML) ( .bind 265 (a2.ML[(Int.toNat a0)]?) (fun(x2:FN)=>.br (!((x1.G8==x2.G8)&&((x1.Bits==x2.Bits)&&true))) ( AQ false) ( A8 (.b2 (Af (a0+1)) a1 a2))))))) ( AQ true)
def Zb (a0 a1:Di):Option Bool:=AY Z8s (.b0 a0 a1)
def Z90:Ai U:=⟨[192,192],4,fun x=>Zb x.1 x.2.1,by decide⟩
def yJ:Lay:=LT [2,3] [.p 0,.p 1] [.s 192,.s 192]
def yG:Lay:=LT [2,3,5] [.p 0,.p 1,.v 3] [.s 192,.s 192]
def Z7P:fC->BI U
 | .b0 a0 a1=>Bl Tryz.f87 [192,192] (a0,a1,())
 | .b1 a0 a1=>BA Tryz.f87 [1,1,0,0] yJ (((),((),())),((a0,()),((a1,()),())))
 | .b2 a0 a1 a2=>BA Tryz.f87 [1,1,0,1,0,0,0,0] yG (((),((),((a0,()),()))),((a1,()),((a2,()),())))
theorem Z7T:Ag Tryz.prog B0 87 Z90:=CZ Ar Ap (al [(3,yJ),(4,yG)]) Z7P Tryz.func87 (fun p=>by cases p<;>kernel_rfl) (by kernel_rfl) fun _=>rfl
inductive lG where
 | b0 (a0 a1:List Di)
 | b1 (a0 a1:List Di) (a2:Int)
def Zdl:lG->Tr U (Bool⊕lG)
 | .b0 a0 a1=>.br ((↑a0.length:Int) != (↑a1.length:Int)) ( AQ false) ( A8 (.b1 a0 a1 (0:Int)))
 | .b1 a0 a1 a2=>.br (decide (a2<(↑a0.length:Int))) ( .chk (kI a2 a0) ( .bind 192 (a0[(Int.toNat a2)]?) (fun(x1:Di)=>.chk (kI a2 a1) ( .bind 192 (a1[(Int.toNat a2)]?) (fun(x2:Di)=>.bind 4 (Zb x1 x2) (fun(x3:Bool)=>.br (!x3) ( AQ false) ( A8 (.b1 a0 a1 (Af (a2+1)))))))))) ( AQ true)
def kP (a0 a1:List Di):Option Bool:=AY Zdl (.b0 a0 a1)
def Zcs:Ai U:=⟨[48,48],4,fun x=>kP x.1 x.2.1,by decide⟩
def Z00:Lay:=LT [0,1,5] [.v 48,.v 48,.v 3] []
def Zbq:lG->BI U
 | .b0 a0 a1=>Bl Tryz.f30 [48,48] (a0,a1,())
 | .b1 a0 a1 a2=>BA Tryz.f30 [1,1,0,1,0,0,0,0] Z00 (((a0,()),((a1,()),((a2,()),()))),())
theorem Zc2:Ag Tryz.prog B0 30 Zcs:=CZ (mc Z7T Ar) Ap (al [(4,Z00)]) Zbq Tryz.func30 (fun p=>by cases p<;>kernel_rfl) (by kernel_rfl) fun _=>rfl
def Z1n:S1 ((List Int)×(List Int)×Unit) Bool
 | (a0,a1,_)=>.chk (Fe U 5 a0) ( .chk (Fe U 5 a1) ( AQ ((strOf U 5 a0).toList==(strOf U 5 a1).toList)))
def Tu (a0 a1:List Int):Option Bool:=AY Z1n (a0,a1,())
def ZcM:Ai U:=⟨[41,41],4,fun x=>Tu x.1 x.2.1,by decide⟩
theorem Zbx:Ag Tryz.prog B0 89 ZcM:=ok1 Ar Ap Tryz.func89 (fun _=>by kernel_rfl) (by kernel_rfl)
inductive kQ where
 | b0 (a0 a1:List Aa)
 | b1 (a0 a1:List Aa) (a2:Int)
def ZdO:kQ->Tr U (Bool⊕kQ)
 | .b0 a0 a1=>.br ((↑a0.length:Int) != (↑a1.length:Int)) ( AQ false) ( A8 (.b1 a0 a1 (0:Int)))
 | .b1 a0 a1 a2=>.br (decide (a2<(↑a0.length:Int))) ( .chk (kI a2 a0) ( .bind 26 (a0[(Int.toNat a2)]?) (fun(x1:Aa)=>.chk (kI a2 a1) ( .bind 26 (a1[(Int.toNat a2)]?) (fun(x2:Aa)=>.br (!((x1.Kind==x2.Kind)&&((x1.Bits==x2.Bits)&&true))) ( AQ false) ( A8 (.b1 a0 a1 (Af (a2+1))))))))) ( AQ true)
def Tm (a0 a1:List Aa):Option Bool:=AY ZdO (.b0 a0 a1)
def Zcf:Ai U:=⟨[51,51],4,fun x=>Tm x.1 x.2.1,by decide⟩
def Z0d:Lay:=LT [0,1,5] [.v 51,.v 51,.v 3] []
def ZbS:kQ->BI U
 | .b0 a0 a1=>Bl Tryz.f90 [51,51] (a0,a1,())
 | .b1 a0 a1 a2=>BA Tryz.f90 [1,1,0,1,0,0,0,0] Z0d (((a0,()),((a1,()),((a2,()),()))),())
theorem Z0O:Ag Tryz.prog B0 90 Zcf:=CZ Ar Ap (al [(4,Z0d)]) ZbS Tryz.func90 (fun p=>by cases p<;>kernel_rfl) (by kernel_rfl) fun _=>rfl
inductive bG where
 | b0 (a0 a1:List Bv)
 | b1 (a0 a1:List Bv) (a2:Int)
def Z6q:bG->Tr U (Bool⊕bG)
 | .b0 a0 a1=>.br ((↑a0.length:Int) != (↑a1.length:Int)) ( AQ false) ( A8 (.b1 a0 a1 (0:Int)))
 | .b1 a0 a1 a2=>.br (decide (a2<(↑a0.length:Int))) ( .chk (kI a2 a0) ( .bind 29 (a0[(Int.toNat a2)]?) (fun(x1:Bv)=>.chk (kI a2 a1) ( .bind 29 (a1[(Int.toNat a2)]?) (fun(x2:Bv)=>.br (!((x1.Address.Kind==x2.Address.Kind)&&((x1.Address.Bits==x2.Address.Bits)&&((x1.Dq==x2.Dq)&&true)))) ( AQ false) ( A8 (.b1 a0 a1 (Af (a2+1))))))))) ( AQ true)
def Vj (a0 a1:List Bv):Option Bool:=AY Z6q (.b0 a0 a1)
def Z6u:Ai U:=⟨[52,52],4,fun x=>Vj x.1 x.2.1,by decide⟩
def wL:Lay:=LT [0,1,5] [.v 52,.v 52,.v 3] []
def Z6h:bG->BI U
 | .b0 a0 a1=>Bl Tryz.f91 [52,52] (a0,a1,())
 | .b1 a0 a1 a2=>BA Tryz.f91 [1,1,0,1,0,0,0,0] wL (((a0,()),((a1,()),((a2,()),()))),())
theorem wR:Ag Tryz.prog B0 91 Z6u:=CZ Ar Ap (al [(4,wL)]) Z6h Tryz.func91 (fun p=>by cases p<;>kernel_rfl) (by kernel_rfl) fun _=>rfl
inductive kX where
 | b0 (a0 a1:Fq)
 | b1 (a0 a1:Fq) (a2 a3:KF)
 | b2 (a0 a1:Fq)
def XF:kX->Tr U (Bool⊕kX)
 | .b0 a0 a1=>.br (a0.CX.Kind != a1.CX.Kind) ( AQ false) ( .br (a0.CX.NH != a1.CX.NH) ( AQ false) ( .br (!((a0.CX.Own.Kind==a1.CX.Own.Kind)&&((a0.CX.Own.Bits==a1.CX.Own.Bits)&&true))) ( AQ false) ( .br (!((a0.CX.Target.Kind==a1.CX.Target.Kind)&&((a0.CX.Target.Bits==a1.CX.Target.Bits)&&true))) ( AQ false) ( .br (a0.CX.PS != a1.CX.PS) ( AQ false) ( .br (a0.CX.Hz != a1.CX.Hz) ( AQ false) ( A8 (.b1 a0 a1 a0.CX a1.CX)))))))
 | .b1 a0 a1 a2 a3=>.bind 4 (Tu a2.Data a3.Data) (fun(x1:Bool)=>.br (!x1) ( AQ false) ( .bind 4 (Tu a2.VG a3.VG) (fun(x2:Bool)=>.br (!x2) ( AQ false) ( .bind 4 (Tm a2.KZ a3.KZ) (fun(x3:Bool)=>.br (!x3) ( AQ false) ( .bind 4 (Vj a2.KJ a3.KJ) (fun(x4:Bool)=>.br (!x4) ( AQ false) ( A8 (.b2 a0 a1)))))))))
 | .b2 a0 a1=>.br (a0.On==a1.On) ( .br (a0.Event==a1.Event) ( AQ (a0.Next==a1.Next)) ( AQ false)) ( AQ false)
def kY (a0 a1:Fq):Option Bool:=AY XF (.b0 a0 a1)
def ZcX:Ai U:=⟨[56,56],4,fun x=>kY x.1 x.2.1,by decide⟩
def Z0k:Lay:=LT [2,3,5,6] [.p 0,.p 1,.p 2,.p 3] [.s 56,.s 56,.s 54,.s 54]
def Z0i:Lay:=LT [2,3] [.p 0,.p 1] [.s 56,.s 56]
def Zb6:kX->BI U
 | .b0 a0 a1=>Bl Tryz.f32 [56,56] (a0,a1,())
 | .b1 a0 a1 a2 a3=>BA Tryz.f32 [1,1,1,0,0] Z0k (((),((),((),((),())))),((a0,()),((a1,()),((a2,()),((a3,()),())))))
 | .b2 a0 a1=>BA Tryz.f32 [1,1,1,1,0] Z0i (((),((),())),((a0,()),((a1,()),())))
theorem ZbC:Ag Tryz.prog B0 32 ZcX:=CZ (mc Zbx (mc Z0O (mc wR Ar))) Ap (al [(4,Z0k),(6,Z0i)]) Zb6 Tryz.func32 (fun p=>by cases p<;>kernel_rfl) (by kernel_rfl) fun _=>rfl
inductive kG where
 | b0 (a0 a1:Fv)
 | b1 (a0 a1:Fv) (a2 a3:KE)
 | b2 (a0 a1:Fv)
def XE:kG->Tr U (Bool⊕kG)
 | .b0 a0 a1=>.br (a0.CX.NH != a1.CX.NH) ( AQ false) ( .br (a0.CX.rG != a1.CX.rG) ( AQ false) ( .br (!(a0.CX.qV==a1.CX.qV)) ( AQ false) ( .br (a0.CX.PS != a1.CX.PS) ( AQ false) ( .br (!((a0.CX.Own.Kind==a1.CX.Own.Kind)&&((a0.CX.Own.Bits==a1.CX.Own.Bits)&&true))) ( AQ false) ( .br (!(a0.CX.rE==a1.CX.rE)) ( AQ false) ( A8 (.b1 a0 a1 a0.CX a1.CX)))))))
 | .b1 a0 a1 a2 a3=>.bind 4 (Tm a2.KZ a3.KZ) (fun(x1:Bool)=>.br (!x1) ( AQ false) ( .bind 4 (Vj a2.KJ a3.KJ) (fun(x2:Bool)=>.br (!x2) ( AQ false) ( .bind 4 (Tm a0.Seen a1.Seen) (fun(x3:Bool)=>.br (!x3) ( AQ false) ( A8 (.b2 a0 a1)))))))
 | .b2 a0 a1=>.br (a0.On==a1.On) ( .br (a0.Start==a1.Start) ( .br (a0.Upper==a1.Upper) ( .br (a0.Count==a1.Count) ( .br (a0.Fails==a1.Fails) ( .br (a0.uM==a1.uM) ( .br ((a0.Wait.Kind==a1.Wait.Kind)&&((a0.Wait.Bits==a1.Wait.Bits)&&true)) ( AQ (a0.Hz==a1.Hz)) ( AQ false)) ( AQ false)) ( AQ false)) ( AQ false)) ( AQ false)) ( AQ false)) ( AQ false)
def lT (a0 a1:Fv):Option Bool:=AY XE (.b0 a0 a1)
def Zd8:Ai U:=⟨[60,60],4,fun x=>lT x.1 x.2.1,by decide⟩
def Z05:Lay:=LT [2,3,5,6] [.p 0,.p 1,.p 2,.p 3] [.s 60,.s 60,.s 58,.s 58]
def Z07:Lay:=LT [2,3] [.p 0,.p 1] [.s 60,.s 60]
def ZbN:kG->BI U
 | .b0 a0 a1=>Bl Tryz.f33 [60,60] (a0,a1,())
 | .b1 a0 a1 a2 a3=>BA Tryz.f33 [1,1,1,0,0] Z05 (((),((),((),((),())))),((a0,()),((a1,()),((a2,()),((a3,()),())))))
 | .b2 a0 a1=>BA Tryz.f33 [1,1,1,1,0] Z07 (((),((),())),((a0,()),((a1,()),())))
theorem Zb4:Ag Tryz.prog B0 33 Zd8:=CZ (mc Z0O (mc wR Ar)) Ap (al [(4,Z05),(6,Z07)]) ZbN Tryz.func33 (fun p=>by cases p<;>kernel_rfl) (by kernel_rfl) fun _=>rfl
inductive dK where
 | b0 (a0 a1:List DY)
 | b1 (a0 a1:List DY) (a2:Int)
 | b2 (a0 a1:List DY) (a2:Int)
def Z7q:dK->Tr U (Bool⊕dK)
 | .b0 a0 a1=>.br ((↑a0.length:Int) != (↑a1.length:Int)) ( AQ false) ( A8 (.b1 a0 a1 (0:Int)))
 | .b1 a0 a1 a2=>.br (decide (a2<(↑a0.length:Int))) ( .chk (kI a2 a0) ( .bind 203 (a0[(Int.toNat a2)]?) (fun(x1:DY)=>.chk (kI a2 a1) ( .bind 203 (a1[(Int.toNat a2)]?) (fun(x2:DY)=>.br (x1.Ew != x2.Ew) ( AQ false) ( .chk (kI a2 a0) ( .bind 203 (a0[(Int.toNat a2)]?) (fun(x3:DY)=>.chk (kI a2 a1) ( .bind 203 (a1[(Int.toNat a2)]?) (fun(x4:DY)=>.br (!(x3.rX==x4.rX)) ( AQ false) ( .chk (kI a2 a0) ( .bind 203 (a0[(Int.toNat a2)]?) (fun(x5:DY)=>.chk (kI a2 a1) ( .bind 203 (a1[(Int.toNat a2)]?) (fun(x6:DY)=>.br (x5.NV != x6.NV) ( AQ false) ( .chk (kI a2 a0) ( .bind 203 (a0[(Int.toNat a2)]?) (fun(x7:DY)=>.chk (Fe U 5 x7.Bytes) ( .chk (kI a2 a1) ( .bind 203 (a1[(Int.toNat a2)]?) (fun(x8:DY)=>.chk (Fe U 5 x8.Bytes) ( .br (!((strOf U 5 x7.Bytes).toList==(strOf U 5 x8.Bytes).toList)) ( AQ false) ( A8 (.b2 a0 a1 a2)))))))))))))))))))))))) ( AQ true)
 | .b2 a0 a1 a2=>A8 (.b1 a0 a1 (Af (a2+1)))
def dJ (a0 a1:List DY):Option Bool:=AY Z7q (.b0 a0 a1)
def Z7u:Ai U:=⟨[62,62],4,fun x=>dJ x.1 x.2.1,by decide⟩
def Vq:Lay:=LT [0,1,5] [.v 62,.v 62,.v 3] []
def Z79:dK->BI U
 | .b0 a0 a1=>Bl Tryz.f34 [62,62] (a0,a1,())
 | .b1 a0 a1 a2=>BA Tryz.f34 [1,1,0,1,0,0,0,0] Vq (((a0,()),((a1,()),((a2,()),()))),())
 | .b2 a0 a1 a2=>BA Tryz.f34 [1,1,0,1,0,0,1,1] Vq (((a0,()),((a1,()),((a2,()),()))),())
theorem Z71:Ag Tryz.prog B0 34 Z7u:=CZ Ar Ap (al [(4,Vq),(5,Vq)]) Z79 Tryz.func34 (fun p=>by cases p<;>kernel_rfl) (by kernel_rfl) fun _=>rfl
inductive lL where
 | b0 (a0 a1:Cb)
 | b1 (a0 a1:Cb)
 | b2 (a0:Int) (a1 a2:Cb)
 | b3 (a0:Int) (a1 a2:Cb)
 | b4 (a0 a1:Cb)
def Om:lL->Tr U (Bool⊕lL)
 | .b0 a0 a1=>.br ((↑a0.N9.length:Int) != (↑a1.N9.length:Int)) ( AQ false) ( .br ((↑a0.JI.length:Int) != (↑a1.JI.length:Int)) ( AQ false) ( A8 (.b1 a0 a1)))
 | .b1 a0 a1=>A8 (.b2 (0:Int) a0 a1)
 | .b2 a0 a1 a2=>.br (decide (a0<(↑a1.N9.length:Int))) ( .chk (kI a0 a1.N9) ( .bind 158 (a1.N9[(Int.toNat a0)]?) (fun(x1:EM)=>.chk (kI a0 a2.N9) ( .bind 158 (a2.N9[(Int.toNat a0)]?) (fun(x2:EM)=>.fail))))) ( A8 (.b3 (0:Int) a1 a2))
 | .b3 a0 a1 a2=>.br (decide (a0<(↑a1.JI.length:Int))) ( .chk (kI a0 a1.JI) ( .bind 160 (a1.JI[(Int.toNat a0)]?) (fun(x1:Dv)=>.chk (kI a0 a2.JI) ( .bind 160 (a2.JI[(Int.toNat a0)]?) (fun(x2:Dv)=>.br (!((x1.GX.Kind==x2.GX.Kind)&&((x1.GX.Bits==x2.GX.Bits)&&true))) ( AQ false) ( .chk (kI a0 a1.JI) ( .bind 160 (a1.JI[(Int.toNat a0)]?) (fun(x3:Dv)=>.chk (kI a0 a2.JI) ( .bind 160 (a2.JI[(Int.toNat a0)]?) (fun(x4:Dv)=>.fail)))))))))) ( .br (!(a1.Up==a2.Up)) ( AQ false) ( .br (!((a1.Rn.Kind==a2.Rn.Kind)&&((a1.Rn.Bits==a2.Rn.Bits)&&true))) ( AQ false) ( .br (a1.X4 != a2.X4) ( AQ false) ( .br (a1.YS != a2.YS) ( AQ false) ( A8 (.b4 a1 a2))))))
 | .b4 a0 a1=>.bind 4 (dH a0.GH a1.GH) (fun(x1:Bool)=>.br x1 ( .bind 4 (kZ a0.Store a1.Store) (fun(x2:Bool)=>.br x2 ( .bind 4 (kP a0.Y1 a1.Y1) (fun(x3:Bool)=>.br x3 ( .bind 4 (WV a0.DB a1.DB) (fun(x4:Bool)=>.br x4 ( .bind 4 (kY a0.XG a1.XG) (fun(x5:Bool)=>.br x5 ( .bind 4 (lT a0.Xo a1.Xo) (fun(x6:Bool)=>.br x6 ( .bind 4 (dJ a0.Writes a1.Writes) (fun(x7:Bool)=>AQ x7)) ( AQ false))) ( AQ false))) ( AQ false))) ( AQ false))) ( AQ false))) ( AQ false))
def Tt (a0 a1:Cb):Option Bool:=AY Om (.b0 a0 a1)
def Zcv:Ai U:=⟨[64,64],4,fun x=>Tt x.1 x.2.1,by decide⟩
def WW:Lay:=LT [2,3] [.p 0,.p 1] [.s 64,.s 64]
def ZY:Lay:=LT [2,3,5] [.p 0,.p 1,.v 3] [.s 64,.s 64]
def Z0c:Lay:=LT [2,3,6] [.p 0,.p 1,.v 3] [.s 64,.s 64]
def Zby:lL->BI U
 | .b0 a0 a1=>Bl Tryz.f7 [64,64] (a0,a1,())
 | .b1 a0 a1=>BA Tryz.f7 [1,1,0,0] WW (((),((),())),((a0,()),((a1,()),())))
 | .b2 a0 a1 a2=>BA Tryz.f7 [1,1,0,1,0,0,0,0] ZY (((),((),((a0,()),()))),((a1,()),((a2,()),())))
 | .b3 a0 a1 a2=>BA Tryz.f7 [1,1,1,0,1,0,0,0,0] Z0c (((),((),((a0,()),()))),((a1,()),((a2,()),())))
 | .b4 a0 a1=>BA Tryz.f7 [1,1,1,1,1,0] WW (((),((),())),((a0,()),((a1,()),())))
theorem Zbl:Ag Tryz.prog B0 7 Zcv:=CZ (mc Z73 (mc ZbB (mc Zc2 (mc ZB (mc ZbC (mc Zb4 (mc Z71 Ar))))))) Ap (al [(3,WW),(4,ZY),(9,Z0c),(15,WW)]) Zby Tryz.func7 (fun p=>by cases p<;>kernel_rfl) (by kernel_rfl) fun _=>rfl
end
noncomputable section
def iW:S1 (Int×Int×Unit) Int
 | (a0,a1,_)=>.br (decide (a1<=0)) ( AQ (0:Int)) ( .br (decide (a1>=64)) ( AQ a0) ( .chk (decide (0<=a1)) ( AQ (bits .and .u64 a0 (IntKind.wrap .u64 ((IntKind.wrap .u64 ((1:Int)*2 ^ (min (Int.toNat a1) (IntKind.bits .u64)))) - 1))))))
def Nu (a0 a1:Int):Option Int:=AY iW (a0,a1,())
def ZaI:Ai U:=⟨[24,3],24,fun x=>Nu x.1 x.2.1,by decide⟩
def gK:S1 (Int×Unit) Hf
 | (a0,_)=>.bind 24 (Nu a0 (32:Int)) (fun(x1:Int)=>AQ (⟨(IntKind.wrap .u32 ((Int.fdiv a0 (2 ^ (32:Nat))))),(IntKind.wrap .u32 (x1))⟩:Hf))
def WJ (a0:Int):Option Hf:=AY gK (a0,())
def Z95:Ai U:=⟨[24],525,fun x=>WJ x.1,by decide⟩
def vZ:S1 (Int×Int×Unit) Int
 | (a0,a1,_)=>.chk (decide (0<=(bits .and .u64 (IntKind.wrap .u64 (a1)) (63:Int)))) ( .chk (decide (0<=(IntKind.wrap .u64 ((64:Int) - (bits .and .u64 (IntKind.wrap .u64 (a1)) (63:Int)))))) ( AQ (bits .or .u64 (IntKind.wrap .u64 (a0*2 ^ (min (Int.toNat (bits .and .u64 (IntKind.wrap .u64 (a1)) (63:Int))) (IntKind.bits .u64)))) (Int.fdiv a0 (2 ^ (min (Int.toNat (IntKind.wrap .u64 ((64:Int) - (bits .and .u64 (IntKind.wrap .u64 (a1)) (63:Int))))) (IntKind.bits .u64)))))))
def QR (a0 a1:Int):Option Int:=AY vZ (a0,a1,())
def Z5J:Ai U:=⟨[24,3],24,fun x=>QR x.1 x.2.1,by decide⟩
def vS:S1 (Int×Int×Unit) Int
 | (a0,a1,_)=>.chk (decide (0<=(bits .and .u64 (IntKind.wrap .u64 (a1)) (31:Int)))) ( .chk (decide (0<=(IntKind.wrap .u64 ((32:Int) - (bits .and .u64 (IntKind.wrap .u64 (a1)) (31:Int)))))) ( AQ (bits .or .u32 (IntKind.wrap .u32 (a0*2 ^ (min (Int.toNat (bits .and .u64 (IntKind.wrap .u64 (a1)) (31:Int))) (IntKind.bits .u32)))) (Int.fdiv a0 (2 ^ (min (Int.toNat (IntKind.wrap .u64 ((32:Int) - (bits .and .u64 (IntKind.wrap .u64 (a1)) (31:Int))))) (IntKind.bits .u32)))))))
def Nq (a0 a1:Int):Option Int:=AY vS (a0,a1,())
def Z5B:Ai U:=⟨[111,3],111,fun x=>Nq x.1 x.2.1,by decide⟩
def gG:S1 (Int×Int×Int×Unit) Int
 | (a0,a1,a2,_)=>.bind 24 (QR a0 (Int.tmod (Af ((11:Int)*(Int.tmod a1 64))) (64:Int))) (fun(x1:Int)=>.bind 24 (Nu x1 (32:Int)) (fun(x2:Int)=>.bind 111 (Nq (IntKind.wrap .u32 (a2+(IntKind.wrap .u32 (x2)))) (7:Int)) (fun(x3:Int)=>.bind 111 (Nq (IntKind.wrap .u32 (x2)) (16:Int)) (fun(x4:Int)=>AQ (bits .xor .u32 (IntKind.wrap .u32 (x3*2654435761)) x4)))))
def TM (a0 a1 a2:Int):Option Int:=AY gG (a0,a1,a2,())
def Z9t:Ai U:=⟨[27,3,111],111,fun x=>TM x.1 x.2.1 x.2.2.1,by decide⟩
def Vo:S1 (Hf×Unit) Int
 | (a0,_)=>AQ (bits .or .u64 (IntKind.wrap .u64 ((IntKind.wrap .u64 (a0.x0))*2 ^ (32:Nat))) (IntKind.wrap .u64 (a0.x1)))
def TF (a0:Hf):Option Int:=AY Vo (a0,())
def Z6J:Ai U:=⟨[525],24,fun x=>TF x.1,by decide⟩
inductive jT where
 | b0 (a0 a1:Int)
 | b1 (a0 a1:Int) (a2:Hf)
def G5:jT->Tr U (Int⊕jT)
 | .b0 a0 a1=>.bind 525 (WJ a1) (fun(x1:Hf)=>A8 (.b1 a0 (0:Int) x1))
 | .b1 a0 a1 a2=>.br (decide (a1<8)) ( .bind 111 (TM a0 a1 a2.x1) (fun(x1:Int)=>A8 (.b1 a0 (Af (a1+1)) (⟨a2.x1,(bits .xor .u32 a2.x0 x1)⟩:Hf)))) ( .bind 24 (TF a2) (fun(x2:Int)=>AQ x2))
def KH (a0 a1:Int):Option Int:=AY G5 (.b0 a0 a1)
def jR:Ai U:=⟨[27,24],24,fun x=>KH x.1 x.2.1,by decide⟩
def Ze:Lay:=LT [0,5,9] [.v 27,.p 0,.v 3] [.s 525]
def Zaf:jT->BI U
 | .b0 a0 a1=>Bl Tryz.f274 [27,24] (a0,a1,())
 | .b1 a0 a1 a2=>BA Tryz.f274 [1,1,0,1,0,0,0] Ze (((a0,()),((),((a1,()),()))),((a2,()),()))
end
end Go.Proofs.YtlabamnhpgoekaaGreatDoor
