/- . -/
import Derived.Test.YtjodhcdmhobmoaaGreatDoorVQ2b
set_option linter.unusedVariables false
set_option linter.unusedSimpArgs false
namespace Go.Proofs.YtjodhcdmhobmoaaGreatDoor
open Go Go.Proofs.YtjodhcdmhobmoaaGreatDoor.Le
set_option maxRecDepth 100000
set_option linter.defProp false
set_option maxHeartbeats 40000000
open Go Go.Proofs.YtjodhcdmhobmoaaGreatDoor.Le Go.Proofs.YtjodhcdmhobmoaaGreatDoor.Na
theorem Nq:(∀(z:A7) (C:Int),BM z->∃r,Z1R z C=some r/\True) /\
  (∀(z:A7) (C:Bool) (G:Int),BM z->CU G->∃r,Z1W z C G=some r/\BM r.1/\r.2.length<=2/\FX r.2) /\
  (∀(z:BJ),∃r,gI z=some r/\True) /\
  (∀(z:List Int),z.length<=37->IV z->∃r,Z4i z=some r/\CU r) /\
  (∀(z:List BJ),z.length<=37->∃r,Z2z z=some r/\r.length<=37) /\
  (∀(z:List Int) (C:Int),0<=C->C+9<=(z.length:Int)->z.length<=1000000->∃r,pR z C=some r/\True) /\
  (∀(z:A7) (C:AO),BM z->CY C->∃r,uZ z C=some r/\BM r.1/\r.2.length<=1) /\
  (∀(z:A7) (C:AO) (G:Int),BM z->CY C->∃r,U0 z C G=some r/\BM r.1/\r.2.1.length<=8/\FX r.2.1/\r.2.2.length<=1) /\
  (∀(z:A7) (C:AO),BM z->CY C->∃r,o6 z C=some r/\BM r.1/\r.2.1.length<=8/\FX r.2.1/\r.2.2.length<=1) /\
  (∀(z:A7) (C:AO) (G:Int),BM z->CY C->∃r,oQ z C G=some r/\BM r.1/\r.2.1.length<=8/\FX r.2.1/\r.2.2.length<=1) /\
  (∀(z:A7) (C:AO),BM z->CY C->∃r,oU z C=some r/\BM r.1/\r.2.1.length<=8/\FX r.2.1/\r.2.2.length<=1) /\
  (∀(z:A7) (C:AO),BM z->CY C->∃r,Ry z C=some r/\BM r.1/\r.2.1.length<=8/\FX r.2.1/\r.2.2.length<=1):=by
 refine⟨fun z C F=>CW (fun(p:bM)=>match p with | .b0 q _=>BM q | .b1 _ A=>BM A | .b2 _ A=>BM A) (fun(p:bM)=>match p with | .b0 ..=>(0,0,2) | .b1 ..=>(0,0,1) | .b2 ..=>(0,0,0)) ?_ _ ?_,
  fun z C G F I=>CW (fun(p:dF)=>match p with | .b0 q _ D=>BM q/\CU D | .b1 _ A D _=>BM D/\CU A) (fun(p:dF)=>match p with | .b0 ..=>(0,0,1) | .b1 ..=>(0,0,0)) ?_ _ ?_,
  fun z=>Cc (True) ?_ fun hp=>?_,
  fun z F I=>CW (fun(p:jS)=>match p with | .b0 q=>q.length<=37/\IV q | .b1 q A D=>q.length<=37/\(IV q)/\0<=D/\D<=(q.length:Int)/\CU A) (fun(p:jS)=>match p with | .b0 ..=>(1,0,0) | .b1 q _ D=>(0,((q.length:Int) - D).toNat,0)) ?_ _ ?_,
  fun z F=>CW (fun(p:fM)=>match p with | .b0 q=>q.length<=37 | .b1 q A D=>q.length<=37/\A.length<=37/\0<=D/\D<=(q.length:Int)/\(A.length:Int)=D) (fun(p:fM)=>match p with | .b0 ..=>(1,0,0) | .b1 q _ D=>(0,((q.length:Int) - D).toNat,0)) ?_ _ ?_,
  fun z C F I J=>Cc (0<=C/\C+9<=(z.length:Int)/\z.length<=1000000) ?_ fun hp=>?_,
  fun z C F I=>CW (fun(p:gY)=>match p with | .b0 q A=>BM q/\CY A | .b1 q A _=>BM q/\CY A | .b2 q A _=>BM q/\CY A | .b3 q _=>BM q) (fun(p:gY)=>match p with | .b0 ..=>(0,0,3) | .b1 ..=>(0,0,2) | .b2 ..=>(0,0,1) | .b3 ..=>(0,0,0)) ?_ _ ?_,
  fun z C G F I=>CW (fun(p:aK)=>match p with | .b0 q A _=>BM q/\CY A | .b1 _ A D _=>BM A/\CY D | .b2 _ A D _=>BM A/\CY D | .b3 q A _=>BM q/\CY A | .b4 _ A D _=>BM A/\CY D | .b5 q _=>BM q | .b6 q _=>BM q | .b7 _ A D _=>BM A/\CY D | .b8 _ A _=>BM A) (fun(p:aK)=>match p with | .b0 ..=>(0,0,4) | .b2 ..=>(0,0,3) | .b3 ..=>(0,0,1) | .b4 ..=>(0,0,2) | .b7 ..=>(0,0,1)|_=>(0,0,0)) ?_ _ ?_,
  fun z C F I=>CW (fun(p:Yy)=>match p with | .b0 q A=>BM q/\CY A | .b1 q _=>BM q | .b2 q A _=>BM q/\CY A | .b3 q A _=>BM q/\CY A) (fun(p:Yy)=>match p with | .b0 ..=>(0,0,2) | .b2 ..=>(0,0,1)|_=>(0,0,0)) ?_ _ ?_,
  fun z C G F I=>Cc (BM z/\CY C) ?_ fun hp=>?_,
  fun z C F I=>CW (fun(p:Yz)=>match p with | .b0 q A=>BM q/\CY A | .b1 q _=>BM q | .b2 q A _=>BM q/\CY A) (fun(p:Yz)=>match p with | .b0 ..=>(0,0,1)|_=>(0,0,0)) ?_ _ ?_,
  fun z C F I=>CW (fun(p:aT)=>match p with | .b0 q A=>BM q/\CY A | .b1 q A _=>BM q/\CY A | .b2 q A _=>BM q/\CY A | .b3 q _=>BM q | .b4 q _=>BM q) (fun(p:aT)=>match p with | .b0 ..=>(0,0,2) | .b2 ..=>(0,0,1)|_=>(0,0,0)) ?_ _ ?_⟩
 all_goals try (intro p hp;cases p)
 all_goals
  try dsimp only at hp
  try exact False.elim hp
  try have hx:=hp
  try dsimp only[BR,Dl,BM,EE,Cb,F6,Fj,FB]at hx
  try (repeat with_reducible (have M:=And.left hp;replace hp:=And.right hp))
  try simp only[Zaf,ZbQ,ZdF,ZfL,ZbY,Z12,Ut,Wj,Z0o,Z0r,Z0t,U8]
  try dsimp only
  repeat' first|(refine FP ?_;dsimp only;try simp(disch:=omega) only[Ce,CZ,List.nil_append,List.drop_zero])|(refine GH (fun h=>?_) (fun h=>?_)<;>(try simp only[Ht,reduceCtorEq]at h;try simp(disch:=omega) only[Ce]at h))|refine EU ?_ ?_|refine Ii ?_|refine BA (Zd8 _) fun(v:Bool) hm hv=>?_|refine BA (Zud _ _ ?_) fun(v:Bool) hm hv=>?_|refine BA (Zf4 _) fun(v:(List AO)) hm hv=>?_|refine BA (ZcZ _) fun(v:Int) hm hv=>?_|refine BA (Z2Q _ ?_ ?_) fun(v:Int) hm hv=>?_|refine Zhi ?_ fun v hv=>?_|refine ZgV ?_ fun v hv=>?_|refine BA (Z3K _ _ _ ?_ ?_ ?_ ?_ ?_) fun(v:Int) hm hv=>?_|refine BA (ZvS _ _) fun(v:(List Am)) hm hv=>?_|with_reducible apply And.intro|rfl|assumption|exact True.intro|omega|exact decide_eq_true (IP _).1|exact IM (by assumption) (by omega)|exact Ih (by assumption) (by omega)|(refine Gu.2 ?_;first|omega|grind)|(apply IX;first|omega|(simp only[CZ];omega))|(simp only[Ei,CZ,D6,maxLen_eq,kL,kA]<;>omega)|(simp(disch:=omega) only[Ce,decide_eq_true_eq,bne_iff_ne,ne_eq];(repeat' split)<;>omega)|(simp[EJ,Fq];done)|grind|(simp only[Ei,CZ,D6,maxLen_eq,kL,kA]<;>grind)|grind [Ee]
def Zqn:=Nq.1
def Zrs:=Nq.2.1
def Ze0:=Nq.2.2.1
def ZB5:=Nq.2.2.2.1
def Zv8:=Nq.2.2.2.2.1
def Z8U:=Nq.2.2.2.2.2.1
def Zwq:=Nq.2.2.2.2.2.2.1
def Znp:=Nq.2.2.2.2.2.2.2.1
def ZlC:=Nq.2.2.2.2.2.2.2.2.1
def Zmy:=Nq.2.2.2.2.2.2.2.2.2.1
def ZlD:=Nq.2.2.2.2.2.2.2.2.2.2.1
def ZnL:=Nq.2.2.2.2.2.2.2.2.2.2.2
theorem Zxk:∀(z:Int),∃r,JP z=some r/\(∃u,DJ z=some u/\r=II u/\EJ u):=by
 refine fun z=>CW (fun(p:gB)=>match p with | .b0 q=>q=z | .b1 q a1=>EJ a1/\DJ z=some a1/\q=1+cond a1.BB 9 0 | .b2 q a1=>EJ a1/\DJ z=some a1/\q=1+cond a1.BB 9 0+cond a1.Map 5 0 | .b3 q a1=>EJ a1/\DJ z=some a1/\q=1+cond a1.BB 9 0+cond a1.Map 5 0+cond a1.Ci 2 0 | .b4 q a1=>EJ a1/\DJ z=some a1/\q=1+cond a1.BB 9 0+cond a1.Map 5 0+cond a1.Ci 2 0/\(a1.Bl||a1.Version||a1.Length)=true | .b5 q a1=>EJ a1/\DJ z=some a1/\q=1+cond a1.BB 9 0+cond a1.Map 5 0+cond a1.Ci 2 0+cond (a1.Bl||a1.Version||a1.Length) 1 0 | .b6 q a1=>EJ a1/\DJ z=some a1/\q=1+cond a1.BB 9 0+cond a1.Map 5 0+cond a1.Ci 2 0+cond (a1.Bl||a1.Version||a1.Length) 1 0+cond a1.DL 1 0 | .b7 q a1=>EJ a1/\DJ z=some a1/\q=1+cond a1.BB 9 0+cond a1.Map 5 0+cond a1.Ci 2 0+cond (a1.Bl||a1.Version||a1.Length) 1 0+cond a1.DL 1 0/\(a1.Bj||a1.Bv)=true | .b8 q a1=>EJ a1/\DJ z=some a1/\q=1+cond a1.BB 9 0+cond a1.Map 5 0+cond a1.Ci 2 0+cond (a1.Bl||a1.Version||a1.Length) 1 0+cond a1.DL 1 0+cond (a1.Bj||a1.Bv) 8 0) (fun(p:gB)=>match p with | .b0 ..=>(0,0,8) | .b1 ..=>(0,0,7) | .b2 ..=>(0,0,6) | .b3 ..=>(0,0,5) | .b4 ..=>(0,0,4) | .b5 ..=>(0,0,3) | .b6 ..=>(0,0,2) | .b7 ..=>(0,0,1) | .b8 ..=>(0,0,0)) ?_ _ ?_
 all_goals try (intro p hp;cases p)
 case' b0=>
  dsimp only at hp;have hx:=hp
  try dsimp only[BR,Dl,BM,EE,Cb,F6,Fj,FB]at hx
  simp only[Ji];subst hp;refine BA (rW _) (fun(v:CE) hm hv=>?_);clear hx;simp only[EJ,Fq,List.mem_cons,List.not_mem_nil,or_false]at hv;rcases hv with rfl|rfl|rfl|rfl|rfl|rfl|rfl|rfl|rfl|rfl|rfl|rfl|rfl<;>simp only[II,cond_true,cond_false,Bool.or_true,Bool.true_or,Bool.or_false,Bool.false_or,Bool.or_self,reduceCtorEq,and_false]at *<;>repeat' first|(refine GH (fun h=>?_) (fun h=>?_)<;>(try simp only[Ht,reduceCtorEq]at h;try simp(disch:=omega) only[Ce]at h))|(refine FP ?_;dsimp only;exact⟨⟨by simp[EJ,Fq],hm,by simp only[II,cond_true,cond_false,Bool.or_true,Bool.true_or,Bool.or_false,Bool.false_or,Bool.or_self,reduceCtorEq,and_false]at *<;>omega⟩,Gu.2 (by omega)⟩)
 case' b1|b2|b3|b4|b5|b6|b7|b8=>
  dsimp only at hp;have hx:=hp
  try dsimp only[BR,Dl,BM,EE,Cb,F6,Fj,FB]at hx
  simp only[Ji];have hu:=hp.1;have hf:=hp.2.1;have A:=hp.2.2;clear hp hx;simp only[EJ,Fq,List.mem_cons,List.not_mem_nil,or_false]at hu;rcases hu with rfl|rfl|rfl|rfl|rfl|rfl|rfl|rfl|rfl|rfl|rfl|rfl|rfl<;>simp only[II,cond_true,cond_false,Bool.or_true,Bool.true_or,Bool.or_false,Bool.false_or,Bool.or_self,reduceCtorEq,and_false]at *<;>repeat' first|(refine GH (fun h=>?_) (fun h=>?_)<;>(try simp only[Ht,reduceCtorEq]at h;try simp(disch:=omega) only[Ce]at h))|(refine FP ?_;dsimp only;(try simp(disch:=omega) only[Ce]);first|exact⟨⟨by simp[EJ,Fq],hf,by simp only[II,cond_true,cond_false,Bool.or_true,Bool.true_or,Bool.or_false,Bool.false_or,Bool.or_self,reduceCtorEq,and_false]at *<;>first|omega|exact⟨by omega,by first|trivial|rfl⟩⟩,Gu.2 (by omega)⟩|exact⟨_,hf,by simp only[II,cond_true,cond_false,Bool.or_true,Bool.true_or,Bool.or_false,Bool.false_or,Bool.or_self,reduceCtorEq,and_false]at *<;>omega,by simp[EJ,Fq]⟩)
 all_goals
  try dsimp only at hp
  try exact False.elim hp
  try have hx:=hp
  try dsimp only[BR,Dl,BM,EE,Cb,F6,Fj,FB]at hx
  try (repeat with_reducible (have C:=And.left hp;replace hp:=And.right hp))
  try simp only[Ji]
  try dsimp only
  repeat' first|(refine FP ?_;dsimp only;try simp(disch:=omega) only[Ce,CZ,List.nil_append,List.drop_zero])|(refine GH (fun h=>?_) (fun h=>?_)<;>(try simp only[Ht,reduceCtorEq]at h;try simp(disch:=omega) only[Ce]at h))|refine EU ?_ ?_|refine Ii ?_|with_reducible apply And.intro|rfl|assumption|exact True.intro|omega|exact decide_eq_true (IP _).1|exact IM (by assumption) (by omega)|exact Ih (by assumption) (by omega)|(refine Gu.2 ?_;first|omega|grind)|(apply IX;first|omega|(simp only[CZ];omega))|(simp only[Ei,CZ,D6,maxLen_eq,kL,kA]<;>omega)|(simp(disch:=omega) only[Ce,decide_eq_true_eq,bne_iff_ne,ne_eq];(repeat' split)<;>omega)|(simp[EJ,Fq];done)|grind|(simp only[Ei,CZ,D6,maxLen_eq,kL,kA]<;>grind)|grind [Ee]
end Go.Proofs.YtjodhcdmhobmoaaGreatDoor
