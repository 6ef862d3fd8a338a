/- . -/
import Derived.Test.YtjodhcdmhobmoaaGreatDoorWQ2c
set_option linter.unusedVariables false
set_option linter.unusedSimpArgs false
namespace Go.Proofs.YtjodhcdmhobmoaaGreatDoor
open Go Go.Proofs.YtjodhcdmhobmoaaGreatDoor.Le
set_option linter.defProp false
set_option maxRecDepth 100000
set_option maxHeartbeats 40000000
open Go Go.Proofs.YtjodhcdmhobmoaaGreatDoor.Le Go.Proofs.YtjodhcdmhobmoaaGreatDoor.Na
theorem Uh:(∀(C:AO) (z:BD),CV C->(z.f_out.length+z.AA.A8.length<=7/\z.BG=[]/\R16 z.FX/\BF z.AA)->∃r,zV C z=some r/\r.q0.f_out.length+r.q0.AA.A8.length<=8/\r.q0.BG=[]/\R16 r.q0.FX/\BF r.q0.AA/\r.q0.AA.A8.length<=z.AA.A8.length) /\
  (∀(k:Int) (C:Bool) (z:BQ),(Ba k z.Link/\z.Ak.length<=30)->0<=k->k<=1000000->∃r,Yj C z=some r/\Ba k r.q0.Link/\r.q0.Ak=z.Ak/\r.q0.Link.DY=z.Link.DY/\r.q0.Link.AA=z.Link.AA) /\
  (∀(k:Int) (C:BC) (z:BQ),Hr C->(Ba k z.Link/\z.Ak.length<=30)->0<=k->k<=1000000->z.Ak.length<=20->∃r,Zm C z=some r/\Ba k r.q0.Link/\r.q0.Ak.length<=25) /\
  (∀(C:AZ) (z:Int),∃r,Zi C z=some r/\True) /\
  (∀(C:DR),∃r,Z0c C=some r/\True) /\
  (∀(k:Int) (C:Az) (z:Bool) (G:BQ),Be C->(Ba k G.Link/\G.Ak.length<=30)->0<=k->k<=1000000->G.Ak.length<=5->∃r,Za C z G=some r/\Ba k r.q0.Link/\r.q0.Ak.length<=10) /\
  (∀(C:AO) (z:BD),CV C->Bh 0 0 z->(C.Kind=0\/C.Kind=1)->∃r,lL C z=some r/\Bh 2 2 r.q0):=by
 refine⟨fun C z I J=>Bd (fun(p:YJ)=>match p with | .b0 q A=>CV q/\A.f_out.length+A.AA.A8.length<=7/\A.BG=[]/\R16 A.FX/\BF A.AA/\A.AA.A8.length<=z.AA.A8.length | .b1 q A=>CV A/\(q.f_out.length+q.AA.A8.length<=7/\q.BG=[]/\R16 q.FX/\BF q.AA/\q.AA.A8.length<=z.AA.A8.length/\(A.Kind=0\/A.Kind=1)) | .b2 q A F=>CV F/\A.f_out.length+A.AA.A8.length<=7/\A.BG=[]/\R16 A.FX/\BF A.AA/\A.AA.A8.length<=z.AA.A8.length/\q=F.Kind | .b3 q _=>q.f_out.length+q.AA.A8.length<=7/\q.BG=[]/\R16 q.FX/\BF q.AA/\q.AA.A8.length<=z.AA.A8.length | .b4 q _=>q.f_out.length+q.AA.A8.length<=7/\q.BG=[]/\R16 q.FX/\BF q.AA/\q.AA.A8.length<=z.AA.A8.length) (fun(p:YJ)=>match p with | .b0 ..=>(0,0,3) | .b1 ..=>(0,0,2) | .b4 ..=>(0,0,0)|_=>(0,0,1)) ?_ _ ?_,
  fun k C z I J M=>Bd (fun(p:Yl)=>match p with | .b0 _ A=>Ba k A.Link/\A.Ak.length<=30/\A=z) (fun(p:Yl)=>(0,0,0)) ?_ _ ?_,
  fun k C z I J M N O=>Bd (fun(p:Y3)=>match p with | .b0 q A=>Hr q/\Ba k A.Link/\A.Ak.length<=30/\A.Ak.length<=20 | .b1 q _=>Ba k q.Link/\q.Ak.length<=30/\q.Ak.length<=20 | .b2 q A=>Ed k q.Link/\q.Ak.length<=20/\Hr A/\q.Link.Df.BL=A.BL/\A.Kind≠1) (fun(p:Y3)=>match p with | .b0 ..=>(0,0,2) | .b1 ..=>(0,0,0) | .b2 ..=>(0,0,1)) ?_ _ ?_,
  fun C z=>CG (True) ?_ fun hp=>?_,
  fun C=>CG (True) ?_ fun hp=>?_,
  fun k C z G I J M N O=>Bd (fun(p:YU)=>match p with | .b0 q _ F=>Be q/\Ba k F.Link/\F.Ak.length<=30/\F.Ak.length<=5 | .b1 q A=>Ba k q.Link/\q.Ak.length<=30/\Be A/\q.Ak.length<=5) (fun(p:YU)=>match p with | .b0 ..=>(0,0,1) | .b1 ..=>(0,0,0)) ?_ _ ?_,
  fun C z I J M=>Bd (fun(p:YL)=>match p with | .b0 q A=>CV q/\Bh 0 0 A/\(q.Kind=0\/q.Kind=1) | .b1 q A=>Bh 0 0 q/\A.length<=1/\EY A) (fun(p:YL)=>match p with | .b0 ..=>(0,0,1) | .b1 ..=>(0,0,0)) ?_ _ ?_⟩
 all_goals try (intro p hp;cases p)
 all_goals
  try dsimp only at hp
  try exact False.elim hp
  try have Q:=hp
  try dsimp only[BV,Cm,BF,DW,Be,ES,EW,EE,Ba,Ed,Bh]at Q
  try (repeat with_reducible (have S:=And.left hp;replace hp:=And.right hp))
  try simp only[Z5Y,Z8t,Z7t,Z7p,Z8H,Z6M,Z6a]
  try dsimp only
  repeat' first|(refine D9 ?_;dsimp only;try simp(disch:=omega) only[Bv,Bi,List.nil_append,List.drop_zero])|(refine EN (fun h=>?_) (fun h=>?_)<;>(try simp only[Fe,reduceCtorEq]at h;try simp(disch:=omega) only[Bv]at h))|refine Dq ?_ ?_|refine GN ?_|refine Am (ZqA _ _) fun(v:Int) hm D=>?_|refine Am (Znx _) fun(v:BC) hm D=>?_|refine Am (Zsx _ _ _ ?_ ?_) fun(v:((List BC)×Int)) hm D=>?_|refine Am (Zkn _ _ ?_) fun(v:TS) hm D=>?_|refine Am (Z9R k _ ?_ ?_ ?_) fun(v:Int) hm D=>?_|refine Am (ZpX _ _ _ ?_) fun(v:(List BO)) hm D=>?_|refine Am (Z77 k _ _ _ ?_ ?_ ?_ ?_) fun(v:Pv) hm D=>?_|refine Am (Zsp _ _) fun(v:CW) hm D=>?_|refine Am (Zp5 _ _ _) fun(v:Bool) hm D=>?_|refine Am (Zoa _) fun(v:DR) hm D=>?_|refine Am (Za8 _ _ _ ?_) fun(v:Bq) hm D=>?_|refine Am (Z97 _ ?_ ?_) fun(v:(AO×Int)) hm D=>?_|refine Am (Zp4 _ _ ?_) fun(v:(AZ×(List Au))) hm D=>?_|refine Am (Z70 k _ _ _ ?_ ?_ ?_ ?_) fun(v:Px) hm D=>?_|refine Am (Za5 _ _ _ ?_) fun(v:Bq) hm D=>?_|refine Am (Z67 _) fun(v:Bool) hm D=>?_|with_reducible apply And.intro|rfl|assumption|exact True.intro|omega|exact decide_eq_true (GG _).1|exact Fz (by assumption) (by omega)|exact Fh (by assumption) (by omega) |  exact GM (by assumption) (by omega)|(refine ET.2 ?_;first|omega|grind)|(apply GX;first|omega|(simp only[Bi];omega))|(simp only[Dp,Bi,Cb,maxLen_eq,kL,kA]<;>omega)|(simp(disch:=omega) only[Bv,decide_eq_true_eq,bne_iff_ne,ne_eq];(repeat' split)<;>omega)|(simp[Di,Eu];done)|grind|(simp only[Dp,Bi,Cb,maxLen_eq,kL,kA]<;>grind)|grind [EG]
def ZjN:=Uh.1
def Z8s:=Uh.2.1
def Zm4:=Uh.2.2.1
def ZlS:=Uh.2.2.2.1
def ZnI:=Uh.2.2.2.2.1
def Zky:=Uh.2.2.2.2.2.1
def ZjG:=Uh.2.2.2.2.2.2
end Go.Proofs.YtjodhcdmhobmoaaGreatDoor
