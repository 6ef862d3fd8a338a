/-
  A part of the proof.
-/
import Derived.Test.YtjodhcdmhobmoaaGreatDoorQ1c
set_option linter.unusedVariables false
set_option linter.unusedSimpArgs false
namespace Go.Proofs.YtjodhcdmhobmoaaGreatDoor
open Go Go.Proofs.YtjodhcdmhobmoaaGreatDoor.Le
set_option linter.defProp false
set_option maxRecDepth 100000
set_option maxHeartbeats 40000000
theorem Zfw:(∀(p0:Int),∃r,ZcK p0=some r/\True) /\
  (∀(p0 p1 p2:Int),∃r,ZjJ p0 p1 p2=some r/\True) /\
  (∀(p0 p1:Int),∃r,Zd6 p0 p1=some r/\True) /\
  (∀(p0 p1:Int) (p2 p3:List Int),p2.length<=200000->p3.length<=200000->∃r,Zki p0 p1 p2 p3=some r/\r.length=4/\byL r) /\
  (∀(p0:Z7) (p1:Z4) (p2 p3:Int),Z0l p0->Z1f p1->∃r,Z92 p0 p1 p2 p3=some r/\Z0l r.1/\Z1f r.2/\r.1.Zf=p0.Zf) /\
  (∀(p0:Int) (p1:ByteArray) (p2:List Int),ZO3 U 5 p1=true->(Z4e U 5 p1).length<=100->p2.length<=1000->∃r,Zey p0 p1 p2=some r/\R64 r) /\
  (∀(p0:List Zj) (p1 p2:Int),p0.length<=37->∃r,ZcA p0 p1 p2=some r/\R64 r) /\
  (∀(p0:Z7) (p1:Z4) (p2 p3:Int),Z0l p0->Z1f p1->∃r,Z5Q p0 p1 p2 p3=some r/\Z0l r):=by
 refine⟨fun p0=>Zl (fun(p:Z8L)=>True) (fun(p:Z8L)=>(0,0,0)) ?_ _ ?_,
  fun p0 p1 p2=>Zl (fun(p:ZfD)=>True) (fun(p:ZfD)=>(0,0,0)) ?_ _ ?_,
  fun p0 p1=>Zl (fun(p:Z9j)=>True) (fun(p:Z9j)=>(0,0,0)) ?_ _ ?_,
  fun p0 p1 p2 p3 h0 h1=>Zl (fun(p:Zek)=>match p with | .b0 _ _ a2 a3=>a2.length<=200000/\a3.length<=200000) (fun(p:Zek)=>(0,0,0)) ?_ _ ?_,
  fun p0 p1 p2 p3 h0 h1=>Zl (fun(p:Z8M)=>match p with | .b0 a0 a1 _ _=>Z0l a0/\Z1f a1/\a0=p0 | .b1 _ a1 a2 a3 a4=>Z0l a1/\Z1f a2/\Z0l a3/\Z1f a4/\a1.Zf=p0.Zf | .b2 _ a1 a2 a3 a4=>Z0l a1/\Z1f a2/\Z0l a3/\Z1f a4/\a1.Zf=p0.Zf | .b3 a0 a1 a2 a3=>Z0l a0/\Z1f a1/\Z0l a2/\Z1f a3/\a0.Zf=p0.Zf | .b4 a0 a1 a2 a3=>Z0l a0/\Z1f a1/\Z0l a2/\Z1f a3/\a0.Zf=p0.Zf | .b5 a0 a1 a2 a3=>Z0l a0/\Z1f a1/\Z0l a2/\Z1f a3/\a0.Zf=p0.Zf) (fun(p:Z8M)=>match p with | .b0 ..=>(0,0,4) | .b1 ..=>(0,0,3) | .b3 ..=>(0,0,2) | .b4 ..=>(0,0,0)|_=>(0,0,1)) ?_ _ ?_,
  fun p0 p1 p2 h0 h1 h2=>Zl (fun(p:Z6T)=>match p with | .b0 _ a1 a2=>ZO3 U 5 a1=true/\(Z4e U 5 a1).length<=100/\a2.length<=1000 | .b1 _ a1 a2 a3=>a1.length<=1000/\0<=a3/\a3<=(a1.length:Int)/\(a2.length:Int)<=101+8*a3) (fun(p:Z6T)=>match p with | .b0 ..=>(1,0,0) | .b1 _ a1 _ a3=>(0,((a1.length:Int) - a3).toNat,0)) ?_ _ ?_,
  fun p0 p1 p2 h0=>Zl (fun(p:Z5u)=>match p with | .b0 a0 _ _=>a0.length<=37 | .b1 a0 _ a2=>a0.length<=37/\a2.length<=37/\ZrI a2 | .b2 a0=>a0.length<=37/\ZrI a0) (fun(p:Z5u)=>match p with | .b0 ..=>(1,0,0) | .b1 _ _ a2=>(0,a2.length,1) | .b2 ..=>(0,0,0)) ?_ _ ?_,
  fun p0 p1 p2 p3 h0 h1=>Zl (fun(p:Z2n)=>match p with | .b0 a0 a1 _ _=>Z0l a0/\Z1f a1 | .b1 a0 a1=>Z0l a0/\Z0l a1) (fun(p:Z2n)=>match p with | .b0 ..=>(0,0,1) | .b1 ..=>(0,0,0)) ?_ _ ?_⟩
 all_goals try (intro p hp;cases p)
 all_goals
  try dsimp only at hp
  try exact False.elim hp
  try have hx:=hp
  try dsimp only [Z0z,Z16,Z0l,Z6M,Z2c,Zg5,Z4s,Z3m] at hx
  try (repeat with_reducible (have hq:=And.left hp;replace hp:=And.right hp))
  try simp only [Zio,Zk0,Zct,ZqF,Z1K,ZeI,Zdd,Z5k]
  try dsimp only
  repeat' first|(refine Z0n ?_;dsimp only;try simp(disch:=omega) only [ZL,List.length_append,List.length_cons,List.length_nil,List.length_take,List.length_drop,List.length_set,List.length_replicate,List.nil_append,List.drop_zero])|(refine Z2a (fun h=>?_) (fun h=>?_)<;>(try simp only [decide_eq_true_eq,decide_eq_false_iff_not,Bool.not_eq_true',Bool.not_eq_false',Bool.not_eq_true,Bool.not_eq_false,beq_iff_eq,bne_iff_ne,beq_eq_false_iff_ne,bne_eq_false_iff_eq,ne_eq,reduceCtorEq,Bool.and_eq_true,Bool.or_eq_true,Classical.not_not] at h;try simp(disch:=omega) only [ZL] at h))|refine Z0s ?_ ?_|refine Z1o ?_|refine Zi (Zhw _ ?_ ?_) fun(v:Int) hm hv=>?_|refine Zi (ZBe _) fun(v:Int) hm hv=>?_|refine Zi (ZqI _) fun(v:Int) hm hv=>?_|refine Zi (Znh _ _) fun(v:Int) hm hv=>?_|refine Zi (Zz9 _ _) fun(v:Bool) hm hv=>?_|refine Zi (ZLL _ _) fun(v:Int) hm hv=>?_|refine Zi (ZBI _ _ _ ?_ ?_) fun(v:Z4H) hm hv=>?_|refine Zi (ZLR _ _ ?_) fun(v:Int) hm hv=>?_|refine Zi (Zpb _ _ ?_ ?_) fun(v:Z2U) hm hv=>?_|refine Zi (ZFK _ _) fun(v:Int) hm hv=>?_|refine Zi (Zxt _) fun(v:Z8) hm hv=>?_|refine Zi (ZJq _ _ _ ?_ ?_) fun(v:((List Z8)×Int)) hm hv=>?_|refine ZPg ?_ fun v hv=>?_|refine Zi (Zti _) fun(v:(List Int)) hm hv=>?_|refine Zi (ZCh _ _ ?_ ?_) fun(v:Int) hm hv=>?_|refine Zi (ZNM _ ?_ ?_) fun(v:Int) hm hv=>?_|with_reducible apply And.intro|rfl|assumption|exact True.intro|omega|exact decide_eq_true (Z1T _).1|exact Z0S (by assumption) (by omega)|exact Z0Z (by assumption) (by omega)|(refine Z1v.2 ?_;first|omega|grind)|(apply Zov;first|omega|(simp only [List.length_append,List.length_cons,List.length_nil,List.length_take,List.length_drop,List.length_set,List.length_replicate];omega))|(simp only [Bool.and_eq_true,Bool.or_eq_true,decide_eq_true_eq,beq_iff_eq,bne_iff_ne,beq_self_eq_true,and_self,and_true,true_and,List.length_map,List.length_append,List.length_cons,List.length_nil,List.length_take,List.length_drop,List.length_set,List.length_replicate,Z0e,maxLen_eq]<;>omega)|(simp(disch:=omega) only [ZL,decide_eq_true_eq,bne_iff_ne,ne_eq];(repeat' split)<;>omega)|(simp [Z0H,Z4A];done)|grind|(simp only [Bool.and_eq_true,Bool.or_eq_true,decide_eq_true_eq,beq_iff_eq,bne_iff_ne,beq_self_eq_true,and_self,and_true,true_and,List.length_map,List.length_append,List.length_cons,List.length_nil,List.length_take,List.length_drop,List.length_set,List.length_replicate,Z0e,maxLen_eq]<;>grind)|grind [Zb8]
def ZCo:=Zfw.1
def ZL1:=Zfw.2.1
def ZCP:=Zfw.2.2.1
def ZLs:=Zfw.2.2.2.1
def Zqh:=Zfw.2.2.2.2.1
def ZA1:=Zfw.2.2.2.2.2.1
def ZvW:=Zfw.2.2.2.2.2.2.1
def Zj0:=Zfw.2.2.2.2.2.2.2
theorem Zeh:(∀(p0:Zy),ZFp p0->∃r,Zii p0=some r/\True) /\
  (∀(p0:Zy) (p1 p2:Int),ZFp p0->∃r,Z6q p0 p1 p2=some r/\True) /\
  (∀(p0:Z4),Z1f p0->∃r,Z93 p0=some r/\True) /\
  (∀(p0 p1:Int) (p2 p3:List Int),p2.length<=100000->p3.length<=100000->∃r,Zm4 p0 p1 p2 p3=some r/\r.length=p3.length+4/\byL r) /\
  (∀(p0:Z7) (p1 p2:Int),Z0l p0->∃r,Zdl p0 p1 p2=some r/\Z0l r.1/\r.2.length<=8/\ctL r.2) /\
  (∀(p0 p1 p2 p3:Int),R64 p2->R64 p3->∃r,Zl0 p0 p1 p2 p3=some r/\Zo2 r) /\
  (∀(p0 p1:Int) (p2 p3:List Int),p2.length<=65536->p3.length<=65536->∃r,Zm0 p0 p1 p2 p3=some r/\r.1.length<=65536/\byL r.1) /\
  (∀(p0:Z7) (p1:Z4) (p2 p3:Int),Z0l p0->Z1f p1->∃r,Ze7 p0 p1 p2 p3=some r/\Z0l r.1/\r.2.1.length<=8/\ctL r.2.1/\r.2.2.length<=1):=by
 refine⟨fun p0 h0=>Zl (fun(p:Z8S)=>match p with | .b0 a0=>ZFp a0 | .b1 a0=>ZFp a0 | .b2 a0=>ZFp a0) (fun(p:Z8S)=>match p with | .b0 ..=>(0,0,2) | .b1 ..=>(0,0,1) | .b2 ..=>(0,0,0)) ?_ _ ?_,
  fun p0 p1 p2 h0=>Zl (fun(p:Zbc)=>match p with | .b0 a0 _ _=>ZFp a0) (fun(p:Zbc)=>(0,0,0)) ?_ _ ?_,
  fun p0 h0=>Zl (fun(p:Z96)=>match p with | .b0 a0=>Z1f a0 | .b1 a0 _=>Z1f a0 | .b2 a0 _=>Z1f a0) (fun(p:Z96)=>match p with | .b0 ..=>(0,0,2) | .b1 ..=>(0,0,1) | .b2 ..=>(0,0,0)) ?_ _ ?_,
  fun p0 p1 p2 p3 h0 h1=>Zl (fun(p:ZbQ)=>match p with | .b0 _ _ a2 a3=>a3=p3/\a2.length<=100000/\a3.length<=100000) (fun(p:ZbQ)=>(0,0,0)) ?_ _ ?_,
  fun p0 p1 p2 h0=>Zl (fun(p:Z91)=>match p with | .b0 a0 _ _=>Z0l a0 | .b1 _ _ a2 a3 a4=>a2.length<=8/\ctL a2/\Z0l a3/\Z0l a4/\a2.length+a3.Zf.length<=8 | .b2 _ _ a2 a3 a4=>a2.length<=8/\ctL a2/\Z0l a3/\Z0l a4/\a2.length+a3.Zf.length<=8/\0<a3.Zf.length | .b3 a0 a1 a2=>a0.length<=8/\ctL a0/\Z0l a1/\Z0l a2 | .b4 _ _ a2 a3 a4 a5=>a2.length<=8/\ctL a2/\Z0l a3/\Z0l a4/\Z1f a5/\a2.length+a3.Zf.length<=7) (fun(p:Z91)=>match p with | .b0 ..=>(1,0,0) | .b1 _ _ _ a3 _=>(0,a3.Zf.length,2) | .b2 _ _ _ a3 _=>(0,a3.Zf.length,1) | .b3 ..=>(0,0,0) | .b4 _ _ _ a3 _ _=>(0,a3.Zf.length,3)) ?_ _ ?_,
  fun p0 p1 p2 p3 h0 h1=>Zl (fun(p:Zfh)=>match p with | .b0 _ _ a2 a3=>R64 a2/\R64 a3) (fun(p:Zfh)=>(0,0,0)) ?_ _ ?_,
  fun p0 p1 p2 p3 h0 h1=>Zl (fun(p:Zbk)=>match p with | .b0 _ _ a2 a3=>a2.length<=65536/\a3.length<=65536) (fun(p:Zbk)=>(0,0,0)) ?_ _ ?_,
  fun p0 p1 p2 p3 h0 h1=>Zl (fun(p:Z70)=>match p with | .b0 a0 a1 _ _=>Z0l a0/\Z1f a1 | .b1 _ _ a2 a3 a4=>Z0l a2/\Z1f a3/\Z0l a4 | .b2 _ _ a2 a3 a4=>Z0l a2/\Z1f a3/\Z0l a4 | .b3 a0 a1=>Z0l a0/\Z0l a1 | .b4 _ a1 a2 a3=>Z0l a1/\Z1f a2/\Z0l a3 | .b5 _ _ a2 a3 a4=>Z0l a2/\Z1f a3/\Z0l a4 | .b6 a0 a1 a2=>Z0l a0/\Z1f a1/\Z0l a2 | .b7 _ _ a2 a3 a4=>Z0l a2/\Z1f a3/\Z0l a4 | .b8 a0 a1 a2=>Z0l a0/\Z1f a1/\Z0l a2 | .b9 a0 a1 a2=>Z0l a0/\Z1f a1/\Z0l a2) (fun(p:Z70)=>match p with | .b0 ..=>(0,0,4) | .b2 ..=>(0,0,3) | .b5 ..=>(0,0,2) | .b7 ..=>(0,0,1)|_=>(0,0,0)) ?_ _ ?_⟩
 all_goals try (intro p hp;cases p)
 all_goals
  try dsimp only at hp
  try exact False.elim hp
  try have hx:=hp
  try dsimp only [Z0z,Z16,Z0l,Z6M,Z2c,Zg5,Z4s,Z3m] at hx
  try (repeat with_reducible (have hq:=And.left hp;replace hp:=And.right hp))
  try simp only [ZhH,ZfK,ZhR,Zmd,Z1t,Zrf,ZmS,Zfy]
  try dsimp only
  repeat' first|(refine Z0n ?_;dsimp only;try simp(disch:=omega) only [ZL,List.length_append,List.length_cons,List.length_nil,List.length_take,List.length_drop,List.length_set,List.length_replicate,List.nil_append,List.drop_zero])|(refine Z2a (fun h=>?_) (fun h=>?_)<;>(try simp only [decide_eq_true_eq,decide_eq_false_iff_not,Bool.not_eq_true',Bool.not_eq_false',Bool.not_eq_true,Bool.not_eq_false,beq_iff_eq,bne_iff_ne,beq_eq_false_iff_ne,bne_eq_false_iff_eq,ne_eq,reduceCtorEq,Bool.and_eq_true,Bool.or_eq_true,Classical.not_not] at h;try simp(disch:=omega) only [ZL] at h))|refine Z0s ?_ ?_|refine Z1o ?_|refine Zi (Zmh _) fun(v:Int) hm hv=>?_|refine Zi (ZCo _) fun(v:Int) hm hv=>?_|refine Zi (Znj _ _ _) fun(v:Bool) hm hv=>?_|refine Zi (ZL1 _ _ _) fun(v:Int) hm hv=>?_|refine Zi (ZqI _) fun(v:Int) hm hv=>?_|refine Zi (Znh _ _) fun(v:Int) hm hv=>?_|refine Zi (ZIf _ _) fun(v:Int) hm hv=>?_|refine Zi (ZCP _ _) fun(v:Int) hm hv=>?_|refine Zi (Z73 _) fun(v:Zg) hm hv=>?_|refine Zi (ZIe _ ?_) fun(v:Z4) hm hv=>?_|refine Zi (Zyj _) fun(v:Bool) hm hv=>?_|refine Zi (Zzc _ _ _ ?_ ?_) fun(v:(List Int)) hm hv=>?_|refine Zi (ZLu _ _ ?_) fun(v:Z5y) hm hv=>?_|refine Zi (ZLs _ _ _ _ ?_ ?_) fun(v:(List Int)) hm hv=>?_|refine Zi (ZyT _ _ ?_ ?_) fun(v:Bool) hm hv=>?_|refine Zvr ?_ fun v hv=>?_|refine Zi (Zqh _ _ _ _ ?_ ?_) fun(v:(Z7×Z4)) hm hv=>?_|refine Zi (ZA1 _ _ _ (by rfl) (by decide +kernel) ?_) fun(v:Int) hm hv=>?_|refine Zi (ZG9 _ _ ?_ ?_) fun(v:Bool) hm hv=>?_|refine Zi (Zq9 _) fun(v:(List Z4)) hm hv=>?_|refine Zi (Zj0 _ _ _ _ ?_ ?_) fun(v:Z7) hm hv=>?_|refine Zi (Zml _ _ _ ?_ ?_) fun(v:(Z7×(List Z4)×(List Z5))) hm hv=>?_|refine Zi (Zkk _ _ ?_ ?_) fun(v:(Z7×(List Z4)×(List Z5))) hm hv=>?_|refine Zi (ZjP _ _ _ ?_ ?_) fun(v:(Z7×(List Z4)×(List Z5))) hm hv=>?_|refine Zi (Zja _ _ ?_ ?_) fun(v:(Z7×(List Z4)×(List Z5))) hm hv=>?_|refine Zi (Zo3 _ _ ?_ ?_) fun(v:(Z7×(List Z4)×(List Z5))) hm hv=>?_|with_reducible apply And.intro|rfl|assumption|exact True.intro|omega|exact decide_eq_true (Z1T _).1|exact Z0S (by assumption) (by omega)|exact Z0Z (by assumption) (by omega)|(refine Z1v.2 ?_;first|omega|grind)|(apply Zov;first|omega|(simp only [List.length_append,List.length_cons,List.length_nil,List.length_take,List.length_drop,List.length_set,List.length_replicate];omega))|(simp only [Bool.and_eq_true,Bool.or_eq_true,decide_eq_true_eq,beq_iff_eq,bne_iff_ne,beq_self_eq_true,and_self,and_true,true_and,List.length_map,List.length_append,List.length_cons,List.length_nil,List.length_take,List.length_drop,List.length_set,List.length_replicate,Z0e,maxLen_eq]<;>omega)|(simp(disch:=omega) only [ZL,decide_eq_true_eq,bne_iff_ne,ne_eq];(repeat' split)<;>omega)|(simp [Z0H,Z4A];done)|grind|(simp only [Bool.and_eq_true,Bool.or_eq_true,decide_eq_true_eq,beq_iff_eq,bne_iff_ne,beq_self_eq_true,and_self,and_true,true_and,List.length_map,List.length_append,List.length_cons,List.length_nil,List.length_take,List.length_drop,List.length_set,List.length_replicate,Z0e,maxLen_eq]<;>grind)|grind [Zb8]
def ZD4:=Zeh.1
def ZHu:=Zeh.2.1
def ZEd:=Zeh.2.2.1
def ZIn:=Zeh.2.2.2.1
def ZCm:=Zeh.2.2.2.2.1
def Zyv:=Zeh.2.2.2.2.2.1
def ZIF:=Zeh.2.2.2.2.2.2.1
def ZwT:=Zeh.2.2.2.2.2.2.2
theorem Zd7:(∀(p0:Int) (p1:Zy) (p2 p3 p4 p5:Int),ZFp p1->R64 p3->R64 p4->∃r,Zl5 p0 p1 p2 p3 p4 p5=some r/\Z0z 0 r.1) /\
  (∀(k:Int) (p0:Z9),Z0z k p0->0<=k->k<=1000000->∃r,Z8i p0=some r/\True) /\
  (∀(p0:Z4),Z1f p0->∃r,Ze9 p0=some r/\(r.1.length<=60/\byL r.1/\(r.2=0->1<=r.1.length))) /\
  (∀(p0:Zv) (p1:Zn),Zo2 p0->Z2c p1.ZF->∃r,ZlQ p0 p1=some r/\(Z2c r.1.ZF/\(r.2=0->r.1.ZF.Payload.length<=255))) /\
  (∀(k:Int) (p0:Z9) (p1:Int),Z0z k p0->0<=k->k<=900000->∃r,Z6b p0 p1=some r/\Z0z (k+8) r.1) /\
  (∀(p0:Z7) (p1:Z4) (p2 p3:Int),Z0l p0->Z1f p1->R16 p2->∃r,ZhJ p0 p1 p2 p3=some r/\Z0l r.1/\r.2.1.length<=1/\ctL r.2.1) /\
  (∀(k:Int) (p0:Z9) (p1:Int),Z0z k p0->0<=k->k<=1000000->R64 p1->∃r,Zrj p0 p1=some r/\Z0z (k+2) r.1) /\
  (∀(p0:Zv) (p1:Zn),Zo2 p0->Z2c p1.ZF->∃r,Zlf p0 p1=some r/\Z2c r.1.ZF) /\
  (∀(p0:List Int),p0.length<=65536->byL p0->∃r,Zaf p0=some r/\(Z1f r.1/\(r.2=12->1<=p0.length))):=by
 refine⟨fun p0 p1 p2 p3 p4 p5 h0 h1 h2=>Zl (fun(p:Zfe)=>match p with | .b0 _ a1 _ a3 a4 _=>ZFp a1/\R64 a3/\R64 a4 | .b1 a0=>Z0z 0 a0 | .b2 a0 _ a2 a3 _ a5 a6=>ZFp a5/\Z0z 0 a6/\Zb8 a0/\R64 a2/\R64 a3 | .b3 a0=>Z0z 0 a0 | .b4 a0 _ a2 a3 _ a5 a6=>ZFp a5/\Z0z 0 a6/\Zb8 a0/\R64 a2/\R64 a3) (fun(p:Zfe)=>match p with | .b0 ..=>(0,0,2) | .b2 ..=>(0,0,1)|_=>(0,0,0)) ?_ _ ?_,
  fun k p0 h0 h1 h2=>Zl (fun(p:Z5J)=>match p with | .b0 a0=>Z0z k a0) (fun(p:Z5J)=>(0,0,0)) ?_ _ ?_,
  fun p0 h0=>Zl (fun(p:Z7p)=>match p with | .b0 a0=>Z1f a0 | .b1 a0 a1 _=>Z1f a1/\1<=a0.length/\a0.length<=10/\byL a0 | .b2 a0 a1 _=>Z1f a1/\1<=a0.length/\a0.length<=15/\byL a0 | .b3 a0 a1 _=>Z1f a1/\1<=a0.length/\a0.length<=17/\byL a0 | .b4 a0 a1 _=>Z1f a1/\1<=a0.length/\a0.length<=18/\byL a0 | .b5 a0 a1 _=>Z1f a1/\1<=a0.length/\a0.length<=19/\byL a0 | .b6 a0 a1 _=>Z1f a1/\1<=a0.length/\a0.length<=27/\byL a0 | .b7 a0 a1 _=>Z1f a1/\1<=a0.length/\a0.length<=35/\byL a0 | .b8 a0 a1 _=>Z1f a1/\1<=a0.length/\a0.length<=43/\byL a0 | .b9 a0 a1 _=>Z1f a1/\1<=a0.length/\a0.length<=44/\byL a0) (fun(p:Z7p)=>match p with | .b0 ..=>(0,0,9) | .b1 ..=>(0,0,8) | .b2 ..=>(0,0,7) | .b3 ..=>(0,0,6) | .b4 ..=>(0,0,5) | .b5 ..=>(0,0,4) | .b6 ..=>(0,0,3) | .b7 ..=>(0,0,2) | .b8 ..=>(0,0,1) | .b9 ..=>(0,0,0)) ?_ _ ?_,
  fun p0 p1 h0 h1=>Zl (fun(p:Zcb)=>match p with | .b0 a0 a1=>Zo2 a0/\Z2c a1.ZF | .b1 a0 a1 a2=>Zo2 a0/\Z2c a1.ZF/\Z2c a2.ZF) (fun(p:Zcb)=>match p with | .b0 ..=>(0,0,1) | .b1 ..=>(0,0,0)) ?_ _ ?_,
  fun k p0 p1 h0 h1 h2=>Zl (fun(p:Z9Y)=>match p with | .b0 a0 _=>Z0z k a0 | .b1 _ _ a2 a3=>Z0z k a2/\Z0z k a3 | .b2 _ _ a2 a3=>Z0z k a2/\Z0z k a3 | .b3 _ _ _ a3 a4=>Z0z k a3/\Z0z k a4 | .b4 _ _ a2 a3=>Z0z k a2/\Z0z k a3 | .b5 _ a1 a2 a3 a4 a5 a6=>a1.length<=4/\a2.length<=1/\Zjd a2/\Z0z k a4/\Z0z k a5/\Z0l a6/\(a1.length:Int)=a3/\0<=a3/\a3<=(a2.length:Int) | .b6 a0 _ a2 a3=>a0.length<=4/\Z0z (k+8) a2/\Z0z (k+8) a3 | .b7 a0 a1 a2=>a0.length<=4/\Z0z (k+8) a1/\Z0z (k+8) a2 | .b8 _ a1 _ a3 a4=>a1.length<=4/\Z0z (k+8) a3/\Z0z (k+8) a4 | .b9 a0 a1 a2=>a0.length<=4/\Z0z (k+8) a1/\Z0z (k+8) a2) (fun(p:Z9Y)=>match p with | .b0 ..=>(9,0,0) | .b1 ..=>(8,0,0) | .b2 ..=>(7,0,0) | .b3 ..=>(6,0,0) | .b4 ..=>(5,0,0) | .b5 _ _ a2 a3 _ _ _=>(4,((a2.length:Int) - a3).toNat,0) | .b6 ..=>(1,0,0) | .b8 ..=>(3,0,0)|_=>(2,0,0)) ?_ _ ?_,
  fun p0 p1 p2 p3 h0 h1 h2=>Zl (fun(p:Z8Z)=>match p with | .b0 a0 a1 a2 _=>Z0l a0/\Z1f a1/\R16 a2 | .b1 a0 a1=>Z0l a0/\Z0l a1 | .b2 _ _ a2 a3 a4=>Z0l a2/\Z1f a3/\Z0l a4 | .b3 _ _ a2 a3 a4=>Z0l a2/\Z1f a3/\Z0l a4 | .b4 a0 a1 a2=>Z0l a0/\Z1f a1/\Z0l a2) (fun(p:Z8Z)=>match p with | .b0 ..=>(0,0,2) | .b2 ..=>(0,0,1)|_=>(0,0,0)) ?_ _ ?_,
  fun k p0 p1 h0 h1 h2 h3=>Zl (fun(p:Zev)=>match p with | .b0 a0 a1=>Z0z k a0/\R64 a1 | .b1 a0 a1 a2=>Z0z k a1/\Z0z k a2/\R64 a0) (fun(p:Zev)=>match p with | .b0 ..=>(0,0,1) | .b1 ..=>(0,0,0)) ?_ _ ?_,
  fun p0 p1 h0 h1=>Zl (fun(p:Zc8)=>match p with | .b0 a0 a1=>Zo2 a0/\Z2c a1.ZF | .b1 a0 a1 a2=>Zo2 a0/\Z2c a1.ZF/\Z2c a2.ZF) (fun(p:Zc8)=>match p with | .b0 ..=>(0,0,1) | .b1 ..=>(0,0,0)) ?_ _ ?_,
  fun p0 h0 h1=>Zl (fun(p:Z76)=>match p with | .b0 a0=>a0=p0/\a0.length<=65536/\byL a0) (fun(p:Z76)=>(0,0,0)) ?_ _ ?_⟩
 all_goals try (intro p hp;cases p)
 all_goals
  try dsimp only at hp
  try exact False.elim hp
  try have hx:=hp
  try dsimp only [Z0z,Z16,Z0l,Z6M,Z2c,Zg5,Z4s,Z3m] at hx
  try (repeat with_reducible (have hq:=And.left hp;replace hp:=And.right hp))
  try simp only [Zq5,Zci,ZfG,ZmB,Z00,Zhc,Zrs,Zm9,Zf7]
  try dsimp only
  repeat' first|(refine Z0n ?_;dsimp only;try simp(disch:=omega) only [ZL,List.length_append,List.length_cons,List.length_nil,List.length_take,List.length_drop,List.length_set,List.length_replicate,List.nil_append,List.drop_zero])|(refine Z2a (fun h=>?_) (fun h=>?_)<;>(try simp only [decide_eq_true_eq,decide_eq_false_iff_not,Bool.not_eq_true',Bool.not_eq_false',Bool.not_eq_true,Bool.not_eq_false,beq_iff_eq,bne_iff_ne,beq_eq_false_iff_ne,bne_eq_false_iff_eq,ne_eq,reduceCtorEq,Bool.and_eq_true,Bool.or_eq_true,Classical.not_not] at h;try simp(disch:=omega) only [ZL] at h))|refine Z0s ?_ ?_|refine Z1o ?_|refine Zi (ZD4 _ ?_) fun(v:Int) hm hv=>?_|refine Zi (ZCM _ _) fun(v:Z4b) hm hv=>?_|refine Zi (ZKN) fun(v:ZK) hm hv=>?_|refine Zi (Zy6 _) fun(v:Zk) hm hv=>?_|refine Zi (ZMw _ _ _ ?_) fun(v:Z7) hm hv=>?_|refine Zi (ZDo) fun(v:(List Zj)) hm hv=>?_|refine Zi (ZHu _ _ _ ?_) fun(v:(Int×Int)) hm hv=>?_|refine Zi (ZEd _ ?_) fun(v:Int) hm hv=>?_|refine Zi (Z73 _) fun(v:Zg) hm hv=>?_|refine Zi (Zpp _) fun(v:(List Int)) hm hv=>?_|refine Zi (ZxU _ _ ?_ ?_) fun(v:Z1C) hm hv=>?_|refine Zi (Ziy _) fun(v:Int) hm hv=>?_|refine Zi (Zh7 _) fun(v:Bool) hm hv=>?_|refine Zi (ZBt _ _ _ ?_) fun(v:Int) hm hv=>?_|refine Zi (ZIn _ _ _ _ ?_ ?_) fun(v:(List Int)) hm hv=>?_|refine Zi (ZGG _ _) fun(v:Zn) hm hv=>?_|refine Zi (ZoF k _ ?_ ?_ ?_) fun(v:Bool) hm hv=>?_|refine Zi (ZI9 _) fun(v:(Zk×Int)) hm hv=>?_|refine Zi (ZwY _ _) fun(v:Zk) hm hv=>?_|refine Zi (Znd _ _ _ ?_) fun(v:(List Zj)) hm hv=>?_|refine Zi (ZKd _ _ ?_) fun(v:(Z7×(List Z8))) hm hv=>?_|refine Zi (ZC3 k _ _ ?_ ?_ ?_ ?_) fun(v:Z9) hm hv=>?_|refine Zi (ZpH k _ ?_ ?_ ?_) fun(v:Int) hm hv=>?_|refine Zi (ZCm _ _ _ ?_) fun(v:(Z7×(List Z4))) hm hv=>?_|refine Zi (Zu4 _ _ ?_) fun(v:Bool) hm hv=>?_|refine Zi (ZuE _) fun(v:Int) hm hv=>?_|refine Zuc ?_ fun v hv=>?_|refine Zi (Zzf (k+8) _ _ ?_ ?_ ?_) fun(v:(Z9×(List Z5))) hm hv=>?_|refine Zi (ZqE _) fun(v:Bool) hm hv=>?_|refine Zi (ZAV _ _ ?_ ?_) fun(v:Z4) hm hv=>?_|refine Zi (ZvZ _ _ ?_) fun(v:Bool) hm hv=>?_|refine Zi (ZyT _ _ ?_ ?_) fun(v:Bool) hm hv=>?_|refine Zi (Zqh _ _ _ _ ?_ ?_) fun(v:(Z7×Z4)) hm hv=>?_|refine Zi (ZAN _ _ _ ?_ ?_) fun(v:(Z7×(List Z4))) hm hv=>?_|refine Zi (Zyv _ _ _ _ ?_ ?_) fun(v:Zv) hm hv=>?_|refine Zi (Ztu _ _ _ ?_) fun(v:Zv) hm hv=>?_|refine Zi (ZE9 _) fun(v:Int) hm hv=>?_|refine Zi (ZIF _ _ _ _ ?_ ?_) fun(v:((List Int)×Int)) hm hv=>?_|refine Zi (ZFT _) fun(v:Int) hm hv=>?_|refine Zi (ZEs _ _ ?_ ?_ ?_) fun(v:Z4) hm hv=>?_|refine Znp ?_ fun v hv=>?_|(exact ZNU (by assumption) (by assumption))|with_reducible apply And.intro|rfl|assumption|exact True.intro|omega|exact decide_eq_true (Z1T _).1|exact Z0S (by assumption) (by omega)|exact Z0Z (by assumption) (by omega)|(refine Z1v.2 ?_;first|omega|grind)|(apply Zov;first|omega|(simp only [List.length_append,List.length_cons,List.length_nil,List.length_take,List.length_drop,List.length_set,List.length_replicate];omega))|(simp only [Bool.and_eq_true,Bool.or_eq_true,decide_eq_true_eq,beq_iff_eq,bne_iff_ne,beq_self_eq_true,and_self,and_true,true_and,List.length_map,List.length_append,List.length_cons,List.length_nil,List.length_take,List.length_drop,List.length_set,List.length_replicate,Z0e,maxLen_eq]<;>omega)|(simp(disch:=omega) only [ZL,decide_eq_true_eq,bne_iff_ne,ne_eq];(repeat' split)<;>omega)|(simp [Z0H,Z4A];done)|grind|(simp only [Bool.and_eq_true,Bool.or_eq_true,decide_eq_true_eq,beq_iff_eq,bne_iff_ne,beq_self_eq_true,and_self,and_true,true_and,List.length_map,List.length_append,List.length_cons,List.length_nil,List.length_take,List.length_drop,List.length_set,List.length_replicate,Z0e,maxLen_eq]<;>grind)|grind [Zb8]
def ZMt:=Zd7.1
def Zvj:=Zd7.2.1
def Zzk:=Zd7.2.2.1
def ZGC:=Zd7.2.2.2.1
def Zpq:=Zd7.2.2.2.2.1
def ZED:=Zd7.2.2.2.2.2.1
def ZJo:=Zd7.2.2.2.2.2.2.1
def ZHk:=Zd7.2.2.2.2.2.2.2.1
def Zxl:=Zd7.2.2.2.2.2.2.2.2
theorem ZuG:(∀(k:Int) (p0:Z9),Z0z k p0->0<=k->k<=1000000->∃r,Zil p0=some r/\Z0z k r) /\
  (∀(k:Int) (p0:Z9) (p1:Z4) (p2:Int),Z0z k p0->Z1f p1->0<=k->k<=1000000->∃r,Z1L p0 p1 p2=some r/\Z0z (k+1) r.1) /\
  (∀(k:Int) (p0:Z9) (p1:Zd),Z0z k p0->Z2c p1->0<=k->k<=1000000->∃r,Zim p0 p1=some r/\Z0z k r.1/\r.2.length<=1) /\
  (∀(k:Int) (p0:Z9) (p1:List Int) (p2:Int),Z0z k p0->0<=k->k<=1000000->p1.length<=65536->byL p1->∃r,Zcu p0 p1 p2=some r/\Z0z (k+8) r.1/\r.2.length<=1):=by
 refine⟨fun k p0 h0 h1 h2=>Zl (fun(p:Z8O)=>match p with | .b0 a0=>Z0z k a0 | .b1 a0 _ a2 a3 a4=>ctL a0/\Z0z k a3/\Z0z k a4/\0<=a2/\a2<=(a3.Zb.length:Int)/\(a0.length:Int)<=a2 | .b2 a0 _ a2 a3 a4 a5=>ctL a0/\Z0z k a3/\Z0z k a4/\Z1f a5/\0<=a2/\a2<(a3.Zb.length:Int)/\(a0.length:Int)<=a2 | .b3 a0 _ a2 a3 a4 a5=>ctL a0/\Z0z k a3/\Z0z k a4/\Z1f a5/\0<=a2/\a2<(a3.Zb.length:Int)/\(a0.length:Int)<=a2 | .b4 a0 _ a2 a3 a4=>ctL a0/\Z0z k a3/\Z0z k a4/\0<=a2/\a2<(a3.Zb.length:Int)/\(a0.length:Int)<=a2+1) (fun(p:Z8O)=>match p with | .b0 ..=>(1,0,0) | .b1 _ _ a2 a3 _=>(0,((a3.Zb.length:Int) - a2).toNat,2) | .b2 _ _ a2 a3 _ _=>(0,((a3.Zb.length:Int) - a2).toNat,1) | .b3 _ _ a2 a3 _ _=>(0,((a3.Zb.length:Int) - a2).toNat,1) | .b4 _ _ a2 a3 _=>(0,((a3.Zb.length:Int) - a2).toNat,0)) ?_ _ ?_,
  fun k p0 p1 p2 h0 h1 h2 h3=>Zl (fun(p:Za0)=>match p with | .b0 a0 a1 _=>Z0z k a0/\Z1f a1) (fun(p:Za0)=>(0,0,0)) ?_ _ ?_,
  fun k p0 p1 h0 h1 h2 h3=>Zl (fun(p:Z9v)=>match p with | .b0 a0 a1=>Z0z k a0/\Z2c a1 | .b1 a0 a1 a2=>Z0z k a0/\Z2c a1/\Z0z k a2 | .b2 a0 a1 a2=>a0.length<=1/\Z0z k a1/\Z0z k a2) (fun(p:Z9v)=>match p with | .b0 ..=>(0,0,2) | .b1 ..=>(0,0,1) | .b2 ..=>(0,0,0)) ?_ _ ?_,
  fun k p0 p1 p2 h0 h1 h2 h3 h4=>Zl (fun(p:Z5w)=>match p with | .b0 a0 a1 _=>Z0z k a0/\a1.length<=65536/\byL a1 | .b1 a0 a1 a2 a3=>a0.length<=1/\Z0z (k+8) a1/\Z0z (k+8) a2/\Z0l a3 | .b2 a0 a1 a2=>a0.length<=1/\Z0z (k+8) a1/\Z0z (k+8) a2) (fun(p:Z5w)=>match p with | .b0 ..=>(0,0,2) | .b1 ..=>(0,0,1) | .b2 ..=>(0,0,0)) ?_ _ ?_⟩
 all_goals try (intro p hp;cases p)
 all_goals
  try dsimp only at hp
  try exact False.elim hp
  try have hx:=hp
  try dsimp only [Z0z,Z16,Z0l,Z6M,Z2c,Zg5,Z4s,Z3m] at hx
  try (repeat with_reducible (have hq:=And.left hp;replace hp:=And.right hp))
  try simp only [Zi4,Zhm,ZhT,Zcv]
  try dsimp only
  repeat' first|(refine Z0n ?_;dsimp only;try simp(disch:=omega) only [ZL,List.length_append,List.length_cons,List.length_nil,List.length_take,List.length_drop,List.length_set,List.length_replicate,List.nil_append,List.drop_zero])|(refine Z2a (fun h=>?_) (fun h=>?_)<;>(try simp only [decide_eq_true_eq,decide_eq_false_iff_not,Bool.not_eq_true',Bool.not_eq_false',Bool.not_eq_true,Bool.not_eq_false,beq_iff_eq,bne_iff_ne,beq_eq_false_iff_ne,bne_eq_false_iff_eq,ne_eq,reduceCtorEq,Bool.and_eq_true,Bool.or_eq_true,Classical.not_not] at h;try simp(disch:=omega) only [ZL] at h))|refine Z0s ?_ ?_|refine Z1o ?_|refine Zi (ZqH _ ?_) fun(v:Bool) hm hv=>?_|refine Zi (Zvm _) fun(v:Bool) hm hv=>?_|refine Zvr ?_ fun v hv=>?_|refine Zi (Zzk _ ?_) fun(v:((List Int)×Int)) hm hv=>?_|refine Zi (Zqf _ _ ?_ ?_) fun(v:(ZK×Int)) hm hv=>?_|refine Zi (ZpH k _ ?_ ?_ ?_) fun(v:Int) hm hv=>?_|refine Zi (ZED _ _ _ _ ?_ ?_ ?_) fun(v:(Z7×(List Z4)×Int)) hm hv=>?_|refine Zi (Zh7 _) fun(v:Bool) hm hv=>?_|refine Zi (Ztm _ _ _ ?_) fun(v:Zv) hm hv=>?_|refine Zi (Zxl _ ?_ ?_) fun(v:(Z4×Int)) hm hv=>?_|refine Zi (ZGj _ _ ?_ ?_) fun(v:(Z7×(List Z5))) hm hv=>?_|refine Zi (Ztu _ _ _ ?_) fun(v:Zv) hm hv=>?_|refine Zi (ZCn _ _ ?_) fun(v:(List Z5)) hm hv=>?_|refine Zi (ZwT _ _ _ _ ?_ ?_) fun(v:(Z7×(List Z4)×(List Z5))) hm hv=>?_|refine Znp ?_ fun v hv=>?_|refine Zi (Zyv _ _ _ _ ?_ ?_) fun(v:Zv) hm hv=>?_|with_reducible apply And.intro|rfl|assumption|exact True.intro|omega|exact decide_eq_true (Z1T _).1|exact Z0S (by assumption) (by omega)|exact Z0Z (by assumption) (by omega)|(refine Z1v.2 ?_;first|omega|grind)|(apply Zov;first|omega|(simp only [List.length_append,List.length_cons,List.length_nil,List.length_take,List.length_drop,List.length_set,List.length_replicate];omega))|(simp only [Bool.and_eq_true,Bool.or_eq_true,decide_eq_true_eq,beq_iff_eq,bne_iff_ne,beq_self_eq_true,and_self,and_true,true_and,List.length_map,List.length_append,List.length_cons,List.length_nil,List.length_take,List.length_drop,List.length_set,List.length_replicate,Z0e,maxLen_eq]<;>omega)|(simp(disch:=omega) only [ZL,decide_eq_true_eq,bne_iff_ne,ne_eq];(repeat' split)<;>omega)|(simp [Z0H,Z4A];done)|grind|(simp only [Bool.and_eq_true,Bool.or_eq_true,decide_eq_true_eq,beq_iff_eq,bne_iff_ne,beq_self_eq_true,and_self,and_true,true_and,List.length_map,List.length_append,List.length_cons,List.length_nil,List.length_take,List.length_drop,List.length_set,List.length_replicate,Z0e,maxLen_eq]<;>grind)|grind [Zb8]
def ZEy:=ZuG.1
def ZDA:=ZuG.2.1
def ZD7:=ZuG.2.2.1
def Zuy:=ZuG.2.2.2
theorem ZDd:(∀(k:Int) (p0:Z9),Z0z k p0->0<=k->k<=1000000->∃r,ZfI p0=some r/\Z0z k r.1/\r.2.length<=300/\byL r.2) /\
  (∀(k:Int) (p0:Z9) (p1:Z22) (p2:Int),Z0z k p0->Z4s p1->0<=k->k<=1000000->∃r,Zl3 p0 p1 p2=some r/\Z0z (k+2) r.1) /\
  (∀(k:Int) (p0:Z9) (p1:List Int) (p2:Bool) (p3:Int),Z0z k p0->0<=k->k<=1000000->p1.length<=65536->byL p1->∃r,Z89 p0 p1 p2 p3=some r/\Z0z (k+8) r.1/\r.2.1.length<=4):=by
 refine⟨fun k p0 h0 h1 h2=>Zl (fun(p:ZbJ)=>match p with | .b0 a0=>Z0z k a0 | .b1 a0 a1 a2=>Z0z k a0/\Z0z k a1/\Z2c a2.ZF) (fun(p:ZbJ)=>match p with | .b0 ..=>(0,0,1) | .b1 ..=>(0,0,0)) ?_ _ ?_,
  fun k p0 p1 p2 h0 h1 h2 h3=>Zl (fun(p:ZiP)=>match p with | .b0 a0 a1 _=>Z0z k a0/\Z4s a1 | .b1 _ a1 a2=>Z0z (k+2) a1/\Z0z (k+2) a2 | .b2 _ a1 a2=>Z0z (k+2) a1/\Z0z (k+2) a2) (fun(p:ZiP)=>match p with | .b0 ..=>(0,0,1)|_=>(0,0,0)) ?_ _ ?_,
  fun k p0 p1 p2 p3 h0 h1 h2 h3 h4=>Zl (fun(p:Z5G)=>match p with | .b0 a0 a1 _ _=>Z0z k a0/\a1.length<=65536/\byL a1 | .b1 a0 _ a2 a3=>Z0z k a2/\Z0z k a3/\a0.length<=65536/\byL a0 | .b2 a0 _ a2 a3=>Z0z k a2/\Z0z k a3/\a0.length<=65536/\byL a0 | .b3 _ _ a2 a3 a4=>Z0z k a2/\Z0z k a3/\Z2c a4.ZF | .b4 _ _ a2 a3 a4=>Z0z k a2/\Z0z k a3/\Z2c a4.ZF | .b5 _ _ a2 a3 a4 a5=>Z0z k a2/\Z0z k a3/\Z2c a4.ZF/\Z2c a5/\a2.Arq.Open=true/\a2.Arq.Empty=false | .b6 _ _ a2 a3 a4 a5=>Z0z k a2/\Z0z k a3/\Z2c a4.ZF/\Z2c a5 | .b7 _ _ a2 a3 a4 a5=>Z0z k a2/\Z0z k a3/\Z2c a4.ZF/\Z2c a5 | .b8 _ _ a2 a3 a4 a5=>Z0z k a2/\Z0z k a3/\Z2c a4.ZF/\Z2c a5 | .b9 _ _ _ a3 a4 a5 a6 a7=>a3.length<=2/\Z0z k a4/\Z0z k a5/\Z2c a6.ZF/\Z2c a7 | .b10 _ a1 a2 a3 a4 a5=>a1.length<=2/\Z0z k a2/\Z0z k a3/\Z2c a4.ZF/\Z2c a5 | .b11 a0 a1 a2 a3=>a0.length<=4/\Z0z (k+8) a1/\Z0z (k+8) a2/\Z2c a3.ZF) (fun(p:Z5G)=>match p with | .b0 ..=>(0,0,11) | .b1 ..=>(0,0,10) | .b2 ..=>(0,0,9) | .b3 ..=>(0,0,8) | .b4 ..=>(0,0,7) | .b5 ..=>(0,0,6) | .b6 ..=>(0,0,5) | .b7 ..=>(0,0,4) | .b8 ..=>(0,0,3) | .b9 ..=>(0,0,2) | .b10 ..=>(0,0,1) | .b11 ..=>(0,0,0)) ?_ _ ?_⟩
 all_goals try (intro p hp;cases p)
 all_goals
  try dsimp only at hp
  try exact False.elim hp
  try have hx:=hp
  try dsimp only [Z0z,Z16,Z0l,Z6M,Z2c,Zg5,Z4s,Z3m] at hx
  try (repeat with_reducible (have hq:=And.left hp;replace hp:=And.right hp))
  try simp only [Zmi,Zv7,Zd2]
  try dsimp only
  repeat' first|(refine Z0n ?_;dsimp only;try simp(disch:=omega) only [ZL,List.length_append,List.length_cons,List.length_nil,List.length_take,List.length_drop,List.length_set,List.length_replicate,List.nil_append,List.drop_zero])|(refine Z2a (fun h=>?_) (fun h=>?_)<;>(try simp only [decide_eq_true_eq,decide_eq_false_iff_not,Bool.not_eq_true',Bool.not_eq_false',Bool.not_eq_true,Bool.not_eq_false,beq_iff_eq,bne_iff_ne,beq_eq_false_iff_ne,bne_eq_false_iff_eq,ne_eq,reduceCtorEq,Bool.and_eq_true,Bool.or_eq_true,Classical.not_not] at h;try simp(disch:=omega) only [ZL] at h))|refine Z0s ?_ ?_|refine Z1o ?_|refine Zi (ZEy k _ ?_ ?_ ?_) fun(v:Z9) hm hv=>?_|refine Zi (ZGX _ ?_) fun(v:(ZK×Zn)) hm hv=>?_|refine Zi (ZGC _ _ ?_ ?_) fun(v:(Zn×Int)) hm hv=>?_|refine Zi (ZzB _ ?_) fun(v:((List Int)×Int)) hm hv=>?_|refine Zi (Zvj k _ ?_ ?_ ?_) fun(v:Int) hm hv=>?_|refine Zi (ZAB _ _ ?_ ?_) fun(v:(List Int)) hm hv=>?_|refine Zi (ZEJ _ _ ?_) fun(v:Z3N) hm hv=>?_|refine Zi (ZGk k _ _ ?_ ?_ ?_ ?_) fun(v:(Z9×Int)) hm hv=>?_|refine Zi (ZDA k _ _ _ ?_ ?_ ?_ ?_) fun(v:(Z9×Int)) hm hv=>?_|refine Zi (ZzV _) fun(v:Int) hm hv=>?_|refine Zi (ZJo k _ _ ?_ ?_ ?_ ?_) fun(v:(Z9×Int)) hm hv=>?_|refine Zi (ZvW _ _ _ ?_) fun(v:Int) hm hv=>?_|refine Zi (ZCQ _ ?_) fun(v:(List Zj)) hm hv=>?_|refine Zi (ZBg _ _ ?_ ?_) fun(v:((List Int)×Int)) hm hv=>?_|refine Zi (Znd _ _ _ ?_) fun(v:(List Zj)) hm hv=>?_|refine Zi (Zze _ ?_ ?_) fun(v:(Zn×Int)) hm hv=>?_|refine Zi (Zh7 _) fun(v:Bool) hm hv=>?_|refine Zi (ZHk _ _ ?_ ?_) fun(v:(Zn×Int)) hm hv=>?_|refine Zi (Zzf k _ _ ?_ ?_ ?_) fun(v:(Z9×(List Z5))) hm hv=>?_|refine ZMa ?_ fun v hv=>?_|refine Zi (ZGU _ _ ?_ ?_) fun(v:(ZK×Zd×Bool×Bool)) hm hv=>?_|refine Zi (ZD7 k _ _ ?_ ?_ ?_ ?_) fun(v:(Z9×(List Z5))) hm hv=>?_|refine Zi (Ztm _ _ _ ?_) fun(v:Zv) hm hv=>?_|refine Zi (Zuy k _ _ _ ?_ ?_ ?_ ?_ ?_) fun(v:(Z9×(List Z5))) hm hv=>?_|with_reducible apply And.intro|rfl|assumption|exact True.intro|omega|exact decide_eq_true (Z1T _).1|exact Z0S (by assumption) (by omega)|exact Z0Z (by assumption) (by omega)|(refine Z1v.2 ?_;first|omega|grind)|(apply Zov;first|omega|(simp only [List.length_append,List.length_cons,List.length_nil,List.length_take,List.length_drop,List.length_set,List.length_replicate];omega))|(simp only [Bool.and_eq_true,Bool.or_eq_true,decide_eq_true_eq,beq_iff_eq,bne_iff_ne,beq_self_eq_true,and_self,and_true,true_and,List.length_map,List.length_append,List.length_cons,List.length_nil,List.length_take,List.length_drop,List.length_set,List.length_replicate,Z0e,maxLen_eq]<;>omega)|(simp(disch:=omega) only [ZL,decide_eq_true_eq,bne_iff_ne,ne_eq];(repeat' split)<;>omega)|(simp [Z0H,Z4A];done)|grind|(simp only [Bool.and_eq_true,Bool.or_eq_true,decide_eq_true_eq,beq_iff_eq,bne_iff_ne,beq_self_eq_true,and_self,and_true,true_and,List.length_map,List.length_append,List.length_cons,List.length_nil,List.length_take,List.length_drop,List.length_set,List.length_replicate,Z0e,maxLen_eq]<;>grind)|grind [Zb8]
def ZIE:=ZDd.1
def ZEZ:=ZDd.2.1
def Zw7:=ZDd.2.2
end Go.Proofs.YtjodhcdmhobmoaaGreatDoor
