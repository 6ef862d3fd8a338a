/-
  A part of the proof.
-/
import Derived.Test.YtjodhcdmhobmoaaGreatDoorQ1a
set_option linter.unusedVariables false
set_option linter.unusedSimpArgs false
namespace Go.Proofs.YtjodhcdmhobmoaaGreatDoor
open Go Go.Proofs.YtjodhcdmhobmoaaGreatDoor.Le
set_option linter.defProp false
set_option maxRecDepth 100000
set_option maxHeartbeats 40000000
theorem Zeg:(∀(p0:Z4),∃r,Z3X p0=some r/\r=[p0]) /\
  (∀(p0:Zv) (p1 p2:Bool),Zo2 p0->∃r,Zbz p0 p1 p2=some r/\Zo2 r) /\
  (∀(p0:Int),∃r,Z40 p0=some r/\0<=r/\r<=65536) /\
  (∀(p0:List Zj) (p1:Int),p0.length<=37->∃r,Zk5 p0 p1=some r/\True) /\
  (∀(p0:List Int),p0.length<=65536->byL p0->∃r,Zf9 p0=some r/\Z2c r.1.ZF) /\
  (∀(p0 p1:List Int),p0.length<=100000->p1.length<=100000->∃r,Zm2 p0 p1=some r/\True) /\
  (∀(p0:Int),∃r,Zh8 p0=some r/\True) /\
  (∀(p0:Zv) (p1 p2:Bool),Zo2 p0->∃r,Zg0 p0 p1 p2=some r/\Zo2 r) /\
  (∀(p0:List Int) (p1 p2:Int),0<=p1->0<=p2->p2<=8->p1+p2<=(p0.length:Int)->p0.length<=1000000->∃r,Z3l p0 p1 p2=some r/\R64 r) /\
  (∀(p0:List Z5) (p1:Int),p0.length<=1->∃r,ZcE p0 p1=some r/\r.length<=1) /\
  (∀(p0 p1:Int),∃r,Z2g p0 p1=some r/\r.length=1):=by
 refine⟨fun p0=>Zl (fun(p:Zfp)=>match p with | .b0 a0=>a0=p0) (fun(p:Zfp)=>(0,0,0)) ?_ _ ?_,
  fun p0 p1 p2 h0=>Zl (fun(p:Zc2)=>match p with | .b0 a0 _ _=>Zo2 a0) (fun(p:Zc2)=>(0,0,0)) ?_ _ ?_,
  fun p0=>Zl (fun(p:Z9i)=>True) (fun(p:Z9i)=>(0,0,0)) ?_ _ ?_,
  fun p0 p1 h0=>Zl (fun(p:ZjQ)=>match p with | .b0 a0 _=>a0.length<=37 | .b1 ..=>True | .b2 a0 a1 _=>a0.length<=37/\0<=a1/\a1<(a0.length:Int)) (fun(p:ZjQ)=>match p with | .b0 ..=>(0,0,1)|_=>(0,0,0)) ?_ _ ?_,
  fun p0 h0 h1=>Zl (fun(p:Z7q)=>match p with | .b0 a0=>a0.length<=65536/\byL a0 | .b1 a0=>Z2c a0.ZF | .b2 a0 _ _ _ a4=>Z2c a4.ZF/\2<=a0.length/\a0.length<=65536/\byL a0) (fun(p:Z7q)=>match p with | .b0 ..=>(0,0,1)|_=>(0,0,0)) ?_ _ ?_,
  fun p0 p1 h0 h1=>Zl (fun(p:ZbV)=>match p with | .b0 a0 a1=>a0.length<=100000/\a1.length<=100000) (fun(p:ZbV)=>(0,0,0)) ?_ _ ?_,
  fun p0=>Zl (fun(p:Z94)=>True) (fun(p:Z94)=>(0,0,0)) ?_ _ ?_,
  fun p0 p1 p2 h0=>Zl (fun(p:Zc6)=>match p with | .b0 a0 _ _=>Zo2 a0 | .b1 _ a1 a2=>Zo2 a1/\Zo2 a2 | .b2 _ a1 a2=>Zo2 a1/\Zo2 a2 | .b3 a0 a1=>Zo2 a0/\Zo2 a1) (fun(p:Zc6)=>match p with | .b0 ..=>(0,0,3) | .b1 ..=>(0,0,2) | .b2 ..=>(0,0,1) | .b3 ..=>(0,0,0)) ?_ _ ?_,
  fun p0 p1 p2 h0 h1 h2 h3 h4=>Zl (fun(p:ZfC)=>match p with | .b0 a0 a1 a2=>0<=a1/\0<=a2/\a2<=8/\a1+a2<=(a0.length:Int)/\a0.length<=1000000 | .b1 a0 a1 a2 a3=>0<=a1 /\ -1<=a3/\a3<=7/\a1+a3<(a0.length:Int)/\a0.length<=1000000/\R64 a2) (fun(p:ZfC)=>match p with | .b0 ..=>(1,0,0) | .b1 _ _ _ a3=>(0,(a3+1).toNat,0)) ?_ _ ?_,
  fun p0 p1 h0=>Zl (fun(p:Z99)=>match p with | .b0 a0 _=>a0.length<=1 | .b1 a0 _ a2 a3=>a0.length<=1/\a2.length<=1/\0<=a3/\a3<=(a0.length:Int)/\(a2.length:Int)=a3) (fun(p:Z99)=>match p with | .b0 ..=>(1,0,0) | .b1 a0 _ _ a3=>(0,((a0.length:Int) - a3).toNat,0)) ?_ _ ?_,
  fun p0 p1=>Zl (fun(p:Zbo)=>True) (fun(p:Zbo)=>(0,0,0)) ?_ _ ?_⟩
 all_goals try (intro p hp;cases p)
 all_goals
  try dsimp only at hp
  try exact False.elim hp
  try have hx:=hp
  try dsimp only [Z0z,Z16,Z0l,Z6M,Z2c,Zg5,Z4s,Z3m] at hx
  try (repeat with_reducible (have hq:=And.left hp;replace hp:=And.right hp))
  try simp only [ZpC,ZlK,ZhC,Zvz,Zel,Zlu,Zi7,Zmu,ZoP,Zhd,ZmR]
  try dsimp only
  repeat' first|(refine Z0n ?_;dsimp only;try simp(disch:=omega) only [ZL,List.length_append,List.length_cons,List.length_nil,List.length_take,List.length_drop,List.length_set,List.length_replicate,List.nil_append,List.drop_zero])|(refine Z2a (fun h=>?_) (fun h=>?_)<;>(try simp only [decide_eq_true_eq,decide_eq_false_iff_not,Bool.not_eq_true',Bool.not_eq_false',Bool.not_eq_true,Bool.not_eq_false,beq_iff_eq,bne_iff_ne,beq_eq_false_iff_ne,bne_eq_false_iff_eq,ne_eq,reduceCtorEq,Bool.and_eq_true,Bool.or_eq_true,Classical.not_not] at h;try simp(disch:=omega) only [ZL] at h))|refine Z0s ?_ ?_|refine Z1o ?_|refine ZCx ?_ fun v hv=>?_|refine Znp ?_ fun v hv=>?_|refine ZFg ?_ fun v hv=>?_|with_reducible apply And.intro|rfl|assumption|exact True.intro|omega|exact decide_eq_true (Z1T _).1|exact Z0S (by assumption) (by omega)|exact Z0Z (by assumption) (by omega)|(refine Z1v.2 ?_;first|omega|grind)|(apply Zov;first|omega|(simp only [List.length_append,List.length_cons,List.length_nil,List.length_take,List.length_drop,List.length_set,List.length_replicate];omega))|(simp only [Bool.and_eq_true,Bool.or_eq_true,decide_eq_true_eq,beq_iff_eq,bne_iff_ne,beq_self_eq_true,and_self,and_true,true_and,List.length_map,List.length_append,List.length_cons,List.length_nil,List.length_take,List.length_drop,List.length_set,List.length_replicate,Z0e,maxLen_eq]<;>omega)|(simp(disch:=omega) only [ZL,decide_eq_true_eq,bne_iff_ne,ne_eq];(repeat' split)<;>omega)|(simp [Z0H,Z4A];done)|grind|(simp only [Bool.and_eq_true,Bool.or_eq_true,decide_eq_true_eq,beq_iff_eq,bne_iff_ne,beq_self_eq_true,and_self,and_true,true_and,List.length_map,List.length_append,List.length_cons,List.length_nil,List.length_take,List.length_drop,List.length_set,List.length_replicate,Z0e,maxLen_eq]<;>grind)|grind [Zb8]
def Zq9:=Zeg.1
def Ztu:=Zeg.2.1
def Zhx:=Zeg.2.2.1
def ZNt:=Zeg.2.2.2.1
def Zze:=Zeg.2.2.2.2.1
def ZG9:=Zeg.2.2.2.2.2.1
def ZE9:=Zeg.2.2.2.2.2.2.1
def Ztm:=Zeg.2.2.2.2.2.2.2.1
def ZqT:=Zeg.2.2.2.2.2.2.2.2.1
def ZCn:=Zeg.2.2.2.2.2.2.2.2.2.1
def ZG6:=Zeg.2.2.2.2.2.2.2.2.2.2
theorem Zhw:∀(p0:Int),0<=p0->p0<=63->∃r,Z66 p0=some r/\0<r:=by
 refine fun p0 h0 h1=>Zl (fun(p:Z9W)=>match p with | .b0 a0=>0<=a0/\a0<=63 | .b1 a0 a1 a2=>0<=a2/\a0<=63/\a2<=a0/\a1=2 ^ a2.toNat) (fun(p:Z9W)=>match p with | .b0 ..=>(1,0,0) | .b1 a0 _ a2=>(0,(a0 - a2).toNat,0)) ?_ _ ?_
 all_goals try (intro p hp;cases p)
 case' b1=>
  dsimp only at hp
  have hx:=hp
  try dsimp only [Z0z,Z16,Z0l,Z6M,Z2c,Zg5,Z4s,Z3m] at hx
  simp only [Z4K]
  obtain⟨h1,h2,h3,h4⟩:=hp
  refine Z2a (fun h=>?_) (fun h=>?_)
  ·simp only [decide_eq_true_eq] at h
   refine Z0n ?_
   dsimp only
   obtain⟨n,rfl⟩:=Int.eq_ofNat_of_zero_le h1
   rw [ZL (by omega) (by omega)]
   refine⟨⟨by omega,h2,by omega,?_⟩,?_⟩
   ·subst h4
    have hn:n<63:=by omega
    have e1:((n:Int)+1).toNat=n+1:=by omega
    have e2:((n:Int)).toNat=n:=by omega
    have hlt:(2:Int) ^ n*2<18446744073709551616:=by
     have:2 ^ (n+1)<2 ^ 64:=Nat.pow_lt_pow_right (by decide) (by omega)
     have h' : ((2 ^ (n+1):Nat):Int)<((2 ^ 64:Nat):Int):=by exact_mod_cast this
     simpa [Int.pow_succ] using h'
    rw [e1,e2,IntKind.wrap_u64,Int.emod_eq_of_lt (Int.mul_nonneg (Int.pow_nonneg (by decide)) (by decide)) hlt,Int.pow_succ]
   ·refine Z1v.2 ?_;omega
  ·refine Z0n ?_
   dsimp only
   subst h4
   exact Int.pow_pos (by decide)
 all_goals
  try dsimp only at hp
  try exact False.elim hp
  try have hx:=hp
  try dsimp only [Z0z,Z16,Z0l,Z6M,Z2c,Zg5,Z4s,Z3m] at hx
  try (repeat with_reducible (have hq:=And.left hp;replace hp:=And.right hp))
  try simp only [Z4K]
  try dsimp only
  repeat' first|(refine Z0n ?_;dsimp only;try simp(disch:=omega) only [ZL,List.length_append,List.length_cons,List.length_nil,List.length_take,List.length_drop,List.length_set,List.length_replicate,List.nil_append,List.drop_zero])|(refine Z2a (fun h=>?_) (fun h=>?_)<;>(try simp only [decide_eq_true_eq,decide_eq_false_iff_not,Bool.not_eq_true',Bool.not_eq_false',Bool.not_eq_true,Bool.not_eq_false,beq_iff_eq,bne_iff_ne,beq_eq_false_iff_ne,bne_eq_false_iff_eq,ne_eq,reduceCtorEq,Bool.and_eq_true,Bool.or_eq_true,Classical.not_not] at h;try simp(disch:=omega) only [ZL] at h))|refine Z0s ?_ ?_|refine Z1o ?_|with_reducible apply And.intro|rfl|assumption|exact True.intro|omega|exact decide_eq_true (Z1T _).1|exact Z0S (by assumption) (by omega)|exact Z0Z (by assumption) (by omega)|(refine Z1v.2 ?_;first|omega|grind)|(apply Zov;first|omega|(simp only [List.length_append,List.length_cons,List.length_nil,List.length_take,List.length_drop,List.length_set,List.length_replicate];omega))|(simp only [Bool.and_eq_true,Bool.or_eq_true,decide_eq_true_eq,beq_iff_eq,bne_iff_ne,beq_self_eq_true,and_self,and_true,true_and,List.length_map,List.length_append,List.length_cons,List.length_nil,List.length_take,List.length_drop,List.length_set,List.length_replicate,Z0e,maxLen_eq]<;>omega)|(simp(disch:=omega) only [ZL,decide_eq_true_eq,bne_iff_ne,ne_eq];(repeat' split)<;>omega)|(simp [Z0H,Z4A];done)|grind|(simp only [Bool.and_eq_true,Bool.or_eq_true,decide_eq_true_eq,beq_iff_eq,bne_iff_ne,beq_self_eq_true,and_self,and_true,true_and,List.length_map,List.length_append,List.length_cons,List.length_nil,List.length_take,List.length_drop,List.length_set,List.length_replicate,Z0e,maxLen_eq]<;>grind)|grind [Zb8]
theorem ZKS:∀(p0 p1:Int),∃r,Zru p0 p1=some r/\True:=by
 refine fun p0 p1=>Zl (fun(p:ZeV)=>True) (fun(p:ZeV)=>match p with | .b0 ..=>(0,0,1) | .b1 ..=>(0,0,0)) ?_ _ ?_
 all_goals try (intro p hp;cases p)
 case' b0 a0 a1=>
  have hb : -64<Int.tmod (w64 (w64 (a1.tmod 64+64)*11)) 64/\Int.tmod (w64 (w64 (a1.tmod 64+64)*11)) 64<64:=tm_bd _ 64 (by omega)
 all_goals
  try dsimp only at hp
  try exact False.elim hp
  try have hx:=hp
  try dsimp only [Z0z,Z16,Z0l,Z6M,Z2c,Zg5,Z4s,Z3m] at hx
  try (repeat with_reducible (have hq:=And.left hp;replace hp:=And.right hp))
  try simp only [Zqn]
  try dsimp only
  repeat' first|(refine Z0n ?_;dsimp only;try simp(disch:=omega) only [ZL,List.length_append,List.length_cons,List.length_nil,List.length_take,List.length_drop,List.length_set,List.length_replicate,List.nil_append,List.drop_zero])|(refine Z2a (fun h=>?_) (fun h=>?_)<;>(try simp only [decide_eq_true_eq,decide_eq_false_iff_not,Bool.not_eq_true',Bool.not_eq_false',Bool.not_eq_true,Bool.not_eq_false,beq_iff_eq,bne_iff_ne,beq_eq_false_iff_ne,bne_eq_false_iff_eq,ne_eq,reduceCtorEq,Bool.and_eq_true,Bool.or_eq_true,Classical.not_not] at h;try simp(disch:=omega) only [ZL] at h))|refine Z0s ?_ ?_|refine Z1o ?_|with_reducible apply And.intro|rfl|assumption|exact True.intro|omega|exact decide_eq_true (Z1T _).1|exact Z0S (by assumption) (by omega)|exact Z0Z (by assumption) (by omega)|(refine Z1v.2 ?_;first|omega|grind)|(apply Zov;first|omega|(simp only [List.length_append,List.length_cons,List.length_nil,List.length_take,List.length_drop,List.length_set,List.length_replicate];omega))|(simp only [Bool.and_eq_true,Bool.or_eq_true,decide_eq_true_eq,beq_iff_eq,bne_iff_ne,beq_self_eq_true,and_self,and_true,true_and,List.length_map,List.length_append,List.length_cons,List.length_nil,List.length_take,List.length_drop,List.length_set,List.length_replicate,Z0e,maxLen_eq]<;>omega)|(simp(disch:=omega) only [ZL,decide_eq_true_eq,bne_iff_ne,ne_eq];(repeat' split)<;>omega)|(simp [Z0H,Z4A];done)|grind|(simp only [Bool.and_eq_true,Bool.or_eq_true,decide_eq_true_eq,beq_iff_eq,bne_iff_ne,beq_self_eq_true,and_self,and_true,true_and,List.length_map,List.length_append,List.length_cons,List.length_nil,List.length_take,List.length_drop,List.length_set,List.length_replicate,Z0e,maxLen_eq]<;>grind)|grind [Zb8]
theorem Zax:(∀(p0:ZM),∃r,Z4f p0=some r/\True) /\
  (∀(p0 p1:Int),∃r,ZbD p0 p1=some r/\True) /\
  (∀(p0:Int),∃r,ZhO p0=some r/\True) /\
  (∀(p0:ZM),∃r,Zf3 p0=some r/\True) /\
  (∀(p0:ZM),∃r,ZlJ p0=some r/\True) /\
  (∀(k:Int) (p0:Z9),Z0z k p0->0<=k->k<=1000000->∃r,Z9J p0=some r/\True) /\
  (∀(p0 p1:Int),∃r,Z7i p0 p1=some r/\True) /\
  (∀(p0:Z4),Z1f p0->∃r,Zly p0=some r/\Z1f r) /\
  (∀(p0:ZM),∃r,Z9H p0=some r/\r.length=9/\byL r) /\
  (∀(p0:Zn),∃r,Z3L p0=some r/\((r=0->Zb8 p0.SN/\Zb8 p0.Zda/\Zb8 p0.MD/\1<=p0.ZF.Z5f/\p0.ZF.Z5f<=3/\(1<=p0.ZF.Payload.length\/p0.ZF.Z5f=1)/\p0.ZF.Payload.length<=255))) /\
  (∀(p0:ZK),Z16 p0->∃r,ZlA p0=some r/\Z16 r.1/\r.1.Open=true/\Z2c r.2.ZF) /\
  (∀(p0 p1 p2:Int),∃r,Ziw p0 p1 p2=some r/\True) /\
  (∀(p0:Int) (p1 p2:List Int),p1.length<=200000->p2.length<=200000->∃r,ZhE p0 p1 p2=some r/\r.q0.length<=400100) /\
  (∀(p0:Int) (p1:List Int),p1.length<=1000000->∃r,ZjT p0 p1=some r/\True):=by
 refine⟨fun p0=>Zl (fun(p:Z2I)=>True) (fun(p:Z2I)=>match p with | .b0 ..=>(0,0,1) | .b1 ..=>(0,0,0)) ?_ _ ?_,
  fun p0 p1=>Zl (fun(p:Ze2)=>True) (fun(p:Ze2)=>(0,0,0)) ?_ _ ?_,
  fun p0=>Zl (fun(p:Z9l)=>True) (fun(p:Z9l)=>(0,0,0)) ?_ _ ?_,
  fun p0=>Zl (fun(p:Z7u)=>True) (fun(p:Z7u)=>(0,0,0)) ?_ _ ?_,
  fun p0=>Zl (fun(p:ZbP)=>True) (fun(p:ZbP)=>(0,0,0)) ?_ _ ?_,
  fun k p0 h0 h1 h2=>Zl (fun(p:Z8G)=>match p with | .b0 a0=>Z0z k a0) (fun(p:Z8G)=>(0,0,0)) ?_ _ ?_,
  fun p0 p1=>Zl (fun(p:Z77)=>match p with | .b0 ..=>True | .b1 _ _ a2=>0<=a2/\a2<=3) (fun(p:Z77)=>match p with | .b0 ..=>(1,0,0) | .b1 _ _ a2=>(0,(3 - a2).toNat,0)) ?_ _ ?_,
  fun p0 h0=>Zl (fun(p:Zbe)=>match p with | .b0 a0=>Z1f a0 | .b1 a0 a1 _=>Z1f a0/\Z1f a1 | .b2 a0 a1 _=>Z1f a0/\Z1f a1 | .b3 a0 a1 _=>Z1f a0/\Z1f a1 | .b4 a0 a1 _=>Z1f a0/\Z1f a1 | .b5 a0 a1 _=>Z1f a0/\Z1f a1 | .b6 a0 a1 _=>Z1f a0/\Z1f a1 | .b7 a0 a1 _=>Z1f a0/\Z1f a1 | .b8 a0 a1 _=>Z1f a0/\Z1f a1 | .b9 a0 a1 _=>Z1f a0/\Z1f a1) (fun(p:Zbe)=>match p with | .b0 ..=>(0,0,9) | .b1 ..=>(0,0,8) | .b2 ..=>(0,0,7) | .b3 ..=>(0,0,6) | .b4 ..=>(0,0,5) | .b5 ..=>(0,0,4) | .b6 ..=>(0,0,3) | .b7 ..=>(0,0,2) | .b8 ..=>(0,0,1) | .b9 ..=>(0,0,0)) ?_ _ ?_,
  fun p0=>Zl (fun(p:Z3T)=>True) (fun(p:Z3T)=>(0,0,0)) ?_ _ ?_,
  fun p0=>Zl (fun(p:Z9U)=>match p with | .b0 a0=>a0=p0 | .b1 a0=>a0=p0/\Zb8 a0.SN/\Zb8 a0.Zda/\Zb8 a0.MD) (fun(p:Z9U)=>match p with | .b0 ..=>(0,0,1) | .b1 ..=>(0,0,0)) ?_ _ ?_,
  fun p0 h0=>Zl (fun(p:ZbW)=>match p with | .b0 a0=>Z16 a0 | .b1 a0 a1 a2=>Z16 a0/\Z16 a1/\Z2c a2.ZF/\a0.Open=true | .b2 _ a1 a2 a3 a4=>Z16 a1/\Z16 a2/\Z2c a3.ZF/\Z2c a4.ZF/\a1.Open=true/\a1.Empty=false | .b3 _ a1 a2 a3 a4=>Z16 a1/\Z16 a2/\Z2c a3.ZF/\Z2c a4.ZF/\a1.Open=true | .b4 a0 a1 a2 a3=>Z16 a0/\Z16 a1/\Z2c a2.ZF/\Z2c a3.ZF/\a0.Open=true) (fun(p:ZbW)=>match p with | .b0 ..=>(0,0,4) | .b1 ..=>(0,0,3) | .b2 ..=>(0,0,2) | .b3 ..=>(0,0,1) | .b4 ..=>(0,0,0)) ?_ _ ?_,
  fun p0 p1 p2=>Zl (fun(p:Z9b)=>True) (fun(p:Z9b)=>(0,0,0)) ?_ _ ?_,
  fun p0 p1 p2 h0 h1=>Zl (fun(p:Z9A)=>match p with | .b0 _ a1 a2=>a1.length<=200000/\a2.length<=200000) (fun(p:Z9A)=>(0,0,0)) ?_ _ ?_,
  fun p0 p1 h0=>Zl (fun(p:Zer)=>match p with | .b0 _ a1=>a1.length<=1000000 | .b1 a0 _ a2=>0<=a2/\a2<=(a0.length:Int)/\a0.length<=1000000 | .b2 a0 _ a2 _ a4=>0<=a2/\a2<(a0.length:Int)/\a0.length<=1000000/\0<=a4/\a4<=8) (fun(p:Zer)=>match p with | .b0 ..=>(2,0,0) | .b1 a0 _ a2=>(1,((a0.length:Int) - a2).toNat,9) | .b2 a0 _ a2 _ a4=>(1,((a0.length:Int) - a2).toNat,(8 - a4).toNat)) ?_ _ ?_⟩
 all_goals try (intro p hp;cases p)
 all_goals
  try dsimp only at hp
  try exact False.elim hp
  try have hx:=hp
  try dsimp only [Z0z,Z16,Z0l,Z6M,Z2c,Zg5,Z4s,Z3m] at hx
  try (repeat with_reducible (have hq:=And.left hp;replace hp:=And.right hp))
  try simp only [Z6E,Zk4,ZhD,Ze5,Zmc,Zd0,Z41,Zlg,Z9p,ZhZ,Zm7,Zht,Ziq,ZoZ]
  try dsimp only
  repeat' first|(refine Z0n ?_;dsimp only;try simp(disch:=omega) only [ZL,List.length_append,List.length_cons,List.length_nil,List.length_take,List.length_drop,List.length_set,List.length_replicate,List.nil_append,List.drop_zero])|(refine Z2a (fun h=>?_) (fun h=>?_)<;>(try simp only [decide_eq_true_eq,decide_eq_false_iff_not,Bool.not_eq_true',Bool.not_eq_false',Bool.not_eq_true,Bool.not_eq_false,beq_iff_eq,bne_iff_ne,beq_eq_false_iff_ne,bne_eq_false_iff_eq,ne_eq,reduceCtorEq,Bool.and_eq_true,Bool.or_eq_true,Classical.not_not] at h;try simp(disch:=omega) only [ZL] at h))|refine Z0s ?_ ?_|refine Z1o ?_|refine Zi (Znj _ _ _) fun(v:Bool) hm hv=>?_|refine Zi (Zhw _ ?_ ?_) fun(v:Int) hm hv=>?_|refine Zi (ZjH _ _ _) fun(v:Int) hm hv=>?_|refine Zi (ZHy _ ?_) fun(v:Bool) hm hv=>?_|refine Zi (ZtF _ _) fun(v:Bool) hm hv=>?_|refine Zi (Zsz _) fun(v:Int) hm hv=>?_|refine Zi (Z73 _) fun(v:Zg) hm hv=>?_|refine Zi (ZxU _ _ ?_ ?_) fun(v:Z1C) hm hv=>?_|refine Zi (ZLO _) fun(v:Bool) hm hv=>?_|refine Zi (Zmr _) fun(v:Int) hm hv=>?_|refine Zi (ZE5) fun(v:Zd) hm hv=>?_|refine ZMa ?_ fun v hv=>?_|refine Zi (ZKS _ _) fun(v:Int) hm hv=>?_|refine Zi (ZIh _ _ ?_ ?_) fun(v:Int) hm hv=>?_|refine Zi (Zpb _ _ ?_ ?_) fun(v:Z2U) hm hv=>?_|refine Znp ?_ fun v hv=>?_|refine Zi (ZFN _ _) fun(v:Int) hm hv=>?_|with_reducible apply And.intro|rfl|assumption|exact True.intro|omega|exact decide_eq_true (Z1T _).1|exact Z0S (by assumption) (by omega)|exact Z0Z (by assumption) (by omega)|(refine Z1v.2 ?_;first|omega|grind)|(apply Zov;first|omega|(simp only [List.length_append,List.length_cons,List.length_nil,List.length_take,List.length_drop,List.length_set,List.length_replicate];omega))|(simp only [Bool.and_eq_true,Bool.or_eq_true,decide_eq_true_eq,beq_iff_eq,bne_iff_ne,beq_self_eq_true,and_self,and_true,true_and,List.length_map,List.length_append,List.length_cons,List.length_nil,List.length_take,List.length_drop,List.length_set,List.length_replicate,Z0e,maxLen_eq]<;>omega)|(simp(disch:=omega) only [ZL,decide_eq_true_eq,bne_iff_ne,ne_eq];(repeat' split)<;>omega)|(simp [Z0H,Z4A];done)|grind|(simp only [Bool.and_eq_true,Bool.or_eq_true,decide_eq_true_eq,beq_iff_eq,bne_iff_ne,beq_self_eq_true,and_self,and_true,true_and,List.length_map,List.length_append,List.length_cons,List.length_nil,List.length_take,List.length_drop,List.length_set,List.length_replicate,Z0e,maxLen_eq]<;>grind)|grind [Zb8]
def Zmh:=Zax.1
def Zz9:=Zax.2.1
def ZCZ:=Zax.2.2.1
def Zz0:=Zax.2.2.2.1
def ZGo:=Zax.2.2.2.2.1
def ZoF:=Zax.2.2.2.2.2.1
def Znh:=Zax.2.2.2.2.2.2.1
def ZIe:=Zax.2.2.2.2.2.2.2.1
def Zpp:=Zax.2.2.2.2.2.2.2.2.1
def Ziy:=Zax.2.2.2.2.2.2.2.2.2.1
def ZGX:=Zax.2.2.2.2.2.2.2.2.2.2.1
def ZBo:=Zax.2.2.2.2.2.2.2.2.2.2.2.1
def ZBI:=Zax.2.2.2.2.2.2.2.2.2.2.2.2.1
def ZLC:=Zax.2.2.2.2.2.2.2.2.2.2.2.2.2
theorem Zaw:(∀(p0 p1:Int),0<=p1->p1<=1000000->∃r,ZaJ p0 p1=some r/\(r.length:Int)=p1/\byL r) /\
  (∀(p0:Zk),∃r,Z8y p0=some r/\True) /\
  (∀(p0 p1:Int),∃r,Z4Z p0 p1=some r/\True) /\
  (∀(p0:Zk) (p1:Int),∃r,ZeA p0 p1=some r/\True) /\
  (∀(p0:Z7) (p1:Z4),Z0l p0->Z1f p1->∃r,Zet p0 p1=some r/\True) /\
  (∀(p0 p1:Int),∃r,Zbj p0 p1=some r/\R16 r) /\
  (∀(k:Int) (p0:Z9),Z0z k p0->0<=k->k<=1000000->∃r,Z9B p0=some r/\R16 r) /\
  (∀(p0 p1 p2:Int),∃r,Z8z p0 p1 p2=some r/\True) /\
  (∀(p0:ZM),∃r,Z35 p0=some r/\True) /\
  (∀(p0:Int),∃r,Z8R p0=some r/\True) /\
  (∀(p0:Z7) (p1:Int),Z0l p0->∃r,Zcx p0 p1=some r/\True) /\
  (∀(p0:Z7) (p1:Bool) (p2:Int),Z0l p0->R64 p2->∃r,Zfq p0 p1 p2=some r/\Z0l r.1/\r.2.length<=2/\ctL r.2) /\
  (∀(p0:Zj),∃r,Zbg p0=some r/\True) /\
  (∀(p0:List Int),p0.length<=37->ZrI p0->∃r,ZvJ p0=some r/\R64 r):=by
 refine⟨fun p0 p1 h0 h1=>Zl (fun(p:Z4D)=>match p with | .b0 _ a1=>a1=p1/\0<=a1/\a1<=1000000 | .b1 a0 a1 _ a3=>a0=p1/\a0<=1000000/\0<=a3/\a3<=a0/\(a1.length:Int)=a3/\byL a1 | .b2 a0 a1 _ a3 _ _ a6=>a0=p1/\a0<=1000000/\0<=a3/\a3<a0/\(a1.length:Int)=a3/\byL a1/\0<=a6/\a6<=8) (fun(p:Z4D)=>match p with | .b0 ..=>(2,0,0) | .b1 a0 _ _ a3=>(1,(a0 - a3).toNat,9) | .b2 a0 _ _ a3 _ _ a6=>(1,(a0 - a3).toNat,(8 - a6).toNat)) ?_ _ ?_,
  fun p0=>Zl (fun(p:Zb9)=>True) (fun(p:Zb9)=>(0,0,0)) ?_ _ ?_,
  fun p0 p1=>Zl (fun(p:Z7t)=>True) (fun(p:Z7t)=>(0,0,0)) ?_ _ ?_,
  fun p0 p1=>Zl (fun(p:Zes)=>True) (fun(p:Zes)=>(0,0,0)) ?_ _ ?_,
  fun p0 p1 h0 h1=>Zl (fun(p:Zff)=>match p with | .b0 a0 a1=>Z0l a0/\Z1f a1) (fun(p:Zff)=>(0,0,0)) ?_ _ ?_,
  fun p0 p1=>Zl (fun(p:Zc0)=>True) (fun(p:Zc0)=>(0,0,0)) ?_ _ ?_,
  fun k p0 h0 h1 h2=>Zl (fun(p:Z8Y)=>match p with | .b0 a0=>Z0z k a0) (fun(p:Z8Y)=>(0,0,0)) ?_ _ ?_,
  fun p0 p1 p2=>Zl (fun(p:ZbH)=>True) (fun(p:ZbH)=>(0,0,0)) ?_ _ ?_,
  fun p0=>Zl (fun(p:Z57)=>True) (fun(p:Z57)=>(0,0,0)) ?_ _ ?_,
  fun p0=>Zl (fun(p:Z3R)=>True) (fun(p:Z3R)=>(0,0,0)) ?_ _ ?_,
  fun p0 p1 h0=>Zl (fun(p:Z5z)=>match p with | .b0 a0 _=>Z0l a0 | .b1 _ a1=>Z0l a1 | .b2 _ a1=>Z0l a1) (fun(p:Z5z)=>match p with | .b0 ..=>(0,0,2) | .b1 ..=>(0,0,1) | .b2 ..=>(0,0,0)) ?_ _ ?_,
  fun p0 p1 p2 h0 h1=>Zl (fun(p:Z7s)=>match p with | .b0 a0 _ a2=>Z0l a0/\R64 a2 | .b1 _ a1 a2 a3=>Z0l a2/\Z0l a3/\R64 a1) (fun(p:Z7s)=>match p with | .b0 ..=>(0,0,1) | .b1 ..=>(0,0,0)) ?_ _ ?_,
  fun p0=>Zl (fun(p:Zbh)=>True) (fun(p:Zbh)=>(0,0,0)) ?_ _ ?_,
  fun p0 h0 h1=>Zl (fun(p:Zjq)=>match p with | .b0 a0=>a0.length<=37/\ZrI a0 | .b1 a0 a1 a2=>a0.length<=37/\(ZrI a0)/\0<=a2/\a2<=(a0.length:Int)/\R64 a1) (fun(p:Zjq)=>match p with | .b0 ..=>(1,0,0) | .b1 a0 _ a2=>(0,((a0.length:Int) - a2).toNat,0)) ?_ _ ?_⟩
 all_goals try (intro p hp;cases p)
 all_goals
  try dsimp only at hp
  try exact False.elim hp
  try have hx:=hp
  try dsimp only [Z0z,Z16,Z0l,Z6M,Z2c,Zg5,Z4s,Z3m] at hx
  try (repeat with_reducible (have hq:=And.left hp;replace hp:=And.right hp))
  try simp only [ZaV,Zce,ZaB,Ze8,Zjg,ZfW,ZcL,Zba,Z51,Z8P,Zdh,ZeM,ZmP,ZvL]
  try dsimp only
  repeat' first|(refine Z0n ?_;dsimp only;try simp(disch:=omega) only [ZL,List.length_append,List.length_cons,List.length_nil,List.length_take,List.length_drop,List.length_set,List.length_replicate,List.nil_append,List.drop_zero])|(refine Z2a (fun h=>?_) (fun h=>?_)<;>(try simp only [decide_eq_true_eq,decide_eq_false_iff_not,Bool.not_eq_true',Bool.not_eq_false',Bool.not_eq_true,Bool.not_eq_false,beq_iff_eq,bne_iff_ne,beq_eq_false_iff_ne,bne_eq_false_iff_eq,ne_eq,reduceCtorEq,Bool.and_eq_true,Bool.or_eq_true,Classical.not_not] at h;try simp(disch:=omega) only [ZL] at h))|refine Z0s ?_ ?_|refine Z1o ?_|refine Zi (ZBC _) fun(v:Int) hm hv=>?_|refine Zi (ZHv _) fun(v:Int) hm hv=>?_|refine Zi (ZtF _ _) fun(v:Bool) hm hv=>?_|refine Zi (ZHU _ _) fun(v:Int) hm hv=>?_|refine Zi (Zy6 _) fun(v:Zk) hm hv=>?_|refine Zi (ZpL _) fun(v:Bool) hm hv=>?_|refine Zi (ZLG _ _) fun(v:Int) hm hv=>?_|refine Zi (ZjH _ _ _) fun(v:Int) hm hv=>?_|refine Zi (Z73 _) fun(v:Zg) hm hv=>?_|refine Zi (ZpJ _) fun(v:Int) hm hv=>?_|refine Zi (ZBE _ _ ?_) fun(v:Bool) hm hv=>?_|refine Zi (Zq9 _) fun(v:(List Z4)) hm hv=>?_|refine Zi (Zhx _) fun(v:Int) hm hv=>?_|refine Zi (Zhw _ ?_ ?_) fun(v:Int) hm hv=>?_|refine ZOH ?_ fun v hv=>?_|with_reducible apply And.intro|rfl|assumption|exact True.intro|omega|exact decide_eq_true (Z1T _).1|exact Z0S (by assumption) (by omega)|exact Z0Z (by assumption) (by omega)|(refine Z1v.2 ?_;first|omega|grind)|(apply Zov;first|omega|(simp only [List.length_append,List.length_cons,List.length_nil,List.length_take,List.length_drop,List.length_set,List.length_replicate];omega))|(simp only [Bool.and_eq_true,Bool.or_eq_true,decide_eq_true_eq,beq_iff_eq,bne_iff_ne,beq_self_eq_true,and_self,and_true,true_and,List.length_map,List.length_append,List.length_cons,List.length_nil,List.length_take,List.length_drop,List.length_set,List.length_replicate,Z0e,maxLen_eq]<;>omega)|(simp(disch:=omega) only [ZL,decide_eq_true_eq,bne_iff_ne,ne_eq];(repeat' split)<;>omega)|(simp [Z0H,Z4A];done)|grind|(simp only [Bool.and_eq_true,Bool.or_eq_true,decide_eq_true_eq,beq_iff_eq,bne_iff_ne,beq_self_eq_true,and_self,and_true,true_and,List.length_map,List.length_append,List.length_cons,List.length_nil,List.length_take,List.length_drop,List.length_set,List.length_replicate,Z0e,maxLen_eq]<;>grind)|grind [Zb8]
def Zsg:=Zaw.1
def ZI9:=Zaw.2.1
def ZAL:=Zaw.2.2.1
def ZMh:=Zaw.2.2.2.1
def ZyT:=Zaw.2.2.2.2.1
def ZFK:=Zaw.2.2.2.2.2.1
def ZpH:=Zaw.2.2.2.2.2.2.1
def ZIP:=Zaw.2.2.2.2.2.2.2.1
def ZuE:=Zaw.2.2.2.2.2.2.2.2.1
def ZqE:=Zaw.2.2.2.2.2.2.2.2.2.1
def ZvZ:=Zaw.2.2.2.2.2.2.2.2.2.2.1
def ZAN:=Zaw.2.2.2.2.2.2.2.2.2.2.2.1
def Ztj:=Zaw.2.2.2.2.2.2.2.2.2.2.2.2.1
def ZNM:=Zaw.2.2.2.2.2.2.2.2.2.2.2.2.2
end Go.Proofs.YtjodhcdmhobmoaaGreatDoor
