/- A part of it. -/
import Derived.Test.YtddbklgndkpipaaGreatDoorQ1
import Derived.Test.YtddbklgndkpipaaGreatDoorF3
set_option linter.unusedVariables false
set_option linter.unusedSimpArgs false
namespace Go.Proofs.YtddbklgndkpipaaGreatDoor
open Go Go.Proofs.YtddbklgndkpipaaGreatDoor.Le
set_option linter.defProp false
set_option maxRecDepth 100000
set_option maxHeartbeats 40000000
theorem PK:(∀(p0:Int),∃r,Ur p0=some r/\0<=r/\r<=37) /\
  (∀(k:Int) (p0:Af) (p1:Ai),BK k p0->Bh p1->0<=k->k<=1000000->∃r,nK p0 p1=some r/\BK k r.1/\r.1.BV=p0.BV) /\
  (∀(p0:List BP) (p1:Int) (p2:BP),(p0.length<=1/\FI p0)->Ju p2->∃r,Yt p0 p1 p2=some r/\r.1.length<=1/\FI r.1) /\
  (∀(p0:Int) (p1:List Int),p1.length<=1000000->∃r,aG p0 p1=some r/\Bq r) /\
  (∀(p0:List Ba) (p1:List Int),p0.length<=37->p1.length<=37->∃r,lG p0 p1=some r/\r<(p1.length:Int)) /\
  (∀(p0 p1:Int),∃r,aI p0 p1=some r/\True) /\
  (∀(p0 p1 p2:Int),0<=p2->p2<=100000->∃r,Xt p0 p1 p2=some r/\(r.length:Int)=p2/\Cb r) /\
  (∀(p0:Ae) (p1:Int),BJ p0->∃r,qQ p0 p1=some r/\BJ r.1/\r.2.length<=1/\FI r.2):=by
 refine⟨fun p0=>CE (True) ?_ fun hp=>?_,
  fun k p0 p1 h0 h1 h2 h3=>Bj (fun(p:VU)=>match p with | .b0 a0 a1=>BK k a0/\Bh a1/\a0=p0 | .b1 a0 a1 _=>BK k a0/\Bh a1/\a0.BV=p0.BV) (fun(p:VU)=>match p with | .b0 ..=>(0,0,1) | .b1 ..=>(0,0,0)) ?_ _ ?_,
  fun p0 p1 p2 h0 h1=>CE (p0.length<=1/\FI p0/\Ju p2) ?_ fun hp=>?_,
  fun p0 p1 h0=>Bj (fun(p:Vo)=>match p with | .b0 _ a1=>a1.length<=1000000 | .b1 _ a1 a2 a3=>0<=a3/\a3<=(a1.length:Int)+8/\a1.length<=1000000/\Bq a2) (fun(p:Vo)=>match p with | .b0 ..=>(1,0,0) | .b1 _ a1 _ a3=>(0,((a1.length:Int)+8 - a3).toNat,0)) ?_ _ ?_,
  fun p0 p1 h0 h1=>Bj (fun(p:Um)=>match p with | .b0 a0 a1=>a0.length<=37/\a1=p1/\a1.length<=37 | .b1 a0 a1 a2 a3=>a0.length<=37/\a1=p1/\a1.length<=37/\a2<(a1.length:Int)/\0<=a3/\a3<=(a1.length:Int) | .b2 a0 a1 a2 a3=>a0.length<=37/\a1=p1/\a1.length<=37/\a2<(a1.length:Int)/\0<=a3/\a3<(a1.length:Int) | .b3 a0 a1 a2=>a0.length<=37/\a1=p1/\a1.length<=37/\a2<(a1.length:Int)/\0<=a2) (fun(p:Um)=>match p with | .b0 ..=>(1,0,0) | .b1 _ a1 _ a3=>(0,((a1.length:Int) - a3).toNat,2) | .b2 _ a1 _ a3=>(0,((a1.length:Int) - a3).toNat,0) | .b3 _ a1 a2=>(0,((a1.length:Int) - a2).toNat,1)) ?_ _ ?_,
  fun p0 p1=>Bj (fun(p:V8)=>match p with | .b0 ..=>True | .b1 a0 a1=>0<=a0/\a0<(a1.length:Int)) (fun(p:V8)=>match p with | .b0 ..=>(0,0,1) | .b1 ..=>(0,0,0)) ?_ _ ?_,
  fun p0 p1 p2 h0 h1=>Bj (fun(p:U4)=>match p with | .b0 _ _ a2=>a2=p2/\0<=a2/\a2<=100000 | .b1 _ a1 a2 _ a4=>a1=p2/\0<=a1/\a1<=100000/\0<=a4/\(a2.length:Int)=8*a4/\8*a4<=a1+8/\Cb a2) (fun(p:U4)=>match p with | .b0 ..=>(1,0,0) | .b1 _ a1 _ _ a4=>(0,(a1+8 - 8*a4).toNat,0)) ?_ _ ?_,
  fun p0 p1 h0=>Bj (fun(p:Vg)=>match p with | .b0 a0 _=>BJ a0 | .b1 a0 _=>BJ a0 | .b2 a0 a1 _=>a0.length<=1/\FI a0/\BJ a1 | .b3 a0 a1 a2 _=>a0.length<=1/\FI a0/\BJ a2/\0<=a1/\a1<=(a0.length:Int) | .b4 a0 a1 a2 _=>a0.length<=1/\FI a0/\BJ a2/\0<=a1/\a1<(a0.length:Int) | .b5 a0 a1 a2 _=>a0.length<=1/\FI a0/\BJ a2/\0<=a1/\a1<(a0.length:Int)) (fun(p:Vg)=>match p with | .b0 ..=>(2,0,0) | .b1 ..=>(1,0,0) | .b2 ..=>(1,0,1) | .b3 a0 a1 _ _=>(0,((a0.length:Int) - a1).toNat,3) | .b4 a0 a1 _ _=>(0,((a0.length:Int) - a1).toNat,2) | .b5 a0 a1 _ _=>(0,((a0.length:Int) - a1).toNat,1)) ?_ _ ?_⟩
 all_goals try (intro p hp;cases p)
 all_goals
  try dsimp only at hp
  try exact False.elim hp
  try have hx:=hp
  try dsimp only [BK,D7,BJ,Bh,Eb,EE] at hx
  try (repeat with_reducible (have hq:=And.left hp;replace hp:=And.right hp))
  try simp only [Z2w,Z3q,Z5j,Z5g,Z2l,Z59,Z0J,Z5C]
  try dsimp only
  repeat' first|(refine BL ?_;dsimp only;try simp(disch:=omega) only [Bv,CB,List.nil_append,List.drop_zero])|(refine CP (fun h=>?_) (fun h=>?_)<;>(try simp only [Fp,reduceCtorEq] at h;try simp(disch:=omega) only [Bv] at h))|refine BO ?_ ?_|refine Gm ?_|refine Aj (Z43 _) fun(v:(List Int)) hm hv=>?_|refine Aj (YV _) fun(v:Int) hm hv=>?_|refine Aj (Z1B _ ?_) fun(v:Bool) hm hv=>?_|refine Aj (Z2V _ _ ?_ ?_) fun(v:(CZ×Int)) hm hv=>?_|refine Aj (Zfg _ _ ?_) fun(v:Int) hm hv=>?_|refine Aj (Zjw _ _) fun(v:Int) hm hv=>?_|refine Aj (Ze0 _ ?_) fun(v:Int) hm hv=>?_|refine Aj (Zks _ _ ?_) fun(v:Ba) hm hv=>?_|refine Aj (Zjk _) fun(v:Bool) hm hv=>?_|refine Aj (Z3c _) fun(v:Int) hm hv=>?_|refine tY ?_ fun v hv=>?_|refine Aj (pM _ _ ?_ ?_) fun(v:Jh) hm hv=>?_|refine Aj (Zjc _ _ ?_) fun(v:((List BP)×(List BP))) hm hv=>?_|refine rX ?_ fun v hv=>?_|with_reducible apply And.intro|rfl|assumption|exact True.intro|omega|exact decide_eq_true (F5 _).1|exact FB (by assumption) (by omega)|(refine FM.2 ?_;first|omega|grind)|(apply GR;first|omega|(simp only [CB];omega))|(simp only [Dx,CB,Du,maxLen_eq,kL,kA]<;>omega)|(simp(disch:=omega) only [Bv,decide_eq_true_eq,bne_iff_ne,ne_eq];(repeat' split)<;>omega)|(simp [Dc,Ep];done)|grind|(simp only [Dx,CB,Du,maxLen_eq,kL,kA]<;>grind)|grind [EL]
def ZfS:=PK.1
def ZhU:=PK.2.1
def Zk0:=PK.2.2.1
def Zki:=PK.2.2.2.1
def Zeb:=PK.2.2.2.2.1
def ZjO:=PK.2.2.2.2.2.1
def Zct:=PK.2.2.2.2.2.2.1
def Ziw:=PK.2.2.2.2.2.2.2
theorem PO:(∀(p0:Int),∃r,YI p0=some r/\True) /\
  (∀(p0:Ae) (p1:AV) (p2 p3:Int),BJ p0->BZ p1->∃r,YT p0 p1 p2 p3=some r/\BJ r.1/\BZ r.2/\r.1.Aa=p0.Aa) /\
  (∀(p0:Int) (p1:ByteArray) (p2:List Int),fA U 5 p1=true->(MI U 5 p1).length<=100->p2.length<=1000->∃r,kV p0 p1 p2=some r/\Bq r) /\
  (∀(p0:List Ba) (p1 p2:Int),p0.length<=37->∃r,jH p0 p1 p2=some r/\Bq r) /\
  (∀(p0 p1 p2:Int),∃r,qR p0 p1 p2=some r/\True) /\
  (∀(p0 p1:Int),∃r,lY p0 p1=some r/\True) /\
  (∀(p0 p1:Int) (p2 p3:List Int),p2.length<=200000->p3.length<=200000->∃r,Yu p0 p1 p2 p3=some r/\r.length=4/\Cb r) /\
  (∀(p0:Ae) (p1:AV) (p2 p3:Int),BJ p0->BZ p1->∃r,gX p0 p1 p2 p3=some r/\BJ r):=by
 refine⟨fun p0=>CE (True) ?_ fun hp=>?_,
  fun p0 p1 p2 p3 h0 h1=>Bj (fun(p:Uj)=>match p with | .b0 a0 a1 _ _=>BJ a0/\BZ a1/\a0=p0 | .b1 _ a1 a2 _ _=>BJ a1/\BZ a2/\a1.Aa=p0.Aa | .b2 _ a1 a2 _ _=>BJ a1/\BZ a2/\a1.Aa=p0.Aa | .b3 a0 a1 _ _=>BJ a0/\BZ a1/\a0.Aa=p0.Aa | .b4 a0 a1 _ _=>BJ a0/\BZ a1/\a0.Aa=p0.Aa | .b5 a0 a1 _ _=>BJ a0/\BZ a1/\a0.Aa=p0.Aa) (fun(p:Uj)=>match p with | .b0 ..=>(0,0,4) | .b1 ..=>(0,0,3) | .b3 ..=>(0,0,2) | .b4 ..=>(0,0,0)|_=>(0,0,1)) ?_ _ ?_,
  fun p0 p1 p2 h0 h1 h2=>Bj (fun(p:UW)=>match p with | .b0 _ a1 a2=>fA U 5 a1=true/\(MI U 5 a1).length<=100/\a2.length<=1000 | .b1 _ a1 a2 a3=>a1.length<=1000/\0<=a3/\a3<=(a1.length:Int)/\(a2.length:Int)<=101+8*a3) (fun(p:UW)=>match p with | .b0 ..=>(1,0,0) | .b1 _ a1 _ a3=>(0,((a1.length:Int) - a3).toNat,0)) ?_ _ ?_,
  fun p0 p1 p2 h0=>Bj (fun(p:UO)=>match p with | .b0 a0 _ _=>a0.length<=37 | .b1 a0 _ a2=>a0.length<=37/\a2.length<=37/\Gs a2 | .b2 a0=>a0.length<=37/\Gs a0) (fun(p:UO)=>match p with | .b0 ..=>(1,0,0) | .b1 _ _ a2=>(0,a2.length,1) | .b2 ..=>(0,0,0)) ?_ _ ?_,
  fun p0 p1 p2=>CE (True) ?_ fun hp=>?_,
  fun p0 p1=>CE (True) ?_ fun hp=>?_,
  fun p0 p1 p2 p3 h0 h1=>CE (p2.length<=200000/\p3.length<=200000) ?_ fun hp=>?_,
  fun p0 p1 p2 p3 h0 h1=>Bj (fun(p:Tz)=>match p with | .b0 a0 a1 _ _=>BJ a0/\BZ a1 | .b1 a0 _=>BJ a0) (fun(p:Tz)=>match p with | .b0 ..=>(0,0,1) | .b1 ..=>(0,0,0)) ?_ _ ?_⟩
 all_goals try (intro p hp;cases p)
 all_goals
  try dsimp only at hp
  try exact False.elim hp
  try have hx:=hp
  try dsimp only [BK,D7,BJ,Bh,Eb,EE] at hx
  try (repeat with_reducible (have hq:=And.left hp;replace hp:=And.right hp))
  try simp only [Z2h,Z2L,Z1j,Z06,Z4r,Z2t,Z5c,yI]
  try dsimp only
  repeat' first|(refine BL ?_;dsimp only;try simp(disch:=omega) only [Bv,CB,List.nil_append,List.drop_zero])|(refine CP (fun h=>?_) (fun h=>?_)<;>(try simp only [Fp,reduceCtorEq] at h;try simp(disch:=omega) only [Bv] at h))|refine BO ?_ ?_|refine Gm ?_|refine Aj (lV _ ?_ ?_) fun(v:Int) hm hv=>?_|refine Aj (ZfS _) fun(v:Int) hm hv=>?_|refine Aj (Zh1 _ _) fun(v:Int) hm hv=>?_|refine Aj (Zdo _) fun(v:BP) hm hv=>?_|refine Aj (Zk0 _ _ _ ?_ ?_) fun(v:((List BP)×Int)) hm hv=>?_|refine Aj (pM _ _ ?_ ?_) fun(v:Jh) hm hv=>?_|refine Aj (Zki _ _ ?_) fun(v:Int) hm hv=>?_|refine ZlX ?_ fun v hv=>?_|refine Aj (Z43 _) fun(v:(List Int)) hm hv=>?_|refine Aj (Zeb _ _ ?_ ?_) fun(v:Int) hm hv=>?_|refine Aj (Zly _ ?_ ?_) fun(v:Int) hm hv=>?_|refine Aj (Z2i _) fun(v:Int) hm hv=>?_|refine Aj (Z0V _ _) fun(v:Int) hm hv=>?_|refine Aj (Z4X _ _) fun(v:Bool) hm hv=>?_|refine Aj (ZjO _ _) fun(v:Int) hm hv=>?_|refine Aj (Zfc _ _ _ ?_ ?_) fun(v:QI) hm hv=>?_|with_reducible apply And.intro|rfl|assumption|exact True.intro|omega|exact decide_eq_true (F5 _).1|exact FB (by assumption) (by omega)|(refine FM.2 ?_;first|omega|grind)|(apply GR;first|omega|(simp only [CB];omega))|(simp only [Dx,CB,Du,maxLen_eq,kL,kA]<;>omega)|(simp(disch:=omega) only [Bv,decide_eq_true_eq,bne_iff_ne,ne_eq];(repeat' split)<;>omega)|(simp [Dc,Ep];done)|grind|(simp only [Dx,CB,Du,maxLen_eq,kL,kA]<;>grind)|grind [EL]
def Ze8:=PO.1
def Z2F:=PO.2.1
def ZcD:=PO.2.2.1
def ZaP:=PO.2.2.2.1
def Zjq:=PO.2.2.2.2.1
def Zfm:=PO.2.2.2.2.2.1
def Zkn:=PO.2.2.2.2.2.2.1
def Z8t:=PO.2.2.2.2.2.2.2
theorem PL:(∀(p0:Eh),Hw p0->∃r,nC p0=some r/\True) /\
  (∀(p0:AV),BZ p0->∃r,Uw p0=some r/\True) /\
  (∀(p0 p1 p2 p3:Int),Bq p2->Bq p3->∃r,Yw p0 p1 p2 p3=some r/\G9 r) /\
  (∀(p0:Eh) (p1 p2:Int),Hw p0->∃r,Y7 p0 p1 p2=some r/\True) /\
  (∀(p0 p1:Int) (p2 p3:List Int),p2.length<=65536->p3.length<=65536->∃r,oQ p0 p1 p2 p3=some r/\r.1.length<=65536/\Cb r.1) /\
  (∀(p0:Ae) (p1:AV) (p2 p3:Int),BJ p0->BZ p1->∃r,kT p0 p1 p2 p3=some r/\BJ r.1/\r.2.1.length<=8/\En r.2.1/\r.2.2.length<=1/\Dp r.2.2) /\
  (∀(p0:Ae) (p1 p2:Int),BJ p0->∃r,lS p0 p1 p2=some r/\BJ r.1/\r.2.length<=8/\En r.2) /\
  (∀(p0 p1:Int) (p2 p3:List Int),p2.length<=100000->p3.length<=100000->∃r,nP p0 p1 p2 p3=some r/\r.length=p3.length+4/\Cb r):=by
 refine⟨fun p0 h0=>Bj (fun(p:Ub)=>match p with | .b0 a0=>Hw a0 | .b1 a0=>Hw a0 | .b2 a0=>Hw a0) (fun(p:Ub)=>match p with | .b0 ..=>(0,0,2) | .b1 ..=>(0,0,1) | .b2 ..=>(0,0,0)) ?_ _ ?_,
  fun p0 h0=>Bj (fun(p:Uc)=>match p with | .b0 a0=>BZ a0 | .b1 a0 _=>BZ a0 | .b2 a0 _=>BZ a0) (fun(p:Uc)=>match p with | .b0 ..=>(0,0,2) | .b1 ..=>(0,0,1) | .b2 ..=>(0,0,0)) ?_ _ ?_,
  fun p0 p1 p2 p3 h0 h1=>CE (Bq p2/\Bq p3) ?_ fun hp=>?_,
  fun p0 p1 p2 h0=>CE (Hw p0) ?_ fun hp=>?_,
  fun p0 p1 p2 p3 h0 h1=>CE (p2.length<=65536/\p3.length<=65536) ?_ fun hp=>?_,
  fun p0 p1 p2 p3 h0 h1=>Bj (fun(p:UR)=>match p with | .b0 a0 a1 _ _=>BJ a0/\BZ a1 | .b1 _ _ a2 a3 _=>BJ a2/\BZ a3 | .b2 _ _ a2 a3 _=>BJ a2/\BZ a3 | .b3 a0 _=>BJ a0 | .b4 _ a1 a2 _=>BJ a1/\BZ a2 | .b5 _ _ a2 a3 _=>BJ a2/\BZ a3 | .b6 a0 a1 _=>BJ a0/\BZ a1 | .b7 _ _ a2 a3 _=>BJ a2/\BZ a3 | .b8 a0 a1 _=>BJ a0/\BZ a1 | .b9 a0 a1 _=>BJ a0/\BZ a1) (fun(p:UR)=>match p with | .b0 ..=>(0,0,4) | .b2 ..=>(0,0,3) | .b5 ..=>(0,0,2) | .b7 ..=>(0,0,1)|_=>(0,0,0)) ?_ _ ?_,
  fun p0 p1 p2 h0=>Bj (fun(p:Ui)=>match p with | .b0 a0 _ _=>BJ a0 | .b1 _ _ a2 a3 _=>a2.length<=8/\En a2/\BJ a3/\a2.length+a3.Aa.length<=8 | .b2 _ _ a2 a3 _=>a2.length<=8/\En a2/\BJ a3/\a2.length+a3.Aa.length<=8/\0<a3.Aa.length | .b3 a0 a1 _=>a0.length<=8/\En a0/\BJ a1 | .b4 _ _ a2 a3 _ a5=>a2.length<=8/\En a2/\BJ a3/\BZ a5/\a2.length+a3.Aa.length<=7) (fun(p:Ui)=>match p with | .b0 ..=>(1,0,0) | .b1 _ _ _ a3 _=>(0,a3.Aa.length,2) | .b2 _ _ _ a3 _=>(0,a3.Aa.length,1) | .b3 ..=>(0,0,0) | .b4 _ _ _ a3 _ _=>(0,a3.Aa.length,3)) ?_ _ ?_,
  fun p0 p1 p2 p3 h0 h1=>CE (p3=p3/\p2.length<=100000/\p3.length<=100000) ?_ fun hp=>?_⟩
 all_goals try (intro p hp;cases p)
 all_goals
  try dsimp only at hp
  try exact False.elim hp
  try have hx:=hp
  try dsimp only [BK,D7,BJ,Bh,Eb,EE] at hx
  try (repeat with_reducible (have hq:=And.left hp;replace hp:=And.right hp))
  try simp only [Z1C,Z2d,Z4W,Z4i,Z3R,Z1r,Z1A,Z33]
  try dsimp only
  repeat' first|(refine BL ?_;dsimp only;try simp(disch:=omega) only [Bv,CB,List.nil_append,List.drop_zero])|(refine CP (fun h=>?_) (fun h=>?_)<;>(try simp only [Fp,reduceCtorEq] at h;try simp(disch:=omega) only [Bv] at h))|refine BO ?_ ?_|refine Gm ?_|refine Aj (Z8V _) fun(v:Int) hm hv=>?_|refine Aj (Ze8 _) fun(v:Int) hm hv=>?_|refine Aj (Z14 _ _ _) fun(v:Bool) hm hv=>?_|refine Aj (YG _) fun(v:CQ) hm hv=>?_|refine Aj (ZhC _ ?_) fun(v:AV) hm hv=>?_|refine Aj (ZbR _) fun(v:Bool) hm hv=>?_|refine Aj (ZcD _ _ _ (by rfl) (by decide +kernel) ?_) fun(v:Int) hm hv=>?_|refine Aj (Zjq _ _ _) fun(v:Int) hm hv=>?_|refine Aj (Z2i _) fun(v:Int) hm hv=>?_|refine Aj (Z0V _ _) fun(v:Int) hm hv=>?_|refine Aj (Zij _ _) fun(v:Int) hm hv=>?_|refine Aj (Zfm _ _) fun(v:Int) hm hv=>?_|refine Aj (Zkn _ _ _ _ ?_ ?_) fun(v:(List Int)) hm hv=>?_|refine Aj (ZhJ _ _ ?_ ?_) fun(v:Bool) hm hv=>?_|refine Aj (Zct _ _ _ ?_ ?_) fun(v:(List Int)) hm hv=>?_|refine Aj (ZiS _ _ ?_) fun(v:Np) hm hv=>?_|refine Aj (qN _) fun(v:(List AV)) hm hv=>?_|refine Aj (Z8t _ _ _ _ ?_ ?_) fun(v:Ae) hm hv=>?_|refine Aj (Z96 _ _ _ ?_ ?_) fun(v:(Ae×(List AV)×(List Ar))) hm hv=>?_|refine Aj (Z8w _ _ ?_ ?_) fun(v:(Ae×(List AV)×(List Ar))) hm hv=>?_|refine Aj (Z8r _ _ _ ?_ ?_) fun(v:(Ae×(List AV)×(List Ar))) hm hv=>?_|refine Aj (Z8D _ _ ?_ ?_) fun(v:(Ae×(List AV)×(List Ar))) hm hv=>?_|refine Aj (Z9d _ _ ?_ ?_) fun(v:(Ae×(List AV)×(List Ar))) hm hv=>?_|refine Aj (Z4P _ _ ?_ ?_) fun(v:Bool) hm hv=>?_|refine rJ ?_ fun v hv=>?_|refine Aj (Z2F _ _ _ _ ?_ ?_) fun(v:(Ae×AV)) hm hv=>?_|with_reducible apply And.intro|rfl|assumption|exact True.intro|omega|exact decide_eq_true (F5 _).1|exact FB (by assumption) (by omega)|(refine FM.2 ?_;first|omega|grind)|(apply GR;first|omega|(simp only [CB];omega))|(simp only [Dx,CB,Du,maxLen_eq,kL,kA]<;>omega)|(simp(disch:=omega) only [Bv,decide_eq_true_eq,bne_iff_ne,ne_eq];(repeat' split)<;>omega)|(simp [Dc,Ep];done)|grind|(simp only [Dx,CB,Du,maxLen_eq,kL,kA]<;>grind)|grind [EL]
def Zep:=PL.1
def ZdF:=PL.2.1
def Z5h:=PL.2.2.1
def ZhO:=PL.2.2.2.1
def ZgE:=PL.2.2.2.2.1
def Zdx:=PL.2.2.2.2.2.1
def ZeP:=PL.2.2.2.2.2.2.1
def Zh7:=PL.2.2.2.2.2.2.2
theorem Nw:(∀(p0:Int) (p1:Eh) (p2 p3 p4 p5:Int),Hw p1->Bq p3->Bq p4->∃r,MH p0 p1 p2 p3 p4 p5=some r/\BK 0 r.1) /\
  (∀(p0:Ae) (p1:AV) (p2 p3:Int),BJ p0->BZ p1->R16 p2->∃r,l9 p0 p1 p2 p3=some r/\BJ r.1/\r.2.1.length<=1/\En r.2.1) /\
  (∀(k:Int) (p0:Af) (p1:Int),BK k p0->0<=k->k<=1000000->Bq p1->∃r,pW p0 p1=some r/\BK (k+2) r.1/\r.1.BV=p0.BV) /\
  (∀(k:Int) (p0:Af),BK k p0->0<=k->k<=1000000->∃r,RP p0=some r/\True) /\
  (∀(p0:DX) (p1:CG),G9 p0->Bh p1.Bg->∃r,oZ p0 p1=some r/\Bh r.1.Bg) /\
  (∀(p0:List Int),p0.length<=65536->Cb p0->∃r,Xv p0=some r/\(BZ r.1/\(r.2=12->1<=p0.length))) /\
  (∀(k:Int) (p0:Af) (p1:Int),BK k p0->0<=k->k<=900000->∃r,YW p0 p1=some r/\BK (k+8) r.1/\r.2.length<=5/\Dp r.2) /\
  (∀(p0:AV),BZ p0->∃r,kE p0=some r/\(r.1.length<=60/\Cb r.1/\(r.2=0->1<=r.1.length))) /\
  (∀(p0:DX) (p1:CG),G9 p0->Bh p1.Bg->∃r,nV p0 p1=some r/\(Bh r.1.Bg/\(r.2=0->r.1.Bg.Payload.length<=255))):=by
 refine⟨fun p0 p1 p2 p3 p4 p5 h0 h1 h2=>Bj (fun(p:V3)=>match p with | .b0 _ a1 _ a3 a4 _=>Hw a1/\Bq a3/\Bq a4 | .b2 a0 _ a2 a3 _ a5 _=>Hw a5/\EL a0/\Bq a2/\Bq a3 | .b4 a0 _ a2 a3 _ a5 _=>Hw a5/\EL a0/\Bq a2/\Bq a3|_=>True) (fun(p:V3)=>match p with | .b0 ..=>(0,0,2) | .b2 ..=>(0,0,1)|_=>(0,0,0)) ?_ _ ?_,
  fun p0 p1 p2 p3 h0 h1 h2=>Bj (fun(p:Ue)=>match p with | .b0 a0 a1 a2 _=>BJ a0/\BZ a1/\R16 a2 | .b1 a0 _=>BJ a0 | .b2 _ _ a2 a3 _=>BJ a2/\BZ a3 | .b3 _ _ a2 a3 _=>BJ a2/\BZ a3 | .b4 a0 a1 _=>BJ a0/\BZ a1) (fun(p:Ue)=>match p with | .b0 ..=>(0,0,2) | .b2 ..=>(0,0,1)|_=>(0,0,0)) ?_ _ ?_,
  fun k p0 p1 h0 h1 h2 h3=>Bj (fun(p:Vb)=>match p with | .b0 a0 a1=>BK k a0/\a0=p0/\Bq a1 | .b1 a0 a1 _=>BK k a1/\Bq a0/\a1.BV=p0.BV) (fun(p:Vb)=>match p with | .b0 ..=>(0,0,1) | .b1 ..=>(0,0,0)) ?_ _ ?_,
  fun k p0 h0 h1 h2=>CE (BK k p0) ?_ fun hp=>?_,
  fun p0 p1 h0 h1=>Bj (fun(p:VS)=>match p with | .b0 a0 a1=>G9 a0/\Bh a1.Bg | .b1 a0 a1 _=>G9 a0/\Bh a1.Bg) (fun(p:VS)=>match p with | .b0 ..=>(0,0,1) | .b1 ..=>(0,0,0)) ?_ _ ?_,
  fun p0 h0 h1=>CE (p0=p0/\p0.length<=65536/\Cb p0) ?_ fun hp=>?_,
  fun k p0 p1 h0 h1 h2=>Bj (fun(p:Uz)=>match p with | .b0 a0 _=>BK k a0 | .b1 _ _ a2 _=>BK k a2 | .b2 _ _ a2 _=>BK k a2 | .b3 _ _ _ a3 _=>BK k a3 | .b4 _ _ a2 _=>BK k a2 | .b5 _ a1 a2 a3 a4 _ _=>a1.length<=4/\Dp a1/\a2.length<=1/\FI a2/\BK k a4/\(a1.length:Int)=a3/\0<=a3/\a3<=(a2.length:Int) | .b6 a0 _ a2 _=>a0.length<=4/\Dp a0/\BK (k+8) a2 | .b7 a0 a1 _=>a0.length<=4/\Dp a0/\BK (k+8) a1 | .b8 _ a1 _ a3 _=>a1.length<=4/\Dp a1/\BK (k+8) a3 | .b9 a0 a1 _=>a0.length<=4/\Dp a0/\BK (k+8) a1) (fun(p:Uz)=>match p with | .b0 ..=>(9,0,0) | .b1 ..=>(8,0,0) | .b2 ..=>(7,0,0) | .b3 ..=>(6,0,0) | .b4 ..=>(5,0,0) | .b5 _ _ a2 a3 _ _ _=>(4,((a2.length:Int) - a3).toNat,0) | .b6 ..=>(1,0,0) | .b8 ..=>(3,0,0)|_=>(2,0,0)) ?_ _ ?_,
  fun p0 h0=>Bj (fun(p:UY)=>match p with | .b0 a0=>BZ a0 | .b1 a0 a1 _=>BZ a1/\1<=a0.length/\a0.length<=10/\Cb a0 | .b2 a0 a1 _=>BZ a1/\1<=a0.length/\a0.length<=15/\Cb a0 | .b3 a0 a1 _=>BZ a1/\1<=a0.length/\a0.length<=17/\Cb a0 | .b4 a0 a1 _=>BZ a1/\1<=a0.length/\a0.length<=18/\Cb a0 | .b5 a0 a1 _=>BZ a1/\1<=a0.length/\a0.length<=19/\Cb a0 | .b6 a0 a1 _=>BZ a1/\1<=a0.length/\a0.length<=27/\Cb a0 | .b7 a0 a1 _=>BZ a1/\1<=a0.length/\a0.length<=35/\Cb a0 | .b8 a0 a1 _=>BZ a1/\1<=a0.length/\a0.length<=43/\Cb a0 | .b9 a0 a1 _=>BZ a1/\1<=a0.length/\a0.length<=44/\Cb a0) (fun(p:UY)=>match p with | .b0 ..=>(0,0,9) | .b1 ..=>(0,0,8) | .b2 ..=>(0,0,7) | .b3 ..=>(0,0,6) | .b4 ..=>(0,0,5) | .b5 ..=>(0,0,4) | .b6 ..=>(0,0,3) | .b7 ..=>(0,0,2) | .b8 ..=>(0,0,1) | .b9 ..=>(0,0,0)) ?_ _ ?_,
  fun p0 p1 h0 h1=>Bj (fun(p:VG)=>match p with | .b0 a0 a1=>G9 a0/\Bh a1.Bg | .b1 a0 a1 _=>G9 a0/\Bh a1.Bg) (fun(p:VG)=>match p with | .b0 ..=>(0,0,1) | .b1 ..=>(0,0,0)) ?_ _ ?_⟩
 all_goals try (intro p hp;cases p)
 all_goals
  try dsimp only at hp
  try exact False.elim hp
  try have hx:=hp
  try dsimp only [BK,D7,BJ,Bh,Eb,EE] at hx
  try (repeat with_reducible (have hq:=And.left hp;replace hp:=And.right hp))
  try simp only [Z5E,Z1G,Z4K,Z0l,Z3p,Z12,Z1U,Z0z,Z49]
  try dsimp only
  repeat' first|(refine BL ?_;dsimp only;try simp(disch:=omega) only [Bv,CB,List.nil_append,List.drop_zero])|(refine CP (fun h=>?_) (fun h=>?_)<;>(try simp only [Fp,reduceCtorEq] at h;try simp(disch:=omega) only [Bv] at h))|refine BO ?_ ?_|refine Gm ?_|refine Aj (Zep _ ?_) fun(v:Int) hm hv=>?_|refine Aj (ZeN _ _) fun(v:I4) hm hv=>?_|refine Aj (Zk3) fun(v:CZ) hm hv=>?_|refine Aj (Z4R _) fun(v:Dq) hm hv=>?_|refine Aj (ZjZ _ _ _ ?_) fun(v:Ae) hm hv=>?_|refine Aj (ZfH) fun(v:(List Ba)) hm hv=>?_|refine Aj (Z9D _) fun(v:Bool) hm hv=>?_|refine Aj (ZcW _ _ ?_ ?_) fun(v:AV) hm hv=>?_|refine Aj (ZdF _ ?_) fun(v:Int) hm hv=>?_|refine Aj (ZaN _ _ ?_) fun(v:Bool) hm hv=>?_|refine Aj (Z4P _ _ ?_ ?_) fun(v:Bool) hm hv=>?_|refine Aj (Z2F _ _ _ _ ?_ ?_) fun(v:(Ae×AV)) hm hv=>?_|refine Aj (ZbL _ _ _ ?_ ?_) fun(v:(Ae×(List AV))) hm hv=>?_|refine Aj (Z5h _ _ _ _ ?_ ?_) fun(v:DX) hm hv=>?_|refine Aj (Z3g _ _ _ ?_) fun(v:DX) hm hv=>?_|refine Aj (ZhO _ _ _ ?_) fun(v:(Int×Int)) hm hv=>?_|refine Aj (YV _) fun(v:Int) hm hv=>?_|refine Aj (lI _) fun(v:Bool) hm hv=>?_|refine Aj (ZeZ _) fun(v:Int) hm hv=>?_|refine Aj (ZfX _ _ _ ?_) fun(v:Int) hm hv=>?_|refine Aj (ZgE _ _ _ _ ?_ ?_) fun(v:((List Int)×Int)) hm hv=>?_|refine Aj (ZhV _ _) fun(v:CG) hm hv=>?_|refine Aj (YG _) fun(v:CQ) hm hv=>?_|refine Aj (ZgX _) fun(v:Int) hm hv=>?_|refine Aj (ZfR _ _ ?_ ?_ ?_) fun(v:AV) hm hv=>?_|refine Md ?_ fun v hv=>?_|(exact ZkB (by assumption) (by assumption))|refine Aj (Z1O k _ ?_ ?_ ?_) fun(v:Bool) hm hv=>?_|refine Aj (ZhS _) fun(v:(Dq×Int)) hm hv=>?_|refine Aj (Zc5 _ _) fun(v:Dq) hm hv=>?_|refine Aj (Z0A _ _ _ ?_) fun(v:(List Ba)) hm hv=>?_|refine Aj (Ziw _ _ ?_) fun(v:(Ae×(List BP))) hm hv=>?_|refine Aj (ZeJ k _ _ ?_ ?_ ?_ ?_) fun(v:Af) hm hv=>?_|refine Aj (Z1t k _ ?_ ?_ ?_) fun(v:Int) hm hv=>?_|refine Aj (ZeP _ _ _ ?_) fun(v:(Ae×(List AV))) hm hv=>?_|refine Aj (Zbf _ _ ?_) fun(v:Bool) hm hv=>?_|refine Aj (Zb3 _) fun(v:Int) hm hv=>?_|refine rX ?_ fun v hv=>?_|refine Aj (Z4s (k+8) _ _ ?_ ?_ ?_) fun(v:(Af×(List Ar))) hm hv=>?_|refine Aj (Z9F _) fun(v:(List Int)) hm hv=>?_|refine Aj (Z4N _ _ ?_ ?_) fun(v:I7) hm hv=>?_|refine Aj (Zh7 _ _ _ _ ?_ ?_) fun(v:(List Int)) hm hv=>?_|with_reducible apply And.intro|rfl|assumption|exact True.intro|omega|exact decide_eq_true (F5 _).1|exact FB (by assumption) (by omega)|(refine FM.2 ?_;first|omega|grind)|(apply GR;first|omega|(simp only [CB];omega))|(simp only [Dx,CB,Du,maxLen_eq,kL,kA]<;>omega)|(simp(disch:=omega) only [Bv,decide_eq_true_eq,bne_iff_ne,ne_eq];(repeat' split)<;>omega)|(simp [Dc,Ep];done)|grind|(simp only [Dx,CB,Du,maxLen_eq,kL,kA]<;>grind)|grind [EL]
def Z53:=Nw.1
def Zft:=Nw.2.1
def Zk2:=Nw.2.2.1
def jP:=Nw.2.2.2.1
def Zin:=Nw.2.2.2.2.1
def Zcy:=Nw.2.2.2.2.2.1
def Z2D:=Nw.2.2.2.2.2.2.1
def Zcg:=Nw.2.2.2.2.2.2.2.1
def ZgK:=Nw.2.2.2.2.2.2.2.2
theorem bP:(∀(k:Int) (p0:Af) (p1:AV) (p2:Int),BK k p0->BZ p1->0<=k->k<=1000000->∃r,Jy p0 p1 p2=some r/\BK (k+1) r.1/\r.1.BV=p0.BV) /\
  (∀(k:Int) (p0:Af) (p1:Ai),BK k p0->Bh p1->0<=k->k<=1000000->∃r,mM p0 p1=some r/\BK k r.1/\r.2.length<=1/\Dp r.2) /\
  (∀(k:Int) (p0:Af) (p1:List Int) (p2:Int),BK k p0->0<=k->k<=1000000->p1.length<=65536->Cb p1->∃r,jI p0 p1 p2=some r/\BK (k+8) r.1/\r.2.length<=1/\Dp r.2) /\
  (∀(k:Int) (p0:Af),BK k p0->0<=k->k<=1000000->∃r,nD p0=some r/\BK k r/\r.BV=p0.BV):=by
 refine⟨fun k p0 p1 p2 h0 h1 h2 h3=>CE (BK k p0/\BZ p1) ?_ fun hp=>?_,
  fun k p0 p1 h0 h1 h2 h3=>Bj (fun(p:Uh)=>match p with | .b0 a0 a1=>BK k a0/\Bh a1 | .b1 a0 a1 _=>BK k a0/\Bh a1 | .b2 a0 a1 _=>a0.length<=1/\Dp a0/\BK k a1) (fun(p:Uh)=>match p with | .b0 ..=>(0,0,2) | .b1 ..=>(0,0,1) | .b2 ..=>(0,0,0)) ?_ _ ?_,
  fun k p0 p1 p2 h0 h1 h2 h3 h4=>Bj (fun(p:UM)=>match p with | .b0 a0 a1 _=>BK k a0/\a1.length<=65536/\Cb a1 | .b1 a0 a1 _ a3=>a0.length<=1/\Dp a0/\BK (k+8) a1/\BJ a3 | .b2 a0 a1 _=>a0.length<=1/\Dp a0/\BK (k+8) a1) (fun(p:UM)=>match p with | .b0 ..=>(0,0,2) | .b1 ..=>(0,0,1) | .b2 ..=>(0,0,0)) ?_ _ ?_,
  fun k p0 h0 h1 h2=>Bj (fun(p:Un)=>match p with | .b0 a0=>BK k a0/\a0=p0 | .b1 a0 _ a2 a3 _=>En a0/\BK k a3/\0<=a2/\a2<=(a3.A8.length:Int)/\(a0.length:Int)<=a2/\a3.BV=p0.BV | .b2 a0 _ a2 a3 _ a5=>En a0/\BK k a3/\BZ a5/\0<=a2/\a2<(a3.A8.length:Int)/\(a0.length:Int)<=a2/\a3.BV=p0.BV | .b3 a0 _ a2 a3 _ a5=>En a0/\BK k a3/\BZ a5/\0<=a2/\a2<(a3.A8.length:Int)/\(a0.length:Int)<=a2/\a3.BV=p0.BV | .b4 a0 _ a2 a3 _=>En a0/\BK k a3/\0<=a2/\a2<(a3.A8.length:Int)/\(a0.length:Int)<=a2+1/\a3.BV=p0.BV) (fun(p:Un)=>match p with | .b0 ..=>(1,0,0) | .b1 _ _ a2 a3 _=>(0,((a3.A8.length:Int) - a2).toNat,2) | .b2 _ _ a2 a3 _ _=>(0,((a3.A8.length:Int) - a2).toNat,1) | .b3 _ _ a2 a3 _ _=>(0,((a3.A8.length:Int) - a2).toNat,1) | .b4 _ _ a2 a3 _=>(0,((a3.A8.length:Int) - a2).toNat,0)) ?_ _ ?_⟩
 all_goals try (intro p hp;cases p)
 all_goals
  try dsimp only at hp
  try exact False.elim hp
  try have hx:=hp
  try dsimp only [BK,D7,BJ,Bh,Eb,EE] at hx
  try (repeat with_reducible (have hq:=And.left hp;replace hp:=And.right hp))
  try simp only [Z2I,Z2a,ZX,Z2S]
  try dsimp only
  repeat' first|(refine BL ?_;dsimp only;try simp(disch:=omega) only [Bv,CB,List.nil_append,List.drop_zero])|(refine CP (fun h=>?_) (fun h=>?_)<;>(try simp only [Fp,reduceCtorEq] at h;try simp(disch:=omega) only [Bv] at h))|refine BO ?_ ?_|refine Gm ?_|refine Aj (Z1t k _ ?_ ?_ ?_) fun(v:Int) hm hv=>?_|refine Aj (Zft _ _ _ _ ?_ ?_ ?_) fun(v:(Ae×(List AV)×Int)) hm hv=>?_|refine Aj (lI _) fun(v:Bool) hm hv=>?_|refine Aj (Z47 _ _ _ ?_) fun(v:DX) hm hv=>?_|refine Aj (Zcy _ ?_ ?_) fun(v:(AV×Int)) hm hv=>?_|refine Aj (Zgg _ _ ?_ ?_) fun(v:(Ae×(List Ar))) hm hv=>?_|refine Aj (Z3g _ _ _ ?_) fun(v:DX) hm hv=>?_|refine Aj (ZfC _ _ ?_) fun(v:(List Ar)) hm hv=>?_|refine Aj (Zdx _ _ _ _ ?_ ?_) fun(v:(Ae×(List AV)×(List Ar))) hm hv=>?_|refine Md ?_ fun v hv=>?_|refine Aj (Z5h _ _ _ _ ?_ ?_) fun(v:DX) hm hv=>?_|refine Aj (Z1B _ ?_) fun(v:Bool) hm hv=>?_|refine Aj (ZaA _) fun(v:Bool) hm hv=>?_|refine rJ ?_ fun v hv=>?_|refine Aj (Zcg _ ?_) fun(v:((List Int)×Int)) hm hv=>?_|refine Aj (Z2V _ _ ?_ ?_) fun(v:(CZ×Int)) hm hv=>?_|with_reducible apply And.intro|rfl|assumption|exact True.intro|omega|exact decide_eq_true (F5 _).1|exact FB (by assumption) (by omega)|(refine FM.2 ?_;first|omega|grind)|(apply GR;first|omega|(simp only [CB];omega))|(simp only [Dx,CB,Du,maxLen_eq,kL,kA]<;>omega)|(simp(disch:=omega) only [Bv,decide_eq_true_eq,bne_iff_ne,ne_eq];(repeat' split)<;>omega)|(simp [Dc,Ep];done)|grind|(simp only [Dx,CB,Du,maxLen_eq,kL,kA]<;>grind)|grind [EL]
def Zfu:=bP.1
def Zf6:=bP.2.1
def Zbh:=bP.2.2.1
def ZfT:=bP.2.2.2
theorem tH:(∀(k:Int) (p0:Af) (p1:Eo) (p2:Int),BK k p0->EE p1->0<=k->k<=1000000->∃r,Vz p0 p1 p2=some r/\BK (k+2) r.1/\r.1.BV=p0.BV) /\
  (∀(k:Int) (p0:Af) (p1:List Int) (p2:Bool) (p3:Int),BK k p0->0<=k->k<=1000000->p1.length<=65536->Cb p1->∃r,Xh p0 p1 p2 p3=some r/\BK (k+8) r.1/\r.2.1.length<=4/\Dp r.2.1) /\
  (∀(k:Int) (p0:Af),BK k p0->0<=k->k<=1000000->∃r,Y8 p0=some r/\(BK k r.q0/\r.q1.length<=300/\Cb r.q1/\(p0.BV=0->1<=r.q1.length)/\r.q0.BV=p0.BV)):=by
 refine⟨fun k p0 p1 p2 h0 h1 h2 h3=>Bj (fun(p:Vu)=>match p with | .b0 a0 a1 _=>BK k a0/\EE a1/\a0=p0 | .b1 _ _ a2=>BK (k+2) a2/\a2.BV=p0.BV | .b2 _ _ a2=>BK (k+2) a2/\a2.BV=p0.BV) (fun(p:Vu)=>match p with | .b0 ..=>(0,0,1)|_=>(0,0,0)) ?_ _ ?_,
  fun k p0 p1 p2 p3 h0 h1 h2 h3 h4=>Bj (fun(p:UN)=>match p with | .b0 a0 a1 _ _=>BK k a0/\a1.length<=65536/\Cb a1 | .b1 a0 _ a2 _=>BK k a2/\a0.length<=65536/\Cb a0 | .b2 a0 _ a2 _=>BK k a2/\a0.length<=65536/\Cb a0 | .b3 _ _ a2 _ a4=>BK k a2/\Bh a4.Bg | .b4 _ _ a2 _ a4=>BK k a2/\Bh a4.Bg | .b5 _ _ a2 _ a4 _=>BK k a2/\Bh a4.Bg/\a2.Ag.Open=true/\a2.Ag.Empty=false | .b6 _ _ a2 _ a4 a5=>BK k a2/\Bh a4.Bg/\Bh a5 | .b7 _ _ a2 _ a4 _=>BK k a2/\Bh a4.Bg | .b8 _ _ a2 _ a4 a5=>BK k a2/\Bh a4.Bg/\Bh a5 | .b9 _ _ _ a3 a4 _ a6 a7=>a3.length<=2/\Dp a3/\BK k a4/\Bh a6.Bg/\Bh a7 | .b10 _ a1 a2 _ a4 a5=>a1.length<=2/\Dp a1/\BK k a2/\Bh a4.Bg/\Bh a5 | .b11 a0 a1 _ a3=>a0.length<=4/\Dp a0/\BK (k+8) a1/\Bh a3.Bg) (fun(p:UN)=>match p with | .b0 ..=>(0,0,11) | .b1 ..=>(0,0,10) | .b2 ..=>(0,0,9) | .b3 ..=>(0,0,8) | .b4 ..=>(0,0,7) | .b5 ..=>(0,0,6) | .b6 ..=>(0,0,5) | .b7 ..=>(0,0,4) | .b8 ..=>(0,0,3) | .b9 ..=>(0,0,2) | .b10 ..=>(0,0,1) | .b11 ..=>(0,0,0)) ?_ _ ?_,
  fun k p0 h0 h1 h2=>Bj (fun(p:VY)=>match p with | .b0 a0=>BK k a0/\a0=p0 | .b1 a0 _ a2=>BK k a0/\Bh a2.Bg/\a0.BV=p0.BV) (fun(p:VY)=>match p with | .b0 ..=>(0,0,1) | .b1 ..=>(0,0,0)) ?_ _ ?_⟩
 all_goals try (intro p hp;cases p)
 all_goals
  try dsimp only at hp
  try exact False.elim hp
  try have hx:=hp
  try dsimp only [BK,D7,BJ,Bh,Eb,EE] at hx
  try (repeat with_reducible (have hq:=And.left hp;replace hp:=And.right hp))
  try simp only [Z6i,Zx,Z3e]
  try dsimp only
  repeat' first|(refine BL ?_;dsimp only;try simp(disch:=omega) only [Bv,CB,List.nil_append,List.drop_zero])|(refine CP (fun h=>?_) (fun h=>?_)<;>(try simp only [Fp,reduceCtorEq] at h;try simp(disch:=omega) only [Bv] at h))|refine BO ?_ ?_|refine Gm ?_|refine Aj (ZhU k _ _ ?_ ?_ ?_ ?_) fun(v:(Af×Int)) hm hv=>?_|refine Aj (Zfu k _ _ _ ?_ ?_ ?_ ?_) fun(v:(Af×Int)) hm hv=>?_|refine Aj (Zca _) fun(v:Int) hm hv=>?_|refine Aj (Zk2 k _ _ ?_ ?_ ?_ ?_) fun(v:(Af×Int)) hm hv=>?_|refine Aj (ZaP _ _ _ ?_) fun(v:Int) hm hv=>?_|refine Aj (ZdV _ ?_) fun(v:(List Ba)) hm hv=>?_|refine Aj (jP k _ ?_ ?_ ?_) fun(v:Int) hm hv=>?_|refine Aj (Ze7 _ _ ?_) fun(v:Ol) hm hv=>?_|refine Aj (Zeq _ _ ?_ ?_) fun(v:((List Int)×Int)) hm hv=>?_|refine Aj (Z0A _ _ _ ?_) fun(v:(List Ba)) hm hv=>?_|refine Aj (ZcV _ ?_ ?_) fun(v:(CG×Int)) hm hv=>?_|refine Aj (lI _) fun(v:Bool) hm hv=>?_|refine Aj (Zin _ _ ?_ ?_) fun(v:(CG×Int)) hm hv=>?_|refine Aj (Z4s k _ _ ?_ ?_ ?_) fun(v:(Af×(List Ar))) hm hv=>?_|refine Z6w ?_ fun v hv=>?_|refine Aj (ZgW _ _ ?_ ?_) fun(v:(CZ×Ai×Bool×Bool)) hm hv=>?_|refine Aj (Zf6 k _ _ ?_ ?_ ?_ ?_) fun(v:(Af×(List Ar))) hm hv=>?_|refine Aj (Z47 _ _ _ ?_) fun(v:DX) hm hv=>?_|refine Aj (Zbh k _ _ _ ?_ ?_ ?_ ?_ ?_) fun(v:(Af×(List Ar))) hm hv=>?_|refine Aj (ZfT k _ ?_ ?_ ?_) fun(v:Af) hm hv=>?_|refine Aj (Zi7 _ ?_) fun(v:(CZ×CG)) hm hv=>?_|refine Aj (ZgK _ _ ?_ ?_) fun(v:(CG×Int)) hm hv=>?_|refine Aj (ZcG _ ?_) fun(v:((List Int)×Int)) hm hv=>?_|refine Aj (Zdd _ _ ?_ ?_) fun(v:(List Int)) hm hv=>?_|with_reducible apply And.intro|rfl|assumption|exact True.intro|omega|exact decide_eq_true (F5 _).1|exact FB (by assumption) (by omega)|(refine FM.2 ?_;first|omega|grind)|(apply GR;first|omega|(simp only [CB];omega))|(simp only [Dx,CB,Du,maxLen_eq,kL,kA]<;>omega)|(simp(disch:=omega) only [Bv,decide_eq_true_eq,bne_iff_ne,ne_eq];(repeat' split)<;>omega)|(simp [Dc,Ep];done)|grind|(simp only [Dx,CB,Du,maxLen_eq,kL,kA]<;>grind)|grind [EL]
def rV:=tH.1
def Zby:=tH.2.1
def Zgf:=tH.2.2
set_option maxHeartbeats 4000000
theorem ZnD {L:Type} {t:Nat} {l:List (U.Ty t)} {i:Int} {k:U.Ty t->Tr U L} {Q:L->Prop} (h:0<=i/\i<(l.length:Int)) (g:∀hi:i.toNat<l.length,Tot (k l[i.toNat]) Q):Tot (.bind t (l[Int.toNat i]?) k) Q:=by
 have hi:i.toNat<l.length:=by omega
 exact⟨l[i.toNat],List.getElem?_eq_getElem hi,g hi⟩
theorem Z6q {L:Type} {l:List Ai} {i:Int} {k:Ai->Tr U L} {Q:L->Prop} (h:0<=i/\i<(l.length:Int)) (g:∀hi:i.toNat<l.length,Tot (k l[i.toNat]) Q):Tot (Tr.bind (U:=U) 67 (l[Int.toNat i]? : Option Ai) k) Q:=ZnD (t:=67) h g
theorem Ld {n c:Nat} (h:n<=100000000) (hc:c<=1000):kA n c=true:=by
 have h1:n*c<=100000000*1000:=Nat.mul_le_mul h hc
 have h2:n<=maxLen:=by rw [maxLen_eq];omega
 have h3:n*c<=lim:=by rw [Du];omega
 simp [kA,h2,h3]
theorem O0 {α:Type} (l:List α):kL l=true:=by simp [kL]
theorem Qx (p0:List Ai) (h0:p0.length<=1000000) (h1:IC p0):∃r,Ie p0=some r/\r.q0=p0:=by
 refine Bj (T:=XW) (post:=fun r=>r.q0=p0) (fun p=>match p with | .b0 a0=>a0=p0 | .b1 a0 a1 a2=>a0=p0/\0<=a2/\a2<=(p0.length:Int)/\a1=p0.take a2.toNat)
  (fun p=>match p with | .b0 _=>(1,0,0) | .b1 a0 a1 a2=>(0,((a0.length:Int) - a2).toNat,0)) ?_ (.b0 p0) rfl
 intro p hp
 cases p with
 | b0 a0=>
  dsimp only at hp
  subst hp
  simp only [XW]
  refine BO rfl ?_
  refine BL ?_
  exact⟨⟨rfl,by omega,by omega,by simp⟩,FH (by omega)⟩
 | b1 a0 a1 a2=>
  dsimp only at hp
  obtain⟨rfl,g1,g2,rfl⟩:=hp
  simp only [XW]
  refine CP (fun h=>?_) (fun h=>?_)
  ·simp only [decide_eq_true_eq,decide_eq_false_iff_not] at h
   refine BO (decide_eq_true ⟨g1,h⟩) ?_
   refine Z6q (by omega) (fun hi=>?_)
   have hpl:=(h1 _ (List.getElem_mem hi)).1
   refine BO (decide_eq_true ⟨g1,h⟩) ?_
   refine Z6q (by omega) (fun hi' =>?_)
   refine BO rfl (BO (Ld (by omega) (by decide)) (BO (O0 _) (BO rfl (BO (O0 _) (BO (Ld (by simp;omega) (by decide)) (BO (O0 _) ?_))))))
   refine BL ?_
   dsimp only
   rw [Bv (by omega) (by omega),List.nil_append]
   refine⟨⟨rfl,by omega,by omega,?_⟩,NG (by omega)⟩
   rw [show (a2+1).toNat=a2.toNat+1 by omega]
   first|exact List.take_append_getElem hi|exact(List.take_append_getElem hi).symm|simp
  ·simp only [decide_eq_true_eq,decide_eq_false_iff_not] at h
   refine BO (O0 _) ?_
   refine BL ?_
   dsimp only
   rw [show a2.toNat=a0.length by omega,List.take_length]
theorem Z35 (k:Int) (p0:Af) (h0:BK k p0) (h1:0<=k) (h2:k<=1000000):∃r,Y6 p0=some r/\r=p0:=by
 refine CE True trivial fun _=>?_
 have ha:=h0.1
 have hp:=h0.2.1
 have h3:=ha.2.2.1
 have h4:=hp.1
 have h5:=hp.2.1
 have h6:=h0.2.2.2.2.1
 have h7:=h0.2.2.2.2.2.2.1
 simp only [Z3o]
 refine Aj (Qx _ (by omega) ha.2.2.2.1.pp) (fun(y:Fa) _ hy=>?_)
 refine BO rfl (BO (Ld (by omega) (by decide)) (BO rfl (BO (Ld (by omega) (by decide)) (BO rfl (BO (Ld (by omega) (by decide)) (BO rfl (BO (Ld (by omega) (by decide)) ?_)))))))
 refine BO (O0 _) (BO (O0 _) (BO (O0 _) (BO (O0 _) (BO (O0 _) (BL ?_)))))
 dsimp only
 rw [hy]
 rfl
theorem Zgl (k:Int) (p0:Ak) (h0:CO k p0) (h1:0<=k) (h2:k<=1000000):∃r,QO p0=some r/\r.q0=p0:=by
 refine CE True trivial fun _=>?_
 obtain⟨s0,s1,a0,a1,b0,b1,n⟩:=h0
 have c0:=a0.1
 have c1:=a1.1
 have d0:=b0.1
 have d1:=b1.1
 simp only [Z41]
 refine Aj (Z35 k _ s0 h1 h2) (fun(y:Af) _ e1=>?_)
 refine Aj (Qx _ (by omega) a0.2) (fun(y:Fa) _ e2=>?_)
 refine Aj (Qx _ (by omega) b0.2) (fun(y:Fa) _ e3=>?_)
 refine Aj (Z35 k _ s1 h1 h2) (fun(y:Af) _ e4=>?_)
 refine Aj (Qx _ (by omega) a1.2) (fun(y:Fa) _ e5=>?_)
 refine Aj (Qx _ (by omega) b1.2) (fun(y:Fa) _ e6=>?_)
 refine BO rfl (BO (Ld (by omega) (by decide)) (BO (by simp [kL]) (BL ?_)))
 dsimp only
 rw [e1,e2,e3,e4,e5,e6]
 rfl
theorem Va (d:Ak):Ij d 0=some (d.AA.x0.BV==0):=(Cc _ _).trans rfl
theorem V4 (d:Ak):Ij d 1=some (d.AA.x1.BV==0):=(Cc _ _).trans rfl
theorem J9 {L:Type} {c:Bool} {a b:Tr U L} {Q:L->Prop} (h:c=true) (k:Tot a Q):Tot (.br c a b) Q:=CP (fun _=>k) (fun e=>absurd (h.symm.trans e) (by decide))
theorem J3 {L:Type} {c:Bool} {a b:Tr U L} {Q:L->Prop} (h:c=false) (k:Tot b Q):Tot (.br c a b) Q:=CP (fun e=>absurd (h.symm.trans e) (by decide)) (fun _=>k)
theorem dQ {L:Type} {k:Int} {d:Ak} {K:LU->Tr U L} {Q:L->Prop} (h:CO k d) (h1:0<=k) (h2:k<=1000000) (g:Tot (K ⟨d⟩) Q):Tot (Tr.bind (U:=U) 1571 (QO d:Option LU) K) Q:=by
 obtain⟨⟨d'⟩,e1,e2⟩:=Zgl k d h h1 h2
 cases e2
 exact GI (U:=U) (t:=1571) e1 g
theorem Z6l {L:Type} {l:List Ai} {K:Fa->Tr U L} {Q:L->Prop} (h:l.length<=1000000) (h1:IC l) (g:Tot (K ⟨l⟩) Q):Tot (Tr.bind (U:=U) 1572 (Ie l:Option Fa) K) Q:=by
 obtain⟨⟨d'⟩,e1,e2⟩:=Qx l h h1
 cases e2
 exact GI (U:=U) (t:=1572) e1 g
theorem kA1 {α:Type} {n c:Nat} (a:α) (h:n<=10000000) (hc:c<=1000):kA (n+[a].length) c=true:=Ld (by rw [List.length_cons,List.length_nil];omega) hc
theorem Zmq {k:Int} {d:Ak} {s:BU} {p:Ai} (h:CO k d) (hl:BK (k+2) s.x0) (hr:BK (k+2) s.x1) (hp:Bh p):CO (k+2) { d with AA:=s,Sent:=⟨d.Sent.x0++[p],d.Sent.x1⟩ }:=
 ⟨hl,hr,WR h.2.2.1 (Q3 hp) (by simp),MN h.2.2.2.1 (by omega),MN h.2.2.2.2.1 (by omega),MN h.2.2.2.2.2.1 (by omega),by have:=h.2.2.2.2.2.2;show (d.Notes.length:Int)<=k+2;omega⟩
theorem Zni {k:Int} {d:Ak} {s:BU} {p:Ai} (h:CO k d) (hl:BK (k+2) s.x0) (hr:BK (k+2) s.x1) (hp:Bh p):CO (k+2) { d with AA:=s,Sent:=⟨d.Sent.x0,d.Sent.x1++[p]⟩ }:=
 ⟨hl,hr,MN h.2.2.1 (by omega),WR h.2.2.2.1 (Q3 hp) (by simp),MN h.2.2.2.2.1 (by omega),MN h.2.2.2.2.2.1 (by omega),by have:=h.2.2.2.2.2.2;show (d.Notes.length:Int)<=k+2;omega⟩
theorem ZjW (k:Int) (p0:Ak) (p1:Eo) (h0:CO k p0) (ha:EE p1) (h1:0<=k) (h2:k<=800000):∃r,lF p0 p1=some r/\CO (k+2) r.q0:=by
 refine Bj (T:=Rh) (post:=fun r=>CO (k+2) r.q0) (fun p=>match p with | .b0 a0 a1=>CO k a0/\EE a1 | .b1 a0 a1 _=>CO k a0/\EE a1/\(a1.Side=0\/a1.Side=1) | .b2 a0 a1 _=>CO k a0/\EE a1/\(a1.Side=0\/a1.Side=1) | .b3 a0 a1 _=>CO k a0/\EE a1/\(a1.Side=0\/a1.Side=1))
  (fun p=>match p with | .b0 ..=>(3,0,0) | .b1 ..=>(2,0,0) | .b2 ..=>(1,0,0) | .b3 ..=>(0,0,0)) ?_ (.b0 p0 p1) ⟨h0,ha⟩
 intro p hp
 cases p with
 | b0 a0 a1=>
  obtain⟨h,ha⟩:=hp
  simp only [Rh]
  refine CP (fun e=>CP (fun _=>?_) (fun e' =>?_)) (fun e=>?_)
  ·exact BO (by simp [kL]) (BL (Dw h (by omega)))
  ·exact BO (by simp [kL]) (BL ⟨⟨h,ha,.inr (by simpa using e')⟩,FH (by omega)⟩)
  ·exact BO (by simp [kL]) (BL ⟨⟨h,ha,.inl (by simpa using e)⟩,FH (by omega)⟩)
 | b1 a0 a1 a2=>
  obtain⟨h,ha,hs⟩:=hp
  simp only [Rh]
  refine CP (fun e=>CP (fun _=>?_) (fun e' =>?_)) (fun e=>?_)
  all_goals exact BO (by simp [kL]) (BL ⟨⟨h,ha,hs⟩,FH (by omega)⟩)
 | b2 a0 a1 a2=>
  obtain⟨h,ha,hs⟩:=hp
  simp only [Rh]
  have ha0:EE { a1 with Key:=a0.AA.x0.Key }:=⟨ha.1,ha.2.1,ha.2.2.1,ha.2.2.2.1,h.1.2.2.2.2.2.2.2.2.1⟩
  have ha1:EE { a1 with Key:=a0.AA.x1.Key }:=⟨ha.1,ha.2.1,ha.2.2.1,ha.2.2.2.1,h.2.1.2.2.2.2.2.2.2.2.1⟩
  refine CP (fun e=>?_) (fun e=>CP (fun e' =>?_) (fun e' =>?_))
  ·exact BO (by simp [kL]) (BL ⟨⟨h,ha0,hs⟩,FH (by omega)⟩)
  ·exact BO (by simp [kL]) (BL ⟨⟨h,ha1,hs⟩,FH (by omega)⟩)
  ·have e1:a1.Side≠0:=by simpa using e
   have e2:a1.Side≠1:=by simpa using e'
   omega
 | b3 a0 a1 a2=>
  obtain⟨h,ha,hs⟩:=hp
  have hm:=Dw h (show k<=k+2 by omega)
  have c0:=h.2.2.1.1
  have c1:=h.2.2.2.1.1
  simp only [Rh]
  rcases hs with hs|hs
  ·repeat' first
    | refine J9 (by rw [hs];rfl) ?_
    | refine J3 (by rw [hs];rfl) ?_
    | refine BO (kA1 _ (by omega) (by decide)) ?_
    | refine BO (by simp [kL]) ?_
    | refine Aj (Ov _ _ _ (.inl hs)) (fun(v:Int) _ _=>?_)
    | refine Aj (rV k _ _ _ h.1 ha h1 (by omega)) (fun(v:Af×Int) _ hv=>?_)
    | (refine dQ h h1 (by omega) ?_;dsimp only)
    | (refine Z6l (by simp) (Q3 ha.1) ?_;dsimp only)
    | refine CP (fun _=>?_) (fun _=>?_)
    | exact BL hm
    | exact BL (PM hm hv.1)
    | exact BL (Zmq h hv.1 hm.2.1 ha.1)
  ·repeat' first
    | refine J9 (by rw [hs];rfl) ?_
    | refine J3 (by rw [hs];rfl) ?_
    | refine BO (kA1 _ (by omega) (by decide)) ?_
    | refine BO (by simp [kL]) ?_
    | refine Aj (Ov _ _ _ (.inr hs)) (fun(v:Int) _ _=>?_)
    | refine Aj (rV k _ _ _ h.2.1 ha h1 (by omega)) (fun(v:Af×Int) _ hv=>?_)
    | (refine dQ h h1 (by omega) ?_;dsimp only)
    | (refine Z6l (by simp) (Q3 ha.1) ?_;dsimp only)
    | refine CP (fun _=>?_) (fun _=>?_)
    | exact BL hm
    | exact BL (PI hm hv.1)
    | exact BL (Zni h hm.1 hv.1 ha.1)
def rsE (a b:Ak):Prop:=b.AA.x0.BV=a.AA.x0.BV/\b.AA.x1.BV=a.AA.x1.BV
theorem bG {k:Int} {d:Ak} (n:DC) (h:CO k d):CO (k+1) { d with Notes:=d.Notes++[n] }:=by
 have hm:=Dw h (show k<=k+1 by omega)
 refine⟨hm.1,hm.2.1,hm.2.2.1,hm.2.2.2.1,hm.2.2.2.2.1,hm.2.2.2.2.2.1,?_⟩
 have:=h.2.2.2.2.2.2
 show ((d.Notes++[n]).length:Int)<=k+1
 rw [List.length_append,List.length_cons,List.length_nil]
 omega
theorem Znh {k:Int} {d:Ak} (n:DC) {p:Ai} (hp:Bh p) (h:CO k d):CO (k+1) { d with Notes:=d.Notes++[n],AB:=⟨d.AB.x0++[p],d.AB.x1⟩ }:=by
 have hm:=bG n h
 exact⟨hm.1,hm.2.1,hm.2.2.1,hm.2.2.2.1,WR h.2.2.2.2.1 (Q3 hp) (by simp),hm.2.2.2.2.2.1,hm.2.2.2.2.2.2⟩
theorem Zmo {k:Int} {d:Ak} (n:DC) {p:Ai} (hp:Bh p) (h:CO k d):CO (k+1) { d with Notes:=d.Notes++[n],AB:=⟨d.AB.x0,d.AB.x1++[p]⟩ }:=by
 have hm:=bG n h
 exact⟨hm.1,hm.2.1,hm.2.2.1,hm.2.2.2.1,hm.2.2.2.2.1,WR h.2.2.2.2.2.1 (Q3 hp) (by simp),hm.2.2.2.2.2.2⟩
theorem Zmv {x:Int} (h:Bq x):EE (⟨0,10,(⟨0,[]⟩:Ai),ET,0,0,x⟩:Eo):=⟨Z7y,Nat.zero_le _,GN,GN,h⟩
theorem oP (k:Int) (p0:Ak) (p1 p2:Int) (p3:List Ar) (p4:Int) (h0:CO k p0) (hs:p1=0\/p1=1) (hl:p3.length<=5) (hi:Dp p3) (hk:Bq p4) (h1:0<=k) (h2:k<=800000) :
  ∃r,MF p0 p1 p2 p3 p4=some r/\(CO (k+15) r.q0/\rsE p0 r.q0):=by
 refine Bj (T:=QL) (post:=fun r=>CO (k+15) r.q0/\rsE p0 r.q0)
  (fun p=>match p with
   | .b0 a0 a1 a2 a3 a4=>a0=p0/\(a1=0\/a1=1)/\a3.length<=5/\Dp a3/\Bq a4
   | .b1 a0 a1 a2 a3 a4 a5 _=>(a0=0\/a0=1)/\a2.length<=5/\Dp a2/\Bq a3/\0<=a4/\a4<=(a2.length:Int)/\CO (k+3*a4) a5/\rsE p0 a5
   | .b2 a0 a1 a2 a3 a4 a5 _=>(a0=0\/a0=1)/\a2.length<=5/\Dp a2/\Bq a3/\0<=a4/\a4<(a2.length:Int)/\CO (k+3*a4+1) a5/\rsE p0 a5
   | .b3 a0 a1 a2 a3 a4 a5 _=>(a0=0\/a0=1)/\a2.length<=5/\Dp a2/\Bq a3/\0<=a4/\a4<(a2.length:Int)/\CO (k+3*a4+1) a5/\rsE p0 a5
   | .b4 a0 a1 a2 a3 a4 a5 _=>(a0=0\/a0=1)/\a2.length<=5/\Dp a2/\Bq a3/\0<=a4/\a4<(a2.length:Int)/\CO (k+3*a4+3) a5/\rsE p0 a5)
  (fun p=>match p with | .b0 ..=>(2,0,0) | .b1 _ _ a2 _ a4 _ _=>(1,((a2.length:Int) - a4).toNat,4) | .b2 _ _ a2 _ a4 _ _=>(1,((a2.length:Int) - a4).toNat,3) | .b3 _ _ a2 _ a4 _ _=>(1,((a2.length:Int) - a4).toNat,2) | .b4 _ _ a2 _ a4 _ _=>(1,((a2.length:Int) - a4).toNat,1))
  ?_ (.b0 p0 p1 p2 p3 p4) ⟨rfl,hs,hl,hi,hk⟩
 intro p hp
 cases p with
 | b0 a0 a1 a2 a3 a4=>
  obtain⟨rfl,hs,hl,hi,hk⟩:=hp
  simp only [QL]
  exact BO (by simp [kL]) (BL ⟨⟨hs,hl,hi,hk,Int.le_refl _,by omega,by simpa using h0,rfl,rfl⟩,FH (by omega)⟩)
 | b1 a0 a1 a2 a3 a4 a5 a6=>
  obtain⟨hs,hl,hi,hk,g0,g1,h,hr⟩:=hp
  have n0:=h.2.2.2.2.2.2
  have n1:=h.2.2.2.2.1.1
  have n2:=h.2.2.2.2.2.1.1
  simp only [QL]
  refine CP (fun e=>?_) (fun e=>?_)
  ·have g2:a4<(a2.length:Int):=of_decide_eq_true e
   rcases hs with rfl|rfl
   ·repeat' first
     | refine BO (decide_eq_true ⟨g0,g2⟩) ?_
     | refine BO (Ld (by omega) (by decide)) ?_
     | refine BO (by simp [kL]) ?_
     | refine aX ⟨g0,g2⟩ (fun v hv=>?_)
     | refine J9 rfl ?_
     | refine J3 rfl ?_
     | refine CP (fun _=>?_) (fun _=>?_)
     | exact BL ⟨⟨.inl rfl,hl,hi,hk,g0,g2,bG _ h,hr⟩,Gq (by omega)⟩
     | exact BL ⟨⟨.inl rfl,hl,hi,hk,g0,g2,Znh _ (hi _ (by assumption)) h,hr⟩,Gq (by omega)⟩
   ·repeat' first
     | refine BO (decide_eq_true ⟨g0,g2⟩) ?_
     | refine BO (Ld (by omega) (by decide)) ?_
     | refine BO (by simp [kL]) ?_
     | refine aX ⟨g0,g2⟩ (fun v hv=>?_)
     | refine J9 rfl ?_
     | refine J3 rfl ?_
     | refine CP (fun _=>?_) (fun _=>?_)
     | exact BL ⟨⟨.inr rfl,hl,hi,hk,g0,g2,bG _ h,hr⟩,Gq (by omega)⟩
     | exact BL ⟨⟨.inr rfl,hl,hi,hk,g0,g2,Zmo _ (hi _ (by assumption)) h,hr⟩,Gq (by omega)⟩
  ·exact BO (by simp [kL]) (BL ⟨Dw h (by omega),hr⟩)
 | b2 a0 a1 a2 a3 a4 a5 a6=>
  obtain⟨hs,hl,hi,hk,g0,g1,h,hr⟩:=hp
  simp only [QL]
  refine BO (decide_eq_true ⟨g0,g1⟩) ?_
  refine aX ⟨g0,g1⟩ (fun v hv=>?_)
  repeat' first
   | refine CP (fun _=>?_) (fun _=>?_)
   | refine BO (by simp [kL]) ?_
   | exact BL ⟨⟨hs,hl,hi,hk,g0,g1,h,hr⟩,Gq (by omega)⟩
   | exact BL ⟨⟨hs,hl,hi,hk,g0,g1,Dw h (by omega),hr⟩,Gq (by omega)⟩
 | b3 a0 a1 a2 a3 a4 a5 a6=>
  obtain⟨hs,hl,hi,hk,g0,g1,h,hr⟩:=hp
  simp only [QL]
  have hm:=Dw h (show k+3*a4+1<=k+3*a4+3 by omega)
  repeat' first
   | refine BO (by simp [kL]) ?_
   | refine Aj (Ov _ _ _ (.inr rfl)) (fun(v:Int) _ _=>?_)
   | refine Aj (rV (k+3*a4+1) _ _ _ h.2.1 (Zmv hk) (by omega) (by omega)) (fun(v:Af×Int) _ hv=>?_)
   | refine CP (fun _=>?_) (fun _=>?_)
   | exact BL ⟨⟨hs,hl,hi,hk,g0,g1,hm,hr⟩,Gq (by omega)⟩
   | exact BL ⟨⟨hs,hl,hi,hk,g0,g1,PI hm (FB hv.1 (by omega)),⟨hr.1,hv.2.trans hr.2⟩⟩,Gq (by omega)⟩
 | b4 a0 a1 a2 a3 a4 a5 a6=>
  obtain⟨hs,hl,hi,hk,g0,g1,h,hr⟩:=hp
  simp only [QL]
  refine BO (by simp [kL]) (BL ?_)
  dsimp only
  rw [Bv (by omega) (by omega)]
  exact⟨⟨hs,hl,hi,hk,by omega,by omega,Dw h (by omega),hr⟩,NG (by omega)⟩
theorem pR (k:Int) (d:Ak) (h:BK k d.AA.x1) (h1:0<=k) (h2:k<=1000000):∃r,LM d=some r/\Bq r:=Z9O k d h h1 h2
theorem U3 (k:Int) (p0:Ak) (h0:CO k p0) (h1:0<=k) (h2:k<=700000):∃r,QH p0=some r/\CO (k+60) r.q0:=by
 refine Bj (T:=UZ) (post:=fun r=>CO (k+60) r.q0)
  (fun p=>match p with | .b0 a0=>CO k a0 | .b1 a0 a1 _=>0<=a0/\a0<=2/\CO (k+30*a0) a1 | .b2 a0 a1 _=>0<=a0/\a0<2/\CO (k+30*a0+30) a1)
  (fun p=>match p with | .b0 ..=>(2,0,0) | .b1 a0 _ _=>(1,(2 - a0).toNat,1) | .b2 a0 _ _=>(1,(2 - a0).toNat,0)) ?_ (.b0 p0) h0
 intro p hp
 cases p with
 | b0 a0=>
  simp only [UZ]
  exact BO (by simp [kL]) (BL ⟨⟨Int.le_refl _,by omega,by simpa using hp⟩,FH (by omega)⟩)
 | b1 a0 a1 a2=>
  obtain⟨g0,g1,h⟩:=hp
  simp only [UZ]
  refine CP (fun e=>?_) (fun e=>?_)
  ·have g2:a0<2:=of_decide_eq_true e
   have hs:a0=0\/a0=1:=by omega
   rcases hs with rfl|rfl
   ·have hm:=Dw h (show k+30*0<=k+8 by omega)
    have c1:=Z2D (k+30*0)
    have c2:=oP (k+8)
    have c3:=pR (k+8)
    repeat' first
     | refine BO (by simp [kL]) ?_
     | refine GI (Va _) ?_
     | refine J9 rfl ?_
     | refine J3 rfl ?_
     | refine Aj (Ov _ _ _ (.inl rfl)) (fun(v:Int) _ _=>?_)
     | refine Aj (c1 _ _ h.1 (by omega) (by omega)) (fun(v:Af×(List Ar)) _ hv=>?_)
     | refine Aj (c3 _ hm.2.1 (by omega) (by omega)) (fun(v:Int) _ hk=>?_)
     | refine Aj (c2 _ _ _ _ _ (PM hm (FB hv.1 (by omega))) (.inl rfl) (by omega) hv.2.2 hk (by omega) (by omega)) (fun(v:IQ) _ hn=>?_)
     | refine CP (fun _=>?_) (fun _=>?_)
     | exact BL ⟨⟨Int.le_refl _,by omega,Dw hn.1 (by omega)⟩,Gq (by omega)⟩
     | exact BL ⟨⟨Int.le_refl _,by omega,Dw h (by omega)⟩,Gq (by omega)⟩
   ·have hm:=Dw h (show k+30*1<=k+38 by omega)
    have c1:=Z2D (k+30*1)
    have c2:=oP (k+38)
    have c3:=pR (k+38)
    repeat' first
     | refine BO (by simp [kL]) ?_
     | refine GI (V4 _) ?_
     | refine J9 rfl ?_
     | refine J3 rfl ?_
     | refine Aj (Ov _ _ _ (.inr rfl)) (fun(v:Int) _ _=>?_)
     | refine Aj (c1 _ _ h.2.1 (by omega) (by omega)) (fun(v:Af×(List Ar)) _ hv=>?_)
     | refine Aj (c3 _ (FB hv.1 (by omega)) (by omega) (by omega)) (fun(v:Int) _ hk=>?_)
     | refine Aj (c2 _ _ _ _ _ (PI hm (FB hv.1 (by omega))) (.inr rfl) (by omega) hv.2.2 hk (by omega) (by omega)) (fun(v:IQ) _ hn=>?_)
     | refine CP (fun _=>?_) (fun _=>?_)
     | exact BL ⟨⟨by omega,by omega,Dw hn.1 (by omega)⟩,Gq (by omega)⟩
     | exact BL ⟨⟨by omega,by omega,Dw h (by omega)⟩,Gq (by omega)⟩
  ·exact BO (by simp [kL]) (BL (Dw h (by omega)))
 | b2 a0 a1 a2=>
  obtain⟨g0,g1,h⟩:=hp
  simp only [UZ]
  refine BO (by simp [kL]) (BL ?_)
  dsimp only
  rw [Bv (by omega) (by omega)]
  exact⟨⟨by omega,by omega,Dw h (by omega)⟩,NG (by omega)⟩
theorem Zes (k:Int) (d:Ak) (t:Int) (h:BK k d.AA.x0) (h' : BK k d.AA.x1) (h1:0<=k) (h2:k<=1000000):∃r,Rj d t=some r/\True:=by
 refine CE True trivial fun _=>?_
 simp only [Z27]
 repeat' first
  | refine Aj (Z11 k _ h' h1 h2) (fun(v:I4) _ _=>?_)
  | refine Aj (Ov _ _ _ (.inr rfl)) (fun(v:Int) _ _=>?_)
  | refine GI (V4 _) ?_
  | refine Aj (Z1O k _ h' h1 h2) (fun(v:Bool) _ _=>?_)
  | refine Aj (jP k _ h' h1 h2) (fun(v:Int) _ _=>?_)
  | refine Aj (jP k _ h h1 h2) (fun(v:Int) _ _=>?_)
  | refine CP (fun _=>?_) (fun _=>?_)
  | exact BL trivial
def O6 (b:DL):Prop:=b.Pn.length<=8/\b.Wj.length<=8/\b.QY<=8
theorem gI {x:Int} (h:(!(x==0))=false):x=0:=by simpa using h
theorem Zmb {l:List Int} (h:Cb l) (i:Nat) {x:Int} (hx:R8 x):Cb (l.set i x):=fun b hb=>by
 rcases List.mem_or_eq_of_mem_set hb with h' | h'
 ·exact h b h'
 ·exact h' ▸hx
theorem tm2 (a:Int) (h:0<=a):(Int.tmod a 2=0/\A7 (1 - Int.tmod a 2)=1)\/(Int.tmod a 2=1/\A7 (1 - Int.tmod a 2)=0/\0<a):=by
 rw [Int.tmod_eq_emod_of_nonneg h]
 have:a % 2=0\/a % 2=1:=by omega
 rcases this with h' | h'
 ·exact .inl ⟨h',by rw [h'];rfl⟩
 ·exact .inr ⟨h',by rw [h'];rfl,by omega⟩
theorem ZfB (k:Int) (p0:Ak) (p1:DL) (h0:CO k p0) (hb:O6 p1) (h1:0<=k) (h2:k<=600000):∃r,jR p0 p1=some r/\CO (k+400) r.q0:=by
 refine Bj (T:=Jw) (post:=fun r=>CO (k+400) r.q0)
  (fun p=>match p with
   | .b0 a0 a1=>CO k a0/\O6 a1
   | .b1 a0 a1 a2 a3 _=>0<=a1/\a1<=8/\CO (k+30*a1) a2/\O6 a3/\a2.AA.x0.BV=0/\(0<a1->a2.AA.x1.BV=0)
   | .b2 a0 _=>CO (k+300) a0
   | .b3 a0 a1 a2 a3 a4 a5 _=>0<=a1/\a1<8/\((a2=0/\a3=1)\/(a2=1/\a3=0/\0<a1))/\CO (k+30*a1) a4/\O6 a5/\a4.AA.x0.BV=0/\(0<a1->a4.AA.x1.BV=0)
   | .b4 a0 _=>CO (k+300) a0
   | .b5 a0 a1 a2 a3 a4 a5 a6 _ _=>0<=a1/\a1<8/\(a2=0\/a2=1)/\CO (k+30*a1) a5/\O6 a6/\1<=a3.length/\a3.length<=300/\Cb a3/\a5.AA.x0.BV=0/\a5.AA.x1.BV=0
   | .b6 a0 a1 a2 a3 a4 a5 a6 _ _=>0<=a1/\a1<8/\(a2=0\/a2=1)/\CO (k+30*a1) a5/\O6 a6/\a3.length<=300/\Cb a3/\a5.AA.x0.BV=0/\a5.AA.x1.BV=0
   | .b7 a0 _=>CO (k+300) a0
   | .b8 a0 a1 a2 a3 _=>0<=a1/\a1<8/\CO (k+30*a1+30) a2/\O6 a3/\a2.AA.x0.BV=0/\a2.AA.x1.BV=0)
  (fun p=>match p with | .b0 ..=>(2,0,0) | .b1 _ a1 _ _ _=>(1,(8 - a1).toNat,9) | .b2 ..=>(0,0,0) | .b3 _ a1 _ _ _ _ _=>(1,(8 - a1).toNat,8) | .b4 ..=>(0,0,0) | .b5 _ a1 _ _ _ _ _ _ _=>(1,(8 - a1).toNat,7) | .b6 _ a1 _ _ _ _ _ _ _=>(1,(8 - a1).toNat,6) | .b7 ..=>(0,0,0) | .b8 _ a1 _ _ _=>(1,(8 - a1).toNat,5))
  ?_ (.b0 p0 p1) ⟨h0,hb⟩
 intro p hp
 cases p with
 | b0 a0 a1=>
  obtain⟨h,hb⟩:=hp
  simp only [Jw]
  repeat' first
   | refine BO (by simp [kL]) ?_
   | refine GI (Va _) ?_
   | refine CP (fun _=>?_) (fun he=>?_)
   | refine Aj (Z11 k _ h.2.1 h1 (by omega)) (fun(v:I4) _ _=>?_)
   | refine Aj (Zhz _ _) (fun(v:Int) _ _=>?_)
   | refine Aj (U3 k _ h h1 (by omega)) (fun(v:Ii) _ hv=>?_)
   | exact BL (Dw hv (by omega))
   | exact BL ⟨⟨Int.le_refl _,by omega,Dw h (by omega),hb,gI he,fun h=>absurd h (by omega)⟩,FH (by omega)⟩
 | b1 a0 a1 a2 a3 a4=>
  obtain⟨g0,g1,h,hb,e0,e1⟩:=hp
  simp only [Jw]
  refine CP (fun e=>?_) (fun e=>?_)
  ·have g2:a1<8:=Int.lt_of_lt_of_le (of_decide_eq_true e) hb.2.2
   have ht:=tm2 a1 g0
   repeat' first
    | refine CP (fun _=>?_) (fun _=>?_)
    | refine BO (by simp [kL]) ?_
    | refine Aj (jW _) (fun(v:Int) _ _=>?_)
    | exact BL ⟨Dw h (by omega),FH (by omega)⟩
    | exact BL ⟨⟨g0,g2,ht,h,hb,e0,e1⟩,Gq (by omega)⟩
  ·repeat' first
    | refine BO (by simp [kL]) ?_
    | refine Aj (U3 (k+30*a1) _ h (by omega) (by omega)) (fun(v:Ii) _ hv=>?_)
    | exact BL (Dw hv (by omega))
 | b2 a0 a1=>
  simp only [Jw]
  repeat' first
   | refine BO (by simp [kL]) ?_
   | refine Aj (U3 (k+300) _ (Zlv _ hp) (by omega) (by omega)) (fun(v:Ii) _ hv=>?_)
   | exact BL (Dw hv (by omega))
 | b4 a0 a1=>
  simp only [Jw]
  repeat' first
   | refine BO (by simp [kL]) ?_
   | refine Aj (U3 (k+300) _ hp (by omega) (by omega)) (fun(v:Ii) _ hv=>?_)
   | exact BL (Dw hv (by omega))
 | b7 a0 a1=>
  simp only [Jw]
  repeat' first
   | refine BO (by simp [kL]) ?_
   | refine Aj (U3 (k+300) _ hp (by omega) (by omega)) (fun(v:Ii) _ hv=>?_)
   | exact BL (Dw hv (by omega))
 | b3 a0 a1 a2 a3 a4 a5 a6=>
  obtain⟨g0,g1,hs,h,hb,e0,e1⟩:=hp
  have hm:=Dw h (show k+30*a1<=k+300 by omega)
  have c0:=Zgf (k+30*a1)
  have c1:=Zes (k+30*a1)
  simp only [Jw]
  rcases hs with ⟨rfl,rfl⟩|⟨rfl,rfl,e2⟩
  ·repeat' first
    | refine J9 rfl ?_
    | refine J3 rfl ?_
    | refine BO (by simp [kL]) ?_
    | refine Aj (c0 _ h.1 (by omega) (by omega)) (fun(v:MB) _ hv=>?_)
    | refine Aj (jW _) (fun(v:Int) _ _=>?_)
    | refine Aj (pK _ _ hb.1) (fun(v:Bool) _ _=>?_)
    | refine GI (V4 _) ?_
    | refine CP (fun _=>?_) (fun hx=>?_)
    | refine Aj (c1 _ _ hv.1 h.2.1 (by omega) (by omega)) (fun(v:Bool) _ _=>?_)
    | exact BL ⟨PM hm (FB hv.1 (by omega)),FH (by omega)⟩
    | exact BL ⟨⟨g0,g1,.inr rfl,PM h hv.1,hb,hv.2.2.2.1 e0,hv.2.1,hv.2.2.1,hv.2.2.2.2.trans e0,gI (by assumption)⟩,Gq (by omega)⟩
  ·have e3:=e1 e2
   repeat' first
    | refine J9 rfl ?_
    | refine J3 rfl ?_
    | refine BO (by simp [kL]) ?_
    | refine Aj (c0 _ h.2.1 (by omega) (by omega)) (fun(v:MB) _ hv=>?_)
    | refine Aj (jW _) (fun(v:Int) _ _=>?_)
    | refine Aj (pK _ _ hb.1) (fun(v:Bool) _ _=>?_)
    | refine GI (Va _) ?_
    | refine CP (fun _=>?_) (fun hx=>?_)
    | refine Aj (c1 _ _ h.1 hv.1 (by omega) (by omega)) (fun(v:Bool) _ _=>?_)
    | exact BL ⟨PI hm (FB hv.1 (by omega)),FH (by omega)⟩
    | exact BL ⟨⟨g0,g1,.inl rfl,PI h hv.1,hb,hv.2.2.2.1 e3,hv.2.1,hv.2.2.1,e0,hv.2.2.2.2.trans e3⟩,Gq (by omega)⟩
 | b5 a0 a1 a2 a3 a4 a5 a6 a7 a8=>
  obtain⟨g0,g1,hs,h,hb,l0,l1,l2,e0,e1⟩:=hp
  have ix:0<=A7 ((a3.length:Int) - 1)/\A7 ((a3.length:Int) - 1)<(a3.length:Int):=by rw [Bv (by omega) (by omega)];omega
  simp only [Jw]
  repeat' first
   | refine Aj (pK _ _ hb.2.1) (fun(v:Bool) _ _=>?_)
   | refine CP (fun _=>?_) (fun _=>?_)
   | refine BO (decide_eq_true ix) ?_
   | refine BO (by simp [kL]) ?_
   | refine Md ix (fun v hv=>?_)
   | exact BL ⟨⟨g0,g1,hs,h,hb,l1,l2,e0,e1⟩,Gq (by omega)⟩
   | exact BL ⟨⟨g0,g1,hs,h,hb,by rw [List.length_set];exact l1,Zmb l2 _ (Z79 _ _ _),e0,e1⟩,Gq (by omega)⟩
 | b6 a0 a1 a2 a3 a4 a5 a6 a7 a8=>
  obtain⟨g0,g1,hs,h,hb,l1,l2,e0,e1⟩:=hp
  have hm:=Dw h (show k+30*a1<=k+30*a1+8 by omega)
  have c0:=Zby (k+30*a1)
  have c1:=oP (k+30*a1+8)
  have c2:=pR (k+30*a1+8)
  simp only [Jw]
  rcases hs with rfl|rfl
  ·repeat' first
    | refine J9 rfl ?_
    | refine J3 rfl ?_
    | refine BO (by simp [kL]) ?_
    | refine Aj (Ov _ _ _ (.inl rfl)) (fun(v:Int) _ _=>?_)
    | refine Aj (c0 _ _ _ _ h.1 (by omega) (by omega) (by omega) l2) (fun(v:Af×(List Ar)×Bool) _ hv=>?_)
    | refine Aj (c2 _ hm.2.1 (by omega) (by omega)) (fun(v:Int) _ hk=>?_)
    | refine Aj (c1 _ _ _ _ _ (PM hm hv.1) (.inl rfl) (by omega) hv.2.2 hk (by omega) (by omega)) (fun(v:IQ) _ hn=>?_)
    | refine GI (Va _) ?_
    | refine CP (fun _=>?_) (fun hx=>?_)
    | exact BL ⟨Dw hn.1 (by omega),FH (by omega)⟩
    | exact BL ⟨⟨g0,g1,Dw hn.1 (by omega),hb,gI (by assumption),hn.2.2.trans e1⟩,Gq (by omega)⟩
  ·repeat' first
    | refine J9 rfl ?_
    | refine J3 rfl ?_
    | refine BO (by simp [kL]) ?_
    | refine Aj (Ov _ _ _ (.inr rfl)) (fun(v:Int) _ _=>?_)
    | refine Aj (c0 _ _ _ _ h.2.1 (by omega) (by omega) (by omega) l2) (fun(v:Af×(List Ar)×Bool) _ hv=>?_)
    | refine Aj (c2 _ hv.1 (by omega) (by omega)) (fun(v:Int) _ hk=>?_)
    | refine Aj (c1 _ _ _ _ _ (PI hm hv.1) (.inr rfl) (by omega) hv.2.2 hk (by omega) (by omega)) (fun(v:IQ) _ hn=>?_)
    | refine GI (V4 _) ?_
    | refine CP (fun _=>?_) (fun hx=>?_)
    | exact BL ⟨Dw hn.1 (by omega),FH (by omega)⟩
    | exact BL ⟨⟨g0,g1,Dw hn.1 (by omega),hb,hn.2.1.trans e0,gI (by assumption)⟩,Gq (by omega)⟩
 | b8 a0 a1 a2 a3 a4=>
  obtain⟨g0,g1,h,hb,e0,e1⟩:=hp
  simp only [Jw]
  refine BO (by simp [kL]) (BL ?_)
  dsimp only
  rw [Bv (by omega) (by omega)]
  exact⟨⟨by omega,by omega,Dw h (by omega),hb,e0,fun _=>e1⟩,NG (by omega)⟩
theorem Zgh (k:Int) (p0:Ak) (p1:DL) (h0:CO k p0) (hb:NV p1) (h1:0<=k) (h2:k<=500000):∃r,kM p0 p1=some r/\CO (k+600) r.q0:=by
 refine Bj (T:=QF) (post:=fun r=>CO (k+600) r.q0)
  (fun p=>match p with
   | .b0 a0 a1=>CO k a0/\NV a1
   | .b1 a0 a1 _=>CO k a0/\NV a1
   | .b2 a0 a1 _=>CO k a0/\NV a1/\a1.QY<=8
   | .b3 a0 a1 _=>CO k a0/\NV a1/\O6 a1/\a1.F8.length<=64
   | .b4 a0 a1 a2 _=>0<=a0/\a0<=(a2.F8.length:Int)/\CO (k+2*a0) a1/\NV a2/\O6 a2/\a2.F8.length<=64)
  (fun p=>match p with | .b0 ..=>(4,0,0) | .b1 ..=>(3,0,0) | .b2 ..=>(2,0,0) | .b3 ..=>(1,0,0) | .b4 a0 _ a2 _=>(0,((a2.F8.length:Int) - a0).toNat,0)) ?_ (.b0 p0 p1) ⟨h0,hb⟩
 intro p hp
 cases p with
 | b0 a0 a1=>
  obtain⟨h,hb⟩:=hp
  simp only [QF]
  repeat' first
   | refine BO (by simp [kL]) ?_
   | refine GI (Va _) ?_
   | refine GI (V4 _) ?_
   | refine CP (fun _=>?_) (fun _=>?_)
   | exact BL (Dw h (by omega))
   | exact BL ⟨⟨h,hb⟩,FH (by omega)⟩
 | b1 a0 a1 a2=>
  obtain⟨h,hb⟩:=hp
  simp only [QF]
  repeat' first
   | refine BO (by simp [kL]) ?_
   | refine CP (fun _=>?_) (fun e=>?_)
   | exact BL (Dw h (by omega))
   | exact BL ⟨⟨h,hb,by have:=of_decide_eq_false e;omega⟩,FH (by omega)⟩
 | b2 a0 a1 a2=>
  obtain⟨h,hb,hp8⟩:=hp
  simp only [QF]
  refine CP (fun _=>BO (by simp [kL]) (BL (Dw h (by omega)))) (fun f0=>?_)
  refine CP (fun _=>BO (by simp [kL]) (BL (Dw h (by omega)))) (fun f1=>?_)
  refine CP (fun _=>BO (by simp [kL]) (BL (Dw h (by omega)))) (fun f2=>?_)
  have f0:=of_decide_eq_false f0
  have f1:=of_decide_eq_false f1
  have f2:=of_decide_eq_false f2
  exact BO (by simp [kL]) (BL ⟨⟨h,hb,⟨by omega,by omega,hp8⟩,by omega⟩,FH (by omega)⟩)
 | b3 a0 a1 a2=>
  obtain⟨h,hb,hl,ha⟩:=hp
  simp only [QF]
  repeat' first
   | refine BO (by simp [kL]) ?_
   | (refine dQ h h1 (by omega) ?_;dsimp only)
   | refine CP (fun _=>?_) (fun e=>?_)
   | exact BL (Dw h (by omega))
   | exact BL ⟨⟨Int.le_refl _,by omega,Dw h (by omega),hb,hl,ha⟩,FH (by omega)⟩
 | b4 a0 a1 a2 a3=>
  obtain⟨g0,g1,h,hb,hl,ha⟩:=hp
  simp only [QF]
  refine CP (fun e=>?_) (fun e=>?_)
  ·have g2:a0<(a2.F8.length:Int):=of_decide_eq_true e
   refine BO (decide_eq_true ⟨g0,g2⟩) ?_
   refine Zm1 ⟨g0,g2⟩ (fun v hv=>?_)
   refine BO (by simp [kL]) ?_
   refine Aj (ZjW (k+2*a0) _ _ h (hb _ hv) (by omega) (by omega)) (fun(v:GZ) _ hv=>?_)
   refine BO (by simp [kL]) (BL ?_)
   dsimp only
   rw [Bv (by omega) (by omega)]
   exact⟨⟨by omega,by omega,Dw hv (by omega),hb,hl,ha⟩,NG (by omega)⟩
  ·refine BO (by simp [kL]) ?_
   refine Aj (ZfB (k+2*a0) _ _ h hl (by omega) (by omega)) (fun(v:Jf) _ hv=>?_)
   exact BO (by simp [kL]) (BL (Dw hv (by omega)))
theorem ZjC (p0:Ak) (p1:List DL) (h0:CO 0 p0) (hl:p1.length<=30) (hb:∀b∈p1,NV b):∃r,qO p0 p1=some r/\CO 20000 r.q0:=by
 refine Bj (T:=Yy) (post:=fun r=>CO 20000 r.q0)
  (fun p=>match p with | .b0 a0 a1=>CO 0 a0/\a1.length<=30/\(∀b∈a1,NV b) | .b1 a0 a1 a2 _=>0<=a1/\a1<=(a0.length:Int)/\CO (600*a1) a2/\a0.length<=30/\(∀b∈a0,NV b))
  (fun p=>match p with | .b0 ..=>(1,0,0) | .b1 a0 a1 _ _=>(0,((a0.length:Int) - a1).toNat,0)) ?_ (.b0 p0 p1) ⟨h0,hl,hb⟩
 intro p hp
 cases p with
 | b0 a0 a1=>
  obtain⟨h,hl,hb⟩:=hp
  simp only [Yy]
  exact BO (by simp [kL]) (BL ⟨⟨Int.le_refl _,by omega,h,hl,hb⟩,FH (by omega)⟩)
 | b1 a0 a1 a2 a3=>
  obtain⟨g0,g1,h,hl,hb⟩:=hp
  simp only [Yy]
  refine CP (fun e=>?_) (fun e=>?_)
  ·have g2:a1<(a0.length:Int):=of_decide_eq_true e
   refine BO (decide_eq_true ⟨g0,g2⟩) ?_
   refine Zm8 ⟨g0,g2⟩ (fun v hv=>?_)
   refine BO (by simp [kL]) ?_
   refine Aj (Zgh (600*a1) _ _ h (hb _ hv) (by omega) (by omega)) (fun(v:Iz) _ hv=>?_)
   refine BO (by simp [kL]) (BL ?_)
   dsimp only
   rw [Bv (by omega) (by omega)]
   exact⟨⟨by omega,by omega,Dw hv (by omega),hl,hb⟩,NG (by omega)⟩
  ·exact BO (by simp [kL]) (BL (Dw h (by omega)))
theorem W9 (c:Dz):CO 0 (⟨(⟨CU,CU⟩:BU),c,0,[],(⟨[],[]⟩:CX),(⟨[],[]⟩:CX)⟩:Ak):=
 have hz:=Z7m 0 (Int.le_refl _)
 have hg:O7 0 []:=⟨Int.le_refl _,Z6F⟩
 ⟨hz,hz,hg,hg,hg,hg,Int.le_refl _⟩
theorem Zj5 (p0:Eh) (p1:Dz) (p2:KJ) (p3:Int) (hp0:Hw p0) (hk0:Bq p2.x0) (hk1:Bq p2.x1):∃r,qL p0 p1 p2 p3=some r/\CO 0 r.q0:=by
 refine Bj (T:=Vj) (post:=fun r=>CO 0 r.q0)
  (fun p=>match p with | .b0 a0 a1 a2 a3=>Hw a0/\Bq a2.x0/\Bq a2.x1 | .b1 a0 a1 a2 a3 a4 _=>0<=a1/\a1<=2/\Hw a2/\Bq a4.x0/\Bq a4.x1 | .b2 a0 a1 a2 a3 a4 _ a6=>0<=a1/\a1<=2/\Hw a2/\Bq a4.x0/\Bq a4.x1/\CO 0 a6)
  (fun p=>match p with | .b0 ..=>(2,0,0) | .b1 _ a1 _ _ _ _=>(1,(2 - a1).toNat,0) | .b2 _ a1 _ _ _ _ _=>(0,(2 - a1).toNat,0)) ?_ (.b0 p0 p1 p2 p3) ⟨hp0,hk0,hk1⟩
 intro p hp
 cases p with
 | b0 a0 a1 a2 a3=>
  simp only [Vj]
  exact BO (by simp) (BL ⟨⟨Int.le_refl _,by omega,hp⟩,FH (by omega)⟩)
 | b1 a0 a1 a2 a3 a4 a5=>
  obtain⟨g0,g1,hp,k0,k1⟩:=hp
  simp only [Vj]
  refine CP (fun e=>?_) (fun e=>?_)
  ·have g2:a1<2:=of_decide_eq_true e
   have hs:a1=0\/a1=1:=by omega
   rcases hs with rfl|rfl
   all_goals
    repeat' first
     | refine J9 rfl ?_
     | refine J3 rfl ?_
     | refine Aj (ZdX _) (fun(v:Int) _ _=>?_)
     | refine BO (by simp [kL]) ?_
     | refine CP (fun _=>?_) (fun _=>?_)
     | exact BL (W9 _)
     | exact BL ⟨⟨by decide,by decide,hp,k0,k1⟩,NG (by decide)⟩
  ·repeat' first
    | refine Aj (oV _) (fun(v:Int) _ _=>?_)
    | refine BO (by simp [kL]) ?_
    | refine CP (fun _=>?_) (fun _=>?_)
    | exact BL (W9 _)
    | exact BL ⟨⟨Int.le_refl _,by omega,hp,k0,k1,W9 _⟩,FH (by omega)⟩
 | b2 a0 a1 a2 a3 a4 a5 a6=>
  obtain⟨g0,g1,hp,k0,k1,h⟩:=hp
  simp only [Vj]
  refine CP (fun e=>?_) (fun e=>?_)
  ·have g2:a1<2:=of_decide_eq_true e
   have hs:a1=0\/a1=1:=by omega
   rcases hs with rfl|rfl
   ·repeat' first
     | refine J9 rfl ?_
     | refine J3 rfl ?_
     | refine Aj (oV _) (fun(v:Int) _ _=>?_)
     | refine Aj (Y0 _ _) (fun(v:Int) _ _=>?_)
     | refine Aj (Z53 _ _ _ _ _ _ hp k0 (F5 _)) (fun(v:Af×Int) _ hv=>?_)
     | refine BO (by simp [kL]) ?_
     | refine CP (fun _=>?_) (fun _=>?_)
     | exact BL (W9 _)
     | exact BL ⟨⟨by decide,by decide,hp,k0,k1,PM h hv⟩,NG (by decide)⟩
   ·repeat' first
     | refine J9 rfl ?_
     | refine J3 rfl ?_
     | refine Aj (oV _) (fun(v:Int) _ _=>?_)
     | refine Aj (Y0 _ _) (fun(v:Int) _ _=>?_)
     | refine Aj (Z53 _ _ _ _ _ _ hp k1 (F5 _)) (fun(v:Af×Int) _ hv=>?_)
     | refine BO (by simp [kL]) ?_
     | refine CP (fun _=>?_) (fun _=>?_)
     | exact BL (W9 _)
     | exact BL ⟨⟨by decide,by decide,hp,k0,k1,PI h hv⟩,NG (by decide)⟩
  ·repeat' first
    | refine BO (by simp [kL]) ?_
    | exact BL h
def fZ (b:DL):Prop:=∀a∈b.F8,a.Bg.Payload.length<=300
theorem Z9e (p0:List DL) (p1:Int) (h0:p0.length<=1000000\/p1<=1000000):∃r,iR p0 p1=some r/\(r=true->(p0.length:Int)<=p1/\∀b∈p0,fZ b):=by
 refine Bj (T:=UE) (post:=fun r=>r=true->(p0.length:Int)<=p1/\∀b∈p0,fZ b)
  (fun p=>match p with
   | .b0 a0 a1=>a0=p0/\a1=p1
   | .b1 a0 a1=>a0=p0/\(p0.length:Int)<=p1/\p0.length<=1000000/\0<=a1/\a1<=(p0.length:Int)/\(∀n (h:n<p0.length),(n:Int)<a1->fZ p0[n])
   | .b2 a0 a1 a2=>a0=p0/\(p0.length:Int)<=p1/\p0.length<=1000000/\0<=a1/\(∀n (h:n<p0.length),(n:Int)<a1->fZ p0[n])/\0<=a2/\∃hi:a1.toNat<p0.length,(p0[a1.toNat]).F8.length<=8/\a2<=((p0[a1.toNat]).F8.length:Int)/\∀m (h:m<(p0[a1.toNat]).F8.length),(m:Int)<a2->((p0[a1.toNat]).F8[m]).Bg.Payload.length<=300)
  (fun p=>match p with | .b0 ..=>(1,0,0) | .b1 _ a1=>(0,((p0.length:Int) - a1).toNat,100) | .b2 _ a1 a2=>(0,((p0.length:Int) - a1).toNat,(9 - a2).toNat)) ?_ (.b0 p0 p1) ⟨rfl,rfl⟩
 intro p hp
 cases p with
 | b0 a0 a1=>
  obtain⟨rfl,rfl⟩:=hp
  simp only [UE]
  refine CP (fun e=>BL (fun e=>nomatch e)) (fun e=>?_)
  have e:=of_decide_eq_false e
  exact BL ⟨⟨rfl,by omega,by omega,Int.le_refl _,by omega,fun n h hn=>absurd hn (by omega)⟩,FH (by omega)⟩
 | b1 a0 a1=>
  obtain⟨rfl,f0,f1,g0,g1,hf⟩:=hp
  simp only [UE]
  refine CP (fun e=>?_) (fun e=>?_)
  ·have g2:a1<(a0.length:Int):=of_decide_eq_true e
   have hi:a1.toNat<a0.length:=by omega
   refine BO (decide_eq_true ⟨g0,g2⟩) ?_
   refine GI (U:=U) (t:=95) (a:=a0[a1.toNat]) (List.getElem?_eq_getElem hi) ?_
   refine CP (fun e=>BL (fun e=>nomatch e)) (fun e=>?_)
   have e:=of_decide_eq_false e
   exact BL ⟨⟨rfl,f0,f1,g0,hf,Int.le_refl _,hi,by omega,by omega,fun m h hm=>absurd hm (by omega)⟩,Gq (by decide)⟩
  ·have g2:=of_decide_eq_false e
   refine BL fun _=>⟨f0,fun b hb=>?_⟩
   obtain⟨n,hn,rfl⟩:=List.mem_iff_getElem.1 hb
   exact hf n hn (by omega)
 | b2 a0 a1 a2=>
  obtain⟨rfl,f0,f1,g0,hf,g1,hi,l8,g2,hm⟩:=hp
  have gi:0<=a1/\a1<(a0.length:Int):=⟨g0,by omega⟩
  simp only [UE]
  refine BO (decide_eq_true gi) ?_
  refine GI (U:=U) (t:=95) (a:=a0[a1.toNat]) (List.getElem?_eq_getElem hi) ?_
  refine CP (fun e=>?_) (fun e=>?_)
  ·have g3:a2<((a0[a1.toNat]).F8.length:Int):=of_decide_eq_true e
   have hj:a2.toNat<(a0[a1.toNat]).F8.length:=by omega
   refine BO (decide_eq_true gi) ?_
   refine GI (U:=U) (t:=95) (a:=a0[a1.toNat]) (List.getElem?_eq_getElem hi) ?_
   refine BO (decide_eq_true ⟨g1,g3⟩) ?_
   refine GI (U:=U) (t:=97) (a:=(a0[a1.toNat]).F8[a2.toNat]) (List.getElem?_eq_getElem hj) ?_
   refine CP (fun e=>BL (fun e=>nomatch e)) (fun e=>?_)
   have e:=of_decide_eq_false e
   refine BL ?_
   dsimp only
   rw [Bv (by omega) (by omega)]
   refine⟨⟨rfl,f0,f1,g0,hf,by omega,hi,l8,by omega,fun m h hm' =>?_⟩,Gq (by omega)⟩
   by_cases hmm:(m:Int)<a2
   ·exact hm m h hmm
   ·have:m=a2.toNat:=by omega
    subst this
    omega
  ·have g3:=of_decide_eq_false e
   refine BL ?_
   dsimp only
   rw [Bv (by omega) (by omega)]
   refine⟨⟨rfl,f0,f1,by omega,by omega,fun n h hn=>?_⟩,NG (by omega)⟩
   by_cases hnn:(n:Int)<a1
   ·exact hf n h hnn
   ·have:n=a1.toNat:=by omega
    subst this
    intro a ha
    obtain⟨m,hm',rfl⟩:=List.mem_iff_getElem.1 ha
    exact hm m hm' (by omega)
theorem uM {n:Int} (h : -9223372036854775808<=n) (h' : n<=9223372036854775807):A7 n=n:=by
 simp only [A7,IntKind.wrap,IntKind.signed,IntKind.bits]
 simp
 omega
def un:ByteArray:=⟨#[117,110,107,110,111,119,110]⟩
def sp:ByteArray:=⟨#[32]⟩
def IY:MO:=⟨(⟨#[]⟩:ByteArray),(⟨#[111,114,100,101,114]⟩:ByteArray),(⟨#[105,110,115,116,97,110,116]⟩:ByteArray),(⟨#[115,116,97,108,101]⟩:ByteArray),(⟨#[107,101,121,115]⟩:ByteArray),(⟨#[98,111,110,100]⟩:ByteArray),(⟨#[99,97,112,116,117,114,101]⟩:ByteArray),(⟨#[116,119,105,99,101]⟩:ByteArray)⟩
def lst:List ByteArray:=[un,IY.x1,IY.x2,IY.x3,IY.x4,IY.x5,IY.x6,IY.x7]
def word (k:Int):ByteArray:=if k=1 then IY.x1 else if k=2 then IY.x2 else if k=3 then IY.x3 else if k=4 then IY.x4 else if k=5 then IY.x5 else if k=6 then IY.x6 else if k=7 then IY.x7 else un
theorem Vl (k:Int):(word k).size<=7:=by
 unfold word
 repeat' split
 all_goals decide
theorem aP {k:Int} (h:¬(0<k/\k<8)):word k=un:=by
 unfold word
 repeat rw [if_neg (by omega)]
def words (l:List BR):List ByteArray:=l.map fun f=>word f.Kind
theorem nm3 (ws:List ByteArray) (w:ByteArray) (l:List BR) (n i:Int) (hl:ws.length<=1000) (t:MO):Ad Jv (.b3 ws w l n i t)=Ad Jv (.b1 (ws++[w]) l n (A7 (i+1)) t):=by
 refine(Cc _ _).trans ?_
 simp only [Jv,DN,List.length_cons,List.length_nil,beq_self_eq_true,cond_true]
 rw [show (decide ((ws.length+(0+1))*16<=lim)&&decide (ws.length+(0+1)<=maxLen))=true from
  Bool.and_eq_true_iff.mpr ⟨decide_eq_true (Nat.le_trans (show _<=20000 by omega) (by decide)),decide_eq_true (Nat.le_trans (show _<=2000 by omega) (by decide))⟩]
 rfl
theorem nm2 (ws:List ByteArray) (l:List BR) (n i:Int) (x:BR) (h:0<x.Kind/\x.Kind<8):Ad Jv (.b2 ws l n i IY x)=Ad Jv (.b3 ws (word x.Kind) l n i IY):=by
 refine(Cc _ _).trans ?_
 simp only [Jv,DN,beq_self_eq_true,cond_true]
 have hk:x.Kind=1\/x.Kind=2\/x.Kind=3\/x.Kind=4\/x.Kind=5\/x.Kind=6\/x.Kind=7:=by omega
 rcases hk with hk|hk|hk|hk|hk|hk|hk<;>rw [hk]<;>rfl
theorem ZmC (l:List BR) (hl:l.length<=1000):∀j i:Nat,i+j=l.length->Ad Jv (.b1 (words (l.take i)) l l.length i IY)=Nb (words l) sp:=by
 intro j
 induction j with
 | zero=>
  intro i hi
  refine(Cc _ _).trans ?_
  simp only [Jv,DN,beq_self_eq_true,cond_true]
  rw [show decide ((i:Int)<(l.length:Int))=false by simp;omega,show l.take i=l from List.take_of_length_le (by omega)]
  simp only [cond_false]
  show (Nb (words l) sp).bind some=_
  cases Nb (words l) sp<;>rfl
 | succ j ih=>
  intro i hi
  have hx:i<l.length:=by omega
  have hw:(words (l.take i)).length<=1000:=by simp [words];omega
  have key:∀w,w=word (l[i]).Kind->Ad Jv (.b3 (words (l.take i)) w l l.length i IY)=Nb (words l) sp:=by
   intro w hw'
   rw [nm3 _ _ _ _ _ hw,uM (by omega) (by omega),hw']
   have:=ih (i+1) (by omega)
   rw [show words (l.take (i+1))=words (l.take i)++[word (l[i]).Kind] by
    unfold words;rw [List.take_add_one,List.getElem?_eq_getElem hx,List.map_append];rfl] at this
   exact this
  refine(Cc _ _).trans ?_
  simp only [Jv,DN,beq_self_eq_true,cond_true]
  rw [show decide ((i:Int)<(l.length:Int))=true by simp;omega,show decide (0<=(i:Int)/\(i:Int)<(l.length:Int))=true by simp;omega]
  simp only [cond_true,Int.toNat_natCast,List.getElem?_eq_getElem hx,Option.bind_some]
  by_cases h1:(l[i]).Kind>0
  ·by_cases h2:(l[i]).Kind<8
   ·rw [decide_eq_true h1,decide_eq_true h2]
    simp only [cond_true]
    rw [nm2 _ _ _ _ _ ⟨h1,h2⟩]
    exact key _ rfl
   ·rw [decide_eq_true h1,decide_eq_false h2]
    exact key _ (aP (by omega)).symm
  ·rw [decide_eq_false h1]
   exact key _ (aP (by omega)).symm
theorem Zll (l:List BR) (hl:l.length<=1000):(Lib.join ((words l).map (·.data.toList)) sp.data.toList).length<=140737488355328:=by
 have hlens:∀l:List BR,Lib.lens ((words l).map (·.data.toList))<=7*l.length:=by
  intro l
  induction l with
  | nil=>simp [Lib.lens,words]
  | cons x r ih=>
   have:=Vl x.Kind
   simp only [Lib.lens,words,List.map_cons,List.sum_cons,List.length_cons] at ih ⊢
   have hx:(word x.Kind).data.toList.length<=7:=by rw [Array.length_toList];exact this
   omega
 cases l with
 | nil=>simp [words,Lib.join_nil]
 | cons x r=>
  have h1:=hlens (x::r)
  have h2:=hlens r
  have hx:(word x.Kind).data.toList.length<=7:=by rw [Array.length_toList];exact Vl x.Kind
  simp only [words,List.map_cons,List.length_cons] at *
  rw [Lib.join_cons,List.length_append,Lib.joinTail_length]
  have hs:sp.data.toList.length=1:=rfl
  rw [hs]
  simp only [List.length_map] at *
  omega
theorem ZaL (l:List BR) (hl:l.length<=1000):jV l=some (J7 (words l) sp):=(Cc _ _).trans (by
 simp only [Jv,DN,List.length_nil,beq_self_eq_true,cond_true]
 refine(ZmC l hl l.length 0 (by omega)).trans ?_
 unfold Nb
 rw [if_pos ⟨by simp [words];omega,Zll l hl⟩])
def more (s:ByteArray):List ByteArray->ByteArray
 | []=>s
 | w::ws=>more (s++sp++w) ws
theorem Ziy (s:ByteArray) (ws:List ByteArray):(more s ws).data.toList=s.data.toList++Lib.joinTail sp.data.toList (ws.map (·.data.toList)):=by
 induction ws generalizing s with
 | nil=>simp [more,Lib.joinTail]
 | cons w ws ih=>
  rw [more,ih]
  simp [Lib.joinTail,List.append_assoc]
theorem Zji (w:ByteArray) (ws:List ByteArray):J7 (w::ws) sp=more w ws:=by
 have h:(J7 (w::ws) sp).data.toList=(more w ws).data.toList:=by
  rw [Ziy,J7,List.map_cons,Lib.join_cons]
 cases hj:J7 (w::ws) sp
 cases hm:more w ws
 rw [hj,hm] at h
 simp only at h
 congr
 exact Array.toList_inj.1 h
theorem ba_eq {a b:ByteArray} (h:a.data.toList=b.data.toList):a=b:=by
 cases a
 cases b
 congr
 exact Array.toList_inj.1 h
theorem ZmS (w:ByteArray):(⟨#[]⟩:ByteArray)++w=w:=ba_eq (by rw [ByteArray.data_append,Array.toList_append];rfl)
theorem Z5P (a b:ByteArray):(a++b).size=a.size+b.size:=by
 show (a++b).data.size=a.data.size+b.data.size
 rw [ByteArray.data_append,Array.size_append]
theorem rn5 (l:List BR) (s:ByteArray) (i:Int):Ad IM (.b5 l lst s i)=Ad IM (.b1 l lst s (A7 (i+1))):=(Cc _ _).trans rfl
theorem rn4 (l:List BR) (s:ByteArray) (i:Int) (hs:s.size<=100000):Ad IM (.b4 l lst s i)=Ad IM (.b1 l lst (s++un) (A7 (i+1))):=by
 refine(Cc _ _).trans ?_
 simp only [IM,DN,beq_self_eq_true,cond_true]
 rw [show decide (0<=(0:Int)/\(0:Int)<(↑lst.length:Int))=true from by decide,show lst[(0:Int).toNat]? = some un from rfl]
 simp only [cond_true,Option.bind_some]
 rw [show decide (s.size+un.size<=maxLen)=true from decide_eq_true (Nat.le_trans (show s.size+7<=200000 by omega) (by decide))]
 exact rn5 _ _ _
theorem rn3 (l:List BR) (s:ByteArray) (i:Nat) (hi:i<l.length) (hl:l.length<=1000) (hk:1<=(l[i]).Kind/\(l[i]).Kind<=7) (hs:s.size<=100000):Ad IM (.b3 l lst s i)=Ad IM (.b1 l lst (s++word (l[i]).Kind) (A7 (i+1))):=by
 refine(Cc _ _).trans ?_
 simp only [IM,DN,beq_self_eq_true,cond_true]
 rw [show decide (0<=(i:Int)/\(i:Int)<(l.length:Int))=true by simp;omega]
 simp only [cond_true,Int.toNat_natCast,List.getElem?_eq_getElem hi,Option.bind_some]
 generalize (l[i]).Kind=k at hk
 have hw:lst[k.toNat]? = some (word k):=by
  have hk:k=1\/k=2\/k=3\/k=4\/k=5\/k=6\/k=7:=by omega
  rcases hk with rfl|rfl|rfl|rfl|rfl|rfl|rfl<;>rfl
 rw [show decide (0<=k/\k<(↑lst.length:Int))=true from decide_eq_true ⟨by omega,by show k<8;omega⟩,hw]
 simp only [cond_true,Option.bind_some]
 have h7:=Vl k
 rw [show decide (s.size+(word k).size<=maxLen)=true from decide_eq_true (Nat.le_trans (show s.size+(word k).size<=200000 by omega) (by decide))]
 exact rn5 _ _ _
theorem rn2 (l:List BR) (s:ByteArray) (i:Nat) (hi:i<l.length) (hl:l.length<=1000) (hs:s.size<=100000):Ad IM (.b2 l lst s i)=Ad IM (.b1 l lst (s++word (l[i]).Kind) (i+1:Nat)):=by
 have hw:A7 ((i:Int)+1)=((i+1:Nat):Int):=by rw [uM (by omega) (by omega)];simp
 rw [<- hw]
 refine(Cc _ _).trans ?_
 simp only [IM,DN,beq_self_eq_true,cond_true]
 rw [show decide (0<=(i:Int)/\(i:Int)<(l.length:Int))=true by simp;omega]
 simp only [cond_true,Int.toNat_natCast,List.getElem?_eq_getElem hi,Option.bind_some]
 by_cases h1:(l[i]).Kind>=1
 ·by_cases h2:(l[i]).Kind<=7
  ·rw [decide_eq_true h1,decide_eq_true h2]
   exact rn3 l s i hi hl ⟨h1,h2⟩ hs
  ·rw [decide_eq_true h1,decide_eq_false h2,aP (by omega)]
   exact rn4 l s i hs
 ·rw [decide_eq_false h1,aP (by omega)]
  exact rn4 l s i hs
theorem Zmn (l:List BR) (hl:l.length<=1000):∀(j i:Nat) (s:ByteArray),i+j=l.length->1<=i->s.size<=8*i->Ad IM (.b1 l lst s i)=some (more s (words (l.drop i))):=by
 intro j
 induction j with
 | zero=>
  intro i s hi h1 hs
  refine(Cc _ _).trans ?_
  simp only [IM,DN]
  rw [show decide ((i:Int)<(l.length:Int))=false by simp;omega,List.drop_of_length_le (by omega)]
  rfl
 | succ j ih=>
  intro i s hi h1 hs
  have hx:i<l.length:=by omega
  refine(Cc _ _).trans ?_
  simp only [IM,DN,beq_self_eq_true,cond_true]
  rw [show decide ((i:Int)<(l.length:Int))=true by simp;omega,show decide ((i:Int)>0)=true by simp;omega]
  have hsp:(s++sp).size=s.size+1:=Z5P _ _
  rw [show decide (s.size+(⟨#[32]⟩:ByteArray).size<=maxLen)=true from decide_eq_true (Nat.le_trans (show s.size+1<=200000 by omega) (by decide))]
  simp only [cond_true]
  have h7:=Vl (l[i]).Kind
  have:=rn2 l (s++sp) i hx hl (by omega)
  refine this.trans ?_
  rw [ih (i+1) _ (by omega) (by omega) (by rw [Z5P];omega)]
  rw [List.drop_eq_getElem_cons hx]
  rfl
theorem Zfz (l:List BR) (hl:l.length<=1000):mW l=some (J7 (words l) sp):=(Cc _ _).trans (by
 show (bif _ then Ad IM (.b1 l lst ⟨#[]⟩ 0) else none)=_
 refine(show _=Ad IM (.b1 l lst ⟨#[]⟩ 0) from rfl).trans ?_
 cases l with
 | nil=>exact(Cc _ _).trans rfl
 | cons x r=>
  refine(Cc _ _).trans ?_
  simp only [IM,DN,beq_self_eq_true,cond_true]
  rw [show decide ((0:Int)<((x::r).length:Int))=true from decide_eq_true (by rw [List.length_cons];omega),show decide ((0:Int)>0)=false by decide]
  simp only [cond_true,cond_false]
  have h:=rn2 (x::r) ⟨#[]⟩ 0 (by simp) hl (by decide)
  refine h.trans ?_
  rw [ZmS]
  have h7:=Vl x.Kind
  rw [Zmn (x::r) hl r.length 1 _ (by simp;omega) (by omega) (by simpa using (by omega:(word x.Kind).size<=8))]
  rw [show words (x::r)=word x.Kind::words r from rfl,Zji]
  rfl)
end Go.Proofs.YtddbklgndkpipaaGreatDoor
