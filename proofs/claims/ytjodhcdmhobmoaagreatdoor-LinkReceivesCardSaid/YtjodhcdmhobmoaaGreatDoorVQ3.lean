/- A part of it. -/
import Derived.Test.YtjodhcdmhobmoaaGreatDoorVQ2
import Derived.Test.YtjodhcdmhobmoaaGreatDoorVQ1
import Derived.Test.YtjodhcdmhobmoaaGreatDoorVF3
set_option linter.unusedVariables false
set_option linter.unusedSimpArgs false
namespace Go.Proofs.YtjodhcdmhobmoaaGreatDoor
open Go Go.Proofs.YtjodhcdmhobmoaaGreatDoor.Le
set_option maxRecDepth 100000
theorem ZBp (l:List BJ) (h:l.length<=1000):Z1w l=some ⟨l⟩:=fe (by
 have e:(l.take (List.replicate (Int.toNat (l.length:Int)) (⟨0,0⟩:BJ)).length++(List.replicate (Int.toNat (l.length:Int)) (⟨0,0⟩:BJ)).drop l.length)=l:=by
  rw[List.length_replicate,Int.toNat_natCast,List.take_length,List.drop_of_length_le (by rw[List.length_replicate];exact Nat.le_refl _),List.append_nil]
 simp only[Z9Y,DN];rw[e,List.length_replicate,Int.toNat_natCast,MR];rw[decide_eq_true ⟨by omega,by omega,by rw[show lim=140737488355328 from rfl];omega,by rw[show maxLen=9223372036854775807 from rfl];omega⟩];rfl)
def RS (g:Bool) (l:List BJ) (q:Int):List BJ:=
 if q<0\/(l.length:Int)<=q then l else
  match l[q.toNat]? with
  | some x=>bif g then (if x.Good<65536 then l.set q.toNat ⟨AQ (x.Good+1),x.IY⟩ else l) else (if x.IY<65536 then l.set q.toNat ⟨x.Good,AQ (x.IY+1)⟩ else l)
  | none=>l
theorem Zzw (g:Bool) (l:List BJ) (q:Int) (h:l.length<=1000):Z1i l q g=some (RS g l q):=fe (by
 simp only[Z9e,DN,ZBp l h,Option.bind_some,MR,cond_true,cond_false];unfold RS
 by_cases A:q<0
 ·rw[decide_eq_true A,if_pos (.inl A)];rfl
 ·rw[decide_eq_false A]
  by_cases C:(l.length:Int)<=q
  ·rw[show decide (q>=(l.length:Int))=true from decide_eq_true C,if_pos (.inr C)];rfl
  ·rw[show decide (q>=(l.length:Int))=false from decide_eq_false C,if_neg (by omega)];have D:q.toNat<l.length:=by omega
   rw[List.getElem?_eq_getElem D];simp only[Option.bind_some,decide_eq_true (show 0<=q/\q<(l.length:Int) by omega),decide_eq_true (Nat.zero_le q.toNat),Bool.and_self,List.length_set,MR,cond_true,cond_false];cases g
   ·by_cases z:l[q.toNat].IY<65536
    ·rw[decide_eq_true z,if_pos z];rfl
    ·rw[decide_eq_false z,if_neg z];rfl
   ·by_cases z:l[q.toNat].Good<65536
    ·rw[decide_eq_true z,if_pos z];rfl
    ·rw[decide_eq_false z,if_neg z];rfl)
theorem Zzl (g:Bool) (l:List BJ) (q:Int) (h:l.length<=1000):XM l q g=some (RS g l q):=fe (by
 simp only[PE,DN,MR,cond_true,List.nil_append,List.length_nil,Nat.zero_add];rw[QI (by omega) (by decide)];simp only[cond_true];unfold RS
 by_cases C:q<0
 ·rw[decide_eq_true C,if_pos (.inl C)];rfl
 ·rw[decide_eq_false C]
  by_cases D:(l.length:Int)<=q
  ·rw[show decide (q>=(l.length:Int))=true from decide_eq_true D,if_pos (.inr D)];rfl
  ·rw[show decide (q>=(l.length:Int))=false from decide_eq_false D,if_neg (by omega)];have F:q.toNat<l.length:=by omega
   have hr:decide (0<=q/\q<(l.length:Int))=true:=decide_eq_true (by omega);have hz:=decide_eq_true (Nat.zero_le q.toNat);have A:=List.getElem?_eq_getElem F;have b3:∀k:List BJ,AU PE (.b3 q true k)=some k:=fun k=>fe (by simp only[PE,DN,Bool.not_true,cond_true,cond_false]);simp only[cond_false];refine fe ?_;cases g
   ·simp only[PE,DN,cond_false];refine fe ?_;simp only[PE,DN,Bool.not_false,cond_true,hr,A,Option.bind_some]
    by_cases z:l[q.toNat].IY<65536
    ·rw[decide_eq_true z,if_pos z];simp only[cond_true];refine fe ?_;simp only[PE,DN,MR,Bool.and_self,cond_true,hr,hz,A,Option.bind_some,List.length_set]
    ·rw[decide_eq_false z,if_neg z];rfl
   ·simp only[PE,DN,cond_true,hr,A,Option.bind_some,b3]
    by_cases z:l[q.toNat].Good<65536
    ·rw[decide_eq_true z,if_pos z];simp only[cond_true];refine fe ?_;simp only[PE,DN,MR,Bool.and_self,cond_true,hr,hz,A,Option.bind_some,List.length_set,b3]
    ·rw[decide_eq_false z,if_neg z];rfl)
theorem yU {α:Type}:∀l:List α,l.length<=1->l=[]\/∃x,l=[x]
 | [],_=>.inl rfl
 | [x],_=>.inr ⟨x,rfl⟩
 | _::_::_,h=>absurd h (by simp only[List.length_cons];omega)
def Ol (e:Int) (x:Am):Am:={ x with Event:=e }
section
variable (e:Int) (l:List Am) (L:Ac) (hl:l.length<=1) (hx:∀x∈l,x.Ap.Payload.length<=100000)
include hl hx
theorem rp1:∃q,Z0b e l ⟨L,[]⟩=some ⟨⟨L,l.map (Ol e)⟩,q⟩:=by
 have z:∀(n:Int) (y:CO),AU We (.b1 e l n n y)=some ⟨y,l⟩:=fun n y=>fe (by
  simp only[We,DN,decide_eq_false (Int.lt_irrefl n),Bool.and_self,cond_true,cond_false])
 rcases yU l hl with rfl|⟨x,rfl⟩
 ·refine⟨[],fe ?_⟩;simp only[We,DN,Bool.and_self,cond_true];exact z 0 _
 ·refine⟨[x],fe ?_⟩;have hc:=jQ x.Ap.Payload (hx x List.mem_cons_self);have D:([x][(Int.toNat 0)]? : Option Am)=some x:=rfl;simp only[We,DN,Bool.and_self,cond_true];refine fe ?_;have A:decide ((0:Int)<([x].length:Int))=true:=rfl;have C:decide (0<=(0:Int)/\(0:Int)<([x].length:Int))=true:=rfl;simp only[We,DN,A,C,D,hc,Option.bind_some,MR,Bool.and_self,cond_true,List.length_nil,List.nil_append];exact z 1 _
theorem rp2:nT e l ⟨L,[]⟩=some ⟨⟨L,l.map (Ol e)⟩⟩:=by
 have q:∀(n:Int) (y:CO),AU WV (.b1 e l n n y)=some ⟨y⟩:=fun n y=>fe (by
  simp only[WV,DN,decide_eq_false (Int.lt_irrefl n),Bool.and_self,cond_true,cond_false])
 rcases yU l hl with rfl|⟨x,rfl⟩
 ·refine fe ?_;simp only[WV,DN,Bool.and_self,cond_true];exact q 0 _
 ·refine fe ?_;have hc:=jQ x.Ap.Payload (hx x List.mem_cons_self);have C:([x][(Int.toNat 0)]? : Option Am)=some x:=rfl;simp only[WV,DN,Bool.and_self,cond_true];refine fe ?_;have z:decide ((0:Int)<([x].length:Int))=true:=rfl;have A:decide (0<=(0:Int)/\(0:Int)<([x].length:Int))=true:=rfl;simp only[WV,DN,z,A,C,hc,Option.bind_some,MR,Bool.and_self,cond_true,List.length_nil,List.nil_append];exact q 1 _
theorem rp3:∃q,Z00 e l ⟨L,[]⟩=some ⟨⟨L,l.map (Ol e)⟩,q⟩:=by
 have z:∀(n:Int) (y:CO),AU WQ (.b1 e l n n y)=some ⟨y,l⟩:=fun n y=>fe (by
  simp only[WQ,DN,decide_eq_false (Int.lt_irrefl n),Bool.and_self,cond_true,cond_false])
 rcases yU l hl with rfl|⟨x,rfl⟩
 ·refine⟨[],fe ?_⟩;simp only[WQ,DN,Bool.and_self,cond_true];exact z 0 _
 ·refine⟨[x],fe ?_⟩;have hc:=jQ x.Ap.Payload (hx x List.mem_cons_self);have D:([x][(Int.toNat 0)]? : Option Am)=some x:=rfl;simp only[WQ,DN,Bool.and_self,cond_true];refine fe ?_;have A:decide ((0:Int)<([x].length:Int))=true:=rfl;have C:decide (0<=(0:Int)/\(0:Int)<([x].length:Int))=true:=rfl;simp only[WQ,DN,A,C,D,hc,Option.bind_some,MR,Bool.and_self,cond_true,List.length_nil,List.nil_append];exact z 1 _
omit hx in
theorem Zgr:eY l e=some (l.map (Ol e)):=by
 have q:∀(k:List Am),AU Uj (.b1 l e k (l.length:Nat))=some k:=fun k=>fe (by
  simp only[Uj,DN,decide_eq_false (Int.lt_irrefl _),cond_true,cond_false])
 rcases yU l hl with rfl|⟨x,rfl⟩
 ·refine fe ?_;simp only[Uj,DN];exact q []
 ·refine fe ?_;have C:([x][(Int.toNat 0)]? : Option Am)=some x:=rfl;simp only[Uj,DN];refine fe ?_;have z:decide ((0:Int)<([x].length:Int))=true:=rfl;have A:decide (0<=(0:Int)/\(0:Int)<([x].length:Int))=true:=rfl;simp only[Uj,DN,z,A,C,Option.bind_some,Bool.and_self,cond_true,List.length_nil,List.nil_append];exact q _
end
def ind4 (e r:Int):Am:=⟨4,e,⟨0,[]⟩,I7,IntKind.wrap .u64 r,Be⟩
theorem ZDB (L:Ac):Z1a L.Event 61 ⟨L,[]⟩=some ⟨⟨{ L with Bl:=61 },[ind4 L.Event 61]⟩⟩/\iI L 61=some ({ L with Bl:=61 },[ind4 L.Event 61]):=by
 constructor
 ·obtain⟨q,z⟩:=rp1 L.Event [⟨4,0,⟨0,[]⟩,I7,IntKind.wrap .u64 61,Be⟩] { L with Bl:=61 } (by decide) (fun x hx=>by rw[List.mem_singleton.1 hx];decide);refine fe ?_;simp only[Z98,DN,z,Option.bind_some,Bool.and_self,cond_true];rfl
 ·exact fe rfl
def J8 (x:Aq):Bool:=bif x.BP==1 then ((x.Payload.length:Nat):Int)==0 else false
def cfS (l:Ac):Bc:=bif l.Bq.Gf then Ve l.Bq true false else l.Bq
def QL (l:Ac) (p:Aq) (k:Int) (S:Bc):Ac:=
 bif p.BP != 3 then { l with Bq:=S } else bif k==5 then { l with AA:=RF l.AA k,Bq:={ S with Gf:=true } } else { l with AA:=RF l.AA k,Bq:=S }
def Zk (l:Ac) (p:Aq) (k:Int):Ac:=QL l p k (cfS l)
theorem ZGr (l:Ac) (p:Aq) (hw:l.AA.Ah.length<=100) (hP:l.AA.Ak.length<=1) (c:AO) (hd:p.BP=3->LV p.Payload=some (c,0)/\JD p.Payload=some (c,0)) (hb:J8 p=false) :
  (∃q r,nR p false ⟨l,[]⟩=some ⟨⟨Zk { l with Di:=true } p c.Kind,[]⟩,q,r⟩)/\fH { l with Di:=true } p=some (Zk { l with Di:=true } p c.Kind,[]):=by
 have I:=Iu l.AA 0 0 hw hP;have hs:=ZF4 l.AA c I;have G:=Zye l.AA c;have hr:=fun L:Ac=>rp2 L.Event [] L (by decide) (fun x h=>nomatch h);have O:=fun e:Int=>Zgr e [] (by decide);have M:=fun s:Bc=>(yP s true false).1;have N:=fun s:Bc=>(yP s true false).2;have Q:=fun(s:Bc) (b:Bool)=>(xY s true b).1;have Y:=fun(s:Bc) (b:Bool)=>(xY s true b).2;have J:PK p=some false:=(sZ p).trans (congrArg some hb);constructor
 ·refine⟨l.AA.Ah,l.AA.Ak,?_⟩;have b1:∀S:Bc,AU WO (.b1 ⟨{ l with Di:=true,Bq:=S },[]⟩ p)=some ⟨⟨QL { l with Di:=true } p c.Kind S,[]⟩,l.AA.Ah,l.AA.Ak⟩:=fun S=>fe (by
   by_cases C:p.BP=3
   ·have D :=(hd C).1;have F :=hr { l with Di:=true,AA:=RF l.AA c.Kind,Bq:=S };simp only[List.map_nil]at F;have A:(p.BP != 3)=false:=by rw[C];rfl
    have e0:((0:Int) != 0)=false:=rfl;simp only[WO,DN,A,e0,D,hs,F,Q,Option.bind_some,Bool.and_self,cond_true,cond_false];unfold QL;rw[A];cases c.Kind==5<;>rfl
   ·have A:(p.BP != 3)=true:=by simpa using C
    unfold QL;rw[A];simp only[WO,DN,A,Bool.and_self,cond_true,cond_false])
  refine fe ?_;simp only[WO,DN,M,Option.bind_some,Bool.and_self,cond_true,cond_false,b1];show _=some (⟨⟨QL _ _ _ (bif l.Bq.Gf then Ve l.Bq true false else l.Bq),[]⟩,_,_⟩:OU);cases l.Bq.Gf
  ·rfl
  ·rfl
 ·have b2:∀L z:Ac,AU QU (.b2 [] L z)=some (L,[]):=fun L z=>fe (by
   simp only[QU,DN,O,Option.bind_some,List.map_nil])
  have b1:∀(S:Bc) (z:Ac),AU QU (.b1 { l with Di:=true,Bq:=S } p z)=some (QL { l with Di:=true } p c.Kind S,[]):=fun S z=>fe (by
   by_cases C:p.BP=3
   ·have D :=(hd C).2;have A:(p.BP != 3)=false:=by rw[C];rfl
    simp only[QU,DN,A,D,G,Y,Option.bind_some,Bool.and_self,cond_true,cond_false,b2];unfold QL;rw[A];cases c.Kind==5<;>rfl
   ·have A:(p.BP != 3)=true:=by simpa using C
    unfold QL;rw[A];simp only[QU,DN,A,Bool.and_self,cond_true,cond_false])
  refine fe ?_;simp only[QU,DN,J,N,Option.bind_some,Bool.and_self,cond_true,cond_false,b1];show _=some (QL _ _ _ (bif l.Bq.Gf then Ve l.Bq true false else l.Bq),_);cases l.Bq.Gf
  ·rfl
  ·rfl
theorem ZDJ (l:Ac) (p:Aq):(∃q r,nR p true ⟨l,[]⟩=some ⟨⟨{ l with Di:=true },[]⟩,q,r⟩)/\∀w:Aq,J8 w=true->fH { l with Di:=true } w=some ({ l with Di:=true },[]):=by
 constructor
 ·exact⟨l.AA.Ah,l.AA.Ak,fe (by simp only[WO,DN,Bool.and_self,cond_true])⟩
 ·intro w hw;have z:PK w=some true:=(sZ w).trans (congrArg some hw);refine fe ?_;simp only[QU,DN,z,Option.bind_some,cond_true]
theorem hd_of:∀k:Fin 256,((Int.fdiv ((k.val:Nat):Int) (2 ^ 5) != 0)=decide (32<=k.val))/\AQ (bits .and .u8 ((k.val:Nat):Int) 3)=((k.val % 4:Nat):Int) /\
  AQ (bits .and .u8 (Int.fdiv ((k.val:Nat):Int) (2 ^ (min (Int.toNat 3) (IntKind.bits .u8)))) 1)=((k.val / 8 % 2:Nat):Int)/\AQ (bits .and .u8 (Int.fdiv ((k.val:Nat):Int) (2 ^ (min (Int.toNat 2) (IntKind.bits .u8)))) 1)=((k.val / 4 % 2:Nat):Int) /\
  AQ (bits .and .u8 (Int.fdiv ((k.val:Nat):Int) (2 ^ (min (Int.toNat 4) (IntKind.bits .u8)))) 1)=((k.val / 16 % 2:Nat):Int):=by decide +kernel
def Zf (k n:Nat) (r:List Int):BI×Int:=
 bif decide (32<=k) then (Df,2) else bif (((k % 4:Nat):Int)==0) then (Df,12) else bif (((n:Nat):Int)==0)&&(((k % 4:Nat):Int) != 1) then (Df,1) else
 bif decide ((r.length:Int)<n) then (Df,3) else bif decide ((r.length:Int)>n) then (Df,2) else (⟨((k / 8 % 2:Nat):Int),((k / 4 % 2:Nat):Int),((k / 16 % 2:Nat):Int),⟨((k % 4:Nat):Int),r⟩⟩,0)
def Vl (b:List Int):BI×Int:=match b with
 | h::n::r=>Zf h.toNat n.toNat r
 | _=>(Df,3)
theorem Z5c (j a:Int) (q:0<=j):aA j a=some (AQ (bits .and .u8 (Int.fdiv a (2 ^ (min (Int.toNat j) (IntKind.bits .u8)))) 1)):=(Aa _ _).trans (by
 simp only[Z8m,DN,decide_eq_true q,cond_true])
theorem ZnI (b:List Int) (hb:Bytes b) (hl:b.length<=90000):Z15 b=some (Vl b):=(Aa _ _).trans (by
 match b,hb,hl with
 | [],_,_=>rfl
 | [x],_,_=>rfl
 | h::n::r,hb,hl=>
  have Q:=hb h List.mem_cons_self;have S:=hb n (List.mem_cons_of_mem _ List.mem_cons_self);obtain⟨k,rfl⟩:∃k:Nat,h=(k:Int):=⟨h.toNat,by omega⟩;obtain⟨m,rfl⟩:∃m:Nat,n=(m:Int):=⟨n.toNat,by omega⟩;obtain⟨f1,f2,f3,f4,f5⟩:=hd_of ⟨k,by omega⟩;simp only at f1 f2 f3 f4 f5;have O : r.length<=90000:=by simp only[List.length_cons]at hl;omega
  have A:AQ ((((k:Int)::(m:Int)::r).length:Int) - 2)=(r.length:Int):=by rw[Dy (by simp only[List.length_cons];omega) (by simp only[List.length_cons];omega)];simp only[List.length_cons];omega
  have C:AQ (m:Int)=(m:Int):=Dy (by omega) (by omega);have D:(((k:Int)::(m:Int)::r).drop (Int.toNat 2)).take (((k:Int)::(m:Int)::r).length - Int.toNat 2)=r:=by
   show r.take _=_;exact List.take_of_length_le (by simp)
  have F:decide ((0:Int)<=2/\(2:Int)<=(((k:Int)::(m:Int)::r).length:Int))=true:=decide_eq_true ⟨by decide,by simp only[List.length_cons];omega⟩;have G:decide ((((k:Int)::(m:Int)::r).length:Int)<2)=false:=decide_eq_false (by simp only[List.length_cons];omega);have I:decide ((0:Int)<=0/\(0:Int)<(((k:Int)::(m:Int)::r).length:Int))=true:=decide_eq_true ⟨by decide,by simp only[List.length_cons];omega⟩;have J:decide ((0:Int)<=1/\(1:Int)<(((k:Int)::(m:Int)::r).length:Int))=true:=decide_eq_true ⟨by decide,by simp only[List.length_cons];omega⟩;have M:(((k:Int)::(m:Int)::r)[Int.toNat 0]? : Option Int)=some (k:Int):=rfl;have N:(((k:Int)::(m:Int)::r)[Int.toNat 1]? : Option Int)=some (m:Int):=rfl;have q:=kX [r] (by simp;omega) (by simp);rw[show [r].flatten=r by simp]at q;have b1:∀z,AU aS (.b1 z)=some (Df,1):=fun z=>(Aa _ _).trans rfl;have b2:∀z,AU aS (.b2 ((k:Int)::(m:Int)::r) (m:Int) ((k % 4:Nat):Int) z (k:Int))=some (bif decide ((r.length:Int)<m) then (Df,3) else bif decide ((r.length:Int)>m) then (Df,2) else (⟨((k / 8 % 2:Nat):Int),((k / 4 % 2:Nat):Int),((k / 16 % 2:Nat):Int),⟨((k % 4:Nat):Int),r⟩⟩,0)):=fun z=>(Aa _ _).trans (by
   simp only[aS,DN,A,D,F,Z5c 3 _ (by decide),Z5c 2 _ (by decide),Z5c 4 _ (by decide),f3,f4,f5,Option.bind_some,cond_true,q];cases decide ((r.length:Int)<m)
   ·cases decide ((r.length:Int)>m)<;>rfl
   ·rfl)
  simp only[aS,DN,G,I,J,M,N,f1,f2,C,b1,b2,Option.bind_some,cond_true,cond_false];unfold Vl Zf;simp only[Int.toNat_natCast];cases decide (32<=k)
  ·cases (((k % 4:Nat):Int)==0)
   ·cases ((m:Int)==0)
    ·rfl
    ·cases (((k % 4:Nat):Int) != 1)<;>rfl
   ·rfl
  ·rfl)
theorem ZrU (b:List Int) (hb:Bytes b) (hl:b.length<=90000):rY b=some (Vl b):=(Aa _ _).trans (by
 match b,hb,hl with
 | [],_,_=>rfl
 | [x],_,_=>rfl
 | h::n::r,hb,hl=>
  have hh:=hb h List.mem_cons_self;have hn:=hb n (List.mem_cons_of_mem _ List.mem_cons_self);obtain⟨k,rfl⟩:∃k:Nat,h=(k:Int):=⟨h.toNat,by omega⟩;obtain⟨m,rfl⟩:∃m:Nat,n=(m:Int):=⟨n.toNat,by omega⟩;have Y : r.length<=90000:=by simp only[List.length_cons]at hl;omega
  have D:AQ (k:Int)=(k:Int):=Dy (by omega) (by omega);have f1:decide ((k:Int)>=32)=decide (32<=k):=by rw[decide_eq_decide];omega
  have f2:Int.tmod (k:Int) 4=((k % 4:Nat):Int):=(Int.ofNat_tmod k 4).symm;have d:∀j:Nat,j<=100->Int.tmod (AQ (Int.tdiv (k:Int) (j:Int))) 2=((k / j % 2:Nat):Int):=fun j hj=>by
   have C:=Nat.div_le_self k j;rw[show Int.tdiv (k:Int) (j:Int)=((k / j:Nat):Int) from(Int.ofNat_tdiv k j).symm];generalize k / j=q at C ⊢;rw[Dy (by omega) (by omega)];exact(Int.ofNat_tmod q 2).symm
  have f3:Int.tmod (AQ (Int.tdiv (k:Int) 8)) 2=((k / 8 % 2:Nat):Int):=d 8 (by decide);have f4:Int.tmod (AQ (Int.tdiv (k:Int) 4)) 2=((k / 4 % 2:Nat):Int):=d 4 (by decide);have f5:Int.tmod (AQ (Int.tdiv (k:Int) 16)) 2=((k / 16 % 2:Nat):Int):=d 16 (by decide);have F:AQ ((((k:Int)::(m:Int)::r).length:Int) - 2)=(r.length:Int):=by rw[Dy (by simp only[List.length_cons];omega) (by simp only[List.length_cons];omega)];simp only[List.length_cons];omega
  have G:AQ (m:Int)=(m:Int):=Dy (by omega) (by omega);have I:(((k:Int)::(m:Int)::r).drop (Int.toNat 2)).take (((k:Int)::(m:Int)::r).length - Int.toNat 2)=r:=by
   show r.take _=_;exact List.take_of_length_le (by simp)
  have J:decide ((0:Int)<=2/\(2:Int)<=(((k:Int)::(m:Int)::r).length:Int))=true:=decide_eq_true ⟨by decide,by simp only[List.length_cons];omega⟩;have M:decide ((((k:Int)::(m:Int)::r).length:Int)<2)=false:=decide_eq_false (by simp only[List.length_cons];omega);have N:decide ((0:Int)<=0/\(0:Int)<(((k:Int)::(m:Int)::r).length:Int))=true:=decide_eq_true ⟨by decide,by simp only[List.length_cons];omega⟩;have O:decide ((0:Int)<=1/\(1:Int)<(((k:Int)::(m:Int)::r).length:Int))=true:=decide_eq_true ⟨by decide,by simp only[List.length_cons];omega⟩;have Q:(((k:Int)::(m:Int)::r)[Int.toNat 0]? : Option Int)=some (k:Int):=rfl;have S:(((k:Int)::(m:Int)::r)[Int.toNat 1]? : Option Int)=some (m:Int):=rfl;have hk:kA (0+r.length) 1=true:=by
   unfold kA;rw[decide_eq_true (Nat.le_trans (by omega) (by decide:90000<=lim)),decide_eq_true (Nat.le_trans (by omega) (by decide:90000<=maxLen))];rfl
  have b1:∀z,AU XN (.b1 z)=some (Df,1):=fun z=>(Aa _ _).trans rfl;have b2:∀z,AU XN (.b2 ((k:Int)::(m:Int)::r) (k:Int) (m:Int) ((k % 4:Nat):Int) z)=some (bif decide ((r.length:Int)<m) then (Df,3) else bif decide ((r.length:Int)>m) then (Df,2) else (⟨((k / 8 % 2:Nat):Int),((k / 4 % 2:Nat):Int),((k / 16 % 2:Nat):Int),⟨((k % 4:Nat):Int),r⟩⟩,0)):=fun z=>(Aa _ _).trans (by
   have A:=hk;simp only[DN]at A;simp only[XN,DN,F,I,J,f3,f4,f5,A,cond_true,List.nil_append];cases decide ((r.length:Int)<m)
   ·cases decide ((r.length:Int)>m)<;>rfl
   ·rfl)
  simp only[XN,DN,M,N,O,Q,S,D,f1,f2,G,b1,b2,Option.bind_some,cond_true,cond_false];unfold Vl Zf;simp only[Int.toNat_natCast];cases decide (32<=k)
  ·cases (((k % 4:Nat):Int)==0)
   ·cases ((m:Int)==0)
    ·rfl
    ·cases (((k % 4:Nat):Int) != 1)<;>rfl
   ·rfl
  ·rfl)
def Vt (r:Nat):Nat:=if r<64 then 2*r else (2*r % 128) ^^^ 17
theorem ZGR {r:Nat} (h:r<128):Vt r<128:=by
 unfold Vt;split
 ·omega
 ·exact Nat.xor_lt_two_pow (n:=7) (by omega) (by decide)
def FC (r:Nat):Nat->Nat
 | 0=>r
 | j+1=>Vt (FC r j)
theorem kV {r:Nat} (h:r<128):∀j,FC r j<128
 | 0=>h
 | j+1=>ZGR (kV h j)
def Jb (r:Nat):Nat->Nat
 | 0=>0
 | j+1=>Jb r j+2 ^ j*(FC r j / 64)
theorem Z59 {r:Nat} (h:r<128):∀j,Jb r j<2 ^ j
 | 0=>by simp[Jb]
 | j+1=>by
  have z:=Z59 h j;have A:=kV h j;have q:FC r j / 64<=1:=by omega
  have C:2 ^ j*(FC r j / 64)<=2 ^ j*1:=Nat.mul_le_mul_left _ q;rw[Jb,Nat.pow_succ];omega
def JJ (r:Nat):Nat->List Int
 | 0=>[]
 | n+1=>JJ r n++[((Jb (FC r (8*n)) 8:Nat):Int)]
theorem XP (r:Nat):∀n,(JJ r n).length=n
 | 0=>rfl
 | n+1=>by rw[JJ,List.length_append,XP r n];rfl
theorem Z4E (r a:Nat):∀b,FC r (a+b)=FC (FC r a) b
 | 0=>rfl
 | b+1=>by rw[<- Nat.add_assoc,FC,FC,Z4E r a b]
def JV (c:Int):Nat:=64+(max 0 (min c 39)).toNat
theorem ZeX (c:Int):JV c<128:=by unfold JV;omega
theorem Zp1 (c:Int):Z1t c=some ((JV c:Nat):Int):=(Aa _ _).trans (by
 simp only[Z9X,DN,Option.some.injEq];rw[Dy (by split<;>(try split)<;>omega) (by split<;>(try split)<;>omega)];unfold JV;split<;>(try split)<;>omega)
theorem Zu9 (c:Int):tK c=some ((JV c:Nat):Int):=(Aa _ _).trans (by
 simp only[Z2p,DN,Option.some.injEq];rw[Dy (by split<;>(try split)<;>omega) (by split<;>(try split)<;>omega)];unfold JV;split<;>(try split)<;>omega)
theorem Zxa (r:Nat) (h:r<128):uY (r:Int)=some ((Vt r:Nat):Int):=by
 have:∀r:Fin 128,bits .xor .i64 (Int.tmod (AQ ((r.val:Int)*2)) 128) (17:Int)=(((2*r.val % 128) ^^^ 17:Nat):Int):=by decide +kernel
 have q:=this ⟨r,h⟩;refine(Aa _ _).trans ?_;simp only[Z3w,DN]at q ⊢;unfold Vt
 by_cases hr:r<64
 ·rw[decide_eq_false (by omega),if_pos hr,cond_false,Dy (by omega) (by omega),show (r:Int)*2=((2*r:Nat):Int) by omega,show Int.tmod ((2*r:Nat):Int) 128=((2*r % 128:Nat):Int) from(Int.ofNat_tmod _ _).symm,Nat.mod_eq_of_lt (by omega)]
 ·rw[decide_eq_true (by omega),if_neg hr,cond_true,q]
theorem Zqi (r:Nat) (h:r<128):Z1B (r:Int)=some (((r / 64:Nat):Int),((Vt r:Nat):Int)):=by
 have:∀r:Fin 128,bits .xor .i64 (bits .and .i64 (AQ ((r.val:Int)*2 ^ (1:Nat))) (127:Int)) (17:Int)=(((2*r.val % 128) ^^^ 17:Nat):Int):=by decide +kernel
 have q:=this ⟨r,h⟩;refine(Aa _ _).trans ?_;simp only[Za6,DN]at q ⊢;unfold Vt
 by_cases hr:r<64
 ·rw[decide_eq_true (by omega),if_pos hr,cond_true,Dy (by omega) (by omega),show r / 64=0 by omega,show (r:Int)*2 ^ 1=((2*r:Nat):Int) by omega];rfl
 ·rw[decide_eq_false (by omega),if_neg hr,cond_false,q,show r / 64=1 by omega];rfl
theorem Zhs {r j:Nat} (h:r<128) (q:j<8):2 ^ j<=128/\FC r j / 64<=1/\2 ^ j*(FC r j / 64)<=2 ^ j/\Jb r j<2 ^ j/\FC r j<128:=by
 have hs:=kV h j;have hb:FC r j / 64<=1:=by omega
 exact⟨Nat.pow_le_pow_right (j:=7) (by decide) (by omega),hb,Nat.le_trans (Nat.mul_le_mul_left _ hb) (by omega),Z59 h j,hs⟩
theorem ZAc (n i:Int) (acc:List Int) (r j:Nat) (h:r<128) (F:j<8) :
  AU ND (.b2 n acc ((FC r j:Nat):Int) i ((Jb r j:Nat):Int) ((2 ^ j:Nat):Int) (j:Int))=AU ND (.b2 n acc ((FC r (j+1):Nat):Int) i ((Jb r (j+1):Nat):Int) ((2 ^ (j+1):Nat):Int) ((j+1:Nat):Int)):=(Aa _ _).trans (by
 obtain⟨b1,b2,b3,b4,b5⟩:=Zhs h F;have q:Int.tdiv ((FC r j:Nat):Int) 64=((FC r j / 64:Nat):Int):=(Int.ofNat_tdiv _ 64).symm;have z:AQ (((2 ^ j:Nat):Int)*AQ ((FC r j / 64:Nat):Int))=((2 ^ j*(FC r j / 64):Nat):Int):=by
  rw[Dy (n:=((FC r j / 64:Nat):Int)) (by omega) (by omega),<- Int.natCast_mul,Dy (by omega) (by omega)]
 have A:AQ (((Jb r j:Nat):Int)+((2 ^ j*(FC r j / 64):Nat):Int))=((Jb r (j+1):Nat):Int):=by
  rw[<- Int.natCast_add,Dy (by omega) (by omega)];rfl
 have C:AQ (((2 ^ j:Nat):Int)*2)=((2 ^ (j+1):Nat):Int):=by
  rw[Dy (by omega) (by omega),Nat.pow_succ];exact(Int.natCast_mul _ 2).symm
 have D:decide ((j:Int)<8)=true:=decide_eq_true (by omega);simp only[ND,DN,D,cond_true,Zxa _ b5,Option.bind_some,beq_self_eq_true,q,z,A,C,Su j (by omega)];rfl)
theorem Zyg (n:Int) (acc:List Int) (r i:Nat) (h:r<128) (D:i<1000000) (C:acc.length<=100000) :
  AU ND (.b2 n acc (r:Int) (i:Int) 0 1 0)=AU ND (.b1 n (acc++[((Jb r 8:Nat):Int)]) ((FC r 8:Nat):Int) ((i+1:Nat):Int)):=by
 have s:=fun j A=>ZAc n (i:Int) acc r j h A;refine(s 0 (by omega)).trans ((s 1 (by omega)).trans ((s 2 (by omega)).trans ((s 3 (by omega)).trans ((s 4 (by omega)).trans ((s 5 (by omega)).trans ((s 6 (by omega)).trans ((s 7 (by omega)).trans ((Aa _ _).trans ?_))))))));have hw:Jb r 8<256:=Z59 h 8;have q:decide (((7+1:Nat):Int)<8)=false:=by decide
 have z:=Tz (n:=((Jb r (7+1):Nat):Int)) (by omega) (by show ((Jb r 8:Nat):Int)<256;omega);simp(disch:=omega) only[ND,q,z,DN,SL,SM]
theorem Zxr (n r:Nat) (h:r<128) (A:n<=100000):∀d i:Nat,i+d=n->AU ND (.b1 (n:Int) (JJ r i) ((FC r (8*i):Nat):Int) (i:Int))=some (JJ r n):=by
 intro d;induction d with
 | zero=>
  intro i q;rw[show i=n by omega];refine(Aa _ _).trans ?_;simp only[ND,Int.lt_irrefl,DN,SL,SM]
 | succ d z=>
  intro i q;refine(Aa _ _).trans ?_;have hl:i<n:=by omega
  simp(disch:=omega) only[ND,hl,DN,SL,SM];refine(Zyg (n:Int) (JJ r i) (FC r (8*i)) i (kV h _) (by omega) (by rw[XP];omega)).trans ?_;have:=z (i+1) (by omega);rw[show 8*(i+1)=8*i+8 by omega,Z4E]at this;exact this
theorem ZoU (c:Int) (n:Nat) (q:n<=100000):qO c (n:Int)=some (JJ (JV c) n):=(Aa _ _).trans (by
 simp only[ND,Zu9,DN,SL,SM];exact Zxr n (JV c) (ZeX c) q n 0 (by omega))
theorem or_bit (v y j:Nat) (z:j<8) (hv:v<2 ^ j) (q:y<=1):bits .or .u8 (v:Int) ((2 ^ j*y:Nat):Int)=((v+2 ^ j*y:Nat):Int):=by
 have hp:2 ^ j<=128:=Nat.pow_le_pow_right (j:=7) (by decide) (by omega);have hm:2 ^ j*y<=2 ^ j*1:=Nat.mul_le_mul_left _ q;rw[Z5w .u8 8 (by decide) wraps_u8 j (by omega) (v:Int) ((2 ^ j*y:Nat):Int) (by omega) (by
  rw[show (2:Int) ^ j=((2 ^ j:Nat):Int) by simp,<- Int.natCast_emod,Nat.mul_mod_right];rfl) (by omega) (by omega) (by
  rw[show (2:Int) ^ j=((2 ^ j:Nat):Int) by simp];omega)]
 omega
theorem Zgb (pre post:List Int) (v:Int) (i:Nat) (h:pre.length=i):(pre++v::post)[i]? = some v:=by
 subst h;simp
theorem ZgE (pre post:List Int) (v u:Int) (i:Nat) (h:pre.length=i):(pre++v::post).set i u=pre++u::post:=by
 subst h;simp
theorem Zrq (n:Int) (pre post:List Int) (r j i:Nat) (h:r<128) (q:j<8) (hp:pre.length=i) :
  AU OY (.b2 ((FC r j:Nat):Int) (pre++((Jb r j:Nat):Int)::post) (i:Int) n (i:Int) (j:Int))=AU OY (.b2 ((FC r (j+1):Nat):Int) (pre++((Jb r (j+1):Nat):Int)::post) (i:Int) n (i:Int) ((j+1:Nat):Int)):=(Aa _ _).trans (by
 obtain⟨b1,b2,b3,b4,b5⟩:=Zhs h q;have z:decide ((j:Int)<8)=true:=decide_eq_true (by omega);have A:decide ((0:Int)<=(i:Int)/\(i:Int)<((pre.length+(post.length+1):Nat):Int))=true:=decide_eq_true ⟨by omega,by omega⟩;have C:decide ((0:Int)<=(j:Int))=true:=decide_eq_true (by omega);have D:IntKind.wrap .u8 (AQ (((FC r j / 64:Nat):Int)*2 ^ (min j (IntKind.bits .i64))))=((2 ^ j*(FC r j / 64):Nat):Int):=by
  rw[show min j (IntKind.bits .i64)=j from Nat.min_eq_left (by show j<=64;omega),show ((FC r j / 64:Nat):Int)*2 ^ j=((2 ^ j*(FC r j / 64):Nat):Int) by rw[Int.natCast_mul,Int.mul_comm];simp,Dy (by omega) (by omega),Tz (by omega) (by omega)]
 have F:(decide (0<=i))=true:=rfl;simp only[OY,DN,z,A,C,D,F,cond_true,Zqi _ b5,Option.bind_some,beq_self_eq_true,Bool.and_self,Int.toNat_natCast,Zgb _ _ _ _ hp,ZgE _ _ _ _ _ hp,or_bit _ _ _ q b4 b2,List.length_append,List.length_cons,Su j (by omega)];rfl)
theorem ZpO (n:Int) (pre post:List Int) (r i:Nat) (h:r<128) (hp:pre.length=i) (A:i<1000000) :
  AU OY (.b2 (r:Int) (pre++0::post) (i:Int) n (i:Int) 0)=AU OY (.b1 ((FC r 8:Nat):Int) (pre++[((Jb r 8:Nat):Int)]++post) n ((i+1:Nat):Int)):=by
 have s:=fun j z=>Zrq n pre post r j i h z hp;refine(s 0 (by omega)).trans ((s 1 (by omega)).trans ((s 2 (by omega)).trans ((s 3 (by omega)).trans ((s 4 (by omega)).trans ((s 5 (by omega)).trans ((s 6 (by omega)).trans ((s 7 (by omega)).trans ((Aa _ _).trans ?_))))))));have q:decide (((7+1:Nat):Int)<8)=false:=by decide
 simp(disch:=omega) only[OY,q,Su i (by omega),DN,cond_false,cond_true,beq_self_eq_true];rw[List.append_assoc];rfl
theorem ZqH (n r:Nat) (h:r<128) (A:n<=100000):∀d i:Nat,i+d=n->AU OY (.b1 ((FC r (8*i):Nat):Int) (JJ r i++List.replicate (n - i) 0) (n:Int) (i:Int))=some ⟨JJ r n⟩:=by
 intro d;induction d with
 | zero=>
  intro i q;rw[show i=n by omega,Nat.sub_self,List.replicate_zero,List.append_nil];refine(Aa _ _).trans ?_;simp only[OY,Int.lt_irrefl,DN,SL,SM]
 | succ d z=>
  intro i q;refine(Aa _ _).trans ?_;have hl:i<n:=by omega
  simp(disch:=omega) only[OY,hl,DN,SL,SM];rw[show n - i=(n - (i+1))+1 by omega,List.replicate_succ];refine(ZpO (n:Int) (JJ r i) (List.replicate (n - (i+1)) 0) (FC r (8*i)) i (kV h _) (XP r i) (by omega)).trans ?_;have:=z (i+1) (by omega);rw[show 8*(i+1)=8*i+8 by omega,Z4E]at this;exact this
theorem ZmS (c:Int) (n:Nat) (z:n<=100000):Z0J c (n:Int)=some ⟨JJ (JV c) n⟩:=(Aa _ _).trans (by
 have q:decide ((0:Int)<=(n:Int)/\(n:Int)<=(n:Int)/\n*1<=lim/\(n:Int)<=((maxLen:Nat):Int))=true:=by
  have:=VO;have:=Uy;exact decide_eq_true ⟨by omega,by omega,by omega,by omega⟩
 simp only[OY,DN,Zp1,Option.bind_some,Int.toNat_natCast,q,cond_true,beq_self_eq_true,List.length_replicate];exact ZqH n (JV c) (ZeX c) z n 0 (by omega))
def xw (s b:List Int):List Int:=List.zipWith (fun x y=>bits .xor .u8 x y) s b
theorem ZhG {s b:List Int} (h:s.length=b.length):(xw s b).length=b.length:=by
 unfold xw;rw[List.length_zipWith,h,Nat.min_self]
theorem ZBq (s b:List Int):Bytes (xw s b):=fun z hz=>by
 unfold xw at hz;rw[List.mem_iff_getElem]at hz;obtain⟨i,q,rfl⟩:=hz;rw[List.getElem_zipWith];exact b8 _ _ _
theorem ZA4 (x y:Int):bits .xor .u8 x y=bits .xor .u8 y x:=by
 simp only[bits,BitVec.xor_comm]
theorem ZgG (s b:List Int) (i:Nat) (hs:i<s.length) (hb:i<b.length):xw (s.take (i+1)) (b.take (i+1))=xw (s.take i) (b.take i)++[bits .xor .u8 s[i] b[i]]:=by
 unfold xw;rw[List.take_succ_eq_append_getElem hs,List.take_succ_eq_append_getElem hb,List.zipWith_append (by rw[List.length_take,List.length_take];omega)];rfl
theorem ZgX (s b:List Int) (i:Nat) (hs:i<=s.length) (hb:i<=b.length):(xw (s.take i) (b.take i)).length=i:=by
 rw[ZhG (by rw[List.length_take,List.length_take];omega),List.length_take];omega
theorem Zr2 (s b:List Int) (hl:s.length=b.length) (J:b.length<=100000):∀d i:Nat,i+d=b.length->AU bF (.b1 (xw (s.take i) (b.take i)++s.drop i) b (b.length:Int) (i:Int))=some (xw s b):=by
 intro d;induction d with
 | zero=>
  intro i G;have e:i=b.length:=by omega
  subst e;refine(Aa _ _).trans ?_;simp only[bF,Int.lt_irrefl,DN,SL,SM];rw[List.drop_eq_nil_of_le (by omega),List.append_nil,List.take_of_length_le (by omega),List.take_of_length_le (by omega)]
 | succ d I=>
  intro i G;refine(Aa _ _).trans ?_;have q:i<b.length:=by omega
  have z:i<s.length:=by omega
  have hp:=ZgX s b i (by omega) (by omega);have A:decide ((0:Int)<=(i:Int)/\(i:Int)<((i+((s.drop (i+1)).length+1):Nat):Int))=true:=decide_eq_true ⟨by omega,by omega⟩;have C:decide ((0:Int)<=(i:Int)/\(i:Int)<(b.length:Int))=true:=decide_eq_true ⟨by omega,by omega⟩;have D:decide ((i:Int)<(b.length:Int))=true:=decide_eq_true (by omega);have F:(decide (0<=i))=true:=rfl;rw[List.drop_eq_getElem_cons z];simp only[bF,DN,C,D,F,cond_true,Option.bind_some,beq_self_eq_true,Bool.and_self,Int.toNat_natCast,Zgb _ _ _ _ hp,ZgE _ _ _ _ _ hp,List.length_append,List.length_cons,hp,A,List.getElem?_eq_getElem q,Su i (by omega)];have:=I (i+1) (by omega);rw[ZgG s b i z q,List.append_assoc]at this;exact this
theorem ZpJ (c:Int) (b:List Int) (q:b.length<=100000):Z1p c b=some (xw (JJ (JV c) b.length) b):=(Aa _ _).trans (by
 simp only[bF,DN,ZmS c b.length q,Option.bind_some,beq_self_eq_true,cond_true];exact Zr2 (JJ (JV c) b.length) b (XP _ _) q b.length 0 (by omega))
theorem ZxL (s b:List Int) (hl:s.length=b.length) (D:b.length<=100000):∀d i:Nat,i+d=b.length->AU XZ (.b1 b s (xw (s.take i) (b.take i)) (i:Int))=some ⟨xw s b⟩:=by
 intro d;induction d with
 | zero=>
  intro i A;have e:i=b.length:=by omega
  subst e;refine(Aa _ _).trans ?_;simp only[XZ,Int.lt_irrefl,DN,SL,SM];rw[List.take_of_length_le (by omega),List.take_of_length_le (by omega)]
 | succ d C=>
  intro i A;refine(Aa _ _).trans ?_;have q:i<b.length:=by omega
  have z:i<s.length:=by omega
  have hp:=ZgX s b i (by omega) (by omega);simp(disch:=omega) only[XZ,q,z,hp,DN,SL,SM];have:=C (i+1) (by omega);rw[ZgG s b i z q,ZA4]at this;exact this
theorem ZtG (c:Int) (b:List Int) (q:b.length<=100000):dV c b=some ⟨xw (JJ (JV c) b.length) b⟩:=(Aa _ _).trans (by
 simp only[XZ,ZoU c b.length q,DN,SL,SM];exact ZxL (JJ (JV c) b.length) b (XP _ _) q b.length 0 (by omega))
theorem ZGK (a k p q:Int) (hk:E5 k) (hp:E5 p) (D:E5 q):Z1L a k p q=jA a k p q:=by
 have hx:∀x∈[p,q],E5 x:=fun x hx=>by
  simp only[List.mem_cons,List.not_mem_nil,or_false]at hx;rcases hx with rfl|rfl<;>assumption
 have A:=Zsj k (⟨#[115,101,115,115,105,111,110]⟩:ByteArray) [p,q] (by decide) hx (by simp);have C:=ZsX k hk (⟨#[115,101,115,115,105,111,110]⟩:ByteArray) [p,q] (by decide) hx (by simp);have b1:∀(r:Int) z,AU qZ (.b1 r k p q z)=some ⟨r,xJ k (⟨#[115,101,115,115,105,111,110]⟩:ByteArray) [p,q],bits .xor .u64 p q,false,false,0,0⟩:=fun r z=>fe (by
  simp only[qZ,DN,cond_true,A,Option.bind_some])
 refine(fe ?_).trans (fe rfl).symm;simp only[qZ,Z3R,DN,cond_true,C,Option.bind_some,b1]
 by_cases h:a=1
 ·rw[h];rfl
 ·rw[beq_false_of_ne h,show (a != 1)=true by simpa using h];rfl
structure RI (l:Ac):Prop where
 pr:BM l.AA
 ev:R16 l.Event
 ky:E5 l.Key
 cm:l.Ag.length<=1000000
def pI (e:Int) (p:Aq):Am:=⟨1,e,p,I7,0,Be⟩
def Zl (l:Ac) (r:HR) (c:AO) (s:Bc):Ac:=bif l.BK==0 then bif c.Kind==5 then bif r.1.CP==3 then { l with AA:=r.1,Ag:=l.Ag++r.2.1,Bq:={ s with Gf:=true,Eg:=true } } else { l with AA:=r.1,Ag:=l.Ag++r.2.1 } else { l with AA:=r.1,Ag:=l.Ag++r.2.1 } else { l with AA:=r.1,Ag:=l.Ag++r.2.1 }
theorem ctlV {l:Ac} (h:RI l) (p:Aq) (hb:Bytes p.Payload) (hl:p.Payload.length<=90000) (now:Int) :
  ∃l' m,Z06 p now ⟨l,[]⟩=some ⟨⟨l',m⟩⟩/\(p.BP=3->qV l p.Payload now=some (l',m))/\(p.BP≠3->l' = l/\m=[pI l.Event p])/\m.length<=1/\∀x∈m,x.Ap.Payload.length<=90000:=by
 obtain⟨⟨p1,p2,p3,p4,p5,p6,p7,p8,p9,J,p11,p12,p13⟩,hE,hK,hC⟩:=h;have hpr:BM l.AA:=⟨p1,p2,p3,p4,p5,p6,p7,p8,p9,J,p11,p12,p13⟩
 by_cases D:p.BP=3
 ·have G:(p.BP != 3)=false:=by rw[D];rfl
  obtain⟨⟨c,e⟩,O,Q,h4,h5⟩:=Zfz p.Payload hb hl;dsimp only at h4 h5
  by_cases C:e=0
  ·subst C;have I:=h4 rfl;obtain⟨r,a1,a2,a3,M,a5⟩:=ZC3 l.AA c l.Event now (by omega) p2 p9 I hE J;obtain⟨r',F,pr,-⟩:=Zbf l.AA c l.Event now hpr I.ct;rw[a2]at F;cases F;obtain⟨q1,q2,q3,q4,q5,q6,q7,-⟩:=pr;obtain⟨s,hs,-⟩:=Zen l.BK l.Key r.1.Bj r.1.F5 q6 q7;have hsP:=(ZGK l.BK l.Key r.1.Bj r.1.F5 hK q6 q7).trans hs;have hr2:=rp2 l.Event r.2.2 { l with AA:=r.1,Ag:=l.Ag++r.2.1 } M (fun x hx=>by rw[a5 x hx];exact Nat.zero_le _);have hst:=Zgr l.Event r.2.2 M;have x1:=QI (n:=l.Ag.length+r.2.1.length) (k:=120) (by omega) (by decide);have x2:=QI (n:=l.Ag.length) (k:=120) (by omega) (by decide);have hh:Z0n c now ⟨l,[]⟩=some ⟨⟨Zl l r c s,r.2.2.map (Ol l.Event)⟩⟩:=fe (by
    have b1:AU o7 (.b1 ⟨{ l with AA:=r.1,Ag:=l.Ag++r.2.1 },r.2.2.map (Ol l.Event)⟩ r.1)=some ⟨⟨{ l with AA:=r.1,Ag:=l.Ag++r.2.1,Bq:={ s with Gf:=true,Eg:=true } },r.2.2.map (Ol l.Event)⟩⟩:=fe (by
     simp only[o7,DN,hsP,(xY s true true).1,Option.bind_some,Bool.and_self,cond_true])
    unfold Zl;simp only[o7,DN,a1,x1,hr2,b1,Option.bind_some,Bool.and_self,cond_true];cases l.BK==0<;>cases c.Kind==5<;>cases r.1.CP==3<;>rfl)
   refine⟨Zl l r c s,r.2.2.map (Ol l.Event),fe ?_,fun _=>fe ?_,fun h=>absurd D h,?_,?_⟩
   ·simp only[UJ,DN,G,O,hh,beq_self_eq_true,Option.bind_some,Bool.and_self,cond_true,cond_false]
   ·have b2:∀(S:Bc) z,AU PD (.b2 r.2.2 { l with AA:=r.1,Ag:=l.Ag++r.2.1,Bq:=S } z)=some ({ l with AA:=r.1,Ag:=l.Ag++r.2.1,Bq:=S },r.2.2.map (Ol l.Event)):=fun S z=>fe (by
     simp only[PD,DN,hst,Option.bind_some,cond_true])
    have N : ∀z,AU PD (.b2 r.2.2 { l with AA:=r.1,Ag:=l.Ag++r.2.1 } z)=some ({ l with AA:=r.1,Ag:=l.Ag++r.2.1 },r.2.2.map (Ol l.Event)):=fun z=>b2 l.Bq z;have b1:∀z,AU PD (.b1 r.2.2 { l with AA:=r.1,Ag:=l.Ag++r.2.1 } z r.1)=some ({ l with AA:=r.1,Ag:=l.Ag++r.2.1,Bq:={ s with Gf:=true,Eg:=true } },r.2.2.map (Ol l.Event)):=fun z=>fe (by
     simp only[PD,DN,hs,(xY s true true).2,b2,Option.bind_some,cond_true])
    have n0:((0:Int)==12)=false:=rfl;have n1:((0:Int) != 0)=false:=rfl;unfold Zl;simp only[PD,DN,Q,n0,n1,a2,x1,x2,b1,N,List.nil_append,Nat.zero_add,Option.bind_some,Bool.and_self,cond_true,cond_false];cases l.BK==0<;>cases c.Kind==5<;>cases r.1.CP==3<;>rfl
   ·rw[List.length_map];exact M
   ·intro x hx;obtain⟨y,hy,rfl⟩:=List.mem_map.1 hx;show y.Ap.Payload.length<=_;rw[a5 y hy];exact Nat.zero_le _
  ·have n0:(e==0)=false:=beq_false_of_ne C;have n0' : (e != 0)=true:=by simpa using C
   by_cases he:e=12
   ·subst he;have A:=h5 rfl;obtain⟨a,t,Y⟩:∃a t,p.Payload=a::t:=by
     match hp:p.Payload,A with
     | a::t,_=>exact⟨a,t,rfl⟩
     | [],h=>rw[hp]at A;exact absurd A (by decide)
    have hg:(p.Payload[(Int.toNat 0)]? : Option Int)=some a:=by rw[Y];rfl
    have d1:decide (((p.Payload.length:Nat):Int)>0)=true:=decide_eq_true (by omega);have d2:decide (0<=(0:Int)/\(0:Int)<((p.Payload.length:Nat):Int))=true:=decide_eq_true (by omega);have x1:=QI (n:=l.Ag.length+1) (k:=120) (by omega) (by decide);have x2:=QI (n:=l.Ag.length) (k:=120) (by omega) (by decide);refine⟨{ l with Ag:=l.Ag++[⟨7,Be,0,0,0,AQ a,0,0,0,0,0⟩] },[],fe ?_,fun _=>fe ?_,fun h=>absurd D h,by decide,fun x h=>nomatch h⟩
    ·have b1:AU UJ (.b1 ⟨l,[]⟩ p)=some ⟨⟨{ l with Ag:=l.Ag++[⟨7,Be,0,0,0,AQ a,0,0,0,0,0⟩] },[]⟩⟩:=fe (by
      simp only[UJ,DN,d2,hg,x1,MR,Option.bind_some,Bool.and_self,cond_true])
     have n1:((12:Int)==0)=false:=rfl;simp only[UJ,DN,G,O,n1,d1,b1,beq_self_eq_true,Option.bind_some,Bool.and_self,cond_true,cond_false]
    ·simp only[PD,DN,Q,d2,hg,x1,x2,List.nil_append,Nat.zero_add,beq_self_eq_true,Option.bind_some,Bool.and_self,cond_true,cond_false]
   ·have n2:(e==12)=false:=beq_false_of_ne he;refine⟨l,[],fe ?_,fun _=>fe ?_,fun h=>absurd D h,by decide,fun x h=>nomatch h⟩
    ·simp only[UJ,DN,G,O,n0,n2,Option.bind_some,Bool.and_self,cond_true,cond_false]
    ·simp only[PD,DN,Q,n2,n0',Option.bind_some,Bool.and_self,cond_true,cond_false]
 ·have G:(p.BP != 3)=true:=by simpa using D
  obtain⟨q,hq⟩:=rp3 l.Event [⟨1,0,p,I7,0,Be⟩] l (Nat.le_refl 1) (fun x hx=>by rw[List.mem_singleton.1 hx];show p.Payload.length<=_;omega);refine⟨l,[pI l.Event p],fe ?_,fun h=>absurd h D,fun _=>⟨rfl,rfl⟩,Nat.le_refl 1,fun x hx=>by rw[List.mem_singleton.1 hx];exact hl⟩;simp only[UJ,DN,G,hq,Option.bind_some,Bool.and_self,cond_true];rfl
theorem Z5u {a:BQ} {p:BI} (h:(LH a p).2.2.1=true):(p.SN==a.DX)=true/\J8 p.Ap=false/\(LH a p).2.1=p.Ap:=by
 have q:∀(k:Bool) (x:BQ),(JK p k x).2.2.1=true->(p.SN==x.DX)=true/\J8 p.Ap=false/\(JK p k x).2.1=p.Ap:=fun k x=>by
  unfold JK;show (bif p.SN==x.DX then bif !(J8 p.Ap) then _ else _ else _:BQ×Aq×Bool×Bool).2.2.1=true->_/\_/\(bif p.SN==x.DX then bif !(J8 p.Ap) then _ else _ else _:BQ×Aq×Bool×Bool).2.1=_;cases (p.SN==x.DX)
  ·exact fun h=>nomatch h
  ·cases J8 p.Ap
   ·exact fun _=>⟨rfl,rfl,rfl⟩
   ·exact fun h=>nomatch h
 have C:(Vs a).DX=a.DX:=by
  unfold Vs;cases (!a.Empty&&decide (((a.Az.length:Nat):Int)>0))<;>rfl
 unfold LH at h ⊢;cases A:(MZ p != 0)
 ·rw[A]at h;cases z:a.Open
  ·rw[z]at h;exact q _ _ h
  ·cases hs:(p.DX != a.SN)
   ·rw[z,hs]at h;exact q _ _ h
   ·rw[z,hs]at h;have:=q _ _ h;rw[C]at this;exact this
 ·rw[A]at h;cases h
theorem tk_ak {a:BQ} {p:BI} (h:(LH a p).2.2.2=true):a.Open=true:=by
 have z:∀(k:Bool) (x:BQ),(JK p k x).2.2.2=k:=fun k x=>by
  unfold JK;cases (p.SN==x.DX)
  ·rfl
  ·cases (bif p.Ap.BP==1 then ((p.Ap.Payload.length:Nat):Int)==0 else false)<;>rfl
 unfold LH at h;cases q:(MZ p != 0)
 ·rw[q]at h;cases A:a.Open
  ·rw[A]at h;have:=(z false a).symm.trans h;cases this
  ·rfl
 ·rw[q]at h;cases h
def Yk (q:List Am) (l:Ac) (p:BI):Ac×List Am×Bool:=(l,q,bif p.MD==1 then true else l.More)
theorem Vz (l z A : Ac) (q:List Am) (p:BI):AU EG (.b9 z ⟨l,q⟩ p)=some (Yk q l p)/\AU Dp (.b11 q l A p)=some (Yk q l p):=by
 unfold Yk;constructor
 ·refine fe ?_;simp only[EG,DN,cond_true];cases p.MD==1<;>rfl
 ·refine fe ?_;simp only[Dp,DN,cond_true];cases p.MD==1<;>rfl
def Both (x y:Option (Ac×List Am×Bool)):Prop:=∃r,x=some r/\y=some r/\∀i∈r.2.1,i.Ap.Payload.length<=90000
theorem st8 {l:Ac} (h:RI l) (z C : Ac) (p:BI) (g:Aq) (hb:Bytes g.Payload) (hl:g.Payload.length<=90000) (now:Int) :
  Both (AU EG (.b8 now z ⟨l,[]⟩ p g)) (AU Dp (.b10 now [] l C p g)):=by
 obtain⟨J,m,D,F,G,N,I⟩:=ctlV h g hb hl now;refine⟨Yk m J p,fe ?_,fe ?_,I⟩
 ·simp only[EG,DN,D,(Vz _ _ C _ _).1,Option.bind_some,Bool.and_self,cond_true]
 ·by_cases q:g.BP=3
  ·have x1:=QI (n:=m.length) (k:=160) (by omega) (by decide);have A:(g.BP==3)=true:=by rw[q];rfl
   simp only[Dp,DN,A,F q,x1,(Vz _ z _ _ _).2,List.nil_append,List.length_nil,Nat.zero_add,Option.bind_some,Bool.and_self,cond_true,cond_false]
  ·obtain⟨rfl,rfl⟩:=G q;have x1:=QI (n:=g.Payload.length) (k:=1) (by omega) (by decide);have M:=QI (n:=1) (k:=160) (by decide) (by decide);have A:(g.BP==3)=false:=beq_false_of_ne q;simp only[Dp,DN,A,x1,M,List.nil_append,List.length_nil,Nat.zero_add,Option.bind_some,Bool.and_self,cond_true,cond_false];exact(Vz _ z _ _ _).2
theorem RI.ses {l:Ac} (h:RI l) (s:Bc):RI { l with Bq:=s }:=⟨h.pr,h.ev,h.ky,h.cm⟩
theorem st7 {l:Ac} (h:RI l) (z q : Ac) (p:BI) (g:Aq) (hb:Bytes g.Payload) (hl:g.Payload.length<=90000) (now:Int) (s F f:Bool) (hs:f=true->s=F) :
  Both (AU EG (.b7 now s f z ⟨l,[]⟩ p g)) (AU Dp (.b9 now F f [] l q p g)):=by
 cases f
 ·refine⟨Yk [] l p,fe ?_,fe ?_,fun i h=>nomatch h⟩
  ·simp only[EG,DN,(Vz _ _ q _ _).1,Bool.and_self,cond_true,cond_false]
  ·simp only[Dp,DN,(Vz _ z _ _ _).2,cond_false,cond_true]
 ·obtain rfl:=hs rfl;have n1:=(yP l.Bq false true).1;have G:=(yP l.Bq false true).2;cases s
  ·obtain⟨r,A,C,D⟩:=st8 h z q p g hb hl now;refine⟨r,fe ?_,fe ?_,D⟩
   ·simp only[EG,DN,A,Bool.and_self,cond_true,cond_false]
   ·simp only[Dp,DN,C,cond_true,cond_false]
  ·obtain⟨r,A,C,D⟩:=st8 (h.ses (Ve l.Bq false true)) z q p g hb hl now;refine⟨r,fe ?_,fe ?_,D⟩
   ·simp only[EG,DN,n1,A,Option.bind_some,Bool.and_self,cond_true,cond_false]
   ·simp only[Dp,DN,G,C,Option.bind_some,cond_true,cond_false]
theorem ZEH {s:A7} (h:BM s) (k:Int):BM (RF s k):=by
 unfold RF;cases (s.Bz==0)<;>cases (s.Own==2)<;>cases (k==2)<;>cases (k==0||k==1)
 all_goals
  simp only[cond_true,cond_false]
  first
   | exact h
   | (cases (s.Own==k)<;>exact h)
theorem ZG4 {l:Ac} (h:RI l) (p:Aq) (k:Int):RI (Zk l p k):=by
 unfold Zk QL;cases (p.BP != 3)<;>cases (k==5)
 all_goals first|exact⟨h.pr,h.ev,h.ky,h.cm⟩|exact⟨ZEH h.pr k,h.ev,h.ky,h.cm⟩
theorem mY {l:Ac} (h:RI l) (hq:Yr l.Ar.Az) (z O : Ac) (p:BI) (hb:Bytes p.Ap.Payload) (hl:p.Ap.Payload.length<=90000) (now:Int) (s s' blank:Bool) (A C:Aq)
  (h1:l.Ar.Open=true->blank=J8 C/\(blank=false->A=C/\C.Payload.length<=90000/\Bytes C.Payload/\(C.BP=3->mG C.Payload))) (h2:(p.SN==l.Ar.DX)=true->J8 p.Ap=false->s=s') :
  Both (AU EG (.b6 now s blank z ⟨l,[]⟩ p A)) (AU Dp (.b8 now s' l O p C)):=by
 have M:=ZFB l.Ar p hq (by omega);have N:=Zxy l.Ar p hq;have J:(LH l.Ar p).2.2.1=true->Bytes (LH l.Ar p).2.1.Payload/\(LH l.Ar p).2.1.Payload.length<=90000:=fun hf=>by rw[(Z5u hf).2.2];exact⟨hb,hl⟩
 have hs:(LH l.Ar p).2.2.1=true->s=s' :=fun hf=>h2 (Z5u hf).1 (Z5u hf).2.1;have ho:=fun hk=>h1 (tk_ak (p:=p) hk);generalize LH l.Ar p=x at M N J hs ho;rcases x with ⟨a,g,f,k⟩
 dsimp only at J hs ho;have hR:RI { l with Ar:=a }:=⟨h.pr,h.ev,h.ky,h.cm⟩;have s7:∀{L:Ac},RI L->Both (AU EG (.b7 now s f z ⟨L,[]⟩ p g)) (AU Dp (.b9 now s' f [] L O p g)):=fun {L} I=>by
  cases f
  ·refine⟨Yk [] L p,fe ?_,fe ?_,fun i h=>nomatch h⟩
   ·simp only[EG,DN,(Vz _ _ O _ _).1,Bool.and_self,cond_true,cond_false]
   ·simp only[Dp,DN,(Vz _ z _ _ _).2,cond_false,cond_true]
  ·exact st7 I z O p g (J rfl).1 (J rfl).2 now s s' true hs
 cases k
 ·obtain⟨r,D,F,G⟩:=s7 hR;refine⟨r,fe ?_,fe ?_,G⟩
  ·simp only[EG,DN,M,D,Option.bind_some,Bool.and_self,cond_true,cond_false]
  ·simp only[Dp,DN,N,F,Option.bind_some,cond_false,cond_true]
 ·obtain⟨o1,o2⟩:=ho rfl;have x0:=QI (n:=0) (k:=160) (by decide) (by decide);cases blank
  ·obtain⟨rfl,o3,o4,o5⟩:=o2 rfl;obtain⟨c,hc⟩:∃c:AO,A.BP=3->LV A.Payload=some (c,0)/\JD A.Payload=some (c,0):=by
    by_cases h3:A.BP=3
    ·obtain⟨c,hc⟩:=o5 h3;obtain⟨y,y1,y2,-⟩:=Zfz A.Payload o4 o3;rw[hc]at y2;cases y2;exact⟨c,fun _=>⟨y1,hc⟩⟩
    ·exact⟨EO,fun h=>absurd h h3⟩
   have hw:l.AA.Ah.length<=100:=by have:=h.pr.1;omega
   obtain⟨⟨q,w,Q⟩,S⟩:=ZGr { l with Ar:=a } A hw h.pr.2.1 c hc o1.symm;have I:=ZG4 (l:={ l with Ar:=a,Di:=true }) ⟨h.pr,h.ev,h.ky,h.cm⟩ A c.Kind;obtain⟨r,D,F,G⟩:=s7 I;refine⟨r,fe ?_,fe ?_,G⟩
   ·simp only[EG,DN,M,Q,D,Option.bind_some,Bool.and_self,cond_true,cond_false]
   ·simp only[Dp,DN,N,S,F,x0,List.length_nil,List.nil_append,Nat.zero_add,Option.bind_some,cond_true]
  ·obtain⟨⟨q,w,Q⟩,S⟩:=ZDJ { l with Ar:=a } A;have Y :=S C o1.symm;have I:RI { l with Ar:=a,Di:=true }:=⟨h.pr,h.ev,h.ky,h.cm⟩;obtain⟨r,D,F,G⟩:=s7 I;refine⟨r,fe ?_,fe ?_,G⟩
   ·simp only[EG,DN,M,Q,D,Option.bind_some,Bool.and_self,cond_true,cond_false]
   ·simp only[Dp,DN,N,Y,F,x0,List.length_nil,List.nil_append,Nat.zero_add,Option.bind_some,cond_true]
theorem Zb {l:Ac} (h:RI l) (O:Dl l.Ar) (z D : Ac) (p:BI) (hb:Bytes p.Ap.Payload) (hl:p.Ap.Payload.length<=90000) (now:Int) (s A : Bool)
  (I:(p.SN==l.Ar.DX)=true->J8 p.Ap=false->s=A) :
  Both (AU EG (.b4 now s z ⟨l,[]⟩ p)) (AU Dp (.b4 now A l D p)):=by
 have M:Yr l.Ar.Az:=⟨by have:=O.2.2.1;omega,fun x hx=>by have:=(O.2.2.2.1 x hx).2.2.2.1;omega⟩;have Y:decide (0<=(0:Int)/\(0:Int)<((l.Ar.Az.length:Nat):Int))=decide (0<l.Ar.Az.length):=decide_eq_decide.2 (by omega);have Q:∀w:Aq,l.Ar.Open=false->AU Dp (.b4 now A l D p)=AU Dp (.b8 now A l D p ⟨0,[]⟩):=fun w q=>fe (by
  simp only[Dp,DN,q,cond_false,cond_true];refine fe ?_;simp only[Dp,DN,q,cond_false,cond_true])
 have d7:l.Ar.Open=true->l.Ar.Empty=true->AU Dp (.b4 now A l D p)=AU Dp (.b8 now A l D p ⟨1,[]⟩):=fun q C=>fe (by
  simp only[Dp,DN,q,C,Bool.not_true,cond_true,cond_false];refine fe ?_;simp only[Dp,DN,q,C,cond_true];refine fe ?_;simp only[Dp,DN,cond_true])
 have d5:∀w:Aq,l.Ar.Open=true->l.Ar.Empty=false->l.Ar.Az[(Int.toNat 0)]? = some w->0<l.Ar.Az.length->AU Dp (.b4 now A l D p)=AU Dp (.b8 now A l D p w):=fun w q C F G=>fe (by
  simp only[Dp,DN,q,C,Bool.not_false,cond_true];refine fe ?_;simp only[Dp,DN,Y,decide_eq_true G,F,Option.bind_some,cond_true];refine fe ?_;simp only[Dp,DN,q,C,cond_true,cond_false])
 have q6:∀w:Aq,AU EG (.b5 now s true z ⟨l,[]⟩ p w)=AU EG (.b6 now s true z ⟨l,[]⟩ p w):=fun w=>fe (by
  simp only[EG,DN,Bool.not_true,Bool.and_self,cond_true,cond_false])
 have q5:∀w x:Aq,l.Ar.Az[(Int.toNat 0)]? = some w->0<l.Ar.Az.length->AU EG (.b5 now s false z ⟨l,[]⟩ p x)=AU EG (.b6 now s false z ⟨l,[]⟩ p w):=fun w x F G=>fe (by
  simp only[EG,DN,Bool.not_false,Y,decide_eq_true G,F,Option.bind_some,Bool.and_self,cond_true])
 cases C:l.Ar.Empty
 ·match J:l.Ar.Az with
  | []=>
   have q:l.Ar.Open=false:=by
    cases q:l.Ar.Open
    ·rfl
    ·have:=O.2.2.2.2 q C;rw[J]at this;exact absurd this (by decide)
   have N:AU EG (.b4 now s z ⟨l,[]⟩ p)=AU EG (.b6 now s true z ⟨l,[]⟩ p ⟨0,[]⟩):=fe (by
    simp only[EG,DN,C,Bool.and_self,cond_true,cond_false];rw[show (((l.Ar.Az.length:Nat):Int)==0)=true by rw[J];rfl];exact q6 _)
   rw[N,Q ⟨0,[]⟩ q];exact mY h M z D p hb hl now s A true _ _ (fun h=>by rw[q]at h;cases h) I
  | w::t=>
   have G:0<l.Ar.Az.length:=by rw[J];exact Nat.zero_lt_succ _
   have F:l.Ar.Az[(Int.toNat 0)]? = some w:=by rw[J];rfl
   have hw:=O.2.2.2.1 w (by rw[J];exact List.mem_cons_self);have N:AU EG (.b4 now s z ⟨l,[]⟩ p)=AU EG (.b6 now s false z ⟨l,[]⟩ p w):=fe (by
    simp only[EG,DN,C,Bool.and_self,cond_true,cond_false];rw[show (((l.Ar.Az.length:Nat):Int)==0)=false from beq_false_of_ne (by omega)];exact q5 _ _ F G)
   have S:J8 w=false:=by
    unfold J8;cases (w.BP==1)
    ·rfl
    ·exact beq_false_of_ne (by have:=hw.2.2.1;omega)
   rw[N];cases q:l.Ar.Open
   ·rw[Q w q];exact mY h M z D p hb hl now s A false w _ (fun h=>by rw[q]at h;cases h) I
   ·rw[d5 w q C F G];exact mY h M z D p hb hl now s A false w w (fun _=>⟨S.symm,fun _=>⟨rfl,by have:=hw.2.2.2.1;omega,hw.2.2.2.2.1,hw.2.2.2.2.2⟩⟩) I
 ·have N:AU EG (.b4 now s z ⟨l,[]⟩ p)=AU EG (.b6 now s true z ⟨l,[]⟩ p ⟨0,[]⟩):=fe (by
   simp only[EG,DN,C,Bool.and_self,cond_true,cond_false];exact q6 _)
  rw[N];cases q:l.Ar.Open
  ·rw[Q ⟨0,[]⟩ q];exact mY h M z D p hb hl now s A true _ _ (fun h=>by rw[q]at h;cases h) I
  ·rw[d7 q C];exact mY h M z D p hb hl now s A true _ ⟨1,[]⟩ (fun _=>⟨rfl,fun h=>nomatch h⟩) I
theorem st3 {k:Int} {l:Ac} (h:RI l) (C:Dl l.Ar) (hs:Hr l.Bq) (z q : Ac) (p:BI) (hp:Cb p.Ap) (hl:p.Ap.Payload.length<=50000) (now:Int) :
  Both (bif p.SN==l.Ar.DX then bif !J8 p.Ap then bif l.Bq.Eg then AU EG (.b3 now l.Bq.Eg z ⟨l,[]⟩ p) else AU EG (.b4 now l.Bq.Eg z ⟨l,[]⟩ p) else AU EG (.b4 now l.Bq.Eg z ⟨l,[]⟩ p) else AU EG (.b4 now l.Bq.Eg z ⟨l,[]⟩ p))
   (bif p.SN==l.Ar.DX then bif !J8 p.Ap then AU Dp (.b3 now l.Bq.Eg l q p) else AU Dp (.b3 now false l q p) else AU Dp (.b3 now false l q p)):=by
 have G:AU Dp (.b3 now false l q p)=AU Dp (.b4 now false l q p):=fe (by simp only[Dp,DN,cond_false,cond_true]);cases Y:(p.SN==l.Ar.DX)
 ·simp only[cond_false,G];exact Zb h C z q p hp.2 (by omega) now _ _ (fun A _=>by rw[Y]at A;cases A)
 ·cases hk:J8 p.Ap
  ·simp only[cond_true,Bool.not_false];cases hr:l.Bq.Eg
   ·simp only[cond_false,G];exact Zb h C z q p hp.2 (by omega) now _ _ (fun _ _=>rfl)
   ·simp only[cond_true];have I:=ZpG l.Bq p hs.1 hp.2 hl;have F:=Zw6 l.Bq p hs.1 hp.2 hl;obtain⟨x,M,J⟩:=Zdx l.Bq p hs hp;rw[F]at M;cases M;generalize mD l.Bq p=x at I F J;obtain⟨v1,v2⟩:=ZDB l;cases D:(x.2 != 0)
    ·obtain⟨r,N,O,Q⟩:=Zb h C z q x.1 J.2 (by have:=J.1;omega) now true true (fun _ _=>rfl);refine⟨r,fe ?_,fe ?_,Q⟩
     ·simp only[EG,DN,I,D,N,Option.bind_some,Bool.and_self,cond_true,cond_false]
     ·simp only[Dp,DN,F,D,O,Option.bind_some,cond_true,cond_false]
    ·refine⟨({ l with Bl:=61 },[ind4 l.Event 61],false),fe ?_,fe ?_,fun i S=>by rw[List.mem_singleton.1 S];exact Nat.zero_le _⟩
     ·simp only[EG,DN,I,D,v1,Option.bind_some,Bool.and_self,cond_true,cond_false]
     ·simp only[Dp,DN,F,D,v2,Option.bind_some,cond_true,cond_false]
  ·simp only[cond_true,cond_false,Bool.not_true,G];exact Zb h C z q p hp.2 (by omega) now _ _ (fun _ A =>by rw[hk]at A;cases A)
theorem chanV {l:Ac} (hp:KL l.DR) (A:R16 l.Event):∃c,qK l=some c/\bK l=some c:=by
 obtain⟨e,z⟩:∃e:Nat,l.Event=e:=⟨l.Event.toNat,by have:=A.1;omega⟩;have q:e<65536:=by have:=A.2;omega
 have hw:PWF l.DR:=⟨hp.1,hp.2.2⟩;refine⟨(lS l.DR e l.Last).1,(Aa _ _).trans ?_,(Aa _ _).trans ?_⟩
 ·simp only[Za3,DN,z,Zwr _ hw e q,Option.bind_some,cond_true]
 ·simp only[Z1A,DN,z,ZwJ _ hw e q,Option.bind_some,cond_true]
theorem ZDf (b:List Int):(Vl b).1.Ap.Payload.length<=b.length:=by
 unfold Vl;split
 ·rename_i h n r;unfold Zf;cases decide (32<=h.toNat)<;>cases (((h.toNat % 4:Nat):Int)==0)<;>cases ((((n.toNat:Nat):Int)==0)&&(((h.toNat % 4:Nat):Int) != 1))<;>cases decide ((r.length:Int)<(n.toNat:Nat))<;>cases decide ((r.length:Int)>(n.toNat:Nat))
  all_goals first|exact Nat.zero_le _|(simp only[cond_true,cond_false,List.length_cons];omega)
 ·exact Nat.zero_le _
theorem ZE5 (r:Int) (b:List Int):(Vq r b).1.length<=b.length:=by
 unfold Vq;cases decide (b.length<3)<;>cases decide (RN r (b.take (b.length - 3))=b)
 all_goals first|exact Nat.zero_le _|(simp only[cond_true,cond_false,List.length_take];omega)
theorem st2 {k:Int} {l:Ac} (h:BR k l) (h1:k<=1000000) (b:List Int) (hb:DZ b) (hl:b.length<=4096) (z z' : Ac) (now:Int) :
  Both (AU EG (.b2 b now z ⟨l,[]⟩)) (AU Dp (.b2 b now l z')):=by
 obtain⟨g1,g2,g3,O,g5,g6,g7,g8,g9,g10,g11⟩:=h;obtain⟨c,D,M⟩:=chanV O g8;have I:=ZpJ c b (by omega);have J:=ZtG c b (by omega);have A:(xw (JJ (JV c) b.length) b).length<=4096:=by rw[ZhG (XP _ _)];exact hl
 have q:=ZBq (JJ (JV c) b.length) b;generalize xw (JJ (JV c) b.length) b=y at I J A q;have k1:=ZuP l.DR.LJ O.2.1 y q (by omega);have k2:=Zv0 l.DR.LJ O.2.1 y q (by omega);obtain⟨x,k3,-,k4⟩:=ZcC l.DR.LJ y (by omega) q;rw[k2]at k3;cases k3;have k5:=ZE5 l.DR.LJ y;generalize Vq l.DR.LJ y=x at k1 k2 k4 k5;have r1:=fun g=>Zzw g l.CX c (by omega);have r2:=fun g=>Zzl g l.CX c (by omega);have ta:∀g,pF g ⟨l,[]⟩=some ⟨⟨{ l with CX:=RS g l.CX c },[]⟩,l.CX⟩:=fun g=>fe (by
  simp only[Z8H,DN,D,r1,Option.bind_some,Bool.and_self,cond_true])
 cases hx:(x.2 != 0)
 ·have N:=ZnI x.1 k4 (by omega);have F:=ZrU x.1 k4 (by omega);obtain⟨d,Y,e4⟩:=ZbT x.1 (by omega) k4;rw[F]at Y;cases Y;have e5:=ZDf x.1;generalize Vl x.1=d at N F e4 e5;cases G:(d.2 != 0)
  ·have C:aB b now ⟨l,[]⟩=some ⟨d.1,true,⟨{ l with CX:=RS true l.CX c,IB:=now,Hq:=true,Good:=true },[]⟩,l.CX⟩:=fe (by
    simp only[oV,DN,D,I,k1,hx,N,G,ta,Option.bind_some,Bool.and_self,cond_true,cond_false])
   have hR:RI { l with CX:=RS true l.CX c,IB:=now,Hq:=true,Good:=true }:=⟨g2,g8,g9,by show l.Ag.length<=_;omega⟩;obtain⟨r,s1,s2,s3⟩:=st3 (k:=k) hR g1 g3 z z' d.1 e4 (by omega) now;have Q:Wq d.1.Ap=some (J8 d.1.Ap):=Z4l _;have S:PK d.1.Ap=some (J8 d.1.Ap):=sZ _;refine⟨r,fe ?_,fe ?_,s3⟩
   ·simp only[EG,DN,C,Q,Option.bind_some,Bool.not_true,Bool.and_self,cond_true,cond_false];exact s1
   ·simp only[Dp,DN,M,J,k2,hx,F,G,r2,S,Option.bind_some,cond_true,cond_false];exact s2
  ·have C:aB b now ⟨l,[]⟩=some ⟨Df,false,⟨l,[]⟩,l.CX⟩:=fe (by
    simp only[oV,DN,D,I,k1,hx,N,G,Option.bind_some,Bool.and_self,cond_true,cond_false])
   refine⟨(l,[],false),fe ?_,fe ?_,fun i h=>nomatch h⟩
   ·simp only[EG,DN,C,Option.bind_some,Bool.not_false,Bool.and_self,cond_true]
   ·simp only[Dp,DN,M,J,k2,hx,F,G,Option.bind_some,cond_true,cond_false]
 ·have C:aB b now ⟨l,[]⟩=some ⟨Df,false,⟨{ l with CX:=RS false l.CX c },[]⟩,l.CX⟩:=fe (by
   simp only[oV,DN,D,I,k1,hx,ta,Option.bind_some,Bool.and_self,cond_true])
  refine⟨({ l with CX:=RS false l.CX c },[],false),fe ?_,fe ?_,fun i h=>nomatch h⟩
  ·simp only[EG,DN,C,Option.bind_some,Bool.not_false,Bool.and_self,cond_true]
  ·simp only[Dp,DN,M,J,k2,hx,r2,Option.bind_some,cond_true]
theorem ZyE {k:Int} {l:Ac} (h:BR k l) (D:0<=k) (h1:k<=100000) (b:List Int) (first:Bool) (now:Int) (hl:b.length<=4096) (hb:DZ b) :
  ∃r,bC l b first now=some r/\SC l b first now=some r/\BR (k+8) r.1/\(∀i∈r.2.1,i.Ap.Payload.length<=90000)/\r.2.1.length<=4:=by
 obtain⟨o,F,z⟩:=ZuC k l h D (by omega);have hx:∀w:SK,oK w=some (w.Link.Bl==0):=fun w=>fe rfl;have key:Both (bC l b first now) (SC l b first now):=by
  have A : oK (Zc7 ⟨l,[]⟩)=some (l.Bl==0):=hx _;cases hr:(l.Bl==0)
  ·refine⟨(l,[],false),fe ?_,fe ?_,fun i h=>nomatch h⟩
   ·simp only[EG,DN,F,A,hr,z,Option.bind_some,Bool.not_false,Bool.and_self,cond_true]
   ·have q : (l.Bl != 0)=true:=by rw[bne,hr];rfl
    simp only[Dp,DN,q,cond_true]
  ·have q : (l.Bl != 0)=false:=by rw[bne,hr];rfl
   have N:BR k { l with FO:=true }:=h;have C:BR k { l with FO:=true,Fp:=now,Size:=0,Sync:=now }:=h;have s1:=st2 N (by omega) b hb hl D8 D8 now;have s2:=st2 C (by omega) b hb hl D8 D8 now;have O:AU EG (.b1 b now D8 ⟨{ l with FO:=true },[]⟩)=AU EG (.b2 b now D8 ⟨{ l with FO:=true,Fp:=now,Size:=0,Sync:=now },[]⟩):=fe (by simp only[EG,DN,Bool.and_self,cond_true]);have Q:AU Dp (.b1 b now { l with FO:=true } D8)=AU Dp (.b2 b now { l with FO:=true,Fp:=now,Size:=0,Sync:=now } D8):=fe (by simp only[Dp,DN,cond_true]);have J:bC l b first now=bif first then bif l.BK==1 then AU EG (.b2 b now D8 ⟨{ l with FO:=true,Fp:=now,Size:=0,Sync:=now },[]⟩) else AU EG (.b2 b now D8 ⟨{ l with FO:=true },[]⟩) else AU EG (.b2 b now D8 ⟨{ l with FO:=true },[]⟩):=fe (by
    simp only[EG,DN,F,A,hr,z,O,Option.bind_some,Bool.not_true,Bool.and_self,cond_true,cond_false])
   have M:SC l b first now=bif first then bif l.BK==1 then AU Dp (.b2 b now { l with FO:=true,Fp:=now,Size:=0,Sync:=now } D8) else AU Dp (.b2 b now { l with FO:=true } D8) else AU Dp (.b2 b now { l with FO:=true } D8):=fe (by
    simp only[Dp,DN,q,Q,cond_true,cond_false])
   rw[J,M];cases first
   ·exact s1
   ·cases (l.BK==1)
    ·exact s1
    ·exact s2
 obtain⟨r,S,G,Y⟩:=key;obtain⟨r',I,t2,t3⟩:=ZaT k l b first now h D (by omega) (by omega) hb
 rw[G]at I;cases I;exact⟨r,S,G,t2,Y,t3⟩
theorem ZxG (xs:List Am) (hl:xs.length<=4) (h:∀x∈xs,x.Ap.Payload.length<=90000):ZV xs xs=some true:=(Aa _ _).trans (by
 have step:∀j i:Nat,i+j=xs.length->AU WN (.b1 xs xs i)=some true:=by
  intro j;induction j with
  | zero=>
   intro i q;refine(Aa _ _).trans ?_;simp only[WN,DN,cond_true];rw[show decide ((i:Int)<(xs.length:Int))=false by simp;omega];rfl
  | succ j z=>
   intro i q;have hx:i<xs.length:=by omega
   refine(Aa _ _).trans ?_;simp only[WN,DN,cond_true];rw[show decide ((i:Int)<(xs.length:Int))=true by simp;omega,show decide (0<=(i:Int)/\(i:Int)<(xs.length:Int))=true by simp;omega];simp only[cond_true,Int.toNat_natCast,List.getElem?_eq_getElem hx,Option.bind_some,ZcH _ (IX xs[i].Ap.Payload (by have:=h _ (List.getElem_mem hx);omega)),beq_self_eq_true,bne_self_eq_false,Bool.and_true,Bool.and_self,Bool.not_true,cond_false];refine(Aa _ _).trans ?_;simp only[WN,DN,cond_true];rw[Ce (by omega) (by omega)];exact z (i+1) (by omega)
 simp only[WN,DN,bne_self_eq_false,cond_false,cond_true];exact step xs.length 0 (by omega))
set_option linter.defProp false
set_option maxHeartbeats 40000000
theorem Zw5:∀(k:Int) (p0:Ac),BR k p0->0<=k->k<=1000000->∃r,Z32 p0=some r/\r=p0:=by
 refine fun k p0 z A C=>Cc (BR k p0) ?_ fun hp=>?b0
 case' b0=>
  try dsimp only at hp
  have hx:=hp
  try dsimp only[BR,Dl,BM,EE,Cb,F6,Fj,FB]at hx
  simp only[Z3j];have q:=hp
  repeat' first|(refine FP ?_;rfl)|(refine EU ?_ ?_)|(refine BA (Zni _ (by omega) (by grind)) (fun(v:List Aq) hm hv=>?_);subst hv)
 all_goals
  try dsimp only at hp
  try exact False.elim hp
  try have hx:=hp
  try dsimp only[BR,Dl,BM,EE,Cb,F6,Fj,FB]at hx
  try (repeat with_reducible (have D:=And.left hp;replace hp:=And.right hp))
  try simp only[Z3j]
  try dsimp only
  repeat' first|(refine FP ?_;dsimp only;try simp(disch:=omega) only[Ce,CZ,List.nil_append,List.drop_zero])|(refine GH (fun h=>?_) (fun h=>?_)<;>(try simp only[Ht,reduceCtorEq]at h;try simp(disch:=omega) only[Ce]at h))|refine EU ?_ ?_|refine Ii ?_|with_reducible apply And.intro|rfl|assumption|exact True.intro|omega|exact decide_eq_true (IP _).1|exact IM (by assumption) (by omega)|exact Ih (by assumption) (by omega)|(refine Gu.2 ?_;first|omega|grind)|(apply IX;first|omega|(simp only[CZ];omega))|(simp only[Ei,CZ,D6,maxLen_eq,kL,kA]<;>omega)|(simp(disch:=omega) only[Ce,decide_eq_true_eq,bne_iff_ne,ne_eq];(repeat' split)<;>omega)|(simp[EJ,Fq];done)|grind|(simp only[Ei,CZ,D6,maxLen_eq,kL,kA]<;>grind)|grind [Ee]
theorem Zkq:∀(A:Jc) (C:List Int) (I:Bool) (J:Int),FB A->DZ C->∃r,Z7s A C I J=some r/\r=true:=by
 refine fun A C I J h0 G=>CW (fun(p:Yt)=>match p with | .b0 q z _ _=>FB q/\DZ z | .b1 q _ _ _ D=>BR 20000 D/\q.length<=4096/\DZ q) (fun(p:Yt)=>match p with | .b0 ..=>(0,0,1) | .b1 ..=>(0,0,0)) ?_ _ ?_
 all_goals try (intro p hp;cases p)
 case' b1 q z a2 a3 D=>
  dsimp only at hp;have hx:=hp
  try dsimp only[BR,Dl,BM,EE,Cb,F6,Fj,FB]at hx
  simp only[ZZ];obtain⟨F,M,N⟩:=hp;clear hx;refine BA (Zw5 20000 _ F (by omega) (by omega)) (fun(w:Ac) hm hw=>?_);subst hw;refine EU rfl ?_;refine EU (by simp[kA,D6,maxLen_eq]<;>omega) ?_;refine EU (by simp[kL]) ?_;obtain⟨r,G,O,Q,S,Y⟩:=ZyE F (by omega) (by omega) q z (AQ (a3+a2)) M N;refine Xq G (Xq O ?_);refine GH (fun _=>?_) (fun h=>absurd h (by simp));refine Xq (ZxG r.2.1 Y S) ?_;refine GH (fun _=>?_) (fun h=>absurd h (by simp));exact Xq (ZAe r.1 (Q.lwf (by omega))) (FP rfl)
 all_goals
  try dsimp only at hp
  try exact False.elim hp
  try have hx:=hp
  try dsimp only[BR,Dl,BM,EE,Cb,F6,Fj,FB]at hx
  try (repeat with_reducible (have hq:=And.left hp;replace hp:=And.right hp))
  try simp only[ZZ]
  try dsimp only
  repeat' first|(refine FP ?_;dsimp only;try simp(disch:=omega) only[Ce,CZ,List.nil_append,List.drop_zero])|(refine GH (fun h=>?_) (fun h=>?_)<;>(try simp only[Ht,reduceCtorEq]at h;try simp(disch:=omega) only[Ce]at h))|refine EU ?_ ?_|refine Ii ?_|(refine Xq (a:=true) rfl ?_)|refine BA (ZnS _ ?_) fun(v:(Ac×Int×Bool)) hm hv=>?_|with_reducible apply And.intro|rfl|assumption|exact True.intro|omega|exact decide_eq_true (IP _).1|exact IM (by assumption) (by omega)|exact Ih (by assumption) (by omega)|(refine Gu.2 ?_;first|omega|grind)|(apply IX;first|omega|(simp only[CZ];omega))|(simp only[Ei,CZ,D6,maxLen_eq,kL,kA]<;>omega)|(simp(disch:=omega) only[Ce,decide_eq_true_eq,bne_iff_ne,ne_eq];(repeat' split)<;>omega)|(simp[EJ,Fq];done)|grind|(simp only[Ei,CZ,D6,maxLen_eq,kL,kA]<;>grind)|grind [Ee]
end Go.Proofs.YtjodhcdmhobmoaaGreatDoor
