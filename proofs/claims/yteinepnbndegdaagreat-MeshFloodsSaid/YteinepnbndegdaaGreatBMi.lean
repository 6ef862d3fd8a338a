/- A part of it. -/
import Derived.Test.YteinepnbndegdaaGreatQ1
import Derived.Test.YteinepnbndegdaaGreatF3
set_option linter.unusedVariables false
set_option linter.unusedSimpArgs false
namespace Go.Proofs.YteinepnbndegdaaGreat
open Go Go.Proofs.YteinepnbndegdaaGreat.Le
set_option maxRecDepth 100000
theorem Zqv {p:Pr} (hp:FU p) (C:Int->Bool) (nb:Int->List Int) (hr:∀i:Nat,i<p.n->C i=p.r i) (hnb:∀i:Nat,i<p.n->nb i=Ey p.L i) :
  ∀(f k:Nat) (D:List Int),f+k=p.n+1->k<=D.length->D.Nodup->(∀x∈D,∃i:Nat,i<p.n/\x=i/\NQ p i)->(p.s:Int)∈D ->
  (∀(i:Nat) (x:Int),i<k->D[i]? = some x->(x=p.s\/C x=true)->∀y∈nb x,y∈D)->∀j:Nat,(j:Int)∈IJ C nb p.s f k D↔NQ p j:=by
 have hlen:∀D:List Int,D.Nodup->(∀x∈D,∃i:Nat,i<p.n/\x=i/\NQ p i)->D.length<=p.n:=fun D hD M=>by
  have hm:(D.map Int.toNat).Nodup:=by
   rw[List.Nodup,List.pairwise_map];refine List.Pairwise.imp_of_mem ?_ hD;intro a b ha hb hab;obtain⟨i,_,rfl,_⟩:=M a ha;obtain⟨j,_,rfl,_⟩:=M b hb;intro e;simp only[Int.toNat_natCast]at e;exact hab (by rw[e])
  have:=XU p.n _ hm (fun y hy=>by
   obtain⟨x,hx',rfl⟩:=List.mem_map.1 hy;obtain⟨i,hi,rfl,_⟩:=M x hx';simpa using hi)
  simpa using this
 intro f;induction f with
 | zero=>
  intro k D hk hkD hD M hs hc j;have:=hlen D hD M;omega
 | succ f ih=>
  intro k D hk hkD hD M hs hc j;unfold IJ;split
  ·rename_i hnone;have hkl:D.length<=k:=by simpa using hnone
   refine⟨fun hj=>?_,fun hj=>?_⟩
   ·obtain⟨i,_,e,q⟩:=M _ hj;obtain rfl:j=i:=by exact_mod_cast e
    exact q
   ·induction hj with
    | base=>exact hs
    | step i j _ hi I hj hij=>
     obtain⟨G,Q,e⟩:=List.getElem_of_mem hij;refine hc G i (by omega) (by rw[List.getElem?_eq_getElem Q,e]) ?_ j (by rw[hnb i hi];exact hj);rcases I with e|e
     ·exact .inl (by rw[e])
     ·exact .inr (by rw[hr i hi];exact e)
  ·rename_i x J;obtain⟨Q,hget⟩:=List.getElem?_eq_some_iff.1 J;have hxm:x∈D:=hget▸List.getElem_mem Q;obtain⟨i,hi,rfl,hri⟩:=M x hxm;have pre:D <+: Jn C nb p.s D i:=by
    unfold Jn;split
    ·exact List.prefix_refl _
    ·exact Z0d _ _
   have Y:∀y∈D,y∈Jn C nb p.s D i:=fun y hy=>pre.subset hy;have hget' : ∀(G:Nat) (y:Int),G<k+1->(Jn C nb p.s D i)[G]? = some y->D[G]? = some y:=fun G y S e=>by
    obtain⟨t,ht⟩:=pre;rw[<- ht,List.getElem?_append_left (by omega)]at e;exact e
   refine ih (k+1) _ (by omega) (Nat.le_trans Q pre.length_le) ?_ ?_ (Y _ hs) ?_ j
   ·unfold Jn;split
    ·exact hD
    ·exact iC _ _ hD
   ·intro y hy;unfold Jn at hy;split at hy
    ·exact M y hy
    ·rename_i R;rcases (Xu _ _ _).1 hy with hy|hy
     ·exact M y hy
     ·rw[hnb i hi]at hy;obtain⟨j',hj',rfl⟩:=Z0O hp hy;refine⟨j',hj',rfl,.step i j' hri hi ?_ hy⟩
      by_cases e:i=p.s
      ·exact .inl e
      ·refine .inr ?_;rw[<- hr i hi];cases e' : C i with
       | true=>rfl
       | false=>exact absurd ⟨fun h=>e (by exact_mod_cast h),e'⟩ R
   ·intro G y S e I z hz;have e' :=hget' G y S e
    by_cases hik:G=k
    ·subst hik;rw[J]at e';cases e';unfold Jn;split
     ·rename_i R;exact absurd I (fun q=>q.elim (fun q=>R.1 q) (fun q=>by rw[R.2]at q;cases q))
     ·exact(Xu _ _ _).2 (.inr hz)
    ·exact Y _ (hc G y (by omega) e' I z hz)
theorem Zll (s i:Nat) (b R:List Int) (hb:b.length<=1000) (m:Aq) (C:Ae) (I:m.Ak[s]? = some C) (hn:m.Notes.length<=1000000)
  (D:∀x∈m.Notes,x.Event.Kind=1/\x.Event.Ik.Bytes=b/\x.Event.Ik.Src=C.Address):∀d k:Nat,k+d=m.Notes.length->∀c:Nat,c<=k ->
  AY Ea (.b4 s b R i c k m)=AY Ea (.b7 s b R i ((c+((m.Notes.drop k).filter fun x=>x.Node==(i:Int)).length:Nat):Int) 0 0 m):=by
 have G:=(List.getElem?_eq_some_iff.1 I).1;intro d;induction d with
 | zero=>
  intro k M c _;obtain rfl:k=m.Notes.length:=by omega
  refine(AQ _ _).trans ?_;rw[List.drop_length,List.filter_nil,List.length_nil,Nat.add_zero];simp only[Ea,IG,DN,cond_false]
 | succ d J=>
  intro k M c hc;have z:k<m.Notes.length:=by omega
  obtain⟨S,Y,v3⟩:=D m.Notes[k] (List.getElem_mem z);rw[List.drop_eq_getElem_cons z];have b6:∀c' : Nat,AY Ea (.b6 s b R i c' k m)=AY Ea (.b4 s b R i c' ((k+1:Nat):Int) m):=fun c' =>(AQ _ _).trans (by
   simp only[Ea,Gi k (by omega),DN])
  have b5:AY Ea (.b5 s b R i c k m m.Notes[k])=AY Ea (.b4 s b R i ((c+1:Nat):Int) ((k+1:Nat):Int) m):=(AQ _ _).trans (by
   have Q:=okB b (by omega);simp only[Ea,Y,Q,beq_self_eq_true,Bool.not_true,KX s _ G,Int.toNat_natCast,I,v3,GH,Gi c (by omega),DN,Option.bind_some,cond_true,cond_false];exact b6 (c+1))
  refine(AQ _ _).trans ?_;simp only[Ea,Gt k _ z,KX k _ z,List.getElem?_eq_getElem z,Int.toNat_natCast,S,beq_self_eq_true,b5,b6,DN,Option.bind_some,cond_true];cases e:(m.Notes[k].Node==(i:Int)) with
  | true=>
   rw[cond_true,J (k+1) (by omega) (c+1) (by omega),List.filter_cons,e];simp only[if_true,List.length_cons];rw[show c+1+((m.Notes.drop (k+1)).filter fun x=>x.Node==(i:Int)).length=c+(((m.Notes.drop (k+1)).filter fun x=>x.Node==(i:Int)).length+1) by omega]
  | false=>
   rw[cond_false,J (k+1) (by omega) c (by omega),List.filter_cons,e];simp only[Bool.false_eq_true,if_false]
theorem Zml (s i:Nat) (b R:List Int) (M:R.length<=1000) (m:Aq) (c:Nat) (hi:i<1000):∀d k:Nat,k+d=R.length->∀w:Nat,(∃w' : Nat,w' = (if (i:Int)∈R.drop k then 1 else w) /\
  AY Ea (.b7 s b R i c w k m)=bif (c:Int) != (w' : Int) then some false else AY Ea (.b3 s b R ((i+1:Nat):Int) m)):=by
 intro d;induction d with
 | zero=>
  intro k J w;obtain rfl:k=R.length:=by omega
  refine⟨w,by simp,(AQ _ _).trans ?_⟩;simp only[Ea,IG,Gi i (by omega),DN,cond_false]
 | succ d I=>
  intro k J w;have z:k<R.length:=by omega
  have b8:∀w' : Nat,AY Ea (.b8 s b R i c w' k m)=AY Ea (.b7 s b R i c w' ((k+1:Nat):Int) m):=fun w' =>(AQ _ _).trans (by
   simp only[Ea,Gi k (by omega),DN])
  by_cases e:R[k]=(i:Int)
  ·obtain⟨w',D,G⟩:=I (k+1) (by omega) 1;refine⟨w',?_,(AQ _ _).trans ?_⟩
   ·rw[D,List.drop_eq_getElem_cons z,e];simp
   ·have C :=b8 1;simp only[Ea,Gt k _ z,KX k _ z,List.getElem?_eq_getElem z,Int.toNat_natCast,e,beq_self_eq_true,DN,Option.bind_some,cond_true];exact C.trans G
  ·obtain⟨w',D,G⟩:=I (k+1) (by omega) w;refine⟨w',?_,(AQ _ _).trans ?_⟩
   ·have hm:((i:Int)∈R.drop k)↔(i:Int)∈R.drop (k+1):=by
     rw[List.drop_eq_getElem_cons z,List.mem_cons];exact⟨fun q=>q.resolve_left fun h=>e h.symm,.inr⟩
    rw[D];simp only[hm]
   ·simp only[Ea,Gt k _ z,KX k _ z,List.getElem?_eq_getElem z,Int.toNat_natCast,beq_eq_false_iff_ne.2 e,b8,DN,Option.bind_some,cond_true,cond_false];exact G
theorem Zo5 (s:Nat) (b R:List Int) (hb:b.length<=1000) (M:R.length<=1000) (m:Aq) (S:m.Ak.length<=100) (z:Ae) (Y:m.Ak[s]? = some z) (Q:m.Notes.length<=1000000)
  (D:∀x∈m.Notes,x.Event.Kind=1/\x.Event.Ik.Bytes=b/\x.Event.Ik.Src=z.Address)
  (hc:∀i:Nat,i<m.Ak.length->(m.Notes.filter fun x=>x.Node==(i:Int)).length=if (i:Int)∈R then 1 else 0):∀d i:Nat,i+d=m.Ak.length->AY Ea (.b3 s b R i m)=some true:=by
 intro d;induction d with
 | zero=>
  intro i hi;obtain rfl:i=m.Ak.length:=by omega
  exact(AQ _ _).trans (by simp only[Ea,IG,DN,cond_false])
 | succ d ih=>
  intro i hi;have C:i<m.Ak.length:=by omega
  have I:=Zll s i b R hb m z Y Q D m.Notes.length 0 (by omega) 0 (Nat.le_refl _);obtain⟨w',G,J⟩:=Zml s i b R M m (0+(m.Notes.filter fun x=>x.Node==(i:Int)).length) (by omega) R.length 0 (by omega) 0;refine(AQ _ _).trans ?_;simp only[Ea,Gt i _ C,DN,cond_true];refine I.trans ?_;rw[List.drop_zero];refine J.trans ?_;rw[List.drop_zero]at G;rw[G,Nat.zero_add,hc i C,GH,cond_false];exact ih (i+1) (by omega)
theorem outL_mem' (D:List Int) (fr:Int) (n i:Nat) (hi:i<n):(i:Int)∈HY D fr n↔(i:Int)∈D/\(i:Int)≠fr:=by
 unfold HY;rw[List.mem_filter,List.mem_map];constructor
 ·rintro ⟨_,h⟩;exact of_decide_eq_true h
 ·exact fun h=>⟨⟨i,List.mem_range.2 hi,rfl⟩,decide_eq_true h⟩
theorem Zh8 (p:F7) (fr:Int) (b:List Int) (hb:Bytes b) (hv:xH=some true) (hl:p.BA.length*16<=lim) (hl2:p.BA.length<=maxLen):Z3O p fr b=some true:=(AQ _ _).trans (by
 by_cases c1:(p.Dq.length:Int)>8
 ·simp only[Ea,hv,Option.bind_some,Bool.not_true,decide_eq_true c1,DN,cond_true,cond_false]
 by_cases c2:fr<0
 ·simp only[Ea,hv,Option.bind_some,Bool.not_true,decide_eq_false c1,decide_eq_true c2,DN,cond_true,cond_false]
 by_cases c3:fr>=(p.Dq.length:Int)
 ·simp only[Ea,hv,Option.bind_some,Bool.not_true,decide_eq_false c1,decide_eq_false c2,decide_eq_true c3,DN,cond_true,cond_false]
 by_cases c4:b=[]
 ·simp only[Ea,hv,Option.bind_some,Bool.not_true,decide_eq_false c1,decide_eq_false c2,decide_eq_false c3,len0,decide_eq_true c4,DN,cond_true,cond_false]
 by_cases c5:(b.length:Int)>11
 ·simp only[Ea,hv,Option.bind_some,Bool.not_true,decide_eq_false c1,decide_eq_false c2,decide_eq_false c3,len0,decide_eq_false c4,decide_eq_true c5,DN,cond_true,cond_false]
 obtain⟨s,rfl⟩:=Int.eq_ofNat_of_zero_le (show 0<=fr by omega);have b1:AY Ea (.b1 s b p)=some true:=by
  refine(AQ _ _).trans ?_;obtain⟨m,x,e,M,he⟩:=Zpu { p with BG:=[] } (show p.Dq.length<=16 by omega) hl hl2 rfl
  by_cases he0:e=0
  ·obtain⟨_,hm,hV⟩:=he.resolve_left (fun h=>h he0);have G:FU (Ye p s b):=⟨show p.Dq.length<=8 by omega,show s<p.Dq.length by omega,fun _=>(by decide:(0:Int)<=1000),c4,show b.length<=11 by omega,hb,by
    have:=hV.link;rw[ZQ]at this;exact this⟩
   obtain⟨h,C,hrun,⟨d,A8,q,ttl2,S⟩,hh⟩:=run_end G rfl rfl hl hl2 (fun x hx=>by
    obtain⟨a,r,f,rfl⟩:=Z0k (p:=p) hx;exact Zba a r f)
   have hrun' : gG m [FH s b] 51=some (C,0):=by rw[hm];exact hrun
   obtain⟨fl,nt,cnt,J,_,hnt⟩:=S.ex;have hp' :=ZaX G;have z:C.Ak.length=p.Dq.length:=by rw[J];exact VL _ _ _
   have I:C.BA=p.BA:=by rw[J];rfl
   have hL:LM p.Dq.length C.BA:=by rw[I];exact G.L
   have Q:∀i:Nat,i<p.Dq.length->C.Ak[i]? = some (nd (H5 (Ye p s b)) h (oq (H5 (Ye p s b)) q d A8) i):=fun i hi=>by
    rw[J];exact jY _ _ _ i hi
   have Y:∀i:Int,Wh C i=some (Ey p.BA i):=fun i=>by rw[<- I];exact ZjK C i p.Dq.length (by omega) hL
   have hnb:∀i:Int,Lr C i=Ey p.BA i:=fun i=>by unfold Lr;rw[Y];rfl
   have hrl:∀i:Nat,i<p.Dq.length->Mc C i=(H5 (Ye p s b)).r i:=fun i hi=>by
    unfold Mc;rw[Int.toNat_natCast,Q i hi];rfl
   have hC:ZaZ C s:=by
    refine⟨by omega,by omega,by omega,fun i hi=>⟨_,Y i,fun x hx=>?_⟩,fun i=>?_⟩
    ·rw[z];exact nG G.L _ _ hx
    ·rw[hnb];exact Nat.le_trans (YC G.L i) (by have:=G.n8;omega)
   generalize hD:IJ (Mc C) (Lr C) s (C.Ak.length+1) 0 [(s:Int)]=D;have hset:∀j:Nat,(j:Int)∈D↔NQ (H5 (Ye p s b)) j:=by
    rw[<- hD,z];exact Zqv hp' (Mc C) (Lr C) hrl (fun i _=>hnb i) (p.Dq.length+1) 0 [(s:Int)] rfl (Nat.zero_le _) (by simp) (fun x hx=>⟨s,G.sn,List.mem_singleton.1 hx,.base⟩) (List.mem_singleton.2 rfl) (fun i x hi=>absurd hi (Nat.not_lt_zero i))
   have hR:U6 C s=some (HY D s p.Dq.length):=by
    unfold U6;rw[if_pos hC,hD,z]
   have b3:AY Ea (.b3 s b (HY D s p.Dq.length) 0 C)=some true:=by
    refine Zo5 s b _ (by omega) ?_ C (by omega) _ (Q s (by omega)) ?_ ?_ ?_ C.Ak.length 0 (by omega)
    ·have:(HY D s p.Dq.length).length<=p.Dq.length:=by
      unfold HY;refine Nat.le_trans (List.length_filter_le _ _) ?_;simp
     omega
    ·have:=hnt.len;rw[J];show nt.length<=1000000;omega
    ·intro x hx;rw[J]at hx;obtain⟨t,ht⟩:=hnt.ev x hx;rw[ht];exact⟨rfl,rfl,rfl⟩
    ·intro i hi;rw[z]at hi;have:=hnt.cnt i;rw[J];show (nt.filter fun x=>x.Node==(i:Int)).length=_;rw[this];have R:h i=true↔(i:Int)∈HY D s p.Dq.length:=by
      rw[hh i,outL_mem' _ _ _ _ hi,hset i];constructor
      ·rintro ⟨_,q2,q3⟩;exact⟨q3,fun e=>q2 (by exact_mod_cast e)⟩
      ·rintro ⟨q3,q2⟩;exact⟨hi,fun e=>q2 (by exact_mod_cast e),q3⟩
     cases e:h i with
     | true=>rw[if_pos (R.1 e)];rfl
     | false=>rw[if_neg (fun q=>by rw[R.2 q]at e;cases e)];rfl
   have b2:AY Ea (.b2 s b C)=some true:=(AQ _ _).trans (by
    simp only[Ea,hR,DN,Option.bind_some];exact b3)
   have a1:=Zat b.length 1 (by omega) (by decide);have ho:(⟨3,s,1,65535,127,true,([]:List Int)++b,0,0,0⟩:DV)=FH s b:=rfl;simp only[Ea,M,he0,GH,ho,hrun',z,b2,Nat.zero_add,a1,DN,Option.bind_some,cond_true,cond_false]
  ·have hne:(e != 0)=true:=bne_iff_ne.2 he0;simp only[Ea,M,hne,DN,Option.bind_some,cond_true]
 simp only[Ea,hv,Option.bind_some,Bool.not_true,decide_eq_false c1,decide_eq_false c2,decide_eq_false c3,len0,decide_eq_false c4,decide_eq_false c5,b1,DN,cond_true,cond_false])
end Go.Proofs.YteinepnbndegdaaGreat
