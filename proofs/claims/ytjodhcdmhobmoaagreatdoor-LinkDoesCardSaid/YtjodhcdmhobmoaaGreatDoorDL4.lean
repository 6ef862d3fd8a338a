/- A part of it. -/
import Derived.Test.YtjodhcdmhobmoaaGreatDoorDL3
set_option linter.unusedVariables false
set_option linter.unusedSimpArgs false
namespace Go.Proofs.YtjodhcdmhobmoaaGreatDoor.Le
open Go.RowKit (Below)
def Sg.ren (σ:Sg) (ids:List Nat):Sg:=⟨fun j=>(ids[j]?).bind σ.box,σ.fz⟩
theorem sD {ids:List Nat} {id:Nat} (h:id∈ids):ids[ids.idxOf id]? = some id:=by
 have q:=List.idxOf_lt_length_of_mem h;rw[List.getElem?_eq_getElem q,List.getElem_idxOf]
theorem Z3m {σ:Sg} {ids:List Nat} {id:Nat} (h:id∈ids):(σ.ren ids).box (ids.idxOf id)=σ.box id:=by
 simp[Sg.ren,sD h]
theorem Z7S {w w' : World} {B e sz n:Nat} {v:Value} {us:List Value} (h:F7 w B e sz v n us) (hb:∀g,v.ownBlock=some g->w'.heap[g]? = w.heap[g]?):F7 w' B e sz v n us:=by
 refine⟨h.1,?_⟩;rcases h.2 with D|⟨g,cap,z,F,rfl,A,C,q⟩
 ·exact .inl D
 ·exact .inr ⟨g,cap,z,F,rfl,A,by rw[hb g (by simp[Value.ownBlock])];exact C,q⟩
theorem Nv (q:Nat->Nat) (b:Box):(Fv q b).live=b.live/\(Fv q b).row=b.row/\(Fv q b).EZ=b.EZ/\(Fv q b).elem=b.elem/\(Fv q b).Ar=b.Ar/\(Fv q b).floor=b.floor/\(Fv q b).xs.length=b.xs.length:=by
 unfold Fv;split
 ·exact⟨rfl,rfl,rfl,rfl,rfl,rfl,rfl⟩
 ·exact⟨rfl,rfl,rfl,rfl,rfl,rfl,Z0Q _ _⟩
theorem Jg.ren {σ σ' : Sg} {w w' : World} {B:Nat} {b:Box} {L:Loc} (D:Nat->Nat) (h:Jg σ w B b L) (A:∀b c,σ.fz b c->σ'.fz b c/\w'.cell? ⟨b,c,none⟩=w.cell? ⟨b,c,none⟩) (C:EP w w')
  (O:b.row=false->∀id∈Dc b.xs,σ'.box (D id)=σ.box id) (hb:∀g,L.v.ownBlock=some g->w'.heap[g]? = w.heap[g]?):Jg σ' w' B (Fv D b) L:=by
 obtain⟨e1,I,J,M,N,e6,F⟩:=Nv D b;obtain⟨us,G,Y,r3,r4⟩:=h.Dh;have Q:AQ σ' w' (Fv D b).xs us:=by
  unfold Fv;split
  ·rename_i q;exact G.bare A C ((J6 _).2 (h.Hl q))
  ·rename_i q;exact Z1V G A C (O (by simpa using q))
 refine⟨by rw[F];exact h.tot,⟨us,Q,Y,r3,by rw[M,F];exact Z7S r4 hb⟩,by rw[J];exact h.EZ,by rw[N];exact h.Ar,?_,?_⟩
 ·intro x z;unfold Fv at z;split at z
  ·exact h.oks x z
  ·simp only[Z2p,List.mem_map]at z;obtain⟨y,S,rfl⟩:=z;rw[Zdq];exact h.oks y S
 ·intro q x z;rw[I]at q;unfold Fv at z;rw[if_pos q]at z;exact h.Hl q x z
section
variable {B:Nat} {w0:Start} {σ:Sg} {H:Heap} {w:World} {ids:List Nat}
theorem Zd8 (H:Heap) (ids:List Nat) (j:Nat):(Ii H ids)[j]? = (ids[j]?).map fun id=>Fv (ids.idxOf ·) ((H[id]?).getD Q9):=by
 simp[Ii]
theorem Z2B {l:List Nat} (h:l.Nodup) {i j x:Nat} (A:l[i]? = some x) (C:l[j]? = some x):i=j:=by
 obtain⟨D,q⟩:=List.getElem?_eq_some_iff.1 A;obtain⟨F,z⟩:=List.getElem?_eq_some_iff.1 C;exact(List.getElem_inj h).1 (q.trans z.symm)
theorem dO {xs:List V} {vs:List Value} (A:AQ σ w xs vs) (hm:∀id∈Dc xs,id∈ids):AQ (σ.ren ids) w (Gg (ids.idxOf ·) xs) vs:=
 Z1V A (fun b c z=>⟨z,rfl⟩) (EP.refl _) fun id q=>Z3m (hm id q)
theorem Z40 (h:Inv B w0 σ H w) (hs:uV ids H) (M:Start) (C:Below B M.w w) (N:∀b c,σ.fz b c->b<B->M.fz b c)
  (hk:∀b,M.keep b->b<w.heap.size/\w.heap[b]? = M.w.heap[b]? /\ (∀id∈ids,∀L,σ.box id=some L->L.v.ownBlock≠some b)/\∀c,σ.fz b c->M.fz b c):Inv B M (σ.ren ids) (Ii H ids) w:=by
 have q:∀{j:Nat} {L:Loc},(σ.ren ids).box j=some L->∃id,ids[j]? = some id/\σ.box id=some L:=by
  intro j L A;simp only[Sg.ren]at A;cases J:ids[j]? with
  | none=>simp[J]at A
  | some id=>simp only[J,Option.bind_some]at A;exact⟨id,rfl,A⟩
 have z:∀{j:Nat} {G : Box},(Ii H ids)[j]? = some G -> ∃id b,ids[j]? = some id/\H[id]? = some b/\b.live=true/\(b.row=false->∀r∈Dc b.xs,r∈ids)/\G = Fv (ids.idxOf ·) b:=by
  intro j G hb;rw[Zd8]at hb;cases J:ids[j]? with
  | none=>simp[J]at hb
  | some id=>
   obtain⟨b,k1,k2,k3⟩:=hs.at_ id (List.mem_of_getElem? J);simp only[J,Option.map_some,k1,Option.getD_some,Option.some.injEq]at hb;exact⟨id,b,rfl,k1,k2,k3,hb.symm⟩
 refine⟨C,h.size,?_,?_,?_,h.cells,?_,?_,N,fun b hb=>?_⟩
 ·intro j L A;obtain⟨id,I,S⟩:=q A;obtain⟨b,k1,k2,k3⟩:=hs.at_ id (List.mem_of_getElem? I);refine⟨Fv (ids.idxOf ·) b,by rw[Zd8,I];simp[k1],?_⟩;rw[(Nv _ b).1];exact k2
 ·intro j G hb hl;obtain⟨id,b,I,S,h3,h4,rfl⟩:=z hb;obtain⟨L,A,hok⟩:=h.boxes id b S h3;refine⟨L,by simp[Sg.ren,I,A],hok.ren _ (fun b c hh=>⟨hh,rfl⟩) (EP.refl _) (fun hr r hh=>Z3m (h4 hr r hh)) (fun _ _=>rfl)⟩
 ·intro j j' b1 b2 L1 L2 g I S l1 l2 s1 s2 g1 g2;obtain⟨i1,e1,t1⟩:=q s1;obtain⟨i2,e2,t2⟩:=q s2;obtain⟨i1',c1,f1,O,Q,_⟩:=z I;obtain⟨i2',c2,f2,q1,q2,_⟩:=z S;rw[e1]at f1;cases f1;rw[e2]at f2;cases f2;have:=h.apart i1 i2 c1 c2 L1 L2 g O q1 Q q2 t1 t2 g1 g2;subst this;exact Z2B hs.nodup e1 e2
 ·intro b c hc j G L hb hl A Y;obtain⟨id,F,D⟩:=q A;obtain⟨id',b0,f1,O,Q,_,rfl⟩:=z hb;rw[F]at f1;cases f1;rw[(Nv _ b0).2.2.2.2.2.1];exact h.floor b c hc id b0 L O Q D Y
 ·intro j G hb hl;obtain⟨id,b0,f1,O,Q,_,rfl⟩:=z hb;obtain⟨_,_,_,_,_,e6,e7⟩:=Nv (ids.idxOf ·) b0;rw[e6,e7];exact h.low id b0 O Q
 ·obtain⟨k1,k2,k3,k4⟩:=hk b hb;refine⟨k1,k2,fun j L A Y=>?_,k4⟩;obtain⟨id,F,D⟩:=q A;exact k3 id (List.mem_of_getElem? F) L D Y
def Gu (ids:List Nat) (n i:Nat):Option Nat:=if i<n then (if i∈ids then some (ids.idxOf i) else none) else some (ids.length+(i - n))
theorem Zz7:∀{ids:List Nat} {H q:Heap} (i:Nat),ids.Nodup->(∀id∈ids,id<H.length)->ids.length<=q.length ->
  (Pq H ids q)[i]? = match Gu ids H.length i with|some j=>q[j]? | none=>H[i]?:=by
 intro ids;induction ids with
 | nil=>
  intro H q i _ _ _;unfold Gu;simp only[Pq,List.getElem?_append,List.not_mem_nil,if_false,List.length_nil,Nat.zero_add];split<;>rfl
 | cons id ids J=>
  intro H q i C G hb;cases q with
  | nil=>simp at hb
  | cons b q=>
   rw[List.nodup_cons]at C;rw[Pq,J i C.2 (fun j I=>by simpa using G j (by simp[I])) (by simpa using hb)];have A:=G id (by simp);unfold Gu;simp only[List.length_set,List.mem_cons,List.length_cons]
   by_cases F:i<H.length
   ·simp only[F,if_true]
    by_cases z:i=id
    ·subst z;simp[C.1,A]
    ·by_cases hm:i∈ids
     ·simp only[hm,or_true,if_true];have D:(id==i)=false:=by simp only[beq_eq_false_iff_ne];exact fun e=>z e.symm
      simp[List.idxOf_cons,D]
     ·simp only[hm,z,or_self,if_false];rw[List.getElem?_set_ne (fun e=>z e.symm)]
   ·simp only[F,if_false];rw[show ids.length+1+(i - H.length)=(ids.length+(i - H.length))+1 by omega];rfl
theorem ZrN {q:Heap} (i:Nat) (A:ids.Nodup) (z:∀id∈ids,id<H.length) (hb:ids.length<=q.length) :
  (OH H ids q)[i]? = match Gu ids H.length i with|some j=>(q[j]?).map (Fv (JK ids H.length))|none=>H[i]?:=by
 unfold OH;rw[Zz7 i A z (by simpa using hb)];split<;>simp
theorem ZBU {n i i' j:Nat} (G:ids.Nodup) (q:Gu ids n i=some j) (z:Gu ids n i' = some j):i=i' :=by
 unfold Gu at q z;have key:∀{x:Nat},x∈ids->ids.idxOf x<ids.length:=fun h=>List.idxOf_lt_length_of_mem h;split at q<;>split at z
 ·split at q<;>split at z
  ·rename_i C D;simp only[Option.some.injEq]at q z;have F:=sD C;have A:=sD D;rw[q]at F;rw[z]at A;rw[F]at A;exact Option.some.inj A
  ·cases z
  ·cases q
  ·cases q
 ·split at q
  ·rename_i C;simp only[Option.some.injEq]at q z;have:=key C;omega
  ·cases q
 ·split at z
  ·rename_i D;simp only[Option.some.injEq]at q z;have:=key D;omega
  ·cases z
 ·simp only[Option.some.injEq]at q z;omega
theorem ZzR {n:Nat} (C:ids.Nodup) (A:∀id∈ids,id<n) (j:Nat):Gu ids n (JK ids n j)=some j:=by
 unfold JK Gu
 by_cases q:j<ids.length
 ·rw[if_pos q];have z:ids.getD j 0=ids[j]:=by simp[List.getD,q]
  rw[z];have hm:ids[j]∈ids:=List.getElem_mem q;rw[if_pos (A _ hm),if_pos hm];congr 1;exact Z2B C (sD hm) (List.getElem?_eq_getElem q)
 ·rw[if_neg q,if_neg (by omega)];congr 1;omega
def Sg.back (σ q:Sg) (ids:List Nat) (n:Nat):Sg:=⟨fun i=>match Gu ids n i with|some j=>q.box j|none=>σ.box i,q.fz⟩
theorem Zd2 {q:Sg} {n:Nat} (A:ids.Nodup) (z:∀id∈ids,id<n) (j:Nat):(σ.back q ids n).box (JK ids n j)=q.box j:=by
 simp only[Sg.back,ZzR A z]
def outer (σ:Sg) (ids:List Nat) (w0:Start) (b:Nat):Prop:=w0.keep b\/∃id L,id∉ids/\σ.box id=some L/\L.v.ownBlock=some b
theorem ZCk {G:Sg} {S:Heap} {w' : World} (h:Inv B w0 σ H w) (hs:uV ids H) (D:Inv B ⟨w,σ.fz,outer σ ids w0⟩ G S w') (hE:Ext (σ.ren ids) w G w') (hlen:ids.length<=S.length) :
  Inv B w0 (σ.back G ids H.length) (OH H ids S) w' /\ Ext σ w (σ.back G ids H.length) w' :=by
 have Y:∀id∈ids,id<H.length:=fun id hid=>by
  obtain⟨b,k1,_⟩:=hs.at_ id hid;exact(List.getElem?_eq_some_iff.1 k1).1
 have hfz:∀b c,σ.fz b c->G.fz b c/\w'.cell? ⟨b,c,none⟩=w.cell? ⟨b,c,none⟩:=hE.fz;have e:Ext σ w (σ.back G ids H.length) w' :=by
  refine⟨fun i L q=>?_,hfz,hE.mp⟩;have O:=h.Z3N q;simp only[Sg.back]
  by_cases hm:i∈ids
  ·have z:Gu ids H.length i=some (ids.idxOf i):=by simp[Gu,O,hm]
   simp only[z];exact hE.box _ L (by rw[Z3m hm];exact q)
  ·have z:Gu ids H.length i=none:=by simp[Gu,O,hm]
   simp only[z];exact⟨L,q,rfl,.inl rfl⟩
 have N:∀i,(OH H ids S)[i]? = match Gu ids H.length i with|some j=>(S[j]?).map (Fv (JK ids H.length))|none=>H[i]?:=fun i=>ZrN i hs.nodup Y hlen
 have F:∀{i:Nat} {L:Loc} {g:Nat},Gu ids H.length i=none->σ.box i=some L->L.v.ownBlock=some g->outer σ ids w0 g:=by
  intro i L g z q M;refine .inr ⟨i,L,?_,q,M⟩;intro hm;simp[Gu,Y i hm,hm]at z
 have A:∀{i:Nat} {J : Box},(OH H ids S)[i]? = some J -> (∃j b,Gu ids H.length i=some j/\S[j]? = some b/\J = Fv (JK ids H.length) b)\/(Gu ids H.length i=none/\H[i]? = some J):=by
  intro i J hb;rw[N]at hb;cases z:Gu ids H.length i with
  | none=>rw[z]at hb;exact .inr ⟨rfl,hb⟩
  | some j=>
   rw[z]at hb;simp only[Option.map_eq_some_iff]at hb;obtain⟨b,h2,h3⟩:=hb;exact .inl ⟨j,b,rfl,h2,h3.symm⟩
 refine⟨⟨h.below.trans D.below,D.size,?_,?_,?_,D.cells,?_,?_,fun b c hc Q =>h.old b c (D.old b c hc Q) Q,fun b hb=>?_⟩,e⟩
 ·intro i L q;simp only[Sg.back]at q;rw[N];cases z:Gu ids H.length i with
  | none=>rw[z]at q;exact h.dom i L q
  | some j=>
   rw[z]at q;obtain⟨b,k1,k2⟩:=D.dom j L q;exact⟨Fv (JK ids H.length) b,by simp[k1],by rw[(Nv _ b).1];exact k2⟩
 ·intro i J hb I;rcases A hb with ⟨j,b,z,hj,rfl⟩|⟨z,O⟩
  ·rw[(Nv _ b).1]at I;obtain⟨L,q,C⟩:=D.boxes j b hj I;refine⟨L,by simp only[Sg.back,z];exact q,C.ren _ (fun b c hh=>⟨hh,rfl⟩) (EP.refl _) (fun _ r _=>Zd2 hs.nodup Y r) (fun _ _=>rfl)⟩
  ·obtain⟨L,q,C⟩:=h.boxes i J O I;obtain⟨us,r1,r2,r3,r4⟩:=C.Dh;refine⟨L,by simp only[Sg.back,z];exact q,C.tot,⟨us,r1.ext e,r2,r3,Z7S r4 fun g M=>?_⟩,C.EZ,C.Ar,C.oks,C.Hl⟩;exact(D.kept g (F z q M)).2.1
 ·intro i i' b1 b2 L1 L2 g p1 p2 l1 l2 s1 s2 g1 g2;simp only[Sg.back]at s1 s2;rcases A p1 with ⟨j,c1,t1,q1,rfl⟩|⟨t1,q1⟩<;>rcases A p2 with ⟨j',c2,t2,q2,rfl⟩|⟨t2,q2⟩
  ·rw[t1]at s1;rw[t2]at s2;rw[(Nv _ _).1]at l1 l2;have:=D.apart j j' c1 c2 L1 L2 g q1 q2 l1 l2 s1 s2 g1 g2;subst this;exact ZBU hs.nodup t1 t2
  ·rw[t1]at s1;rw[t2]at s2;exact absurd g1 ((D.kept g (F t2 s2 g2)).2.2.1 j L1 s1)
  ·rw[t1]at s1;rw[t2]at s2;exact absurd g2 ((D.kept g (F t1 s1 g1)).2.2.1 j' L2 s2)
  ·rw[t1]at s1;rw[t2]at s2;exact h.apart i i' b1 b2 L1 L2 g q1 q2 l1 l2 s1 s2 g1 g2
 ·intro b c hc i J L hb I q M;simp only[Sg.back]at q hc;rcases A hb with ⟨j,b0,z,hj,rfl⟩|⟨z,O⟩
  ·rw[z]at q;rw[(Nv _ b0).1]at I;rw[(Nv _ b0).2.2.2.2.2.1];exact D.floor b c hc j b0 L hj I q M
  ·rw[z]at q;exact h.floor b c ((D.kept b (F z q M)).2.2.2 c hc) i J L O I q M
 ·intro i J hb I;rcases A hb with ⟨j,b0,z,hj,rfl⟩|⟨z,O⟩
  ·obtain⟨e1,_,_,_,_,e6,e7⟩:=Nv (JK ids H.length) b0;rw[e6,e7];rw[e1]at I;exact D.low j b0 hj I
  ·exact h.low i J O I
 ·obtain⟨k1,k2,k3,k4⟩:=h.kept b hb;obtain⟨m1,m2,m3,m4⟩:=D.kept b (.inl hb);refine⟨m1,m2.trans k2,fun i L q M=>?_,fun c hc=>k4 c (m4 c hc)⟩;simp only[Sg.back]at q;cases z:Gu ids H.length i with
  | none=>rw[z]at q;exact k3 i L q M
  | some j=>rw[z]at q;exact m3 j L q M
end
def tJ (P:Program) (E:Env) (f:FuncId) (as:List V) (q:Heap) (r:V) (H1:Heap):Prop:=
 ∀(B:Nat) (w0:Start) (σ:Sg) (w:World) (vs:List Value),Inv B w0 σ q w->Di E σ w->AQ σ w as vs ->
  Calls P f vs.toArray w fun e w' =>∃u σ',e = .returned u/\Inv B w0 σ' H1 w' /\ Ext σ w σ' w' /\ AQ σ' w' [r] [u]
theorem Z3i {B:Nat} {w0:Start} {σ:Sg} {H z:Heap} {w:World} {fa:List (List Fk)} {fb:List Bf} {k:Nat} {args as:List V} {vs:List Value} {ids:List Nat} (h:Inv B w0 σ H w) (O:AQ σ w args vs)
  (q:pack fa fb k args H=some (ids,as,z)):uV ids z/\(∀id∈Dc as,id∈ids)/\H.length<=z.length/\∃σ',Inv B w0 σ' z w/\Ext σ w σ' w/\AQ σ' w as vs:=by
 unfold pack at q;split at q
 ·rename_i I H1 M;split at q
  ·rename_i G F N;simp only[Option.some.injEq,Prod.mk.injEq]at q;obtain⟨rfl,rfl,rfl⟩:=q;obtain⟨k1,σ1,Q,J,Y⟩:=Zzb h O M;obtain⟨q1,q2,q3,C,S,D⟩:=Zzz 1000 Q N (by simp) (by simp);exact⟨q3,fun id A=>q2 id (by simp[A]),Nat.le_trans k1.len q1,C,S,J.trans D,Y.ext D⟩
  ·cases q
 ·cases q
theorem Zz3 {P:Program} {E:Env} {B:Nat} {w0:Start} {σ:Sg} {H H' : Heap} {w:World} {f:FuncId} {hs:V5} {args:List V} {vs:List Value} {x:V} (J:∀as H0 r H1,hs.run as H0=some (r,H1)->tJ P E f as H0 r H1)
  (hc:O4 hs args H=some (x,H')) (h:Inv B w0 σ H w) (hg:Di E σ w) (hr:AQ σ w args vs) :
  Calls P f vs.toArray w fun e w' =>∃u σ',e = .returned u/\Inv B w0 σ' H' w' /\ Ext σ w σ' w' /\ AQ σ' w' [x] [u]:=by
 unfold O4 at hc;split at hc
 ·rename_i ids as H2 hp;split at hc
  ·rename_i r H3 N;split at hc
   ·rename_i M;simp only[Option.some.injEq,Prod.mk.injEq]at hc;obtain⟨rfl,rfl⟩:=hc;obtain⟨C,hm,_,A,q,F,hr1⟩:=Z3i h hr hp;have hlt:∀id∈ids,id<H2.length:=fun id D=>by
     obtain⟨b,k1,_⟩:=C.at_ id D;exact(List.getElem?_eq_some_iff.1 k1).1
    have O:Inv B ⟨w,A.fz,outer A ids w0⟩ (A.ren ids) (Ii H2 ids) w:=by
     refine Z40 q C _ (Below.refl _ _) (fun b c hc _=>hc) (fun b hb=>?_);rcases hb with hb|⟨id,L,D,G,I⟩
     ·obtain⟨k1,k2,k3,k4⟩:=q.kept b hb;exact⟨k1,rfl,fun id _ L G=>k3 id L G,fun c hc=>hc⟩
     ·obtain⟨bx,m1,m2⟩:=q.dom id L G;obtain⟨Q,z,hok⟩:=q.boxes id bx m1 m2;rw[G]at z;cases z;refine⟨(hok.block_lt I).2,rfl,fun i hi Q z hg' =>?_,fun c hc=>hc⟩;obtain⟨S,n1,n2⟩:=q.dom i Q z;have:=q.apart id i bx S L Q b m1 n1 m2 n2 G z I hg';subst this;exact D hi
    have hg1:Di E (A.ren ids) w:=(hg.ext F).bare (fun b c J=>⟨J,rfl⟩) (EP.refl _);refine(J _ _ _ _ N B _ (A.ren ids) w vs O hg1 (dO hr1 hm)).mono ?_
    rintro e w' ⟨u,σ2,rfl,hI2,Y,hr2⟩
    obtain⟨hI3,hE3⟩:=ZCk q C hI2 Y M;exact⟨u,_,rfl,hI3,F.trans hE3,ZxP hr2 (fun b c J=>⟨J,rfl⟩) (EP.refl _) (fun id _=>Zd2 C.nodup hlt id)⟩
   ·cases hc
  ·cases hc
 ·cases hc
end Go.Proofs.YtjodhcdmhobmoaaGreatDoor.Le
namespace Go.Proofs.YtjodhcdmhobmoaaGreatDoor.Le
open Go.RowKit (Below)
def OT (P:Program) (E:Env) (f:FuncId) (as:List V) (r:V):Prop:=
 ∀(fz:Nat->Nat->Prop) (w:World) (vs:List Value),(∀b c,fz b c->∃u,w.cell? ⟨b,c,none⟩=some u)->Di E (bare fz) w->AQ (bare fz) w as vs ->
  Calls P f vs.toArray w fun e w' =>∃u q,e = .returned u/\Below w.heap.size w w' /\ (∀b c,fz b c->q b c)/\(∀b c,q b c->b<w.heap.size->fz b c) /\
   (∀b c,q b c->∃u,w'.cell? ⟨b,c,none⟩=some u)/\AQ (bare q) w' [r] [u]/\CW r=true
def rO (P:Program) (E:Env) (f:FuncId) (as:List V) (e sz:Nat) (xs:List V):Prop:=
 ∀(fz:Nat->Nat->Prop) (w:World) (vs:List Value),(∀b c,fz b c->∃u,w.cell? ⟨b,c,none⟩=some u)->Di E (bare fz) w->AQ (bare fz) w as vs ->
  Calls P f vs.toArray w fun z w' =>∃u us q,z = .returned u/\Below w.heap.size w w' /\ (∀b c,fz b c->q b c)/\(∀b c,q b c->b<w.heap.size->fz b c) /\
   (∀b c,q b c->∃u,w'.cell? ⟨b,c,none⟩=some u)/\AQ (bare q) w' xs us/\(∀x∈xs,Ep x=true)/\(∀u∈us,u.cells.size=sz)/\(∀u∈flat us,u.oneCell' = true) /\
   F7 w' w.heap.size e sz u xs.length (flat us)/\(∀g c,u.ownBlock=some g->¬q g c)
def OG (P:Program) (f:FuncId):Prop:=∃fn,P.funcs[f]? = some fn/\fn.body.isNone=false/\(fn.name == "runtime.NumGoroutine")=false
structure Qg (P:Program) (E:Env):Prop where
 env:∀f F,E.env f=some F->OG P f/\∀as r,Bz as=true->F as=some r->match E.own f with|none=>OT P E f as r|some e=>∀sz xs,r = .sl false sz xs->rO P E f as e sz xs
 hm:∀f key hs,E.hm f key=some hs->OG P f/\∀as H0 r H1,hs.run as H0=some (r,H1)->tJ P E f as H0 r H1
theorem Below.grownBy {w w' : World} (h:Below w.heap.size w w'):w.grownBy w' none:=⟨h.os,h.tape,h.output,h.size,fun k q _=>h.block k q⟩
theorem Z27 {B w0 σ H w} (h:Inv B w0 σ H w) {x C : V} {v:Value} (A:AQ σ w [x] [v]) (q:JL H x=some C):CW C = true:=by
 unfold JL at q;split at q
 ·rename_i vs;cases A with
  | BL D _=>
   cases z:FI H vs with
   | none=>simp[z]at q
   | some F =>
    simp only[z,Option.map_some,Option.some.injEq]at q;subst q;exact Xm h D z
 ·exact qF h A q
section
variable {P:Program} {E:Env} {B:Nat} {w0:Start} {σ:Sg} {H:Heap} {w:World} {f:FuncId}
theorem Zbo {args as:List V} {r:V} {vs:List Value} (ts:List TypeId) (hp:OT P E f (GM E.rows ts as) r) (hf:FI H args=some as) (hI:Inv B w0 σ H w) (hg:Di E σ w) (hr:AQ σ w args vs) :
  Calls P f vs.toArray w fun e w' =>∃u σ',e = .returned u/\Inv B w0 σ' (bump H (args.flatMap Dj)) w' /\ Ext σ w σ' w' /\ AQ σ' w' [r] [u]:=by
 obtain⟨z,D⟩:=hI.freeze (args.flatMap Dj);have hr1:=Z0k E.rows ts (nN hI hr hf (args.flatMap Dj) (fun i hi=>hi));have hn:Bz (GM E.rows ts as)=true:=by rw[kM];exact Xm hI hr hf
 generalize hσ1:σ.freeze H (args.flatMap Dj)=q at z D hr1;have hbox1:q.box=σ.box:=by rw[<- hσ1];rfl
 have J:∀b c,q.fz b c->(bare q.fz).fz b c/\w.cell? ⟨b,c,none⟩=w.cell? ⟨b,c,none⟩:=fun b c h=>⟨h,rfl⟩;refine(hp q.fz w vs z.cells ((hg.ext D).bare J (EP.refl _)) (hr1.bare J (EP.refl _) hn)).mono ?_
 rintro e w' ⟨u,Q,rfl,hb,N,F,G,hru,hnr⟩
 obtain⟨C,I⟩:=z.grown (Below.grownBy hb);have hcell:∀b c,q.fz b c->w'.cell? ⟨b,c,none⟩=w.cell? ⟨b,c,none⟩:=fun b c h=>(I.fz b c h).2;have Y:Ext q w' ⟨q.box,Q⟩ w' :=⟨fun id L O=>⟨L,O,rfl,.inl rfl⟩,fun b c h=>⟨N b c h,rfl⟩,EP.refl _⟩;refine⟨u,⟨q.box,Q⟩,rfl,⟨C.below,C.size,C.dom,fun id bx hb hl=>?_,C.apart,G,fun b c hc id bx L hb hl O M=>?_,C.low,fun b c hc hlt=>?_,fun b hb=>?_⟩,D.trans (I.trans Y),?_⟩
 ·obtain⟨L,O,A⟩:=C.boxes id bx hb hl;obtain⟨us,h1,h2,h3,h4⟩:=A.Dh;exact⟨L,O,⟨A.tot,⟨us,h1.ext Y,h2,h3,h4⟩,A.EZ,A.Ar,A.oks,A.Hl⟩⟩
 ·obtain⟨L',S,A⟩:=z.boxes id bx hb hl;rw[show q.box id=some L from O]at S;cases S;exact z.floor b c (F b c hc (A.block_lt M).2) id bx L hb hl O M
 ·exact z.old b c (F b c hc (Nat.lt_of_lt_of_le hlt z.size)) hlt
 ·obtain⟨k1,k2,k3,k4⟩:=C.kept b hb;exact⟨k1,k2,k3,fun c hc=>k4 c (F b c hc (z.kept b hb).1)⟩
 ·exact hru.bare (fun b c h=>⟨h,rfl⟩) (EP.refl _) (by simp[Bz,hnr])
theorem ownsRow_base {w:World} {b z e sz n:Nat} {v:Value} {us:List Value} (h:F7 w b e sz v n us) (hb:z <= b):F7 w z e sz v n us:=by
 refine⟨h.1,?_⟩;rcases h.2 with h|⟨g,cap,q,D,A,F,C⟩
 ·exact .inl h
 ·exact .inr ⟨g,cap,q,D,A,by omega,C⟩
theorem ZbL {args as:List V} {e sz:Nat} {xs:List V} {vs:List Value} (ts:List TypeId) (hp:rO P E f (GM E.rows ts as) e sz xs) (hf:FI H args=some as) (hI:Inv B w0 σ H w) (hg:Di E σ w) (hr:AQ σ w args vs) :
  Calls P f vs.toArray w fun en w' =>∃u σ',en = .returned u/\Inv B w0 σ' (place (bump H (args.flatMap Dj)) H.length (Bg true false e sz xs)) w' /\ Ext σ w σ' w' /\ AQ σ' w' [.Bc H.length 0 xs.length xs.length] [u]:=by
 obtain⟨q,F⟩:=hI.freeze (args.flatMap Dj);have hr1:=Z0k E.rows ts (nN hI hr hf (args.flatMap Dj) (fun i hi=>hi));have hn:Bz (GM E.rows ts as)=true:=by rw[kM];exact Xm hI hr hf
 generalize hσ1:σ.freeze H (args.flatMap Dj)=C at q F hr1;have S:∀b c,C.fz b c->(bare C.fz).fz b c/\w.cell? ⟨b,c,none⟩=w.cell? ⟨b,c,none⟩:=fun b c h=>⟨h,rfl⟩;refine(hp C.fz w vs q.cells ((hg.ext F).bare S (EP.refl _)) (hr1.bare S (EP.refl _) hn)).mono ?_
 rintro en w' ⟨u,us,fz',rfl,hb,Y,I,M,hru,G,hsz,hone,A,hnfz⟩
 obtain⟨D,hEx2⟩:=q.grown (Below.grownBy hb);have hex:Ext C w' ⟨C.box,fz'⟩ w' :=⟨fun id L hL=>⟨L,hL,rfl,.inl rfl⟩,fun b c h=>⟨Y b c h,rfl⟩,EP.refl _⟩;have hI3:Inv B w0 ⟨C.box,fz'⟩ (bump H (args.flatMap Dj)) w' :=by
  refine⟨D.below,D.size,D.dom,fun id bx hb hl=>?_,D.apart,M,fun b c hc id bx L hb hl hL A=>?_,D.low,fun b c hc hlt=>?_,fun b hb=>?_⟩
  ·obtain⟨L,hL,z⟩:=D.boxes id bx hb hl;obtain⟨us,h1,h2,h3,h4⟩:=z.Dh;exact⟨L,hL,⟨z.tot,⟨us,h1.ext hex,h2,h3,h4⟩,z.EZ,z.Ar,z.oks,z.Hl⟩⟩
  ·obtain⟨L',hL',z⟩:=q.boxes id bx hb hl;rw[show C.box id=some L from hL]at hL';cases hL';exact q.floor b c (I b c hc (z.block_lt A).2) id bx L hb hl hL A
  ·exact q.old b c (I b c hc (Nat.lt_of_lt_of_le hlt q.size)) hlt
  ·obtain⟨k1,k2,k3,k4⟩:=D.kept b hb;exact⟨k1,k2,k3,fun c hc=>k4 c (I b c hc (q.kept b hb).1)⟩
 have Q:∀g,u.ownBlock=some g->w.heap.size<=g:=by
  intro g N;rcases A.2 with ⟨J,_⟩|⟨g',cap,cur,tg,J,hle,_⟩
  ·rw[J]at N;cases N
  ·rw[J]at N;simp only[Value.ownBlock,Option.some.injEq]at N;omega
 have hnr:Bz xs=true:=Oq G;have hk:FO (bump H (args.flatMap Dj)) H.length=true:=by
  have:=cO (bump H (args.flatMap Dj));rwa[bump_length]at this
 obtain⟨hI4,hEx4⟩:=hI3.ZC5 hk (Bg true false e sz xs) rfl ⟨u,xs.length,sz⟩ (by simp[Bg])
  (fun id bx' L' g h1 h2 h3 h4 h5=>by
   obtain⟨L'',O,z⟩:=q.boxes id bx' h1 h2;rw[show C.box id=some L' from h3]at O;cases O;have:=(z.block_lt h4).2;have:=Q g h5;omega)
  (fun g c h=>hnfz g c h) (fun g h hk=>by have:=(q.kept g hk).1;have:=Q g h;omega)
  ⟨rfl,⟨us,hru.bare (fun b c h=>⟨h,rfl⟩) (EP.refl _) hnr,hsz,hone,by simpa[Bg]using ownsRow_base A q.size⟩,by simp[Bg],rfl,Z3n G,fun _ x hx=>QZ (G x hx)⟩
 have hval:∃a n c,u = .slice a n c/\n=xs.length/\n<=c:=by
  rcases A.2 with ⟨J,hn⟩|⟨g,cap,cur,tg,J,_,_,_,hnc,_⟩
  ·exact⟨none,0,0,J,hn.symm,Nat.le_refl _⟩
  ·exact⟨_,_,cap,J,rfl,hnc⟩
 obtain⟨a,n,c,J,hn',hnc⟩:=hval;refine⟨u,_,rfl,hI4,F.trans (hEx2.trans (hex.trans hEx4)),.Bc (L:=⟨u,xs.length,sz⟩) (by simp[Sg.put]) (Nat.le_refl _) (fun _=>⟨by omega,a,n,c,0,J,?_,Nat.zero_le _,Nat.le_refl _,fun _=>rfl⟩) ⟨a,n,c,J⟩ .nil⟩;subst hn';rw[J];cases a with
 | none=>simp
 | some a=>simp[Addr.add]
theorem ZdK (J:Cf E) (N:E.P=P) {call:Dn} (z:JH P E B w0 call) (A:OC E call) {fn:Func} (Q:E.func f=some fn) {n:Nat} {args:List V} {H' : Heap} {r:V} {vs:List Value}
  (hb:P9 call n E f fn args H=some (r,H')) (hI:Inv B w0 σ H w) (hg:Di E σ w) (hr:AQ σ w args vs) :
  OG P f/\Calls P f vs.toArray w fun e w' =>∃u σ',e = .returned u/\Inv B w0 σ' H' w' /\ Ext σ w σ' w' /\ AQ σ' w' [r] [u]:=by
 unfold P9 at hb;cases q:fn.body with
 | none=>simp[q]at hb
 | some c=>
  simp only[q]at hb;obtain⟨M,hf2⟩:=J.func f fn Q;rw[N]at M;refine⟨⟨fn,M,by simp[q],hf2⟩,calls_of_wp M q ?_⟩;have O:=J.calm f fn c Q q;have F:AQ σ w (args++List.replicate (fn.ntmps - args.length) EH) (vs.toArray++Array.replicate (fn.ntmps - vs.toArray.size) undef).toList:=by
   simp only[Array.toList_append,Array.toList_replicate,List.size_toArray];rw[<- hr.length];exact hr.append (AQ.replicate _ (.no .nil))
  have I:Ew E B w0 σ ⟨args++List.replicate (fn.ntmps - args.length) EH,H⟩ { tmps:=vs.toArray++Array.replicate (fn.ntmps - vs.toArray.size) undef,defers:=[] } w:=⟨hI,hg,F,rfl⟩;have G:∀st,(KU E st.H st.s fn.results.toList).map (·,st.H)=some (r,H')->∀S w' σ',Ew E B w0 σ' st S w' -> Ext σ w σ' w' ->
    S.defers=[]/\∃v,(results fn S.tmps).run P w' = .ok v w' /\ (fun e w' =>∃u σ',e=Ending.returned u/\Inv B w0 σ' H' w' /\ Ext σ w σ' w' /\ AQ σ' w' [r] [u]) (.returned v) w' :=by
   intro st C S w' σ' D Y;cases hx:KU E st.H st.s fn.results.toList with
   | none=>simp[hx]at C
   | some x=>
    simp only[hx,Option.map_some,Option.some.injEq,Prod.mk.injEq]at C;obtain⟨rfl,rfl⟩:=C;obtain⟨u,hu,hur⟩:=pI (P:=P) J N D.inv D.slots hx;exact⟨D.calm,u,hu,u,σ',rfl,D.inv,Y,hur⟩
  split at hb
  ·rename_i st hc;exact SX J N z A (Z3v J N z A n) c _ .normal st O hc _ σ _ w I (G st hb)
  ·rename_i st hc;exact SX J N z A (Z3v J N z A n) c _ .ret st O hc _ σ _ w I (G st hb)
  ·cases hb
theorem ZbN (hE:Cf E) (hP:E.P=P) {call:Dn} (C:∀B w0,JH P E B w0 call) (D:OC E call) {fn:Func} (N:E.func f=some fn) {n:Nat} {as:List V} {H' : Heap} {M r:V}
  (hb:P9 call n E f fn as []=some (M,H')) (I:JL H' M=some r):OT P E f as r:=by
 intro fz w vs q hg hr;have hI:Inv w.heap.size (Start.of w fz) (bare fz) [] w:=⟨Below.refl _ w,Nat.le_refl _,fun id L hL=>(by cases hL),fun id bx hb=>by simp at hb,fun i j b1 b2 L1 L2 g Y=>by simp at Y,q,
  fun b c hc id bx L hb=>by simp at hb,fun id bx hb=>by simp at hb,fun b c hc _=>hc,fun b hb=>hb.elim⟩
 obtain⟨_,hc⟩:=ZdK hE hP (C w.heap.size (Start.of w fz)) D N hb hI hg hr;refine hc.mono ?_
 rintro e w' ⟨u,σ',rfl,z,F,J⟩
 obtain⟨A,G⟩:=z.freeze (O9 M);have Q:=Z2H z J I (O9 M) (fun i hi=>hi);have S:=Z27 z J I;refine⟨u,(σ'.freeze H' (O9 M)).fz,rfl,A.below,fun b c h=>(G.fz b c (F.fz b c h).1).1,fun b c h O=>A.old b c h O,A.cells,?_,S⟩;exact Q.bare (fun b c h=>⟨h,rfl⟩) (EP.refl _) (by simp[Bz,S])
theorem Zo7 {H:Heap}:∀{xs ys:List V},FI H xs=some ys->xs.length=ys.length:=by
 intro xs;induction xs with
 | nil=>intro ys h;simp[FI]at h;subst h;rfl
 | cons x xs q=>
  intro ys h;simp only[FI]at h;split at h
  ·rename_i a b z hb;simp only[Option.some.injEq]at h;subst h;simp[q hb]
  ·cases h
theorem Zyw {H H' : Heap} {x:V} (h:DW (DC x) H H'):O6 H' x=O6 H x:=by
 unfold O6;split
 ·rename_i id i off tot;split
  ·cases hb:DZ H id tot with
   | none=>rw[SA (h id (by simp[DC,EE])) hb]
   | some b=>
    obtain⟨F,C,D⟩:=PE (h id (by simp[DC,EE])) hb;obtain⟨q,G,I,z,A⟩:=SQ D;simp only[C,q,z,A]
  ·rfl
 ·exact ZdJ h
theorem Ztd {H H' : Heap} {xs:List V} (h:DW (xs.flatMap DC) H H'):KY H' xs=KY H xs:=by
 induction xs with
 | nil=>rfl
 | cons x xs z=>
  simp only[KY];rw[Zyw (fun i q=>h i (by simp[q])),z (fun i q=>h i (by rw[List.flatMap_cons];exact List.mem_append_right _ q))]
theorem Zwz (n:Nat):sK E (En E n):=by
 intro f Q args H v H1 h;cases n with
 | zero=>cases h
 | succ n=>
  unfold En at h;cases q:E.env f with
  | some F=>
   simp only[q]at h
   by_cases N:args.any TG=true
   ·rw[if_pos N]at h;have I:E.own f=none:=by simpa using (Bool.and_eq_true_iff.1 Q).2
    cases z:KY H args with
    | none=>simp[z,I]at h
    | some as=>
     simp only[z,I]at h;cases A:F (GM E.rows (E.par f) as) with
     | none=>simp[A]at h
     | some r=>
      simp only[A]at h;split at h
      ·rename_i O;simp only[Option.some.injEq,Prod.mk.injEq]at h;refine⟨h.2.symm,fun H' M=>?_⟩;unfold En;simp only[q];rw[if_pos N,Ztd M,z];simp only[I,A];rw[if_pos O,h.1]
      ·cases h
   rw[if_neg N]at h;cases z:FI H args with
   | none=>simp[z]at h
   | some as=>
    have I:E.own f=none:=by simpa using (Bool.and_eq_true_iff.1 Q).2
    simp only[z,I]at h;cases A:F (GM E.rows (E.par f) as) with
    | none=>simp[A]at h
    | some r=>
     simp only[A,Option.map_some,Option.some.injEq,Prod.mk.injEq]at h;refine⟨h.2.symm,fun H' M=>?_⟩;unfold En;simp only[q];rw[if_neg N,Z1Q M,z];simp only[I,A,Option.map_some,h.1]
  | none=>
   have J:E.pure f=true:=by simpa[q]using (Bool.and_eq_true_iff.1 Q).1
   simp only[q,J,if_true]at h;cases D:E.func f with
   | none=>simp[D]at h
   | some fn=>
    simp only[D]at h;cases z:FI H args with
    | none=>simp[z]at h
    | some as=>
     simp only[z]at h;cases C:P9 (En E n) n E f fn as [] with
     | none=>simp[C]at h
     | some rr=>
      obtain⟨Y,S⟩:=rr;simp only[C]at h;cases G:JL S Y with
      | none=>simp[G]at h
      | some r=>
       simp only[G,Option.map_some,Option.some.injEq,Prod.mk.injEq]at h;refine⟨h.2.symm,fun H' M=>?_⟩;unfold En;simp only[q,J,if_true,D];rw[Z1Q M,z];simp only[C,G,Option.map_some,h.1]
theorem qI (H:Heap) (a b:List Nat):bump (bump H a) b=bump H (a++b):=by
 induction a generalizing H with
 | nil=>rfl
 | cons i a q=>simp only[bump,List.cons_append,q]
theorem Zas {f:Fk} {H H1:Heap} {x y:V} (h:Hq f H x=some (y,H1)) (q:EO y=[]):∃ids,(∀i∈ids,i∈EE x)/\H1=bump H ids/\∀H',DW (EE x) H H' -> Hq f H' x=some (y,bump H' ids):=by
 cases f with
 | s e sz=>
  simp only[Hq]at h;cases z:Hu H x with
  | none=>simp[z]at h
  | some w=>
   simp only[z,Option.map_some,Option.some.injEq,Prod.mk.injEq]at h;obtain⟨rfl,rfl⟩:=h;exact⟨Ez x,fun i A=>ZcU A,rfl,fun H' C=>by simp only[Hq,Z35 C,z,Option.map_some]⟩
 | own e sz=>
  exfalso;simp only[Hq,fJ]at h;split at h
  ·simp only[Option.some.injEq,Prod.mk.injEq]at h;rw[<- h.1]at q;simp[EO]at q
  ·simp only[Option.some.injEq,Prod.mk.injEq]at h;rw[<- h.1]at q;simp[EO]at q
  ·split at h
   ·simp only[Option.some.injEq,Prod.mk.injEq]at h;rw[<- h.1]at q;simp[EO]at q
   ·cases h
  ·cases h
 | keep=>
  simp only[Hq,Option.some.injEq,Prod.mk.injEq]at h;obtain⟨rfl,rfl⟩:=h;exact⟨[],by simp,rfl,fun H' _=>rfl⟩
 | drop=>
  simp only[Hq,Option.some.injEq,Prod.mk.injEq]at h;obtain⟨rfl,rfl⟩:=h;exact⟨[],by simp,rfl,fun H' _=>rfl⟩
theorem Zu2:∀{fl:List Fk} {H H1:Heap} {xs ys:List V},Hr fl H xs=some (ys,H1)->Dc ys=[]->∃ids,(∀i∈ids,i∈xs.flatMap EE)/\H1=bump H ids/\∀H',DW (xs.flatMap EE) H H' -> Hr fl H' xs=some (ys,bump H' ids):=by
 intro fl;induction fl with
 | nil=>
  intro H H1 xs ys h A;cases xs with
  | nil=>
   simp only[Hr,Option.some.injEq,Prod.mk.injEq]at h;obtain⟨rfl,rfl⟩:=h;exact⟨[],by simp,rfl,fun H' _=>rfl⟩
  | cons=>simp[Hr]at h
 | cons f fl Q=>
  intro H H1 xs ys h A;cases xs with
  | nil=>simp[Hr]at h
  | cons x xs=>
   simp only[Hr]at h;cases C:Hq f H x with
   | none=>simp[C]at h
   | some r=>
    obtain⟨y,M⟩:=r;simp only[C]at h;cases D:Hr fl M xs with
    | none=>simp[D]at h
    | some q=>
     obtain⟨Y,S⟩:=q;simp only[D,Option.some.injEq,Prod.mk.injEq]at h;obtain⟨rfl,rfl⟩:=h;simp only[Dc,List.append_eq_nil_iff]at A;obtain⟨z,N,rfl,O⟩:=Zas C A.1;obtain⟨J,b1,rfl,b3⟩:=Q D A.2;refine⟨z++J,fun i hi=>?_,qI H z J,fun H' I=>?_⟩
     ·rw[List.flatMap_cons];rcases List.mem_append.1 hi with hi|hi
      ·exact List.mem_append_left _ (N i hi)
      ·exact List.mem_append_right _ (b1 i hi)
     ·have F:DW (EE x) H H' :=fun i hi=>I i (by rw[List.flatMap_cons];exact List.mem_append_left _ hi);have G:DW (xs.flatMap EE) (bump H z) (bump H' z):=(Q3 _ z H).symm.trans (DW.trans (fun i hi=>I i (by rw[List.flatMap_cons];exact List.mem_append_right _ hi)) (Q3 _ z H'));simp only[Hr,O H' F,b3 _ G,qI]
theorem Zwh {fl:List Fk} {H H1:Heap} {x y:V} (h:Jh fl H x=some (y,H1)) (I:EO y=[]):∃ids,(∀i∈ids,i∈DC x)/\H1=bump H ids/\∀H',DW (DC x) H H' -> Jh fl H' x=some (y,bump H' ids):=by
 unfold Jh at h;split at h
 ·rename_i cs;cases F:Hr fl H cs with
  | none=>simp[F]at h
  | some r=>
   obtain⟨ys,M⟩:=r;simp only[F,Option.map_some,Option.some.injEq,Prod.mk.injEq]at h;obtain⟨rfl,rfl⟩:=h;obtain⟨ids,A,C,D⟩:=Zu2 F (by simpa[EO]using I);exact⟨ids,A,C,fun H' G=>by simp only[Jh,D H' G,Option.map_some]⟩
 ·rename_i z;have J:∀i∈EE x,i∈DC x:=fun i q=>by
   cases x with
   | fn f a b=>simp[EE]at q
   | agg cs=>exact absurd rfl (z cs)
   | _=>exact q
  split at h
  ·rename_i f;obtain⟨ids,A,C,D⟩:=Zas h I;refine⟨ids,fun i q=>J i (A i q),C,fun H' G=>?_⟩;unfold Jh;split
   ·rename_i cs;exact absurd rfl (z cs)
   ·exact D H' (fun i q=>G i (J i q))
  ·cases h
theorem Zwf:∀{fa:List (List Fk)} {H H1:Heap} {xs ys:List V},IG fa H xs=some (ys,H1)->Dc ys=[]->∃ids,(∀i∈ids,i∈xs.flatMap DC)/\H1=bump H ids/\∀H',DW (xs.flatMap DC) H H' -> IG fa H' xs=some (ys,bump H' ids):=by
 intro fl;induction fl with
 | nil=>
  intro H H1 xs ys h A;cases xs with
  | nil=>
   simp only[IG,Option.some.injEq,Prod.mk.injEq]at h;obtain⟨rfl,rfl⟩:=h;exact⟨[],by simp,rfl,fun H' _=>rfl⟩
  | cons=>simp[IG]at h
 | cons f fl Q=>
  intro H H1 xs ys h A;cases xs with
  | nil=>simp[IG]at h
  | cons x xs=>
   simp only[IG]at h;cases C:Jh f H x with
   | none=>simp[C]at h
   | some r=>
    obtain⟨y,M⟩:=r;simp only[C]at h;cases D:IG fl M xs with
    | none=>simp[D]at h
    | some q=>
     obtain⟨Y,S⟩:=q;simp only[D,Option.some.injEq,Prod.mk.injEq]at h;obtain⟨rfl,rfl⟩:=h;simp only[Dc,List.append_eq_nil_iff]at A;obtain⟨z,N,rfl,O⟩:=Zwh C A.1;obtain⟨J,b1,rfl,b3⟩:=Q D A.2;refine⟨z++J,fun i hi=>?_,qI H z J,fun H' I=>?_⟩
     ·rw[List.flatMap_cons];rcases List.mem_append.1 hi with hi|hi
      ·exact List.mem_append_left _ (N i hi)
      ·exact List.mem_append_right _ (b1 i hi)
     ·have F:DW (DC x) H H' :=fun i hi=>I i (by rw[List.flatMap_cons];exact List.mem_append_left _ hi);have G:DW (xs.flatMap DC) (bump H z) (bump H' z):=(Q3 _ z H).symm.trans (DW.trans (fun i hi=>I i (by rw[List.flatMap_cons];exact List.mem_append_right _ hi)) (Q3 _ z H'));simp only[IG,O H' F,b3 _ G,qI]
theorem ZtN {n:Nat} {H z:Heap} {q ids:List Nat} (h:Jf n [] H q []=some (z,ids)):q=[]/\z=H/\ids=[]:=by
 cases n with
 | zero=>cases h
 | succ n=>
  cases q with
  | nil=>
   simp only[Jf,Option.some.injEq,Prod.mk.injEq]at h;exact⟨rfl,h.1.symm,h.2.symm⟩
  | cons i q=>
   exfalso;unfold Jf at h;simp only[List.contains_nil,Bool.false_eq_true,if_false]at h;split at h<;>first|(cases h;done)|simp_all
theorem ZtU {C:V5} (A:C.fb=[]) {args:List V} {H H1:Heap} {v:V} (h:O4 C args H=some (v,H1)) :
  ∃ids F,(∀i∈ids,i∈args.flatMap DC)/\H1=bump H ids++F/\∀H',H'.length=H.length->DW (args.flatMap DC) H H' -> O4 C args H' = some (v,bump H' ids++F):=by
 unfold O4 at h;unfold pack at h;rw[A]at h;cases I:IG C.fa H args with
 | none=>simp[I]at h
 | some r=>
  obtain⟨as,Q⟩:=r;simp only[I]at h;cases G:Jf 1000 [] Q (List.range 0++Dc as) [] with
  | none=>rw[G]at h;cases h
  | some q=>
   obtain⟨H2,N⟩:=q;obtain⟨J,rfl,rfl⟩:=ZtN G;simp only[List.range_zero,List.nil_append]at J;obtain⟨ids,S,rfl,Y⟩:=Zwf I J;simp only[G]at h;cases z:C.run (Gg (([]:List Nat).idxOf ·) as) (Ii (bump H ids) []) with
   | none=>rw[z]at h;cases h
   | some rr=>
    obtain⟨r,O⟩:=rr;simp only[z,List.length_nil,Nat.zero_le,if_true,Option.some.injEq,Prod.mk.injEq,bump_length]at h;obtain⟨rfl,rfl⟩:=h;refine⟨ids,O.map (Fv (JK [] H.length)),S,by simp only[OH,Pq,bump_length],fun H' hl M =>?_⟩;unfold O4 pack;rw[A,Y H' M];simp only[List.range_zero,List.nil_append,J,Jf];have D:Ii (bump H' ids) []=Ii (bump H ids) []:=rfl;simp only[D,z,List.length_nil,Nat.zero_le,if_true,bump_length,hl,OH,Pq]
theorem Zwo (n:Nat):tZ E (En E n):=by
 intro f z args H v H1 h;cases n with
 | zero=>cases h
 | succ n=>
  have A:=z;unfold Pe at z;simp only[Bool.and_eq_true,Option.isNone_iff_eq_none,Bool.not_eq_true']at z;obtain⟨⟨Q,S⟩,q⟩:=z;cases D:E.hm f [] with
  | none=>rw[D]at q;cases q
  | some J=>
   rw[D]at q;have C:J.fb=[]:=by simpa using q
   have I:∀H,En E (n+1) f args H=O4 J args H:=fun H=>by
    unfold En;simp only[Q,S,Bool.false_eq_true,if_false,A,if_true,D]
   rw[I]at h;obtain⟨ids,G,M,N,O⟩:=ZtU C h;exact⟨ids,G,M,N,fun H' Y F =>by rw[I];exact O H' Y F⟩
theorem Uc (n:Nat):OC E (En E n):=⟨Zwz n,Zwo n⟩
def gV (w:World) (b c:Nat):Prop:=∃u,w.cell? ⟨b,c,none⟩=some u
theorem ZyE {σ σ' : Sg} {w w' : World} {cs:List V} {ws:List Value} (h:AQ σ w cs ws):AQ σ' w' (cs.map V9) ws:=by
 induction cs generalizing ws with
 | nil=>cases h.FH;exact .nil
 | cons c cs C=>
  obtain⟨v,vs,rfl,q,z⟩:=h.Dw;simp only[List.map_cons];refine AQ.FC.2 ⟨?_,C z⟩;cases q with
  | lit A _=>exact .lit A .nil
  | _=>exact .und _ .nil
theorem Zay (cs:List V):Bz (cs.map V9)=true:=by
 induction cs with
 | nil=>rfl
 | cons c cs q=>cases c<;>simp[V9,Bz,CW,q]
theorem Zvr {B:Nat} {w0:Start} {σ:Sg} {H:Heap} {w:World} (h:Inv B w0 σ H w) {x y:V} {v:Value} (M:AQ σ w [x] [v]) (C:O6 H x=some y):AQ (bare (gV w)) w [y] [v]/\CW y=true:=by
 unfold O6 at C;split at C
 ·rename_i id i off tot;split at C
  ·rename_i hz;obtain⟨rfl,rfl⟩:=hz;split at C
   ·rename_i b hb;obtain⟨b1,b2,b3⟩:=Uh hb;split at C
    ·rename_i cs I F;simp only[Option.some.injEq]at C;subst C;obtain⟨L,us,m⟩:=h.meet b1 b2;cases M with
     | ptr g k1 k2 k3 k4 k5=>
      rename_i N;have Q:N = L:=by
       have:=m.box;rw[k1]at this;cases this;rfl
      subst Q;obtain⟨n,c,Y⟩:=k3 (m.tot.trans b3);have q:=m.Dh;rw[F]at q;have A:∃ws:List Value,us=[.agg ws.toArray]/\AQ σ w cs ws/\∀u∈ws,u.oneCell' = true:=by
       cases q with
       | agg q1 q2 q3=>cases q3;exact⟨_,rfl,q1,q2⟩
      obtain⟨ws,A,S,G⟩:=A;refine⟨?_,by simp[CW,Bz,Zay]⟩;have key:AQ (bare (gV w)) w [.CG b.Ar [.agg (cs.map V9)] 0 0] [.pointer (some ⟨g,0+0*b.Ar+0,none⟩)]:=by
       refine .CG (us:=us) g 0 b.Ar 0 0 ?_ ?_ (fun u D=>by rw[m.Ar];exact m.sizes u D) m.ones ?_ .nil
       ·rw[A];exact .agg (ZyE S) G .nil
       ·intro x J;simp only[List.mem_singleton]at J;subst J;simp[Ep,okV,CW,Zay]
       ·intro j u D;have:=m.cell (g:=g) (by rw[Y];rfl) j u D;rw[Nat.zero_add];exact⟨⟨u,this⟩,this⟩
      rw[k4];simpa using key
    ·rename_i z I F;simp only[Option.some.injEq]at C;subst C;obtain⟨L,us,m⟩:=h.meet b1 b2;cases M with
     | ptr g k1 k2 k3 k4 k5=>
      rename_i N;have Q:N = L:=by
       have:=m.box;rw[k1]at this;cases this;rfl
      subst Q;obtain⟨n,c,Y⟩:=k3 (m.tot.trans b3);have q:=m.Dh;rw[F]at q;have A:us=[z]/\leaf z=true:=by
       cases q with
       | lit q1 q2=>cases q2;exact⟨rfl,q1⟩
      obtain⟨A,hz⟩:=A;refine⟨?_,by simp[CW,Bz]⟩;have key:AQ (bare (gV w)) w [.CG b.Ar [.lit z] 0 0] [.pointer (some ⟨g,0+0*b.Ar+0,none⟩)]:=by
       refine .CG (us:=us) g 0 b.Ar 0 0 ?_ ?_ (fun u D=>by rw[m.Ar];exact m.sizes u D) m.ones ?_ .nil
       ·rw[A];exact .lit hz .nil
       ·intro x J;simp only[List.mem_singleton]at J;subst J;simp[Ep,okV,CW]
       ·intro j u D;have:=m.cell (g:=g) (by rw[Y];rfl) j u D;rw[Nat.zero_add];exact⟨⟨u,this⟩,this⟩
      rw[k4];simpa using key
    ·cases C
   ·cases C
  ·cases C
 ·have hn:=qF h M C;refine⟨?_,hn⟩;obtain⟨O,hEx1⟩:=h.freeze (Dj x);have:=qP h M C (Dj x) (fun i hi=>hi);exact this.bare (fun b c hh=>⟨O.cells b c hh,rfl⟩) (EP.refl _) (by simp[Bz,hn])
theorem ZpH {B:Nat} {w0:Start} {σ:Sg} {H:Heap} {w:World} (h:Inv B w0 σ H w):∀{xs ys:List V} {vs:List Value},AQ σ w xs vs->KY H xs=some ys->AQ (bare (gV w)) w ys vs/\Bz ys=true:=by
 intro xs;induction xs with
 | nil=>
  intro ys vs z q;cases z.FH;simp only[KY,Option.some.injEq]at q;subst q;exact⟨.nil,rfl⟩
 | cons x xs G=>
  intro ys vs z q;obtain⟨v,N,rfl,D,F⟩:=z.Dw;simp only[KY]at q;split at q
  ·rename_i y O A C;simp only[Option.some.injEq]at q;subst q;obtain⟨J,n1⟩:=Zvr h D A;obtain⟨M,I⟩:=G F C;exact⟨AQ.FC.2 ⟨J,M⟩,by simp[Bz,n1,I]⟩
  ·cases q
theorem ZbH {σ σ' : Sg} {w w' : World} {cs:List V} {ws:List Value} (h:AQ σ w cs ws) (q:cs.all Ig=true):AQ σ' w' cs ws:=by
 induction cs generalizing ws with
 | nil=>cases h.FH;exact .nil
 | cons c cs D=>
  obtain⟨v,vs,rfl,A,C⟩:=h.Dw;simp only[List.all_cons,Bool.and_eq_true]at q;refine AQ.FC.2 ⟨?_,D C q.2⟩;cases A with
  | lit z _=>exact .lit z .nil
  | _=>simp[Ig]at q
theorem ZvU {σ σ' : Sg} {w w' : World} {x:V} {u:Value} (h:AQ σ w [x] [u]) (z:Ji x=true):AQ σ' w' [x] [u]:=by
 cases h with
 | lit q _=>exact .lit q .nil
 | agg A C _=>exact .agg (ZbH A (by simpa[Ji]using z)) C .nil
 | _=>simp[Ji]at z
theorem ZuX {σ σ' : Sg} {w w' : World} {cs:List V} {ws:List Value} (h:AQ σ w cs ws) (q:cs.all Ji=true):AQ σ' w' cs ws:=by
 induction cs generalizing ws with
 | nil=>cases h.FH;exact .nil
 | cons c cs C=>
  obtain⟨v,vs,rfl,z,A⟩:=h.Dw;simp only[List.all_cons,Bool.and_eq_true]at q;exact AQ.FC.2 ⟨ZvU z q.1,C A q.2⟩
theorem Zxi {σ σ' : Sg} {w w' : World} {x:V} {u:Value} (h:AQ σ w [x] [u]) (z:O7 x=true):AQ σ' w' [x] [u]:=by
 cases h with
 | lit A _=>exact .lit A .nil
 | agg q C _=>exact .agg (ZbH q (by simpa[O7,Ji]using z)) C .nil
 | BL q _=>exact .BL (ZuX q (by simpa[O7]using z)) .nil
 | _=>simp[O7,Ji]at z
theorem Zra {P:Program} {E:Env} {B:Nat} {w0:Start} {σ:Sg} {H:Heap} {w:World} {f:FuncId} {args as:List V} {r:V} {vs:List Value} (ts:List TypeId) (hp:Bz (GM E.rows ts as)=true->OT P E f (GM E.rows ts as) r) (Q:KY H args=some as) (G:O7 r=true) (C:Inv B w0 σ H w) (S:Di E σ w) (hr:AQ σ w args vs) :
  Calls P f vs.toArray w fun e w' =>∃u σ',e = .returned u/\Inv B w0 σ' (bump H (args.flatMap Dj)) w' /\ Ext σ w σ' w' /\ AQ σ' w' [r] [u]:=by
 obtain⟨D,q⟩:=C.freeze (args.flatMap Dj);obtain⟨r1,n1⟩:=ZpH C hr Q;have J:=Z0k E.rows ts r1;refine(hp (by rw[kM];exact n1) (gV w) w vs (fun b c h=>h) (S.bare (fun b c h=>⟨C.cells b c h,rfl⟩) (EP.refl _)) J).mono ?_
 rintro e w' ⟨u,O,rfl,hb,I,N,A,M,Y⟩
 obtain⟨F,z⟩:=D.grown (Below.grownBy hb);exact⟨u,_,rfl,F,q.trans z,Zxi M G⟩
theorem Z3a (hE:Cf E) (hP:E.P=P) (hF:Qg P E):∀(n:Nat) (B:Nat) (w0:Start),JH P E B w0 (En E n):=by
 intro n;induction n with
 | zero=>intro B w0 f args H x H' σ w vs h;cases h
 | succ n ih=>
  intro B w0 f args H x H' σ w vs h J S O;unfold En at h;cases A:E.env f with
  | some F=>
   simp only[A]at h
   by_cases hq:args.any TG=true
   ·rw[if_pos hq]at h;cases G:E.own f with
    | some e=>simp[G]at h
    | none=>
     cases C:KY H args with
     | none=>simp[G,C]at h
     | some as=>
      simp only[G,C]at h;cases q:F (GM E.rows (E.par f) as) with
      | none=>simp[q]at h
      | some r=>
       simp only[q]at h;split at h
       ·rename_i hfl;simp only[Option.some.injEq,Prod.mk.injEq]at h;obtain⟨rfl,rfl⟩:=h;obtain⟨Q,Y⟩:=hF.env f F A;refine⟨Q,Zra (E.par f) (fun hn=>?_) C hfl J S O⟩;have I:=Y _ r hn q;rw[G]at I;exact I
       ·cases h
   rw[if_neg hq]at h;cases C:FI H args with
   | none=>simp[C]at h
   | some as=>
    simp only[C]at h;cases q:F (GM E.rows (E.par f) as) with
    | none=>
     cases G:E.own f<;>simp[G,q]at h
    | some r=>
     obtain⟨Q,Y⟩:=hF.env f F A;have I:=Y _ r (by rw[kM];exact Xm J O C) q;cases G:E.own f with
     | none=>
      simp only[G,q,Option.map_some,Option.some.injEq,Prod.mk.injEq]at h;obtain⟨rfl,rfl⟩:=h;rw[G]at I;exact⟨Q,Zbo (E.par f) I C J S O⟩
     | some e=>
      simp only[G,q]at h;rw[G]at I;split at h
      ·rename_i sz xs hr0;simp only[Option.some.injEq,Prod.mk.injEq]at h hr0;obtain⟨rfl,rfl⟩:=h;exact⟨Q,ZbL (E.par f) (I sz xs hr0) C J S O⟩
      ·cases h
  | none=>
   simp only[A]at h;split at h
   ·cases z:E.func f with
    | none=>simp[z]at h
    | some fn=>
     simp only[z]at h;cases C:FI H args with
     | none=>simp[C]at h
     | some as=>
      simp only[C]at h;cases D:P9 (En E n) n E f fn as [] with
      | none=>simp[D]at h
      | some rr=>
       obtain⟨r0,H2⟩:=rr;simp only[D]at h;cases M:JL H2 r0 with
       | none=>simp[M]at h
       | some r=>
        simp only[M,Option.map_some,Option.some.injEq,Prod.mk.injEq]at h;obtain⟨rfl,rfl⟩:=h;have hent:OG P f:=by
         obtain⟨hf1,hf2⟩:=hE.func f fn z;rw[hP]at hf1;refine⟨fn,hf1,?_,hf2⟩;unfold P9 at D;cases hb:fn.body with
         | none=>simp[hb]at D
         | some c=>rfl
        exact⟨hent,Zbo [] (by simpa[GM]using ZbN hE hP ih (Uc n) z D M) C J S O⟩
   ·cases N:E.hm f (if Pe E f then [] else MF args) with
    | some hs=>
     simp only[N]at h;obtain⟨Q,Y⟩:=hF.hm f _ hs N;exact⟨Q,Zz3 Y h J S O⟩
    | none=>
     simp only[N]at h;cases z:E.func f with
     | none=>simp[z]at h
     | some fn=>
      simp only[z]at h;exact ZdK hE hP (ih B w0) (Uc n) z h J S O
theorem ZyW {n:Nat} {as:List V} {r:V} {H' : Heap} (D:Cf E) (F:E.P=P) (I:Qg P E) (M:E.pure f=true) (C:E.env f=none) (J:FI [] as=some as) (h:En E (n+1) f as []=some (r,H')):OT P E f as r:=by
 unfold En at h;simp only[C,M,if_true]at h;cases z:E.func f with
 | none=>simp[z]at h
 | some fn=>
  simp only[z,J]at h;cases q:P9 (En E n) n E f fn as [] with
  | none=>simp[q]at h
  | some O=>
   obtain⟨N,G⟩:=O;simp only[q]at h;cases A:JL G N with
   | none=>simp[A]at h
   | some Q =>
    simp only[A,Option.map_some,Option.some.injEq,Prod.mk.injEq]at h;obtain⟨rfl,_⟩:=h;exact ZbN D F (Z3a D F I n) (Uc n) z q A
end
end Go.Proofs.YtjodhcdmhobmoaaGreatDoor.Le
namespace Go.Proofs.YtjodhcdmhobmoaaGreatDoor.Le
inductive SV (Ty:Nat->Type) where
 | lit (v:Value)
 | si (k:IntKind) (a:Int)
 | sb (b:Bool)
 | ss (s:ByteArray)
 | agg (cs:List (SV Ty))
 | BL (vs:List (SV Ty))
 | nil (e:Nat)
 | sl (t:Nat) (xs:List (Ty t))
 | Ce (t:Nat) (xs:List (Ty t))
 | all (id n:Nat)
 | Bc (id off len tot:Nat)
 | ptr (id i off tot:Nat)
 | CG (t:Nat) (xs:List (Ty t)) (i off:Nat)
 | fn (f:FuncId) (first caps:List (SV Ty))
 | raw (v:V)
 | Og (kvs:List (SV Ty))
 | Td (d:Nat) (cs:List V) (off:Nat)
 | no
 | und
instance (Ty:Nat->Type):Inhabited (SV Ty):=⟨.und⟩
structure Cc where
 Ty:Nat->Type
 Ar:Nat->Nat
 enc:(t:Nat)->Ty t->V
 encS:(t:Nat)->Ty t->SV Ty
 Gv:(t:Nat)->SV Ty->Option (Ty t)
 keys:List Nat
section
variable (U:Cc)
mutual
def AU:SV U.Ty->V
 | .lit v=>.lit v
 | .si k a=>.lit (.int k a)
 | .sb b=>.lit (.bool b)
 | .ss s=>.lit (.string s)
 | .agg cs=>.agg (Au cs)
 | .BL cs=>.BL (Au cs)
 | .nil e=>.sl true e []
 | .sl t xs=>.sl false (U.Ar t) (xs.map (U.enc t))
 | .Ce t xs=>.Ce false (U.Ar t) (xs.map (U.enc t))
 | .all id n=>.Bc id 0 n n
 | .Bc id off len tot=>.Bc id off len tot
 | .ptr id i off tot=>.ptr id i off tot
 | .CG t xs i off=>.CG (U.Ar t) (xs.map (U.enc t)) i off
 | .fn f a b=>.fn f (Au a) (Au b)
 | .raw v=>v
 | .Og cs=>.GY (Au cs)
 | .Td d cs off=>.CG d [.agg cs] 0 off
 | .no=>.no
 | .und=>.und
def Au:List (SV U.Ty)->List V
 | []=>[]
 | x::xs=>AU x::Au xs
end
inductive MP (Ty:Nat->Type) where
 | var (elem:TypeId) (Ar:Nat) (x:SV Ty)
 | row (t:Nat) (xs:List (Ty t)) (fl:Option Nat)
 | dead
 | fvar (elem:TypeId) (Ar:Nat) (x:SV Ty)
def MP.floor {Ty:Nat->Type} (fl:Option Nat):Nat:=fl.getD 0
def CU:MP U.Ty->Box
 | .var e n x=>Bg false false e n [AU U x]
 | .row t xs fl=>{ live:=true,row:=true,EZ:=false,elem:=t,Ar:=U.Ar t,xs:=xs.map (U.enc t),floor:=fl.getD 0 }
 | .dead=>Q9
 | .fvar e n x=>{ Bg false false e n [AU U x] with floor:=1 }
abbrev BH:=List (MP U.Ty)
def BO (H:BH U):Heap:=H.map (CU U)
structure Df where
 s:List (SV U.Ty)
 H:BH U
def CX (st:Df U):St:=⟨Au U st.s,BO U st.H⟩
inductive Tr (L:Type) where
 | leaf (l:L)
 | br (c:Bool) (a b:Tr L)
 | bind (t:Nat) (o:Option (U.Ty t)) (k:U.Ty t->Tr L)
 | chk (c:Bool) (a:Tr L)
 | fail
variable {U}
def Tr.andThen {L M:Type}:Tr U L->(L->Tr U M)->Tr U M
 | .leaf l,f=>f l
 | .br c a b,f=>.br c (a.andThen f) (b.andThen f)
 | .bind t o k,f=>.bind t o fun x=>(k x).andThen f
 | .chk c a,f=>.chk c (a.andThen f)
 | .fail,_=>.fail
def Tr.map {L M:Type} (g:L->M):Tr U L->Tr U M
 | .leaf l=>.leaf (g l)
 | .br c a b=>.br c (a.map g) (b.map g)
 | .bind t o k=>.bind t o fun x=>(k x).map g
 | .chk c a=>.chk c (a.map g)
 | .fail=>.fail
def Tr.den {L R:Type} (J:L->Option R):Tr U L->Option R
 | .leaf l=>J l
 | .br c a b=>cond c (a.den J) (b.den J)
 | .bind t o k=>o.bind fun x=>(k x).den J
 | .chk c a=>cond c (a.den J) none
 | .fail=>none
def Tr.AZ {L:Type}:Tr U L->L->Prop
 | .leaf l,x=>l=x
 | .br c a b,x=>(c=true/\a.AZ x)\/(c=false/\b.AZ x)
 | .bind t o k,x=>∃a,o=some a/\(k a).AZ x
 | .chk c a,x=>c=true/\a.AZ x
 | .fail,_=>False
def Tr.opt {L:Type}:Option L->Tr U L
 | some l=>.leaf l
 | none=>.fail
def Tr.when {L:Type} (p:Prop) [Decidable p] (a:Tr U L):Tr U L:=if p then a else .fail
variable (U)
def Qv:V->SV U.Ty
 | .lit v=>.lit v
 | .sl true e []=>.nil e
 | .no=>.no
 | .und=>.und
 | v=>.raw v
def JY:V->SV U.Ty
 | .agg cs=>.agg (cs.map (Qv U))
 | v=>Qv U v
variable {U}
def cellsS:SV U.Ty->List (SV U.Ty)
 | .agg cs=>cs
 | v=>[v]
def okS:SV U.Ty->Bool
 | .und | .no | .BL _ | .Og _ | .Td ..=>false
 | .raw (.agg _)=>false
 | .raw v=>okV v
 | _=>true
def Vj:SV U.Ty->Option Value
 | .lit v=>some v
 | .si k a=>some (.int k a)
 | .sb b=>some (.bool b)
 | .ss s=>some (.string s)
 | _=>none
def asInt:SV U.Ty->Option (IntKind×Int)
 | .lit (.int k a)=>some (k,a)
 | .si k a=>some (k,a)
 | _=>none
def JJ:SV U.Ty->Option ByteArray
 | .lit (.string s)=>some s
 | .ss s=>some s
 | _=>none
def asBool:SV U.Ty->Option Bool
 | .lit (.bool b)=>some b
 | .sb b=>some b
 | _=>none
def DD (E:Env) (s:List (SV U.Ty)):Operand->SV U.Ty
 | .tmp t=>s.getD t .und
 | .const v=>JY U (PU v)
 | .func f=>.fn f [] []
 | .global g=>match E.Ef g with|some r=>.raw (.CG r.length [.agg r] 0 0)|none=>.und
def Qy (s:List (SV U.Ty)) (d:Option Tmp) (v:SV U.Ty):List (SV U.Ty):=match d with|some t=>s.set t v|none=>s
def OI (H:BH U) (k:Nat) (b:MP U.Ty):BH U:=if k<H.length then H.set k b else H++[b]
def rowAt {L:Type} (H:BH U) (id tot:Nat) (k:(t:Nat)->List (U.Ty t)->Option Nat->Tr U L):Tr U L:=
 match H[id]? with
 | some (.row t xs fl)=>.chk (xs.length==tot) (k t xs fl)
 | _=>.fail
def NQ (H:BH U):SV U.Ty->Tr U (SV U.Ty)
 | .lit v=>.leaf (.lit v)
 | .si k a=>.leaf (.si k a)
 | .sb b=>.leaf (.sb b)
 | .ss s=>.leaf (.ss s)
 | .nil e=>.leaf (.nil e)
 | .sl t xs=>.leaf (.sl t xs)
 | .Ce t xs=>.leaf (.sl t xs)
 | .all id n=>rowAt H id n fun t xs _=>.leaf (.sl t xs)
 | .Bc id off len tot=>rowAt H id tot fun t xs _=>.chk (decide (off+len<=tot)) (.leaf (.sl t ((xs.drop off).take len)))
 | .fn f [] []=>.leaf (.fn f [] [])
 | _=>.fail
def TJ (H:BH U):List (SV U.Ty)->Tr U (List (SV U.Ty))
 | []=>.leaf []
 | v::vs=>(NQ H v).andThen fun w=>(TJ H vs).andThen fun ws=>.leaf (w::ws)
def Qx (H:BH U):SV U.Ty->Tr U (SV U.Ty)
 | .agg cs=>(TJ H cs).andThen fun ws=>.leaf (.agg ws)
 | v=>NQ H v
def PM (H:BH U):List (SV U.Ty)->Tr U (List (SV U.Ty))
 | []=>.leaf []
 | v::vs=>(Qx H v).andThen fun w=>(PM H vs).andThen fun ws=>.leaf (w::ws)
def OZ:SV U.Ty->List Nat
 | .Bc id _ _ _=>[id]
 | .all id _=>[id]
 | .raw v=>Ez v
 | _=>[]
def NS:SV U.Ty->List Nat
 | .agg cs=>cs.flatMap OZ
 | .raw v=>Dj v
 | v=>OZ v
def rU:MP U.Ty->MP U.Ty
 | .row t xs _=>.row t xs (some xs.length)
 | b=>b
def Pj (H:BH U):List Nat->BH U
 | []=>H
 | i::q=>Pj (H.modify i rU) q
def Qm (cs:List (SV U.Ty)) (off n:Nat) (isAgg:Bool):Option (SV U.Ty):=
 if isAgg then (if off+n<=cs.length then some (.agg ((cs.drop off).take n)) else none) else cs[off]?
def Qe (e:Nat):List (SV U.Ty)->Option (List (U.Ty e))
 | []=>some []
 | v::vs=>match okS v,U.Gv e v,Qe e vs with|true,some a,some as=>some (a::as)|_,_,_=>none
def loadT (E:Env) (H:BH U) (t:TypeId) (a:SV U.Ty):Tr U (SV U.Ty):=
 match E.ti t with
 | none=>.fail
 | some i=>
  match a with
  | .CG q xs j off=>.bind q xs[j]? fun x=>.opt (Qm (cellsS (U.encS q x)) off i.size i.isAgg)
  | .ptr id j off tot=>match H[id]? with
   | some (.var _ _ x)=>.when (j=0/\tot=1/\okS x=true) (.opt (Qm (cellsS x) off i.size i.isAgg))
   | some (.row q xs _)=>.chk (xs.length==tot) (.bind q xs[j]? fun x=>.opt (Qm (cellsS (U.encS q x)) off i.size i.isAgg))
   | _=>.fail
  | .raw (.CG _ [.lit z] 0 0)=>.opt (Qm [.lit z] 0 i.size i.isAgg)
  | .raw (.CG _ [.agg cs] 0 off)=>.opt ((partOf cs off i.size i.isAgg).map (JY U))
  | .Td _ cs off=>match Qe t (cs.map (Qv U)) with
   | some ys=>.when (i.size=1/\i.isAgg=false/\cs.all Ig=true) (.bind t ys[off]? fun x=>.leaf (U.encS t x))
   | none=>.fail
  | _=>.fail
def sF (x:SV U.Ty) (off:Nat) (cs:List (SV U.Ty)):Option (SV U.Ty):=
 match x with
 | .agg q=>if off+cs.length<=q.length then some (.agg (q.take off++cs++q.drop (off+cs.length))) else none
 | .raw _=>none
 | _=>match off,cs with|0,[c]=>some c|_,_=>none
def storeT (E:Env) (H:BH U) (t:TypeId) (a v:SV U.Ty):Tr U (BH U):=
 match E.ti t with
 | none=>.fail
 | some i=>
  match a with
  | .ptr id j off tot=>match H[id]? with
   | some (.var e n x)=>.when ((j=0/\tot=1)/\(cellsS v).length=i.size/\okS v=true/\okS x=true)
     (match sF x off (cellsS v) with
      | some q =>.when (okS q = true) (.leaf (H.set id (.var e n q)))
      | none=>.fail)
   | some (.row z xs fl)=>.when ((cellsS v).length=i.size/\okS v=true/\(NS v).contains id=false)
     (.chk (xs.length==tot&&decide (fl.getD 0<=j)) (.bind z xs[j]? fun x=>(Qx H v).andThen fun v' =>
      match sF (U.encS z x) off (cellsS v') with
      | some q =>match U.Gv z q with
       | some y=>.when (okS v' = true/\okS q = true) (.leaf ((Pj H (NS v)).set id (.row z (xs.set j y) fl)))
       | none=>.fail
      | none=>.fail))
   | _=>.fail
  | _=>.fail
end
section
variable {U:Cc}
def intT (op:BinOp) (k:IntKind) (a b:Int) (lit:Bool):Tr U (SV U.Ty):=
 match op with
 | .add=>.leaf (.si k (k.wrap (a+b)))
 | .sub=>.leaf (.si k (k.wrap (a - b)))
 | .mul=>.leaf (.si k (k.wrap (a*b)))
 | .quo=>if lit then (if b=0 then .fail else .leaf (.si k (k.wrap (a.tdiv b)))) else .chk (b != 0) (.leaf (.si k (k.wrap (a.tdiv b))))
 | .rem=>if lit then (if b=0 then .fail else .leaf (.si k (a.tmod b))) else .chk (b != 0) (.leaf (.si k (a.tmod b)))
 | .and | .or | .xor | .andNot=>.leaf (.si k (bits op k a b))
 | .eql=>.leaf (.sb (a==b))
 | .neq=>.leaf (.sb (a != b))
 | .lss=>.leaf (.sb (decide (a<b)))
 | .leq=>.leaf (.sb (decide (a<=b)))
 | .gtr=>.leaf (.sb (decide (a>b)))
 | .geq=>.leaf (.sb (decide (a>=b)))
 | _=>.fail
def Zef (op:BinOp) (k:IntKind) (a b:Int):Option Int:=
 match op with
 | .shl=>some (k.wrap (a*2 ^ min b.toNat k.bits))
 | .shr=>some (a.fdiv (2 ^ min b.toNat k.bits))
 | _=>none
def sS (op:BinOp) (k:IntKind) (a b:Int) (lit:Bool):Tr U (SV U.Ty):=
 match Zef op k a b with
 | none=>.fail
 | some r=>if lit then (if b<0 then .fail else .leaf (.si k r)) else .chk (decide (0<=b)) (.leaf (.si k r))
def strT (op:BinOp) (x y:ByteArray):Tr U (SV U.Ty):=
 match op with
 | .add=>.chk (decide (x.size+y.size<=maxLen)) (.leaf (.ss (x++y)))
 | .eql=>.leaf (.sb (x.toList==y.toList))
 | .neq=>.leaf (.sb !(x.toList==y.toList))
 | .lss=>.leaf (.sb (Op.bytesLess x.toList y.toList))
 | .leq=>.leaf (.sb (Op.bytesLess x.toList y.toList||x.toList==y.toList))
 | .gtr=>.leaf (.sb !(Op.bytesLess x.toList y.toList||x.toList==y.toList))
 | .geq=>.leaf (.sb !(Op.bytesLess x.toList y.toList))
 | _=>.fail
def NI:List FK->List (SV U.Ty)->List (SV U.Ty)->Option Bool
 | [],[],[]=>some true
 | .b::ks,x::xs,y::ys=>match asBool x,asBool y,NI ks xs ys with|some a,some b,some r=>some (a==b&&r)|_,_,_=>none
 | .i k::ks,x::xs,y::ys=>match asInt x,asInt y,NI ks xs ys with
  | some (k1,a),some (k2,b),some r=>if k1=k/\k2=k then some (a==b&&r) else none
  | _,_,_=>none
 | .s::ks,x::xs,y::ys=>match JJ x,JJ y,NI ks xs ys with|some a,some b,some r=>some (a==b&&r)|_,_,_=>none
 | _,_,_=>none
def isLit:SV U.Ty->Bool | .lit _=>true|_=>false
def Z4d:SV U.Ty->SV U.Ty | .si k a=>.lit (.int k a) | .sb b=>.lit (.bool b)|v=>v
def binT (E:Env) (op:BinOp) (t:TypeId) (x y:SV U.Ty):Tr U (SV U.Ty):=
 match x,y with
 | .agg xs,.agg ys=>match E.flat t with
  | some ks=>match NI ks xs ys with
   | some b=>(match op with | .eql=>.leaf (.sb b) | .neq=>.leaf (.sb !b)|_=>.fail)
   | none=>.fail
  | none=>.fail
 | x,y=>match asInt x,asInt y with
  | some (k,a),some (j,b)=>(match op with
   | .shl=>sS .shl k a b (isLit y)
   | .shr=>sS .shr k a b (isLit y)
   | op=>if k=j then intT op k a b (isLit y) else .fail)
  | _,_=>match JJ x,JJ y with
   | some a,some b=>strT op a b
   | _,_=>match asBool x,asBool y with
    | some a,some b=>if E.isBool t then (match op with | .eql=>.leaf (.sb (a==b)) | .neq=>.leaf (.sb (!(a==b)))|_=>.fail) else .fail
    | _,_=>.fail
def unT (op:UnOp) (x:SV U.Ty):Tr U (SV U.Ty):=
 match op,asInt x,asBool x with
 | .neg,some (k,n),_=>.leaf (.si k (k.wrap (0 - n)))
 | .xor,some (k,n),_=>.leaf (.si k (bits .xor k (if k.signed then -1 else k.max) n))
 | .not,_,some b=>.leaf (.sb !b)
 | _,_,_=>.fail
def gY (q:Bool) (k:IntKind):Int->List (SV U.Ty)->Option Int
 | a,[]=>some a
 | a,x::z=>match asInt x with
  | some (j,b)=>if k=j then gY q k (if q then (if b>a then b else a) else (if b<a then b else a)) z else none
  | none=>none
def rZ (q:Bool):List (SV U.Ty)->Tr U (SV U.Ty)
 | x::z=>match asInt x with
  | some (k,a)=>(match gY q k a z with|some r=>.leaf (.si k r)|none=>.fail)
  | none=>.fail
 | []=>.fail
def Qn (cs:List (SV U.Ty)):List (Nat×SV U.Ty)->(Nat->Option (Nat×Nat))->Option (List (SV U.Ty))
 | [],_=>some cs
 | (i,v)::q,place=>
  match place i with
  | none=>none
  | some (off,size)=>if (cellsS v).length==size&&decide (off+size<=cs.length)&&okS v then Qn (cs.take off++cellsS v++cs.drop (off+size)) q place else none
def Z3U (E:Env) (t:TypeId) (q:List (Nat×SV U.Ty)):Option (SV U.Ty):=
 match E.ti t with
 | some i=>match i.zero with
  | some z=>
   if okV z then
    match i.ty with
    | .struct fs=>if fs.all fun x=>(E.ti x.2).isSome then (Qn (cellsS (JY U z)) q (placesOf E fs)).map .agg else none
    | .array _ e=>match E.ti e with
     | some A=>(Qn (cellsS (JY U z)) q (fun i=>some (i*A.size,A.size))).map .agg
     | none=>none
    | _=>none
   else none
  | none=>none
 | none=>none
def Z1m (E:Env) (k:Nat) (H:BH U) (t:TypeId) (n:Nat) (q:List (Nat×SV U.Ty)):Tr U (SV U.Ty×BH U):=
 match E.ti t with
 | some ⟨.slice e,_,_,_⟩=>match E.ti e with
  | some A=>match A.zero with
   | some z=>(PM H (q.map (·.2))).andThen fun vs=>match Qe e vs with
    | some ys=>.when ((n*A.size<=16777216/\0<A.size/\z.cells.length=A.size/\okV z=true)/\q.map (·.1)=List.range n/\vs.all (fun v=>(cellsS v).length==A.size)=true/\U.Ar e=A.size)
      (.leaf (.all k n,OI (Pj H ((q.map (·.2)).flatMap NS)) k (.row e ys none)))
    | none=>.fail
   | none=>.fail
  | none=>.fail
 | _=>.fail
def Z2i (E:Env) (s:TypeId) (x:SV U.Ty) (f:Nat):Option (SV U.Ty):=
 match E.ti s with
 | some ⟨.struct fs,_,_,_⟩=>match fs[f]? with
  | some (o,t)=>match E.size t with
   | some sz=>if sz=0 then none else match x with
    | .ptr id j off tot=>some (.ptr id j (off+o) tot)
    | .CG d xs j off=>some (.CG d xs j (off+o))
    | .raw (.CG d xs j off)=>some (.raw (.CG d xs j (off+o)))
    | _=>none
   | none=>none
  | none=>none
 | _=>none
def Z3F (E:Env) (s:TypeId) (x:SV U.Ty) (f:Nat):Option (SV U.Ty):=
 match E.ti s,x with
 | some ⟨.struct fs,_,_,_⟩,.agg cs=>match fs[f]? with
  | some (o,t)=>match E.ti t with|some i=>Qm cs o i.size i.isAgg|none=>none
  | none=>none
 | _,_=>none
def sH (H:BH U) (x:SV U.Ty) (e:Nat):Tr U (List (U.Ty e)):=
 let q (t:Nat) (xs:List (U.Ty t)):Tr U (List (U.Ty e)):=if h:t=e then .leaf (h▸xs) else .fail
 match x with
 | .nil _=>.leaf []
 | .sl t xs=>q t xs
 | .Ce t xs=>q t xs
 | .all id n=>rowAt H id n fun t xs _=>q t xs
 | .Bc id off len tot=>rowAt H id tot fun t xs _=>.chk (decide (off+len<=tot)) (q t ((xs.drop off).take len))
 | _=>.fail
def Z3C (E:Env) (k:Nat) (H:BH U) (t u:TypeId) (s x:SV U.Ty):Tr U (SV U.Ty×BH U):=
 match E.ti t with
 | some ⟨.slice e,_,_,_⟩=>match E.ti e with
  | some q=>.when (u=t/\0<q.size/\q.Ti=true/\U.Ar e=q.size) ((sH H x e).andThen fun ys=>
    match s with
    | .all id n=>rowAt H id n fun z xs fl=>if h:z = e then
      .chk (decide ((n+ys.length)*q.bytes<=lim)&&decide (n+ys.length<=maxLen))
       (.leaf (.all id ((h▸xs:List (U.Ty e))++ys).length,H.set id (.row e ((h▸xs:List (U.Ty e))++ys) fl)))
     else .fail
    | .Bc id off len tot=>rowAt H id tot fun z xs fl=>if h:z = e then
      .chk (decide (off=0)&&(decide (fl.getD 0<=len)&&(decide (len<tot)&&decide (len+ys.length<=tot))))
       (.leaf (.Bc id 0 (len+ys.length) tot,H.set id (.row e ((h▸xs:List (U.Ty e)).take len++ys++(h▸xs:List (U.Ty e)).drop (len+ys.length)) fl)))
     else .fail
    | .nil _=>.chk (decide (ys.length*q.bytes<=lim)&&decide (ys.length<=maxLen)) (.leaf (.all k ys.length,OI H k (.row e ys none)))
    | .Ce z xs=>if h:z = e then
      .chk (decide ((xs.length+ys.length)*q.bytes<=lim)&&decide (xs.length+ys.length<=maxLen))
       (.br ys.isEmpty (.leaf (.Ce z xs,H)) (.leaf (.all k ((h▸xs:List (U.Ty e))++ys).length,OI H k (.row e ((h▸xs:List (U.Ty e))++ys) none))))
     else .fail
    | _=>.fail)
  | none=>.fail
 | _=>.fail
def Z4h (E:Env) (H:BH U) (t u:TypeId) (d x:SV U.Ty):Tr U (SV U.Ty×BH U):=
 match E.ti t with
 | some ⟨.slice e,_,_,_⟩=>match E.ti e with
  | some q=>.when (U.Ar e=q.size) ((sH H x e).andThen fun ys=>
    match d with
    | .all id n=>rowAt H id n fun z xs fl=>if h:z = e then
      .when (fl.getD 0=0) (.leaf (.si .i64 (min ys.length xs.length:Nat),H.set id (.row e (ys.take xs.length++(h▸xs:List (U.Ty e)).drop ys.length) fl)))
     else .fail
    | _=>.fail)
  | none=>.fail
 | _=>.fail
def lenT (x:SV U.Ty):Option Nat:=
 match x with
 | .nil _=>some 0
 | .sl _ xs=>some xs.length
 | .Ce _ xs=>some xs.length
 | .lit (.string s)=>some s.size
 | .ss s=>some s.size
 | _=>none
def NP {L:Type} (H:BH U) (x:SV U.Ty) (k:Nat->Tr U L):Tr U L:=
 match x with
 | .all id n=>rowAt H id n fun _ _ _=>k n
 | .Bc id _ len tot=>rowAt H id tot fun _ _ _=>k len
 | x=>match lenT x with|some n=>k n|none=>.fail
def TD (x:SV U.Ty):Bool:=(JJ x).isSome
def Z36 (E:Env) (t:TypeId) (x:SV U.Ty):Bool:=
 if TD x then E.isStr t else match E.ti t with|some ⟨.slice _,_,_,_⟩=>true|_=>false
def fC {L:Type} (x:Option (SV U.Ty)) (z q:Nat) (k:Nat->Tr U L):Tr U L:=
 match x with
 | none=>k q
 | some v=>match asInt v with
  | some (_,n)=>.chk (decide (0<=n/\n<=z)) (k n.toNat)
  | none=>.fail
def Z3Y (E:Env) (H:BH U) (x:SV U.Ty) (n:Nat):Bool:=
 match x with
 | .nil _=>true
 | .sl t _=>U.Ar t==n
 | .Ce t _=>U.Ar t==n
 | .all id _ | .Bc id _ _ _=>match H[id]? with|some (.row t _ _)=>U.Ar t==n|_=>false
 | _=>false
def Z20 (E:Env) (H:BH U) (t:TypeId) (x:SV U.Ty):Bool:=
 if TD x then E.isStr t else match E.ti t with
  | some ⟨.slice e,_,_,_⟩=>match E.ti e with|some q=>Z3Y E H x q.size|none=>false
  | _=>false
def sliceT (E:Env) (H:BH U) (t:TypeId) (x:SV U.Ty) (z q A:Option (SV U.Ty)):Tr U (SV U.Ty×BH U):=
 if Z20 E H t x then
  NP H x fun n=>fC q n n fun h=>fC z h 0 fun l=>
   match A with
   | some m=>(match q with
    | none=>.fail
    | some _=>fC (some m) n n fun k=>.chk (k==h)
     (match x with
      | .sl e xs=>.leaf (.Ce e ((xs.drop l).take (h - l)),H)
      | .Ce e xs=>.leaf (.Ce e ((xs.drop l).take (h - l)),H)
      | .all id n=>rowAt H id n fun e xs _=>.leaf (.Ce e ((xs.drop l).take (h - l)),Pj H [id])
      | _=>.fail))
   | none=>match x with
    | .nil e=>.leaf (.nil e,H)
    | .sl e xs=>.leaf (.sl e ((xs.drop l).take (h - l)),H)
    | .Ce e xs=>.leaf (.sl e ((xs.drop l).take (h - l)),H)
    | .all id n=>(match z,q with
     | none,none=>.leaf (.all id n,H)
     | _,_=>.leaf (.Bc id l (h - l) n,H))
    | .Bc id off _ tot=>.leaf (.Bc id (off+l) (h - l) tot,H)
    | x=>match JJ x with
     | some s=>.leaf (.ss (s.extract l h),H)
     | none=>.fail
 else .fail
def Z2R (x:Option (SV U.Ty)) (n:Nat):Option Nat:=match x with
 | none=>some n
 | some (.lit (.int _ h))=>if 0<=h/\h<=n then some h.toNat else none
 | _=>none
def Z3r (E:Env) (H:BH U) (n e:Nat) (x:SV U.Ty) (A z C:Option (SV U.Ty)):Tr U (SV U.Ty×BH U):=
 match x,A,Z2R z n,C with
 | .ptr id i off tot,none,some m,none=>match H[id]? with
  | some (.var q k (.agg cs))=>match Qe e cs with
   | some ys=>.when ((i=0/\off=0/\tot=1/\cs.length=n/\n<=maxLen)/\E.size e=some 1/\U.Ar e=1/\cs.all (fun c=>(Vj c).isSome)=true) (.leaf (.sl e (ys.take m),H.set id (.fvar q k (.agg cs))))
   | none=>.fail
  | _=>.fail
 | _,_,_,_=>.fail
def uQ {L:Type} {t:Nat} (xs:List (U.Ty t)):Nat->Nat->(List Value->Tr U L)->Tr U L
 | _,0,k=>k []
 | i,n+1,k=>.bind t xs[i]? fun x=>match Vj (U.encS t x) with|some v=>uQ xs (i+1) n fun vs=>k (v::vs)|none=>.fail
def arrT (E:Env) (t:TypeId) (x:SV U.Ty):Tr U (SV U.Ty):=
 match E.ti t,x with
 | some ⟨.array n e,_,_,_⟩,.sl q xs=>.when (E.size e=some 1/\U.Ar q = 1/\0<n) (uQ xs 0 n fun vs=>.leaf (.raw (.CG n [.agg (vs.map .lit)] 0 0)))
 | _,_=>.fail
def S9 {L:Type} (n:Int) (lit:Bool) (len:Nat) (k:Nat->Tr U L):Tr U L:=
 if lit then (if 0<=n/\n<len then k n.toNat else .fail)
 else (List.range len).foldr (fun(i:Nat) q=>.br (n==(i:Int)) (k i) q) .fail
def Z1X (E:Env) (H:BH U) (t:TypeId) (x i:SV U.Ty):Tr U (SV U.Ty):=
 match asInt i,E.ti t with
 | some (_,n),some ti=>
  match ti.ty with
  | .slice z=>(match x with
   | .sl q xs=>.when (E.size z=some (U.Ar q)) (.chk (decide (0<=n/\n<xs.length)) (.leaf (.CG q xs n.toNat 0)))
   | .Ce q xs=>.when (E.size z=some (U.Ar q)) (.chk (decide (0<=n/\n<xs.length)) (.leaf (.CG q xs n.toNat 0)))
   | .all id m=>rowAt H id m fun q xs _=>.when (E.size z=some (U.Ar q)) (.chk (decide (0<=n/\n<m)) (.leaf (.ptr id n.toNat 0 m)))
   | .Bc id off len tot=>rowAt H id tot fun q xs _=>.when (E.size z=some (U.Ar q)) (.chk (decide (0<=n/\n<len)) (.leaf (.ptr id (off+n.toNat) 0 tot)))
   | _=>.fail)
  | .array len e=>(match E.size e with
   | none=>.fail
   | some sz=>match x with
    | .ptr id j off tot=>S9 n (isLit i) len fun m=>.leaf (.ptr id j (off+m*sz) tot)
    | .CG d xs j off=>S9 n (isLit i) len fun m=>.leaf (.CG d xs j (off+m*sz))
    | .raw (.CG d [.agg cs] 0 0)=>if (decide (sz=1)&&(cs.all Ig && !isLit i))=true then .chk (decide (0<=n/\n<len)) (.leaf (.Td d cs n.toNat))
     else S9 n (isLit i) len fun m=>.leaf (.raw (.CG d [.agg cs] 0 (0+m*sz)))
    | .raw (.CG d xs j off)=>S9 n (isLit i) len fun m=>.leaf (.raw (.CG d xs j (off+m*sz)))
    | _=>.fail)
  | _=>.fail
 | _,_=>.fail
def Z3M (E:Env) (t:TypeId) (x i:SV U.Ty):Tr U (SV U.Ty):=
 match asInt i with
 | some (_,n)=>
  match E.ti t,x with
  | some ⟨.array len e,_,_,_⟩,.agg cs=>match E.ti e with
   | some q=>S9 n (isLit i) len fun m=>.opt (Qm cs (m*q.size) q.size q.isAgg)
   | none=>.fail
  | some ⟨.scalar,_,_,_⟩,x=>match JJ x with
   | some s=>if E.isStr t then .chk (decide (0<=n/\n<s.size)) (.leaf (.si .u8 (s.get! n.toNat).toNat)) else .fail
   | none=>.fail
  | _,_=>.fail
 | none=>.fail
def Lm (U:Cc) (t:Nat) (xs:List (U.Ty t)):Bool:=match bytesOf (xs.map (U.enc t)) with|some q=>decide (q.length<=maxLen)|none=>false
def strOf (U:Cc) (t:Nat) (xs:List (U.Ty t)):ByteArray:=⟨((bytesOf (xs.map (U.enc t))).getD []).toArray⟩
def V3 (t:Nat) (xs:List (U.Ty t)):Tr U (SV U.Ty):=.when (U.Ar t=1) (.chk (Lm U t xs) (.leaf (.ss (strOf U t xs))))
def Z3W (E:Env) (H:BH U) (q dst:TypeId) (x:SV U.Ty):Tr U (SV U.Ty):=
 .when ((E.isStr dst&&E.isBytes q)=true) (match x with
  | .nil _=>.leaf (.ss ⟨#[]⟩)
  | .sl t xs=>V3 t xs
  | .Ce t xs=>V3 t xs
  | .all id n=>rowAt H id n fun t xs _=>V3 t xs
  | .Bc id off len tot=>rowAt H id tot fun t xs _=>.chk (decide (off+len<=tot)) (V3 t ((xs.drop off).take len))
  | _=>.fail)
def Z4i (E:Env) (H:BH U) (q dst:TypeId) (x:SV U.Ty):Tr U (SV U.Ty):=
 match asInt x with
 | some (_,n)=>(match E.kind dst with
  | some k=>if (E.ti q).isSome then .leaf (.si k (k.wrap n)) else .fail
  | none=>.fail)
 | none=>match JJ x with
  | some s=>if E.isStr q&&E.isStr dst then .leaf (.ss s) else .fail
  | none=>Z3W E H q dst x
def Vf (U:Cc) (e:Nat) (st:ByteArray):Bool:=st.data.toList.all fun b=>(U.Gv e (.si .u8 b.toNat)).isSome
def J7 (U:Cc) (e:Nat) (st:ByteArray):List (U.Ty e):=st.data.toList.filterMap fun b=>U.Gv e (.si .u8 b.toNat)
def Z3R (E:Env) (k:Nat) (H:BH U) (dst:TypeId) (x:SV U.Ty):Tr U (SV U.Ty×BH U):=
 match JJ x,E.ti dst with
 | some st,some ⟨.slice e,_,_,_⟩=>.when (E.size e=some 1/\U.Ar e=1) (.chk (Vf U e st) (.leaf (.all k (J7 U e st).length,OI H k (.row e (J7 U e st) none))))
 | _,_=>.fail
abbrev IK (U:Cc):=FuncId->List (SV U.Ty)->BH U->Tr U (SV U.Ty×BH U)
def uO (x:SV U.Ty):Option (Int×Bool):=match x with | .lit (.int _ n)=>some (n,true) | .si _ n=>some (n,false)|_=>none
def JA (H:BH U) (T:Tr U (SV U.Ty)):Tr U (SV U.Ty×BH U):=T.andThen fun v=>.leaf (v,H)
def Z48 (E:Env) (M:IK U) (k:Nat) (H:BH U) (s:List (SV U.Ty)) (c:Call):Tr U (SV U.Ty×BH U):=
 match c.callee with
 | .builtin b=>(match b,c.args.toList.map (DD E s),c.argTypes.toList with
  | .len,[x],[t]=>if Z36 E t x then NP H x fun n=>.leaf (.si .i64 n,H) else .fail
  | .append,[a,x],[t,u]=>Z3C E k H t u a x
  | .copy,[d,x],[t,u]=>Z4h E H t u d x
  | .min,args,_=>JA H (rZ false args)
  | .max,args,_=>JA H (rZ true args)
  | _,_,_=>.fail)
 | .value f=>(match DD E s f with
  | .fn g first caps=>M g (first++c.args.toList.map (DD E s)++caps) H
  | _=>.fail)
 | _=>.fail
def Ph {L:Type} (kd:IntKind) (n:Int) (lit:Bool) (z:Tr U L) (f:SV U.Ty->Tr U L):List (SV U.Ty)->Tr U L
 | []=>z
 | .lit (.int k a)::v::r=>.when (k=kd) (if lit then (if n=a then f v else Ph kd n lit z f r) else .br (n==a) (f v) (Ph kd n lit z f r))
 | _=>.fail
def Z45 (E:Env) (t:TypeId) (ok:Bool) (m x:SV U.Ty):Tr U (SV U.Ty):=
 match E.ti t,m,asInt x with
 | some ⟨.map k e,_,_,_⟩,.Og kvs,some (kd,n)=>.when (E.kind k=some kd)
  (Ph kd n (isLit x) (match E.ti e with|some q=>(match q.zero with|some z=>.leaf (if ok then .BL [JY U z,.sb false] else JY U z)|none=>.fail)|none=>.fail)
   (fun v=>.leaf (if ok then .BL [v,.sb true] else v)) kvs)
 | _,_,_=>.fail
def iH (E:Env) (M:IK U) (k:Nat) (H:BH U) (s:List (SV U.Ty)) (o:Oper):Tr U (SV U.Ty×BH U):=
 match o.op with
 | .move x=>.leaf (DD E s x,H)
 | .assign (.const (.slice none 0 0))=>match E.ti o.type with
  | some ⟨.slice e,_,_,_⟩=>.when (U.Ar e=(E.size e).getD 0) (.leaf (.all k 0,OI H k (.row e [] none)))
  | _=>.fail
 | .assign x=>.leaf (DD E s x,H)
 | .pick c a b=>(match DD E s c with
  | .lit (.bool true)=>.leaf (DD E s a,H)
  | .lit (.bool false)=>.leaf (DD E s b,H)
  | .sb t=>(match asBool (DD E s a),asBool (DD E s b) with
   | some x,some y=>.leaf (.sb (cond t x y),H)
   | _,_=>.br t (.leaf (DD E s a,H)) (.leaf (DD E s b,H)))
  | _=>.fail)
 | .alloc t=>match E.ti t with
  | some i=>match i.zero with|some z=>.when (z.cells.length=i.size/\okV z=true) (.leaf (.ptr k 0 0 1,OI H k (.var t i.size (JY U z))))|none=>.fail
  | none=>.fail
 | .box t x=>match E.ti t with
  | some i=>.when ((cellsS (DD E s x)).length=i.size/\okS (DD E s x)=true) (.leaf (.ptr k 0 0 1,OI H k (.var t i.size (DD E s x))))
  | none=>.fail
 | .build t q=>JA H (.opt (Z3U E t (q.toList.map fun(i,x)=>(i,DD E s x))))
 | .buildSlice t n q=>Z1m E k H t n (q.toList.map fun(i,x)=>(i,DD E s x))
 | .load t a=>JA H (loadT E H t (DD E s a))
 | .store t a v=>(storeT E H t (DD E s a) (DD E s v)).andThen fun H' =>.leaf (.no,H')
 | .nilCheck x=>(match DD E s x with
  | .ptr a b c d=>.leaf (.ptr a b c d,H)
  | .CG a b c d=>.leaf (.CG a b c d,H)
  | .raw (.CG a b c d)=>.leaf (.raw (.CG a b c d),H)
  | .fn a b c=>.leaf (.fn a b c,H)
  | _=>.fail)
 | .binOp op t x y _=>JA H ((binT E op t (DD E s x) (DD E s y)).andThen fun v=>.leaf (if isLit (DD E s x)&&isLit (DD E s y) then Z4d v else v))
 | .unOp op _ x=>JA H (unT op (DD E s x))
 | .convert C dst x=>if E.isStr C&&E.isBytes dst then Z3R E k H dst (DD E s x) else JA H (Z4i E H C dst (DD E s x))
 | .makeSlice t l c=>match E.ti t with
  | some ⟨.slice e,_,_,_⟩=>(match uO (DD E s l),uO (DD E s c),E.ti e with
   | some (n,_),some (m,_),some A=>(match A.zero with
    | some z=>(match U.Gv e (JY U z) with
     | some y=>.when (0<A.size/\z.cells.length=A.size/\okV z=true/\U.Ar e=A.size)
       (.chk (decide (0<=n/\n<=m/\m.toNat*A.bytes<=lim/\m<=maxLen)) (.leaf (.all k (List.replicate n.toNat y).length,OI H k (.row e (List.replicate n.toNat y) none))))
     | none=>.fail)
    | none=>.fail)
   | _,_,_=>.fail)
  | _=>.fail
 | .slice t x F D G=>match E.ti t with
  | some ⟨.array n e,_,_,_⟩=>Z3r E H n e (DD E s x) (F.map (DD E s)) (D.map (DD E s)) (G.map (DD E s))
  | _=>sliceT E H t (DD E s x) (F.map (DD E s)) (D.map (DD E s)) (G.map (DD E s))
 | .sliceToArrayPointer t x=>JA H (arrT E t (DD E s x))
 | .fieldAddr t x f=>JA H (.opt (Z2i E t (DD E s x) f))
 | .field t x f=>JA H (.opt (Z3F E t (DD E s x) f))
 | .indexAddr t x i=>JA H (Z1X E H t (DD E s x) (DD E s i))
 | .index t x i=>JA H (Z3M E t (DD E s x) (DD E s i))
 | .extract x i=>(match DD E s x with | .BL vs=>JA H (.opt vs[i]?)|_=>.fail)
 | .lookup t m x ok=>JA H (Z45 E t ok (DD E s m) (DD E s x))
 | .makeFunc (.func f) first caps=>.leaf (.fn f (first.toList.map (DD E s)) (caps.toList.map (DD E s)),H)
 | .call c=>Z48 E M k H s c
 | _=>.fail
def stepT (E:Env) (M:IK U) (ops:Array Oper) (k i:Nat) (st:Df U):Tr U (Df U):=
 match ops[i]? with
 | none=>.leaf st
 | some o=>
  let run (st:Df U):Tr U (Df U):=(iH E M k st.H st.s o).andThen fun r=>.leaf ⟨Qy st.s o.dst r.1,r.2⟩;let skip (st:Df U):Tr U (Df U):=.leaf ⟨Qy st.s o.dst .no,st.H⟩
  match o.guard with
  | none=>run st
  | some (j,q)=>
   match (ops[j]?).bind (·.dst) with
   | none=>.fail
   | some d=>(match st.s.getD d .und with
    | .no=>skip st
    | .lit (.bool true)=>if q then run st else skip st
    | .lit (.bool false)=>if q then skip st else run st
    | .sb b=>.br b (if q then run ⟨st.s.set d (.lit (.bool true)),st.H⟩ else skip ⟨st.s.set d (.lit (.bool true)),st.H⟩)
      (if q then skip ⟨st.s.set d (.lit (.bool false)),st.H⟩ else run ⟨st.s.set d (.lit (.bool false)),st.H⟩)
    | _=>.fail)
def opsT (E:Env) (M:IK U) (ops:Array Oper):List Nat->Df U->Tr U (Df U)
 | [],st=>.leaf st
 | i::q,st=>(stepT E M ops st.H.length i st).andThen (opsT E M ops q)
def Qo:SV U.Ty->List Nat
 | .Bc id _ _ _=>[id]
 | .all id _=>[id]
 | .ptr id _ _ _=>[id]
 | .raw v=>EE v
 | _=>[]
def Z3E:SV U.Ty->List Nat
 | .agg cs=>cs.flatMap Qo
 | .raw v=>fQ v
 | v=>Qo v
def fK:SV U.Ty->List Nat
 | .agg cs=>cs.flatMap Qo
 | .fn _ a b=>(a++b).flatMap Z3E
 | .raw v=>DC v
 | v=>Qo v
def Zen:SV U.Ty->Bool | .fn _ _ _=>true | .raw v=>uS v|_=>false
def Z3Z (E:Env):SV U.Ty->Bool
 | .fn g a b=>((E.pure g||(E.env g).isSome)&&(E.own g).isNone)&&(a++b).all (fun v=>!Zen v)
 | _=>false
def Z3L (E:Env) (s:List (SV U.Ty)) (o:Oper):Bool:=
 match o.op with
 | .call c=>(match c.callee with
  | .value (.tmp t)=>!(E.quiet&&o.type != 0)||Z3Z E (s.getD t .und)
  | _=>true)
 | _=>true
def eP (E:Env) (s:List (SV U.Ty)) (o:Oper):List Nat:=o.op.operands.toList.flatMap fun x=>fK (DD E s x)
def ZdV:MP U.Ty->Bool | .dead=>true|_=>false
def Z3j (E:Env) (s:List (SV U.Ty)) (o:Oper):SV U.Ty:=match PK o with|some a=>DD E s a|_=>.no
def Z3o (H:BH U) (a:SV U.Ty) (k:Nat):Bool:=match a with
 | .ptr id _ _ tot=>id==k&&(match H[id]? with|some (.var _ _ _)=>tot==1|_=>false)
 | .all id _=>id==k&&(match H[id]? with|some (.row _ _ _)=>true|_=>false)
 | _=>false
def tV (base:Nat) (s0:List (SV U.Ty)):Nat⊕Nat->Option Nat
 | .inl j=>some (base+j)
 | .inr d=>match s0.getD d .und with | .ptr id _ _ _=>some id | .all id _=>some id|_=>none
def Z4m (E:Env) (ms:List Nat) (lt:List (Nat×(Nat⊕Nat))) (s0:List (SV U.Ty)) (base i:Nat) (s:List (SV U.Ty)) (H:BH U) (o:Oper):Bool:=
 lt.all fun p=>match tV base s0 p.2 with
  | none=>false
  | some k=>if p.1=i then Z3o H (Z3j E s o) k else !needs E o||(linked ms p.1 i || !(eP E s o).contains k)
def Z3H (E:Env) (M:IK U) (ops:Array Oper) (ms:List Nat) (lt:List (Nat×(Nat⊕Nat))) (s0:List (SV U.Ty)) (base m i:Nat) (st:Df U):Tr U (Df U):=
 match ops[i]? with
 | none=>.leaf st
 | some o=>
  .when ((eP E st.s o).all (fun id=>decide (id<base)||(decide (base+m<=id)&&VW E ops ms i)||(decide (id<base+m)&&(ms.getD i 0).testBit (id - base)))=true) (.when ((Z3L E st.s o&&Z4m E ms lt s0 base i st.s st.H o&&(!decide (Bi E o = .c)||decide (base+m<=st.H.length)))=true)
   (if Bi E o = .a then
    match st.H[base+i]? with
    | some b=>if ZdV b then stepT E M ops (base+i) i st else .fail
    | none=>.fail
    else stepT E M ops st.H.length i st))
def dY (E:Env) (M:IK U) (ops:Array Oper) (ms:List Nat) (lt:List (Nat×(Nat⊕Nat))) (s0:List (SV U.Ty)) (base m:Nat):List Nat->Df U->Tr U (Df U)
 | [],st=>.leaf st
 | i::q,st=>(Z3H E M ops ms lt s0 base m i st).andThen (dY E M ops ms lt s0 base m q)
def uK (E:Env) (M:IK U) (ops:Array Oper) (st:Df U):Tr U (Df U):=
 let m:=if ops.any (fun o=>decide (Bi E o = .a)) then ops.size else 0
 dY E M ops (Ff [] ops.toList) (Pg E ops) st.s st.H.length m (List.range ops.size) ⟨st.s,st.H++List.replicate m .dead⟩
end
structure D9 (U:Cc) (E:Env):Prop where
 encS:∀t a,AU U (U.encS t a)=U.enc t a
 dec:∀t v a,U.Gv t v=some a->Dz (E.rows t) (AU U v)=U.enc t a
 cells:∀t a,(U.enc t a).cells=Au U (cellsS (U.encS t a))
 nr:∀t a,CW (U.enc t a)=true
 inj:∀t∈U.keys,∀a b,U.enc t a=U.enc t b->a=b
section
variable {U:Cc}
theorem Es (xs:List (SV U.Ty)):Au U xs=xs.map (AU U):=by
 induction xs with
 | nil=>rfl
 | cons x xs q=>simp[Au,q]
theorem VD (s:List (SV U.Ty)) (t:Nat):(Au U s).getD t .und=AU U (s.getD t .und):=by
 rw[Es];simp only[List.getD,List.getElem?_map];cases s[t]?<;>rfl
theorem Z3h (v:V):AU U (Qv U v)=v:=by
 unfold Qv;split<;>rfl
theorem VM (v:V):AU U (JY U v)=v:=by
 unfold JY;split
 ·rename_i cs;simp only[AU,Es,List.map_map,V.agg.injEq]
  conv=>rhs;rw[<- List.map_id cs]
  apply List.map_congr_left;intro x _;exact Z3h x
 ·exact Z3h _
theorem Fe (E:Env) (s:List (SV U.Ty)) (x:Operand):ev E (Au U s) x=AU U (DD E s x):=by
 cases x with
 | tmp t=>exact VD s t
 | const v=>simp only[ev,DD,VM]
 | func f=>rfl
 | global g=>simp only[ev,DD];cases E.Ef g<;>rfl
theorem ZdC (E:Env) (s:List (SV U.Ty)) (xs:List Operand):xs.map (ev E (Au U s))=Au U (xs.map (DD E s)):=by
 rw[Es (xs.map (DD E s)),List.map_map];apply List.map_congr_left;intro x _;exact Fe E s x
theorem Zdd (s:List (SV U.Ty)) (d:Option Tmp) (v:SV U.Ty):Au U (Qy s d v)=setSlot (Au U s) d (AU U v):=by
 unfold Qy setSlot;cases d with
 | none=>rfl
 | some t=>simp only[Es,List.map_set]
theorem SC (H:BH U):(BO U H).length=H.length:=by simp[BO]
theorem Lr (H:BH U) (i:Nat):(BO U H)[i]? = (H[i]?).map (CU U):=by simp[BO]
theorem PR (H:BH U) (i:Nat) (b:MP U.Ty):BO U (H.set i b)=(BO U H).set i (CU U b):=by simp[BO,List.map_set]
theorem QV (H:BH U) (k:Nat) (b:MP U.Ty):BO U (OI H k b)=place (BO U H) k (CU U b):=by
 unfold OI place;rw[SC];split
 ·exact PR H k b
 ·simp[BO]
theorem PS {x:SV U.Ty} (h:okS x=true):okV (AU U x)=true:=by
 cases x<;>simp_all [okS,AU,okV];rename_i v;cases v<;>simp_all [okS]
theorem SI {x:SV U.Ty} (h:okS x=true):(AU U x).cells=Au U (cellsS x):=by
 cases x<;>simp_all [okS,AU,V.cells,cellsS,Au];rename_i v;cases v<;>simp_all [okS,V.cells]
theorem EL {L M:Type} (T:Tr U L) (f:L->Tr U M) (y:M):(T.andThen f).AZ y↔∃x,T.AZ x/\(f x).AZ y:=by
 induction T with
 | leaf l=>simp[Tr.andThen,Tr.AZ]
 | br c a b C D=>
  simp only[Tr.andThen,Tr.AZ,C,D];constructor
  ·rintro (⟨h,x,q,z⟩|⟨h,x,q,z⟩)
   ·exact⟨x,.inl ⟨h,q⟩,z⟩
   ·exact⟨x,.inr ⟨h,q⟩,z⟩
  ·rintro ⟨x,(⟨h,q⟩|⟨h,q⟩),z⟩
   ·exact .inl ⟨h,x,q,z⟩
   ·exact .inr ⟨h,x,q,z⟩
 | bind t o k A=>
  simp only[Tr.andThen,Tr.AZ,A];constructor
  ·rintro ⟨a,h,x,q,z⟩;exact⟨x,⟨a,h,q⟩,z⟩
  ·rintro ⟨x,⟨a,h,q⟩,z⟩;exact⟨a,h,x,q,z⟩
 | chk c a A=>
  simp only[Tr.andThen,Tr.AZ,A];constructor
  ·rintro ⟨h,x,q,z⟩;exact⟨x,⟨h,q⟩,z⟩
  ·rintro ⟨x,⟨h,q⟩,z⟩;exact⟨h,x,q,z⟩
 | fail=>simp[Tr.andThen,Tr.AZ]
theorem Nw {L:Type} {o:Option L} {x:L}:(Tr.opt (U:=U) o).AZ x↔o=some x:=by
 cases o<;>simp[Tr.opt,Tr.AZ]
theorem E8 {L:Type} {p:Prop} [Decidable p] {a:Tr U L} {x:L}:(Tr.when p a).AZ x↔p/\a.AZ x:=by
 unfold Tr.when;split<;>simp_all [Tr.AZ]
theorem Gy {L:Type} {H:BH U} {id tot:Nat} {k:(t:Nat)->List (U.Ty t)->Option Nat->Tr U L} {y:L} (h:(rowAt H id tot k).AZ y) :
  ∃t xs fl,H[id]? = some (.row t xs fl)/\xs.length=tot/\(k t xs fl).AZ y/\DZ (BO U H) id tot=some (CU U (.row t xs fl)):=by
 unfold rowAt at h;split at h
 ·rename_i t xs fl hb;simp only[Tr.AZ,beq_iff_eq]at h;refine⟨t,xs,fl,hb,h.1,h.2,?_⟩;unfold DZ;rw[Lr,hb];simp[CU,h.1]
 ·simp[Tr.AZ]at h
theorem Z3e {H:BH U} {x y:SV U.Ty} (h:(NQ H x).AZ y):Hu (BO U H) (AU U x)=some (AU U y):=by
 unfold NQ at h;split at h<;>(try (simp only[Tr.AZ]at h;subst h;rfl))
 ·obtain⟨t,xs,fl,C,A,q,z⟩:=Gy h;simp only[Tr.AZ]at q;subst q;subst A;simp only[AU,Hu,z];simp only[CU,Nat.zero_add,Nat.le_refl,decide_true,Bool.and_self,if_true,List.drop_zero,Option.some.injEq,V.sl.injEq,true_and];exact List.take_of_length_le (by simp)
 ·obtain⟨t,xs,fl,C,A,q,z⟩:=Gy h;simp only[Tr.AZ,decide_eq_true_eq]at q;obtain⟨q,rfl⟩:=q;simp only[AU,Hu,z];simp[CU,q,List.map_take,List.map_drop]
 ·simp[Tr.AZ]at h
theorem Zzp {H:BH U}:∀{xs ys:List (SV U.Ty)},(TJ H xs).AZ ys->JB (BO U H) (Au U xs)=some (Au U ys):=by
 intro xs;induction xs with
 | nil=>intro ys h;simp only[TJ,Tr.AZ]at h;subst h;rfl
 | cons x xs A=>
  intro ys h;simp only[TJ,EL,Tr.AZ]at h;obtain⟨w,q,ws,z,rfl⟩:=h;simp only[Au,JB,Z3e q,A z]
theorem rV {H:BH U} {x y:SV U.Ty} (h:(Qx H x).AZ y):Hz (BO U H) (AU U x)=some (AU U y):=by
 unfold Qx at h;split at h
 ·rename_i cs;simp only[EL,Tr.AZ]at h;obtain⟨ws,q,rfl⟩:=h;simp only[AU,Hz,Zzp q,Option.map_some]
 ·rename_i A;have:=Z3e h;unfold Hz;split
  ·rename_i cs z;exfalso;cases x<;>simp_all [AU,NQ,Tr.AZ]
  ·exact this
theorem Z26 {H:BH U}:∀{xs ys:List (SV U.Ty)},(PM H xs).AZ ys->FI (BO U H) (Au U xs)=some (Au U ys):=by
 intro xs;induction xs with
 | nil=>intro ys h;simp only[PM,Tr.AZ]at h;subst h;rfl
 | cons x xs A=>
  intro ys h;simp only[PM,EL,Tr.AZ]at h;obtain⟨w,q,ws,z,rfl⟩:=h;simp only[Au,FI,rV q,A z]
theorem ZcO (x:SV U.Ty):Ez (AU U x)=OZ x:=by
 cases x<;>simp[AU,Ez,OZ]
theorem Zda (x:SV U.Ty):Dj (AU U x)=NS x:=by
 cases x<;>simp[AU,Dj,NS,OZ,Ez];rename_i cs;rw[Es,List.flatMap_map];simp[ZcO]
theorem Z2s (xs:List (SV U.Ty)):(Au U xs).flatMap Dj=xs.flatMap NS:=by
 rw[Es,List.flatMap_map];simp[Zda]
theorem ZcS (x:SV U.Ty):EE (AU U x)=Qo x:=by
 cases x<;>simp[AU,EE,Qo]
theorem ZwR (x:SV U.Ty):fQ (AU U x)=Z3E x:=by
 cases x<;>simp[AU,fQ,Z3E,Qo,EE];rename_i cs;rw[Es,List.flatMap_map];simp[ZcS]
theorem Zy5 (x:SV U.Ty):DC (AU U x)=fK x:=by
 cases x with
 | agg cs=>
  simp only[AU,DC,fK];rw[Es,List.flatMap_map];simp[ZcS]
 | fn f a b=>
  simp only[AU,DC,fK];rw[Es,Es,<- List.map_append,List.flatMap_map];simp[ZwR]
 | _=>simp[AU,DC,fK,Qo,EE]
theorem VI (H:BH U):∀(ids:List Nat),(∀i∈ids,∃t xs fl,H[i]? = some (.row t xs fl))->BO U (Pj H ids)=bump (BO U H) ids:=by
 intro ids;induction ids generalizing H with
 | nil=>intro _;rfl
 | cons i D C=>
  intro h;simp only[Pj,bump];have z:BO U (H.modify i rU)=(BO U H).modify i fun b=>{ b with floor:=b.xs.length }:=by
   apply List.ext_getElem?;intro j;simp only[BO,List.getElem?_map,List.getElem?_modify]
   by_cases q:i=j
   ·subst q;obtain⟨t,xs,fl,hb⟩:=h i (by simp);simp[hb,rU,CU]
   ·simp[q]
  rw[C,z];intro j A;obtain⟨t,xs,fl,hb⟩:=h j (by simp[A])
  by_cases q:i=j
  ·subst q;exact⟨t,xs,some xs.length,by simp[List.getElem?_modify,hb,rU]⟩
  ·exact⟨t,xs,fl,by simp[List.getElem?_modify,q,hb]⟩
theorem Z2g {H:BH U} {x y:SV U.Ty} (h:(NQ H x).AZ y):∀i∈OZ x,∃t xs fl,H[i]? = some (.row t xs fl):=by
 intro i z;unfold NQ at h;split at h<;>(try (simp[OZ]at z))
 ·obtain⟨t,xs,fl,q,_⟩:=Gy h;subst z;exact⟨t,xs,fl,q⟩
 ·obtain⟨t,xs,fl,q,_⟩:=Gy h;subst z;exact⟨t,xs,fl,q⟩
 ·simp[Tr.AZ]at h
theorem Zwb {H:BH U}:∀{xs ys:List (SV U.Ty)},(TJ H xs).AZ ys->∀i∈xs.flatMap OZ,∃t xs fl,H[i]? = some (.row t xs fl):=by
 intro xs;induction xs with
 | nil=>intro ys h i hi;simp at hi
 | cons x xs A=>
  intro ys h i hi;simp only[TJ,EL,Tr.AZ]at h;obtain⟨w,q,ws,z,rfl⟩:=h;simp only[List.flatMap_cons,List.mem_append]at hi;rcases hi with hi|hi
  ·exact Z2g q i hi
  ·exact A z i hi
theorem ZcA {H:BH U} {x y:SV U.Ty} (h:(Qx H x).AZ y):∀i∈NS x,∃t xs fl,H[i]? = some (.row t xs fl):=by
 unfold Qx at h;split at h
 ·simp only[EL,Tr.AZ]at h;obtain⟨ws,q,rfl⟩:=h;exact Zwb q
 ·rename_i z;intro i A;refine Z2g h i ?_;cases x<;>simp_all [NS,OZ];simp[NQ,Tr.AZ]at h
theorem Z9k {H:BH U}:∀{xs ys:List (SV U.Ty)},(PM H xs).AZ ys->∀i∈xs.flatMap NS,∃t xs fl,H[i]? = some (.row t xs fl):=by
 intro xs;induction xs with
 | nil=>intro ys h i hi;simp at hi
 | cons x xs A=>
  intro ys h i hi;simp only[PM,EL,Tr.AZ]at h;obtain⟨w,q,ws,z,rfl⟩:=h;simp only[List.flatMap_cons,List.mem_append]at hi;rcases hi with hi|hi
  ·exact ZcA q i hi
  ·exact A z i hi
theorem VG (cs:List (SV U.Ty)) (off n:Nat) (b:Bool):partOf (Au U cs) off n b=(Qm cs off n b).map (AU U):=by
 unfold partOf Qm;simp only[Es,List.length_map];split
 ·split
  ·simp[AU,Es,List.map_take,List.map_drop]
  ·rfl
 ·simp
theorem IV (cs:List (SV U.Ty)):(Au U cs).length=cs.length:=by simp[Es]
theorem ZaI {x:SV U.Ty} {off:Nat} {cs:List (SV U.Ty)} {y:SV U.Ty} (h:sF x off cs=some y):KX (AU U x) off (Au U cs)=some (AU U y):=by
 unfold sF at h;split at h
 ·rename_i ds;split at h
  ·rename_i z;simp only[Option.some.injEq]at h;subst h;simp only[AU,KX,IV,z,if_true];simp[Es,List.map_take,List.map_drop]
  ·cases h
 ·cases h
 ·rename_i A C;split at h
  ·rename_i c;simp only[Option.some.injEq]at h;subst h;have:∀ds,AU U x≠.agg ds:=by
    intro ds q;cases x<;>simp_all [AU]
   unfold KX;split
   ·rename_i ds q;exact absurd q (this ds)
   ·simp[Au]
  ·cases h
theorem Z2A {H:BH U} {id:Nat} {e n:Nat} {x:SV U.Ty} (h:H[id]? = some (.var e n x)):DZ (BO U H) id 1=some (Bg false false e n [AU U x]):=by
 unfold DZ;rw[Lr,h];simp[CU,Bg]
theorem Zco {H:BH U} {id tot:Nat} {t:Nat} {xs:List (U.Ty t)} {fl:Option Nat} (h:H[id]? = some (.row t xs fl)) (q:xs.length=tot):DZ (BO U H) id tot=some (CU U (.row t xs fl)):=by
 unfold DZ;rw[Lr,h];simp[CU,q]
theorem Z2u {E:Env} (C:D9 U E) {e:Nat}:∀{vs:List (SV U.Ty)} {ys:List (U.Ty e)},Qe e vs=some ys->(Au U vs).map (Dz (E.rows e))=ys.map (U.enc e)/\∀v∈vs,okS v=true:=by
 intro vs;induction vs with
 | nil=>intro ys h;simp only[Qe,Option.some.injEq]at h;subst h;simp[Au]
 | cons v vs G=>
  intro ys h;simp only[Qe]at h;split at h
  ·rename_i a as q z A;simp only[Option.some.injEq]at h;subst h;obtain⟨D,F⟩:=G A;refine⟨by simp only[Au,List.map_cons,D,C.dec _ _ _ z],?_⟩;intro x hx;rcases List.mem_cons.1 hx with hx|hx
   ·rw[hx];exact q
   ·exact F x hx
  ·cases h
theorem ZE7 {E:Env} (C:D9 U E) {t:Nat} {cs:List V} {ys:List (U.Ty t)} {j:Nat} {x:U.Ty t} (F:Qe t (cs.map (Qv U))=some ys) (G:cs.all Ig=true) (J:ys[j]? = some x):cs[j]? = some (AU U (U.encS t x)):=by
 obtain⟨A,-⟩:=Z2u C F;have D:Au U (cs.map (Qv U))=cs:=by
  rw[Es,List.map_map];exact(List.map_congr_left fun v _=>Z3h v).trans (List.map_id cs)
 rw[D]at A;have q:=congrArg (·[j]?) A;simp only[List.getElem?_map,J,Option.map_some]at q;cases hc:cs[j]? with
 | none=>simp[hc]at q
 | some v=>
  simp only[hc,Option.map_some,Option.some.injEq]at q;have I:=List.all_eq_true.1 G v (List.mem_of_getElem? hc);cases v with
  | lit z=>rw[C.encS,<- q];rfl
  | _=>simp[Ig]at I
theorem ZcY {E:Env} (C:D9 U E) {H:BH U} {t:TypeId} {a y:SV U.Ty} (h:(loadT E H t a).AZ y):MJ E (BO U H) t (AU U a)=some (AU U y):=by
 unfold loadT at h;split at h
 ·simp[Tr.AZ]at h
 ·rename_i i M;unfold MJ;rw[M];simp only;split at h
  ·rename_i G xs j off;simp only[Tr.AZ,Nw]at h;obtain⟨x,A,q⟩:=h;simp only[AU,OJ,List.getElem?_map,A,Option.map_some];rw[C.cells,VG,q];rfl
  ·rename_i id j off tot;split at h
   ·rename_i e n x hb;simp only[E8,Nw]at h;obtain⟨⟨rfl,rfl,D⟩,q⟩:=h;simp only[AU,Z2A hb,Bg,OJ,List.getElem?_cons_zero];rw[SI D,VG,q];rfl
   ·rename_i G xs fl hb;simp only[Tr.AZ,Nw,beq_iff_eq]at h;obtain⟨N,x,A,q⟩:=h;simp only[AU,Zco hb N,CU,OJ,List.getElem?_map,A,Option.map_some];rw[C.cells,VG,q];rfl
   ·simp[Tr.AZ]at h
  ·rename_i e z;simp only[Nw]at h;simp only[AU,OJ,List.getElem?_cons_zero];rw[show (V.lit z).cells=Au U [SV.lit z] from rfl,VG,h];rfl
  ·rename_i e cs off;simp only[Nw]at h;cases q:partOf cs off i.size i.isAgg with
   | none=>simp[q]at h
   | some v=>
    simp only[q,Option.map_some,Option.some.injEq]at h;subst h;simp only[AU,OJ,List.getElem?_cons_zero,V.cells,q,VM]
  ·rename_i d cs off;split at h
   ·rename_i ys F;simp only[E8,Tr.AZ]at h;obtain⟨⟨O,I,J⟩,x,A,rfl⟩:=h;simp only[AU,OJ,List.getElem?_cons_zero,V.cells,partOf,I,ZE7 C F J A,Bool.false_eq_true,if_false]
   ·simp[Tr.AZ]at h
  ·simp[Tr.AZ]at h
theorem ZxY {E:Env} (Y:D9 U E) {H H' : BH U} {t:TypeId} {a v:SV U.Ty} (h:(storeT E H t a v).AZ H'):Lu E (BO U H) t (AU U a) (AU U v)=some (BO U H'):=by
 unfold storeT at h;split at h
 ·simp[Tr.AZ]at h
 ·rename_i i hi;unfold Lu;rw[hi];simp only;split at h
  ·rename_i id j off tot;split at h
   ·rename_i e n x hb;simp only[E8]at h;obtain⟨⟨⟨rfl,rfl⟩,O,q,hokx⟩,h⟩:=h;split at h
    ·rename_i x' C;simp only[E8,Tr.AZ]at h;obtain⟨F,rfl⟩:=h;simp only[AU,Z2A hb,Bg,List.getElem?_cons_zero];rw[SI q,IV,O,ZaI C,PS q];simp[PS F,PR,CU,Bg]
    ·simp[Tr.AZ]at h
   ·rename_i S xs fl hb;simp only[E8,Tr.AZ,EL,Bool.and_eq_true,beq_iff_eq,decide_eq_true_eq]at h;obtain⟨⟨O,q,Q⟩,⟨D,N⟩,x,hx,v',M,h⟩:=h;split at h
    ·rename_i x' C;split at h
     ·rename_i y hy;simp only[E8,Tr.AZ]at h;obtain⟨⟨A,G⟩,rfl⟩:=h;simp only[AU,Zco hb D,CU,List.getElem?_map,hx,Option.map_some];rw[SI q,IV,O,PS q];have hc:(Hz (BO U H) (AU U v))=some (AU U v'):=rV M;have J:=ZaI C;rw[Y.encS]at J;have z:=Y.dec S x' y hy;have I:okV (U.enc S y)=true:=by rw[<- z,qA];exact PS G
      rw[hc];simp only[SI A,J,Option.map_some,z,I,PS A,Zda,Q,beq_self_eq_true,Bool.and_self,Bool.and_true,decide_eq_true N,if_true,Bool.not_true,Bool.or_self,Bool.false_eq_true,if_false];rw[PR,VI H _ (ZcA M)];simp[CU,List.map_set]
     ·simp[Tr.AZ]at h
    ·simp[Tr.AZ]at h
   ·simp[Tr.AZ]at h
  ·simp[Tr.AZ]at h
end
section
variable {U:Cc}
theorem KQ {x:SV U.Ty} {k:IntKind} {a:Int} (h:asInt x=some (k,a)):AU U x = .lit (.int k a):=by
 unfold asInt at h;split at h<;>simp_all [AU]
theorem PG {x:SV U.Ty} {s:ByteArray} (h:JJ x=some s):AU U x = .lit (.string s):=by
 unfold JJ at h;split at h<;>simp_all [AU]
theorem SB {x:SV U.Ty} {b:Bool} (h:asBool x=some b):AU U x = .lit (.bool b):=by
 unfold asBool at h;split at h<;>simp_all [AU]
theorem Zcm {x:SV U.Ty} {n:Int} {l:Bool} (h:uO x=some (n,l)):∃k,AU U x = .lit (.int k n):=by
 unfold uO at h;split at h<;>simp_all [AU]
theorem ZCg {op:BinOp} {k:IntKind} {a b:Int} {l:Bool} {y:SV U.Ty} (h:(intT op k a b l).AZ y):(O3 op k a b).map V.lit=some (AU U y):=by
 unfold intT at h;cases op<;>simp only[Tr.AZ]at h<;>(try (subst h;rfl))<;>(try (exact h.elim))
 ·split at h
  ·split at h
   ·simp[Tr.AZ]at h
   ·rename_i hb;simp only[Tr.AZ]at h;subst h;simp[O3,hb,AU]
  ·simp only[Tr.AZ,bne_iff_ne,ne_eq]at h;obtain⟨hb,rfl⟩:=h;simp[O3,hb,AU]
 ·split at h
  ·split at h
   ·simp[Tr.AZ]at h
   ·rename_i hb;simp only[Tr.AZ]at h;subst h;simp[O3,hb,AU]
  ·simp only[Tr.AZ,bne_iff_ne,ne_eq]at h;obtain⟨hb,rfl⟩:=h;simp[O3,hb,AU]
theorem Zcy {op:BinOp} {k:IntKind} {a b:Int} {l:Bool} {y:SV U.Ty} (h:(sS op k a b l).AZ y):(PT op k a b).map V.lit=some (AU U y):=by
 unfold sS at h;split at h
 ·simp[Tr.AZ]at h
 ·rename_i r q;have key:∀(hb:¬b<0) (z:SV.si k r=y),(PT op k a b).map V.lit=some (AU U y):=by
   intro hb z;subst z;unfold PT;unfold Zef at q;split at q<;>simp_all [AU]
  split at h
  ·split at h
   ·simp[Tr.AZ]at h
   ·rename_i hb;exact key hb h
  ·simp only[Tr.AZ,decide_eq_true_eq]at h;exact key (by omega) h.2
theorem ZCb {op:BinOp} {x y:ByteArray} {z:SV U.Ty} (h:(strT op x y).AZ z):(VZ op x y).map V.lit=some (AU U z):=by
 unfold strT at h;cases op<;>simp only[Tr.AZ]at h<;>(try (subst h;rfl))<;>(try (exact h.elim));obtain⟨hb,rfl⟩:=h;simp only[decide_eq_true_eq]at hb;simp[VZ,hb,AU]
theorem Zsn:∀{ks:List FK} {xs ys:List (SV U.Ty)} {r:Bool},NI ks xs ys=some r->Ip ks (Au U xs) (Au U ys)=some r:=by
 intro ks;induction ks with
 | nil=>
  intro xs ys r h;unfold NI at h;split at h<;>simp_all [Au,Ip]
 | cons k ks C=>
  intro xs ys r h;cases xs with
  | nil=>cases k<;>simp[NI]at h
  | cons x xs=>
   cases ys with
   | nil=>cases k<;>simp[NI]at h
   | cons y ys=>
    cases k with
    | b=>
     simp only[NI]at h;split at h
     ·rename_i a b D q z A;simp only[Option.some.injEq]at h;subst h;simp only[Au,SB q,SB z,Ip,C A]
     ·cases h
    | i k=>
     simp only[NI]at h;split at h
     ·rename_i k1 a k2 b D q z A;split at h
      ·rename_i F;simp only[Option.some.injEq]at h;subst h;simp only[Au,KQ q,KQ z,Ip,C A,F,and_self,if_true]
      ·cases h
     ·cases h
    | s=>
     simp only[NI]at h;split at h
     ·rename_i a b D q z A;simp only[Option.some.injEq]at h;subst h;simp only[Au,PG q,PG z,Ip,C A]
     ·cases h
theorem ZBx {E:Env} {op:BinOp} {t:TypeId} {x y z:SV U.Ty} (h:(binT E op t x y).AZ z):MO E op t (AU U x) (AU U y)=some (AU U z):=by
 unfold binT at h;split at h
 ·rename_i xs ys;split at h
  ·rename_i ks A;split at h
   ·rename_i b hb;have:=Zsn hb;split at h
    ·simp only[Tr.AZ]at h;subst h;simp only[AU,MO,A,this,Option.map_some]
    ·simp only[Tr.AZ]at h;subst h;simp only[AU,MO,A,this,Option.map_some]
    ·simp[Tr.AZ]at h
   ·simp[Tr.AZ]at h
  ·simp[Tr.AZ]at h
 ·split at h
  ·rename_i k a j b q hb;rw[KQ q,KQ hb];split at h
   ·exact Zcy h
   ·exact Zcy h
   ·rename_i D F;split at h
    ·rename_i I;have G:=ZCg h;subst I;have hb:MO E op t (.lit (.int k a)) (.lit (.int k b))=(O3 op k a b).map V.lit:=by
      cases op<;>first|exact absurd rfl D|exact absurd rfl F|simp[MO]
     rw[hb];exact G
    ·simp[Tr.AZ]at h
  ·split at h
   ·rename_i a b q hb;rw[PG q,PG hb];have:=ZCb h;unfold MO;split<;>simp_all
   ·split at h
    ·rename_i a b q hb;rw[SB q,SB hb];split at h
     ·rename_i C;split at h
      ·simp only[Tr.AZ]at h;subst h;simp[MO,C,AU]
      ·simp only[Tr.AZ]at h;subst h;simp[MO,C,AU]
      ·simp[Tr.AZ]at h
     ·simp[Tr.AZ]at h
    ·simp[Tr.AZ]at h
theorem ZEd {op:UnOp} {x z:SV U.Ty} (h:(unT op x).AZ z):iI op (AU U x)=some (AU U z):=by
 unfold unT at h;split at h
 ·rename_i k n q;simp only[Tr.AZ]at h;subst h;rw[KQ q];rfl
 ·rename_i k n q;simp only[Tr.AZ]at h;subst h;rw[KQ q];rfl
 ·rename_i b _ hb;simp only[Tr.AZ]at h;subst h;rw[SB hb];rfl
 ·simp[Tr.AZ]at h
theorem ZCP {q:Bool} {k:IntKind}:∀{xs:List (SV U.Ty)} {a r:Int},gY q k a xs=some r->mm q k a (Au U xs)=some (.lit (.int k r)):=by
 intro xs;induction xs with
 | nil=>intro a r h;simp only[gY,Option.some.injEq]at h;subst h;rfl
 | cons x xs C=>
  intro a r h;simp only[gY]at h;split at h
  ·rename_i j b A;split at h
   ·rename_i z;simp only[Au,KQ A,mm,z,if_true];exact z▸C h
   ·cases h
  ·cases h
theorem Zbh {q:Bool} {xs:List (SV U.Ty)} {z:SV U.Ty} (h:(rZ q xs).AZ z):P6 q (Au U xs)=some (AU U z):=by
 unfold rZ at h;split at h
 ·rename_i x A;split at h
  ·rename_i k a C;split at h
   ·rename_i r D;simp only[Tr.AZ]at h;subst h;simp only[Au,KQ C,P6,AU];exact ZCP D
   ·simp[Tr.AZ]at h
  ·simp[Tr.AZ]at h
 ·simp[Tr.AZ]at h
def Ko (q:List (Nat×SV U.Ty)):List (Nat×V):=q.map fun(i,x)=>(i,AU U x)
theorem ZcP {place:Nat->Option (Nat×Nat)}:∀{q:List (Nat×SV U.Ty)} {cs z : List (SV U.Ty)},Qn cs q place=some z -> OY (Au U cs) (Ko q) place=some (Au U z):=by
 intro q;induction q with
 | nil=>intro cs z h;simp only[Qn,Option.some.injEq]at h;subst h;rfl
 | cons p q G=>
  intro cs z h;obtain⟨i,v⟩:=p;simp only[Qn]at h;split at h
  ·cases h
  ·rename_i off size F;split at h
   ·rename_i hc;simp only[Bool.and_eq_true,beq_iff_eq,decide_eq_true_eq]at hc;obtain⟨⟨C,D⟩,A⟩:=hc;have:=G h;simp only[Ko,List.map_cons,OY,F];rw[SI A,IV,C,IV,PS A];simp only[beq_self_eq_true,D,decide_true,Bool.and_self,if_true];rw[<- this];simp only[Ko,Es,List.map_append,List.map_take,List.map_drop]
   ·cases h
theorem cells_toV' {x:SV U.Ty} (h:∀cs,x≠.raw (.agg cs)):(AU U x).cells=Au U (cellsS x):=by
 cases x with
 | raw v=>
  cases v with
  | agg cs=>exact absurd rfl (h cs)
  | _=>rfl
 | _=>rfl
theorem ZbO {z:V}:Au U (cellsS (JY U z))=z.cells:=by
 have C:∀cs,JY U z≠.raw (.agg cs):=by
  intro cs q;unfold JY at q;split at q
  ·cases q
  ·rename_i A;unfold Qv at q;split at q<;>(try cases q);simp at A
 rw[<- cells_toV' C,VM]
theorem Zx4 {E:Env} {t:TypeId} {q:List (Nat×SV U.Ty)} {y:SV U.Ty} (h:Z3U E t q=some y):VU E t (Ko q)=some (AU U y):=by
 unfold Z3U at h;unfold VU;split at h
 ·rename_i i J;rw[J];split at h
  ·rename_i z M;simp only[M];split at h
   ·rename_i G;rw[if_pos G];split at h
    ·rename_i fs C;simp only[C];split at h
     ·rename_i D;rw[if_pos D];cases A:Qn (cellsS (JY U z)) q (placesOf E fs) with
      | none=>simp[A]at h
      | some cs=>
       simp only[A,Option.map_some,Option.some.injEq]at h;subst h;have:=ZcP A;rw[ZbO]at this;simp only[this,Option.map_some,AU]
     ·cases h
    ·rename_i len e C;simp only[C];split at h
     ·rename_i I F;simp only[F];cases A:Qn (cellsS (JY U z)) q (fun i=>some (i*I.size,I.size)) with
      | none=>simp[A]at h
      | some cs=>
       simp only[A,Option.map_some,Option.some.injEq]at h;subst h;have:=ZcP A;rw[ZbO]at this;simp only[this,Option.map_some,AU]
     ·cases h
    ·cases h
   ·cases h
  ·cases h
 ·cases h
theorem Zuc (sz:Nat):∀(vs pre post:List V),(∀v∈vs,v.cells.length=sz/\okV v=true)->vs.length<=post.length ->
  MC (pre++post) sz ((List.range' pre.length vs.length).zip vs)=some (pre++vs++post.drop vs.length):=by
 intro vs;induction vs with
 | nil=>intro pre post _ _;simp[MC]
 | cons v vs F=>
  intro pre post h z;cases post with
  | nil=>simp at z
  | cons p post=>
   simp only[List.length_cons,List.range'_succ,List.zip_cons_cons,MC];obtain⟨A,C⟩:=h v (by simp);have q:(pre++p::post).set pre.length v=(pre++[v])++post:=by simp
   have:=F (pre++[v]) post (fun x D=>h x (by simp[D])) (by simpa using z);rw[List.length_append,List.length_singleton]at this;rw[A,C,q,this];simp
theorem Zmn {E:Env} (hU:D9 U E) {k:Nat} {H H' : BH U} {t:TypeId} {n:Nat} {q:List (Nat×SV U.Ty)} {y:SV U.Ty} (h:(Z1m E k H t n q).AZ (y,H')) :
  Oo E k (BO U H) t n (Ko q)=some (AU U y,BO U H'):=by
 unfold Z1m at h;unfold Oo;split at h
 ·rename_i e sz by' z0 Y;rw[Y];simp only;split at h
  ·rename_i ei O;simp only[O];split at h
   ·rename_i z hz;simp only[EL]at h;obtain⟨vs,J,h⟩:=h;split at h
    ·rename_i ys hys;simp only[E8,Tr.AZ,Prod.mk.injEq]at h;obtain⟨⟨⟨c1,c2,c3,c4⟩,M,c6,c7⟩,rfl,rfl⟩:=h;have S:(Ko q).map (·.2)=Au U (q.map (·.2)):=by
      rw[Es];simp[Ko]
     have Q:(Ko q).map (·.1)=List.range n:=by rw[<- M];simp[Ko]
     obtain⟨N,d2⟩:=Z2u hU hys;have hf:=Z26 J;have G:(Au U vs).length=n:=by
      rw[<- Zo7 hf,IV,List.length_map,<- List.length_map (f:=(·.1)) (as:=q),M,List.length_range]
     have C : (ys.map (U.enc e)).length=n:=by rw[<- N,List.length_map,G]
     have D:(n==0 && !(Ko q).isEmpty)=false:=by
      cases hn:n with
      | zero=>
       have:q=[]:=by
        have:=congrArg List.length M;rw[hn]at this;simpa using this
       simp[this,Ko]
      | succ m=>simp
     rw[hz,S,hf];simp only;rw[if_pos ⟨c1,c2,c3,c4,D⟩,Q,N];have A:=Zuc ei.size (ys.map (U.enc e)) [] (List.replicate n (Dz (E.rows e) z)) (by
      intro v hv;rw[<- N]at hv;obtain⟨w,hw,rfl⟩:=List.mem_map.1 hv;rw[Es]at hw;obtain⟨s,hs,rfl⟩:=List.mem_map.1 hw;have I:=d2 s hs;rw[qA,Zw4];refine⟨?_,PS I⟩;rw[SI I,IV];simpa using List.all_eq_true.1 c6 s hs) (by rw[C];simp)
     rw[C]at A;simp only[List.length_nil,List.nil_append]at A;rw[show List.range n=List.range' 0 n from List.range_eq_range' ..,A];have F:List.drop n (List.replicate n (Dz (E.rows e) z))=[]:=by simp
     rw[F,List.append_nil,QV,Z2s,VI H _ (Z9k J)];simp[AU,CU,Bg,c7]
    ·simp[Tr.AZ]at h
   ·simp[Tr.AZ]at h
  ·simp[Tr.AZ]at h
 ·simp[Tr.AZ]at h
theorem Zn7 {E:Env} {s:TypeId} {x y:SV U.Ty} {f:Nat} (h:Z2i E s x f=some y):Uj E s (AU U x) f=some (AU U y):=by
 unfold Z2i at h;unfold Uj;split at h
 ·rename_i fs sz by' z0 q;rw[q];simp only;split at h
  ·rename_i o t A;rw[A];simp only;split at h
   ·rename_i n z;simp only[z];split at h
    ·cases h
    ·rename_i C;rw[if_neg C];split at h
     ·simp only[Option.some.injEq]at h;subst h;rfl
     ·simp only[Option.some.injEq]at h;subst h;rfl
     ·simp only[Option.some.injEq]at h;subst h;rfl
     ·cases h
   ·cases h
  ·cases h
 ·cases h
theorem Zz1 {E:Env} {s:TypeId} {x y:SV U.Ty} {f:Nat} (h:Z3F E s x f=some y):VQ E s (AU U x) f=some (AU U y):=by
 unfold Z3F at h;unfold VQ;split at h
 ·rename_i fs sz by' z0 cs q;rw[q];simp only[AU];split at h
  ·rename_i o t A;rw[A];simp only;split at h
   ·rename_i i z;simp only[z,VG,h,Option.map_some]
   ·cases h
  ·cases h
 ·cases h
theorem X0 {L:Type} {n:Int} {lit:Bool} {len:Nat} {k:Nat->Tr U L} {y:L} (h:(S9 n lit len k).AZ y):(0<=n/\n<len)/\(k n.toNat).AZ y:=by
 unfold S9 at h;split at h
 ·split at h
  ·rename_i D;exact⟨D,h⟩
  ·simp[Tr.AZ]at h
 ·revert h
  suffices hh:∀l:List Nat,(∀i∈l,i<len)->(l.foldr (fun(i:Nat) q=>Tr.br (n==(i:Int)) (k i) q) .fail).AZ y->(0<=n/\n<len)/\(k n.toNat).AZ y from
   fun h=>hh _ (fun i z=>by simpa using z) h
  intro l;induction l with
  | nil=>intro _ h;simp[Tr.AZ]at h
  | cons i l G=>
   intro C h;simp only[List.foldr_cons,Tr.AZ,beq_iff_eq]at h;rcases h with ⟨D,A⟩|⟨_,A⟩
   ·have:=C i (by simp);have z:n.toNat=i:=by omega
    rw[z];exact⟨by omega,A⟩
   ·exact G (fun j F=>C j (by simp[F])) A
theorem Zo1 {E:Env} {H:BH U} {t:TypeId} {x i y:SV U.Ty} (h:(Z1X E H t x i).AZ y):Ov E (BO U H) t (AU U x) (AU U i)=some (AU U y):=by
 unfold Z1X at h;unfold Ov;split at h
 ·rename_i Q n ti J G;rw[KQ J,G];simp only;split at h
  ·rename_i O C;simp only[C];split at h
   ·rename_i F xs;simp only[E8,Tr.AZ,decide_eq_true_eq]at h;obtain⟨z,A,rfl⟩:=h;simp only[AU,List.length_map,A,z,and_self,if_true]
   ·rename_i F xs;simp only[E8,Tr.AZ,decide_eq_true_eq]at h;obtain⟨z,A,rfl⟩:=h;simp only[AU,List.length_map,A,z,and_self,if_true]
   ·rename_i id m;obtain⟨F,xs,fl,M,N,D,I⟩:=Gy h;simp only[E8,Tr.AZ,decide_eq_true_eq]at D;obtain⟨z,A,rfl⟩:=D;simp only[AU,I,CU,A,z,and_self,if_true,Nat.zero_add]
   ·rename_i id off len tot;obtain⟨F,xs,fl,M,N,D,I⟩:=Gy h;simp only[E8,Tr.AZ,decide_eq_true_eq]at D;obtain⟨z,A,rfl⟩:=D;simp only[AU,I,CU,A,z,and_self,if_true]
   ·simp[Tr.AZ]at h
  ·rename_i len e C;simp only[C];split at h
   ·simp[Tr.AZ]at h
   ·rename_i sz q;split at h
    ·obtain⟨hb,h⟩:=X0 h;simp only[Tr.AZ]at h;subst h;simp only[AU,q,hb,and_self,if_true]
    ·obtain⟨hb,h⟩:=X0 h;simp only[Tr.AZ]at h;subst h;simp only[AU,q,hb,and_self,if_true]
    ·split at h
     ·rename_i hc;simp only[Bool.and_eq_true,decide_eq_true_eq]at hc;simp only[Tr.AZ,decide_eq_true_eq]at h;obtain⟨hb,rfl⟩:=h;simp only[AU,q,hb,and_self,if_true,hc.1,Nat.mul_one,Nat.zero_add]
     ·obtain⟨hb,h⟩:=X0 h;simp only[Tr.AZ]at h;subst h;simp only[AU,q,hb,and_self,if_true]
    ·obtain⟨hb,h⟩:=X0 h;simp only[Tr.AZ]at h;subst h;simp only[AU,q,hb,and_self,if_true]
    ·simp[Tr.AZ]at h
  ·simp[Tr.AZ]at h
 ·simp[Tr.AZ]at h
theorem ZzT {s:ByteArray} {n:Nat} (h:n<s.size):s[n]? = some (s.get! n):=by
 rw[getElem?_pos s n h];cases s with
 | mk d=>
  have q:n<d.size:=h;show some d[n]=some d[n]!;rw[getElem!_pos d n q]
theorem Zye {E:Env} {t:TypeId} {x i y:SV U.Ty} (h:(Z3M E t x i).AZ y):VT E t (AU U x) (AU U i)=some (AU U y):=by
 unfold Z3M at h;unfold VT;split at h
 ·rename_i M n F;rw[KQ F];simp only;split at h
  ·rename_i len e sz by' z0 cs q;rw[q];simp only[AU];split at h
   ·rename_i I z;obtain⟨hb,h⟩:=X0 h;rw[Nw]at h;simp only[z,hb,and_self,if_true,VG,h,Option.map_some]
   ·simp[Tr.AZ]at h
  ·rename_i sz by' z0 q;rw[q];split at h
   ·rename_i s G;rw[PG G];split at h
    ·rename_i D;simp only[Tr.AZ,decide_eq_true_eq]at h;obtain⟨⟨C,J⟩,rfl⟩:=h;have A:n.toNat<s.size:=by omega
     simp only[D,C,if_true,ZzT A,Option.map_some,AU]
    ·simp[Tr.AZ]at h
   ·simp[Tr.AZ]at h
  ·simp[Tr.AZ]at h
 ·simp[Tr.AZ]at h
theorem pF {t:Nat} {xs:List (U.Ty t)} {y:SV U.Ty} (h:(V3 t xs).AZ y) :
  U.Ar t=1/\∃q,bytesOf (xs.map (U.enc t))=some q/\q.length<=maxLen/\y = .ss ⟨q.toArray⟩:=by
 unfold V3 at h;simp only[E8,Tr.AZ]at h;obtain⟨D,A,C⟩:=h;refine⟨D,?_⟩;unfold Lm at A;unfold strOf at C;split at A
 ·rename_i q z;refine⟨q,z,by simpa using A,?_⟩;rw[<- C,z];rfl
 ·cases A
theorem ZwP {E:Env} {H:BH U} {F dst:TypeId} {x y:SV U.Ty} (h:(Z3W E H F dst x).AZ y):IY E (BO U H) F dst (AU U x)=some (AU U y,BO U H):=by
 unfold Z3W at h;simp only[E8]at h;obtain⟨hb,h⟩:=h;simp only[Bool.and_eq_true]at hb;split at h
 ·simp only[Tr.AZ]at h;subst h;simp[IY,AU,hb,Eb,elemsOf,bytesOf]
 ·obtain⟨A,G,z,q,rfl⟩:=pF h;simp[IY,AU,hb,Eb,elemsOf,A,z,q]
 ·obtain⟨A,G,z,q,rfl⟩:=pF h;simp[IY,AU,hb,Eb,elemsOf,A,z,q]
 ·obtain⟨t,xs,fl,A,z,q,C⟩:=Gy h;obtain⟨I,G,J,M,rfl⟩:=pF q;subst z;rename_i id;have D:elemsOf (BO U H) (AU U (.all id xs.length))=some (xs.map (U.enc t)):=by
   simp only[AU,elemsOf,C];simp only[CU,Nat.zero_add,Nat.le_refl,decide_true,Bool.and_self,if_true,List.drop_zero,Option.some.injEq];exact List.take_of_length_le (by simp)
  simp only[AU]at D;simp only[IY,AU,hb,D,Eb,C,CU,I,Bool.and_self,beq_self_eq_true,if_true,J,if_pos M]
 ·obtain⟨t,xs,fl,A,z,q,C⟩:=Gy h;simp only[Tr.AZ,decide_eq_true_eq]at q;obtain⟨N,q⟩:=q;obtain⟨I,G,J,M,rfl⟩:=pF q;rename_i id off len tot;have D:elemsOf (BO U H) (AU U (.Bc id off len tot))=some ((((xs.drop off).take len)).map (U.enc t)):=by
   simp only[AU,elemsOf,C];simp[CU,N,List.map_take,List.map_drop]
  simp only[AU]at D;simp only[IY,AU,hb,D,Eb,C,CU,I,Bool.and_self,beq_self_eq_true,if_true,J,if_pos M]
 ·simp[Tr.AZ]at h
theorem ZAu {E:Env} {H:BH U} {q dst:TypeId} {x y:SV U.Ty} (h:(Z4i E H q dst x).AZ y):IY E (BO U H) q dst (AU U x)=some (AU U y,BO U H):=by
 unfold Z4i at h;split at h
 ·rename_i k n C;rw[KQ C];unfold IY;split at h
  ·rename_i j A;simp only[A];split at h
   ·rename_i z;simp only[Tr.AZ]at h;subst h;simp[z,AU]
   ·simp[Tr.AZ]at h
  ·simp[Tr.AZ]at h
 ·split at h
  ·rename_i s z;rw[PG z];unfold IY;split at h
   ·rename_i hb;simp only[Tr.AZ]at h;subst h;simp only[Bool.and_eq_true]at hb;simp[hb,AU]
   ·simp[Tr.AZ]at h
  ·exact ZwP h
end
section
variable {U:Cc}
theorem Zcp {H:BH U} {x:SV U.Ty} {e:Nat} {ys:List (U.Ty e)} (h:(sH H x e).AZ ys) :
  elemsOf (BO U H) (AU U x)=some (ys.map (U.enc e))/\(Eb (BO U H) (AU U x) (U.Ar e)=true):=by
 have A:∀(t:Nat) (xs:List (U.Ty t)),(if h:t=e then Tr.leaf (h▸xs) else Tr.fail:Tr U (List (U.Ty e))).AZ ys->∃C:t=e,(C▸xs:List (U.Ty e))=ys:=by
  intro t xs h;split at h
  ·rename_i C;exact⟨C,h⟩
  ·simp[Tr.AZ]at h
 unfold sH at h;simp only at h;split at h
 ·simp only[Tr.AZ]at h;subst h;exact⟨rfl,rfl⟩
 ·obtain⟨rfl,rfl⟩:=A _ _ h;exact⟨rfl,by simp[AU,Eb]⟩
 ·obtain⟨rfl,rfl⟩:=A _ _ h;exact⟨rfl,by simp[AU,Eb]⟩
 ·obtain⟨t,xs,fl,G,F,q,z⟩:=Gy h;obtain⟨rfl,rfl⟩:=A _ _ q;subst F;refine⟨?_,by simp[AU,Eb,z,CU]⟩;simp only[AU,elemsOf,z];simp only[CU,Nat.zero_add,Nat.le_refl,decide_true,Bool.and_self,if_true,List.drop_zero,Option.some.injEq];exact List.take_of_length_le (by simp)
 ·obtain⟨t,xs,fl,G,F,q,z⟩:=Gy h;simp only[Tr.AZ,decide_eq_true_eq]at q;obtain⟨D,q⟩:=q;obtain⟨rfl,rfl⟩:=A _ _ q;refine⟨?_,by simp[AU,Eb,z,CU]⟩;simp only[AU,elemsOf,z];simp[CU,D,List.map_take,List.map_drop]
 ·simp[Tr.AZ]at h
theorem ZcI {L:Type} {kd:IntKind} {n:Int} {lit:Bool} {z:Tr U L} {f:SV U.Ty->Tr U L} {y:L}:∀{kvs:List (SV U.Ty)},(Ph kd n lit z f kvs).AZ y ->
  (MG kd n (Au U kvs)=some none/\z.AZ y)\/∃v,MG kd n (Au U kvs)=some (some (AU U v))/\(f v).AZ y
 | [],h=>.inl ⟨rfl,h⟩
 | [x],h=>by
  cases x with
  | lit v=>cases v<;>simp[Ph,Tr.AZ]at h
  | _=>simp[Ph,Tr.AZ]at h
 | x::v::r,h=>by
  have key:∀k a,x = .lit (.int k a)->(MG kd n (Au U (x::v::r))=some none/\z.AZ y)\/∃u,MG kd n (Au U (x::v::r))=some (some (AU U u))/\(f u).AZ y:=by
   intro k a C;subst C;simp only[Ph,E8]at h;obtain⟨rfl,h⟩:=h;simp only[Au,AU,MG,if_true]
   by_cases q:n=a
   ·subst q;simp only[if_true];cases lit with
    | true=>
     simp only[if_true]at h;exact .inr ⟨v,rfl,h⟩
    | false=>
     simp only[Bool.false_eq_true,if_false,Tr.AZ,beq_self_eq_true,true_and]at h;rcases h with h|⟨A,_⟩
     ·exact .inr ⟨v,rfl,h⟩
     ·cases A
   ·rw[if_neg q];refine ZcI (lit:=lit) (z:=z) (f:=f) (kvs:=r) ?_;cases lit with
    | true=>
     simp only[if_true]at h;rw[if_neg q]at h;exact h
    | false=>
     have hb:(n==a)=false:=by simpa using q
     simp only[Bool.false_eq_true,if_false,Tr.AZ,hb]at h;rcases h with ⟨A,_⟩|⟨_,h⟩
     ·cases A
     ·exact h
  cases x with
  | lit c=>
   cases c with
   | int k a=>exact key k a rfl
   | _=>simp[Ph,Tr.AZ]at h
  | _=>simp[Ph,Tr.AZ]at h
theorem ZzX {E:Env} {t:TypeId} {ok:Bool} {m x y:SV U.Ty} (h:(Z45 E t ok m x).AZ y):V7 E t ok (AU U m) (AU U x)=some (AU U y):=by
 unfold Z45 at h;split at h
 ·rename_i k e sz by' z0 kvs kd n D G;simp only[E8]at h;obtain⟨F,h⟩:=h;rw[KQ G];simp only[AU,V7,D,F,if_true];rcases ZcI h with ⟨A,q⟩|⟨v,A,q⟩
  ·rw[A];simp only;split at q
   ·rename_i J C;rw[C];simp only;split at q
    ·rename_i z I;simp only[Tr.AZ]at q;subst q;rw[I];cases ok<;>simp[AU,Au,VM]
    ·simp[Tr.AZ]at q
   ·simp[Tr.AZ]at q
  ·rw[A];simp only[Tr.AZ]at q;subst q;cases ok<;>simp[AU,Au]
 ·simp[Tr.AZ]at h
theorem Zyz (v:SV U.Ty):AU U (Z4d v)=AU U v:=by cases v<;>rfl
theorem ZwF {E:Env} {k:Nat} {H H' : BH U} {t u:TypeId} {s x y:SV U.Ty} (h:(Z3C E k H t u s x).AZ (y,H')) :
  Lp E k (BO U H) t u (AU U s) (AU U x)=some (AU U y,BO U H'):=by
 unfold Z3C at h;unfold Lp;split at h
 ·rename_i e sz by' z0 O;rw[O];simp only;split at h
  ·rename_i ei M;simp only[E8,EL]at h;obtain⟨⟨rfl,G,hz,q⟩,ys,Q,h⟩:=h;obtain⟨e1,S⟩:=Zcp Q;rw[q]at S;simp only[M,beq_self_eq_true,e1];rw[if_pos (by simp[G,S,hz])];split at h
   ·rename_i id n;obtain⟨Y,xs,fl,h1,I,z,J⟩:=Gy h;split at z
    ·rename_i F;subst F;simp only[Tr.AZ,Bool.and_eq_true,decide_eq_true_eq,Prod.mk.injEq]at z;obtain⟨⟨C,D⟩,rfl,rfl⟩:=z;subst I;simp only[AU,J,List.length_map];simp only[CU,q,beq_self_eq_true,decide_true,Bool.and_self,if_true,C,D,Option.some.injEq,Prod.mk.injEq];refine⟨by simp[AU],?_⟩;rw[PR];simp[CU,q]
    ·simp[Tr.AZ]at z
   ·rename_i id off len tot;obtain⟨Y,xs,fl,h1,I,z,J⟩:=Gy h;split at z
    ·rename_i F;subst F;simp only[Tr.AZ,Bool.and_eq_true,decide_eq_true_eq,Prod.mk.injEq]at z;obtain⟨⟨C,D,l3,l4⟩,rfl,rfl⟩:=z;subst I;subst C;have N:¬len=xs.length:=by omega
     simp only[AU,J];simp only[CU,q,beq_self_eq_true,decide_true,Bool.and_self,Bool.and_true,Bool.true_and,N,decide_false,Bool.and_false,Bool.false_and,Bool.false_eq_true,if_false,D,l3,l4,List.length_map,if_true,Option.some.injEq,Prod.mk.injEq,true_and];rw[PR];simp[CU,q,List.map_take,List.map_drop]
    ·simp[Tr.AZ]at z
   ·simp only[Tr.AZ,Bool.and_eq_true,decide_eq_true_eq,Prod.mk.injEq]at h;obtain⟨⟨C,D⟩,rfl,rfl⟩:=h;simp only[AU,List.length_map,C,D,decide_true,Bool.and_self,if_true,Option.some.injEq,Prod.mk.injEq,true_and];rw[QV];simp[CU,Bg,q]
   ·rename_i Y xs;split at h
    ·rename_i F;subst F;simp only[Tr.AZ,Bool.and_eq_true,decide_eq_true_eq,Prod.mk.injEq]at h;obtain⟨⟨C,D⟩,h⟩:=h;simp only[AU,List.length_map,q,beq_self_eq_true,C,D,decide_true,Bool.and_self,if_true];rcases h with ⟨A,rfl,rfl⟩|⟨A,rfl,rfl⟩
     ·simp[A,AU,q]
     ·simp only[List.isEmpty_map,A,Bool.false_eq_true,if_false,Option.some.injEq,Prod.mk.injEq];refine⟨by simp[AU],?_⟩;rw[QV];simp[CU,Bg,q]
    ·simp[Tr.AZ]at h
   ·simp[Tr.AZ]at h
  ·simp[Tr.AZ]at h
 ·simp[Tr.AZ]at h
theorem Zyp {E:Env} (J:D9 U E) {k:Nat} {H H' : BH U} {dst:TypeId} {x y:SV U.Ty} (h:(Z3R E k H dst x).AZ (y,H')):MI E k (BO U H) dst (AU U x)=some (AU U y,BO U H'):=by
 unfold Z3R at h;split at h
 ·rename_i st e sz by' z0 M F;simp only[E8,Tr.AZ,Prod.mk.injEq]at h;obtain⟨⟨G,I⟩,D,rfl,rfl⟩:=h;have key:∀l:List UInt8,(l.all fun b=>(U.Gv e (.si .u8 b.toNat)).isSome)=true->(l.filterMap fun b=>U.Gv e (.si .u8 b.toNat)).map (U.enc e)=l.map fun c=>V.lit (.int .u8 c.toNat):=by
   intro l;induction l with
   | nil=>intro _;rfl
   | cons b l N=>
    intro A;simp only[List.all_cons,Bool.and_eq_true]at A;cases C:U.Gv e (.si .u8 b.toNat) with
    | none=>rw[C]at A;cases A.1
    | some a=>
     have:=J.dec _ _ _ C;simp only[AU,Dz,Gm]at this;rw[List.filterMap_cons,C];simp only[List.map_cons,N A.2,this]
  have q:(J7 U e st).map (U.enc e)=bytesV st:=key _ D;have z:(J7 U e st).length=st.size:=by
   have:=congrArg List.length q;rw[List.length_map]at this;rw[this];simp only[bytesV,List.length_map];exact Array.length_toList
  rw[PG M];simp only[MI,F,G,if_true,AU,z,Option.some.injEq,Prod.mk.injEq,true_and];rw[QV];simp[CU,Bg,I,q]
 ·simp[Tr.AZ]at h
theorem Zd0 {x:SV U.Ty} {v:Value} (h:Vj x=some v):AU U x = .lit v:=by
 unfold Vj at h;split at h<;>simp_all [AU]
theorem ZzV {E:Env} {L:Type} (D:D9 U E) {t:Nat} {xs:List (U.Ty t)} {r:L}:∀{n i:Nat} {k:List Value->Tr U L},(uQ xs i n k).AZ r->∃vs,((xs.drop i).take n).map (U.enc t)=vs.map V.lit/\vs.length=n/\(k vs).AZ r:=by
 intro n;induction n with
 | zero=>intro i k h;exact⟨[],by simp,rfl,h⟩
 | succ n J=>
  intro i k h;simp only[uQ,Tr.AZ]at h;obtain⟨x,I,h⟩:=h;split at h
  ·rename_i v G;obtain⟨vs,z,A,C⟩:=J h;obtain⟨F,q⟩:=List.getElem?_eq_some_iff.1 I;refine⟨v::vs,?_,by simp[A],C⟩;rw[List.drop_eq_getElem_cons F,List.take_succ_cons,List.map_cons,List.map_cons,z,q,<- D.encS,Zd0 G]
  ·simp[Tr.AZ]at h
theorem ZBG {E:Env} (M:D9 U E) {t:TypeId} {x y:SV U.Ty} (h:(arrT E t x).AZ y):Vl E t (AU U x)=some (AU U y):=by
 unfold arrT at h;split at h
 ·rename_i n e sz by' z0 N xs C;simp only[E8]at h;obtain⟨⟨G,I,J⟩,h⟩:=h;obtain⟨vs,A,O,F⟩:=ZzV M h;simp only[Tr.AZ]at F;subst F;rw[List.drop_zero]at A;unfold Vl;have z:n<=xs.length:=by
   have:=congrArg List.length A;simp only[List.length_map,List.length_take]at this;omega
  have D:(xs.map (U.enc N)).take n=vs.map V.lit:=by rw[<- List.map_take,A]
  have q:(vs.map V.lit).all Ig=true:=by simp[List.all_eq_true,Ig]
  simp only[C,AU,G,I,J,D,List.length_map,z,q,and_self,if_true]
 ·simp[Tr.AZ]at h
theorem Zpg {q:Option (SV U.Ty)} {n m:Nat} (h:Z2R q n=some m):IW (q.map (AU U)) n n=some m:=by
 unfold Z2R at h;split at h
 ·simpa[IW]using h
 ·simpa[IW,Ie,AU]using h
 ·cases h
theorem ZuT {E:Env} (hU:D9 U E) {H H' : BH U} {n e:Nat} {x y:SV U.Ty} {O M Q:Option (SV U.Ty)} (h:(Z3r E H n e x O M Q).AZ (y,H')) :
  OL E (BO U H) n e (AU U x) (O.map (AU U)) (M.map (AU U)) (Q.map (AU U))=some (AU U y,BO U H'):=by
 unfold Z3r at h;split at h
 ·rename_i id i off tot m hm;split at h
  ·rename_i e' k cs hb;split at h
   ·rename_i ys I;simp only[E8,Tr.AZ,Prod.mk.injEq]at h;obtain⟨⟨⟨rfl,rfl,rfl,S,Y⟩,c6,c7,c8⟩,rfl,rfl⟩:=h;obtain⟨J,d2⟩:=Z2u hU I;have A:∀c∈cs,∃v,AU U c = .lit v:=fun c hc=>by
     have:=List.all_eq_true.1 c8 c hc;obtain⟨v,C⟩:=Option.isSome_iff_exists.1 this;exact⟨v,Zd0 C⟩
    have G:(Au U cs).map (Dz (E.rows e))=Au U cs:=by
     rw[Es,List.map_map];apply List.map_congr_left;intro c hc;obtain⟨v,C⟩:=A c hc;simp only[Function.comp,C,Dz,Gm]
    rw[G]at J;have q:(Au U cs).all Ig=true:=by
     rw[Es,List.all_eq_true];intro y hy;obtain⟨c,hc,rfl⟩:=List.mem_map.1 hy;obtain⟨v,C⟩:=A c hc;rw[C];rfl
    have z:(Au U cs).length=n:=by rw[Es,List.length_map,S]
    have D:=Z2A hb;unfold OL;simp only[AU,Option.map_none,Zpg hm,D,Bg];rw[if_pos ⟨trivial,trivial,z,Y,c6,q⟩];simp only[Option.some.injEq,Prod.mk.injEq,c7,List.map_take,J,true_and];rw[PR];simp only[bump];apply List.ext_getElem?;intro j;rw[List.getElem?_modify,List.getElem?_set]
    by_cases N:id=j
    ·subst N;have F:id<H.length:=(List.getElem?_eq_some_iff.1 hb).1;rw[Lr,hb];simp[CU,Bg,AU,SC,F]
    ·simp[N]
   ·simp[Tr.AZ]at h
  ·simp[Tr.AZ]at h
 ·simp[Tr.AZ]at h
theorem ZzJ {E:Env} {H H' : BH U} {t u:TypeId} {d x y:SV U.Ty} (h:(Z4h E H t u d x).AZ (y,H')) :
  fP E (BO U H) t u (AU U d) (AU U x)=some (AU U y,BO U H'):=by
 unfold Z4h at h;unfold fP;split at h
 ·rename_i e sz by' z0 D;rw[D];simp only;split at h
  ·rename_i O C;simp only[E8,EL]at h;obtain⟨q,ys,F,h⟩:=h;obtain⟨I,G⟩:=Zcp F;rw[q]at G;simp only[C,I];split at h
   ·rename_i id n;obtain⟨S,xs,fl,Q,J,A,M⟩:=Gy h;split at A
    ·rename_i N;subst N;simp only[E8,Tr.AZ,Prod.mk.injEq]at A;obtain⟨z,rfl,rfl⟩:=A;subst J;simp only[AU,M];simp only[CU,q,z,beq_self_eq_true,decide_true,Bool.and_self,G,if_true,Option.some.injEq,Prod.mk.injEq,List.length_map];refine⟨by simp[AU],?_⟩;rw[PR];simp[CU,q,z,List.map_take,List.map_drop]
    ·simp[Tr.AZ]at A
   ·simp[Tr.AZ]at h
  ·simp[Tr.AZ]at h
 ·simp[Tr.AZ]at h
theorem Zd1 {L:Type} {H:BH U} {x:SV U.Ty} {k:Nat->Tr U L} {y:L} (h:(NP H x k).AZ y):∃n,lenOf (BO U H) (AU U x)=some n/\(k n).AZ y:=by
 unfold NP at h;split at h
 ·rename_i id n;obtain⟨t,xs,fl,C,D,q,z⟩:=Gy h;exact⟨n,by simp[AU,lenOf,z],q⟩
 ·rename_i id off len tot;obtain⟨t,xs,fl,C,D,q,z⟩:=Gy h;exact⟨len,by simp[AU,lenOf,z],q⟩
 ·split at h
  ·rename_i n A;refine⟨n,?_,h⟩;unfold lenT at A;split at A<;>simp_all [AU,lenOf]
  ·simp[Tr.AZ]at h
theorem Z2S {L:Type} {H:BH U} {x:SV U.Ty} {k:Nat->Tr U L} {y:L} (h:(NP H x k).AZ y):∀v,x≠.raw v:=by
 rintro v rfl
 simp[NP,lenT,Tr.AZ]at h
theorem Zed {x:SV U.Ty} (z:∀v,x≠.raw v) (h:TD x=false):∀s,AU U x≠.lit (.string s):=by
 intro s q;unfold TD at h;cases x with
 | raw v=>exact z v rfl
 | lit v=>simp only[AU,V.lit.injEq]at q;subst q;simp[JJ]at h
 | ss b=>simp[JJ]at h
 | _=>simp[AU]at q
theorem ZdI {x:SV U.Ty} (h:TD x=true):∃s,JJ x=some s/\AU U x = .lit (.string s):=by
 unfold TD at h;cases q:JJ x with
 | none=>simp[q]at h
 | some s=>exact⟨s,rfl,PG q⟩
theorem ZvW {E:Env} {t:TypeId} {x:SV U.Ty} (z:∀v,x≠.raw v):rP E t (AU U x)=Z36 E t x:=by
 unfold rP Z36
 by_cases q:TD x=true
 ·obtain⟨s,_,h⟩:=ZdI q;rw[h,if_pos q]
 ·rw[if_neg q];have:=Zed z (by simpa using q);split
  ·rename_i s h;exact absurd h (this s)
  ·rfl
theorem ZyI {E:Env} {H:BH U} {x:SV U.Ty} {n:Nat} {L:Type} {k:Nat->Tr U L} {y:L} (q:(NP H x k).AZ y) (h:Z3Y E H x n=true):Eb (BO U H) (AU U x) n=true:=by
 unfold Z3Y at h;split at h
 ·simp[AU,Eb]
 ·simpa[AU,Eb]using h
 ·simpa[AU,Eb]using h
 ·rename_i id m;unfold NP at q;obtain⟨t,xs,fl,z,C,D,A⟩:=Gy q;simp only[z]at h;simpa[AU,Eb,A,CU]using h
 ·rename_i id off len tot;unfold NP at q;obtain⟨t,xs,fl,z,C,D,A⟩:=Gy q;simp only[z]at h;simpa[AU,Eb,A,CU]using h
 ·cases h
theorem Zq3 {E:Env} {H:BH U} {t:TypeId} {x:SV U.Ty} {L:Type} {k:Nat->Tr U L} {y:L} (F:(NP H x k).AZ y) (h:Z20 E H t x=true):PH E (BO U H) t (AU U x)=true:=by
 have G:=Z2S F;unfold Z20 at h;unfold PH;split at h
 ·rename_i C;obtain⟨s,_,q⟩:=ZdI C;rw[q];exact h
 ·rename_i C;have A:=Zed G (by simpa using C);split
  ·rename_i s q;exact absurd q (A s)
  ·split at h
   ·rename_i e _ _ _ D;split at h
    ·rename_i I z;simp only[D,z];exact ZyI F h
    ·cases h
   ·cases h
theorem Z2C {L:Type} {x:Option (SV U.Ty)} {q d:Nat} {k:Nat->Tr U L} {y:L} (h:(fC x q d k).AZ y):∃n,IW (x.map (AU U)) q d=some n/\(k n).AZ y:=by
 unfold fC at h;split at h
 ·exact⟨d,rfl,h⟩
 ·rename_i v;split at h
  ·rename_i A n z;simp only[Tr.AZ,decide_eq_true_eq]at h;refine⟨n.toNat,?_,h.2⟩;simp[IW,KQ z,Ie,h.1]
  ·simp[Tr.AZ]at h
theorem Zxf {E:Env} {H H' : BH U} {t:TypeId} {x y:SV U.Ty} {lo z mx:Option (SV U.Ty)} (h:(sliceT E H t x lo z mx).AZ (y,H')) :
  JG E (BO U H) t (AU U x) (lo.map (AU U)) (z.map (AU U)) (mx.map (AU U))=some (AU U y,BO U H'):=by
 unfold sliceT at h;unfold JG;split at h
 ·rename_i q;have A:=h;have Y:=Z2S A;rw[if_pos (Zq3 A q)];obtain⟨n,S,Q⟩:=Zd1 A;rw[S];obtain⟨hh,C,hb⟩:=Z2C Q;obtain⟨l,D,hc⟩:=Z2C hb;simp only[C,D];clear h Q hb;revert hc;intro h;split at h
  ·rename_i m;split at h
   ·simp[Tr.AZ]at h
   ·rename_i xh;obtain⟨kk,N,hd⟩:=Z2C h;clear h;revert hd;intro h;simp only[Tr.AZ,beq_iff_eq]at h;obtain⟨rfl,h⟩:=h;simp only[Option.map_some,IW]at N;simp only[Option.map_some,N];split at h
    ·rename_i e xs;simp only[Tr.AZ,Prod.mk.injEq]at h;obtain⟨rfl,rfl⟩:=h;simp[AU,elemsOf,List.map_take,List.map_drop]
    ·rename_i e xs;simp only[Tr.AZ,Prod.mk.injEq]at h;obtain⟨rfl,rfl⟩:=h;simp[AU,elemsOf,List.map_take,List.map_drop]
    ·rename_i id n';obtain⟨e,xs,fl,F,O,G,I⟩:=Gy h;simp only[Tr.AZ,Prod.mk.injEq]at G;obtain⟨rfl,rfl⟩:=G;subst O;have hg:(BO U H).getD id default=CU U (.row e xs fl):=by simp[List.getD,Lr,F]
     have J:elemsOf (BO U H) (.Bc id 0 xs.length xs.length)=some (xs.map (U.enc e)):=by
      simp only[elemsOf,I];simp only[CU,Nat.zero_add,Nat.le_refl,decide_true,Bool.and_self,if_true,List.drop_zero];rw[List.take_of_length_le (by simp)]
     simp only[AU,J,if_true,hg];simp only[CU,Option.some.injEq,Prod.mk.injEq];refine⟨by simp[List.map_take,List.map_drop],?_⟩;rw[VI H [id] (by intro i z;simp at z;subst z;exact⟨_,_,_,F⟩)]
    ·simp[Tr.AZ]at h
  ·simp only[Option.map_none];split at h
   ·simp only[Tr.AZ,Prod.mk.injEq]at h;obtain⟨rfl,rfl⟩:=h;simp[AU]
   ·simp only[Tr.AZ,Prod.mk.injEq]at h;obtain⟨rfl,rfl⟩:=h;simp[AU,List.map_take,List.map_drop]
   ·simp only[Tr.AZ,Prod.mk.injEq]at h;obtain⟨rfl,rfl⟩:=h;simp[AU,List.map_take,List.map_drop]
   ·rename_i id n';have M:n=n' :=by
     unfold NP at A;obtain⟨e,xs,fl,F,O,G,I⟩:=Gy A;simpa[AU,lenOf,I]using S.symm
    subst M;split at h
    ·simp only[Tr.AZ,Prod.mk.injEq]at h;obtain⟨rfl,rfl⟩:=h;simp only[Option.map_none,IW,Option.some.injEq]at C D;subst C;subst D;simp[AU]
    ·simp only[Tr.AZ,Prod.mk.injEq]at h;obtain⟨rfl,rfl⟩:=h;simp[AU]
   ·simp only[Tr.AZ,Prod.mk.injEq]at h;obtain⟨rfl,rfl⟩:=h;simp[AU]
   ·split at h
    ·rename_i s hs;simp only[Tr.AZ,Prod.mk.injEq]at h;obtain⟨rfl,rfl⟩:=h;simp[PG hs,AU]
    ·simp[Tr.AZ]at h
 ·simp[Tr.AZ]at h
def NR (U:Cc) (M:IK U) (call:Dn):Prop:=
 ∀g as H v H',(M g as H).AZ (v,H')->call g (Au U as) (BO U H)=some (AU U v,BO U H')
theorem J8 {H H' : BH U} {T:Tr U (SV U.Ty)} {y:SV U.Ty} (h:(JA H T).AZ (y,H')):T.AZ y/\H' = H:=by
 simp only[JA,EL,Tr.AZ,Prod.mk.injEq]at h;obtain⟨x,q,rfl,rfl⟩:=h;exact⟨q,rfl⟩
theorem ZAa {E:Env} {M:IK U} {call:Dn} (Q:D9 U E) (J:NR U M call) {k:Nat} {H H' : BH U} {s:List (SV U.Ty)} {c:Call} {o:Oper} {y:SV U.Ty} (I:o.op = .call c) (h:(Z48 E M k H s c).AZ (y,H')) :
  BP call E k (BO U H) (Au U s) o=some (AU U y,BO U H'):=by
 unfold BP;rw[I];simp only;unfold Z48 at h;have q:evs E (Au U s) c.args=Au U (c.args.toList.map (DD E s)):=ZdC E s c.args.toList;split at h
 ·rename_i b hb;rw[hb];simp only;rw[q];unfold PI;split at h
  ·rename_i x t z A;rw[z,A];split at h
   ·rename_i G;have D:=Z2S h;obtain⟨n,O,h⟩:=Zd1 h;simp only[Tr.AZ,Prod.mk.injEq]at h;obtain⟨rfl,rfl⟩:=h;simp only[Au,ZvW D,G,if_true,O,Option.map_some,AU];rfl
   ·simp[Tr.AZ]at h
  ·rename_i a x t u z A;rw[z,A];simp only[Au];exact ZwF h
  ·rename_i a x t u z A;rw[z,A];simp only[Au];exact ZzJ h
  ·obtain⟨F,rfl⟩:=J8 h;simp only[Zbh F,Option.map_some]
  ·obtain⟨F,rfl⟩:=J8 h;simp only[Zbh F,Option.map_some]
  ·simp[Tr.AZ]at h
 ·rename_i f G;rw[G];simp only;rw[Fe];split at h
  ·rename_i g first caps N
   rw[N];simp only[AU];have C:Au U first++evs E (Au U s) c.args++Au U caps=Au U (first++c.args.toList.map (DD E s)++caps):=by
    rw[q];simp only[Es,List.map_append]
   rw[C];exact J _ _ _ _ _ h
  ·simp[Tr.AZ]at h
 ·simp[Tr.AZ]at h
theorem Zcn {E:Env} {s:List (SV U.Ty)} (ps:List (Nat×Operand)):(ps.map fun(i,x)=>(i,ev E (Au U s) x))=Ko (ps.map fun(i,x)=>(i,DD E s x)):=by
 simp[Ko,Fe]
theorem optEv {E:Env} {s:List (SV U.Ty)} (x:Option Operand):x.map (ev E (Au U s))=(x.map (DD E s)).map (AU U):=by
 cases x<;>simp[Fe]
theorem ZDj {E:Env} {M:IK U} {call:Dn} (F:D9 U E) (hM:NR U M call) {k:Nat} {H H' : BH U} {s:List (SV U.Ty)} {o:Oper} {y:SV U.Ty} (h:(iH E M k H s o).AZ (y,H')) :
  BP call E k (BO U H) (Au U s) o=some (AU U y,BO U H'):=by
 unfold iH at h;split at h
 ·rename_i x q;simp only[Tr.AZ,Prod.mk.injEq]at h;obtain⟨rfl,rfl⟩:=h;unfold BP;rw[q];simp only[Fe]
 ·rename_i q;unfold BP;rw[q];simp only;split at h
  ·rename_i e _ _ _ C;simp only[E8,Tr.AZ,Prod.mk.injEq]at h;obtain⟨O,rfl,rfl⟩:=h;simp only[C,AU,QV,CU,Bg,O];rfl
  ·simp[Tr.AZ]at h
 ·rename_i x hne q;simp only[Tr.AZ,Prod.mk.injEq]at h;obtain⟨rfl,rfl⟩:=h;unfold BP;rw[q];split<;>simp_all [Fe]
 ·rename_i c a b q;unfold BP;rw[q];simp only[Fe];split at h
  ·rename_i hc;simp only[Tr.AZ,Prod.mk.injEq]at h;obtain⟨rfl,rfl⟩:=h;rw[hc];simp[AU]
  ·rename_i hc;simp only[Tr.AZ,Prod.mk.injEq]at h;obtain⟨rfl,rfl⟩:=h;rw[hc];simp[AU]
  ·rename_i t hc;rw[hc];simp only[AU];split at h
   ·rename_i x' y' D J;simp only[Tr.AZ,Prod.mk.injEq]at h;obtain⟨rfl,rfl⟩:=h;rw[SB D,SB J];cases t<;>simp[AU]
   ·simp only[Tr.AZ,Prod.mk.injEq]at h;rcases h with ⟨rfl,rfl,rfl⟩|⟨rfl,rfl,rfl⟩<;>simp
  ·simp[Tr.AZ]at h
 ·rename_i t q;unfold BP;rw[q];simp only;split at h
  ·rename_i i I;simp only[I];split at h
   ·rename_i z hz;simp only[E8,Tr.AZ,Prod.mk.injEq]at h;obtain⟨hc,rfl,rfl⟩:=h;simp only[hz,hc,and_self,if_true,AU,QV,CU,VM]
   ·simp[Tr.AZ]at h
  ·simp[Tr.AZ]at h
 ·rename_i t x q;unfold BP;rw[q];simp only[Fe];split at h
  ·rename_i i I;simp only[E8,Tr.AZ,Prod.mk.injEq]at h;obtain⟨⟨A,G⟩,rfl,rfl⟩:=h;simp only[I,SI G,IV,A,PS G,and_self,if_true,AU,QV,CU]
  ·simp[Tr.AZ]at h
 ·rename_i t ps q;obtain⟨A,rfl⟩:=J8 h;rw[Nw]at A;unfold BP;rw[q];simp only[Zcn,Zx4 A,Option.map_some]
 ·rename_i t n ps q;unfold BP;rw[q];simp only[Zcn];exact Zmn F h
 ·rename_i t a q;obtain⟨A,rfl⟩:=J8 h;unfold BP;rw[q];simp only[Fe,ZcY F A,Option.map_some]
 ·rename_i t a v q;simp only[EL,Tr.AZ,Prod.mk.injEq]at h;obtain⟨H1,A,rfl,rfl⟩:=h;unfold BP;rw[q];simp only[Fe,ZxY F A,Option.map_some];rfl
 ·rename_i x q;unfold BP;rw[q];simp only[Fe];split at h
  ·rename_i D;simp only[Tr.AZ,Prod.mk.injEq]at h;obtain⟨rfl,rfl⟩:=h;simp[D,AU,TA]
  ·rename_i D;simp only[Tr.AZ,Prod.mk.injEq]at h;obtain⟨rfl,rfl⟩:=h;simp[D,AU,TA]
  ·rename_i D;simp only[Tr.AZ,Prod.mk.injEq]at h;obtain⟨rfl,rfl⟩:=h;simp[D,AU,TA]
  ·rename_i D;simp only[Tr.AZ,Prod.mk.injEq]at h;obtain⟨rfl,rfl⟩:=h;simp[D,AU,TA]
  ·simp[Tr.AZ]at h
 ·rename_i op t x z _ q;obtain⟨A,rfl⟩:=J8 h;rw[EL]at A;obtain⟨v,A,G⟩:=A;have hv:∀(c:Bool) y,(Tr.leaf (if c=true then Z4d v else v):Tr U (SV U.Ty)).AZ y->AU U y=AU U v:=fun c y J=>by
   simp only[Tr.AZ]at J;subst J;split
   ·exact Zyz v
   ·rfl
  unfold BP;rw[q];simp only[Fe,ZBx A,Option.map_some,hv _ _ G]
 ·rename_i op _ x q;obtain⟨A,rfl⟩:=J8 h;unfold BP;rw[q];simp only[Fe,ZEd A,Option.map_some]
 ·rename_i src dst x q;unfold BP;rw[q];simp only[Fe];split at h
  ·rename_i hb;rw[if_pos hb];exact Zyp F h
  ·rename_i hb;rw[if_neg hb];obtain⟨A,rfl⟩:=J8 h;simp only[ZAu A]
 ·rename_i t l c q;unfold BP;rw[q];simp only[Fe];split at h
  ·rename_i e _ _ _ C;simp only[C];split at h
   ·rename_i n _ m _ ei hn hm N;obtain⟨k1,S⟩:=Zcm hn;obtain⟨k2,Q⟩:=Zcm hm;simp only[S,Q,N];split at h
    ·rename_i z hz;simp only[hz];split at h
     ·rename_i y0 hy0;simp only[E8,Tr.AZ,decide_eq_true_eq,Prod.mk.injEq]at h;obtain⟨⟨c1,c2,c3,c4⟩,⟨c5,c6,c7,c8⟩,rfl,rfl⟩:=h;have hd:=F.dec _ _ _ hy0;rw[VM]at hd;rw[if_pos ⟨c5,c6,c7,c8,c1,c2,c3⟩];simp only[AU,QV,CU,Bg,c4,hd,List.map_replicate,List.length_replicate];rfl
     ·simp[Tr.AZ]at h
    ·simp[Tr.AZ]at h
   ·simp[Tr.AZ]at h
  ·simp[Tr.AZ]at h
 ·rename_i t x lo I mx q;unfold BP;rw[q];simp only[Fe,optEv];split at h
  ·rename_i n e sz by' z0 C;rw[C];exact ZuT F h
  ·rename_i Y;split
   ·rename_i n e sz by' z0 C;exact absurd C (Y n e sz by' z0)
   ·exact Zxf h
 ·rename_i t x q;obtain⟨A,rfl⟩:=J8 h;unfold BP;rw[q];simp only[Fe,ZBG F A,Option.map_some]
 ·rename_i t x f q;obtain⟨A,rfl⟩:=J8 h;rw[Nw]at A;unfold BP;rw[q];simp only[Fe,Zn7 A,Option.map_some]
 ·rename_i t x f q;obtain⟨A,rfl⟩:=J8 h;rw[Nw]at A;unfold BP;rw[q];simp only[Fe,Zz1 A,Option.map_some]
 ·rename_i t x i q;obtain⟨A,rfl⟩:=J8 h;unfold BP;rw[q];simp only[Fe,Zo1 A,Option.map_some]
 ·rename_i t x i q;obtain⟨A,rfl⟩:=J8 h;unfold BP;rw[q];simp only[Fe,Zye A,Option.map_some]
 ·rename_i x i q;unfold BP;rw[q];simp only[Fe];split at h
  ·rename_i vs hv;obtain⟨A,rfl⟩:=J8 h;rw[Nw]at A;simp[hv,AU,Es,A]
  ·simp[Tr.AZ]at h
 ·rename_i t m x ok q;obtain⟨A,rfl⟩:=J8 h;unfold BP;rw[q];simp only[Fe,ZzX A,Option.map_some]
 ·rename_i f first caps q
  simp only[Tr.AZ,Prod.mk.injEq]at h;obtain⟨rfl,rfl⟩:=h;unfold BP;rw[q];simp only[AU,evs,ZdC]
 ·rename_i c q;exact ZAa F hM q h
 ·simp[Tr.AZ]at h
theorem Z32 {E:Env} {M:IK U} {call:Dn} (hU:D9 U E) (hM:NR U M call) {ops:Array Oper} {k i:Nat} {st st' : Df U} (h:(stepT E M ops k i st).AZ st') :
  Je call E ops k i (CX U st)=some (CX U st'):=by
 unfold stepT at h;unfold Je;split at h
 ·rename_i S;simp only[Tr.AZ]at h;subst h;rw[S]
 ·rename_i o S;rw[S];simp only at h ⊢;have run:∀(q:Df U),((iH E M k q.H q.s o).andThen fun r=>Tr.leaf (⟨Qy q.s o.dst r.1,r.2⟩:Df U)).AZ st' -> ∃v H1,BP call E k (BO U q.H) (Au U q.s) o=some (v,H1)/\(⟨setSlot (Au U q.s) o.dst v,H1⟩:St)=CX U st' :=by
   intro q G;simp only[EL,Tr.AZ]at G;obtain⟨⟨v,H1⟩,I,rfl⟩:=G;exact⟨_,_,ZDj hU hM I,by simp only[CX,Zdd]⟩
  have skip:∀(q:Df U),(Tr.leaf (⟨Qy q.s o.dst .no,q.H⟩:Df U):Tr U (Df U)).AZ st' -> (⟨setSlot (Au U q.s) o.dst EH,BO U q.H⟩:St)=CX U st' :=by
   intro q G;simp only[Tr.AZ]at G;subst G;simp only[CX,Zdd];rfl
  unfold F6;cases hg:o.guard with
  | none=>
   simp only[hg]at h;obtain⟨v,H1,I,N⟩:=run st h;simp only[CX,I];rw[N];rfl
  | some jw=>
   obtain⟨j,z⟩:=jw;simp only[hg]at h;split at h
   ·simp[Tr.AZ]at h
   ·rename_i d hd;simp only[hd];rw[show (CX U st).s.getD d .und=AU U (st.s.getD d .und) from VD st.s d];have D:∀(b:Bool) (q:Df U),CX U q=CX U st->AU U (st.s.getD d .und) = .lit (.bool b) ->
      (if b==z then ((iH E M k q.H q.s o).andThen fun r=>Tr.leaf (⟨Qy q.s o.dst r.1,r.2⟩:Df U)) else (Tr.leaf (⟨Qy q.s o.dst .no,q.H⟩:Df U):Tr U (Df U))).AZ st' ->
      (match (match OM (AU U (st.s.getD d .und)) z with
       | none=>none
       | some false=>some (EH,(CX U st).H)
       | some true=>BP call E k (CX U st).H (CX U st).s o) with
      | some (v,H)=>some (⟨setSlot (CX U st).s o.dst v,H⟩:St)
      | none=>none)=some (CX U st'):=by
     intro b q G hv Y;rw[hv,<- G];simp only[OM];split at Y
     ·rename_i hb;obtain⟨v,H1,I,N⟩:=run q Y;rw[hb];simp only[CX,I];exact congrArg some N
     ·rename_i hb;have:=skip q Y;rw[show (b==z)=false by simpa using hb];simp only[CX];exact congrArg some this
    split at h
    ·rename_i C;rw[C];have:=skip st h;simp only[AU,OM,CX];exact congrArg some this
    ·rename_i C;refine D true st rfl (by rw[C];rfl) ?_;cases z<;>exact h
    ·rename_i C;refine D false st rfl (by rw[C];rfl) ?_;cases z<;>exact h
    ·rename_i b C;have A:∀J,b=J -> CX U (⟨st.s.set d (.lit (.bool J)),st.H⟩:Df U)=CX U st:=by
      rintro J rfl
      simp only[CX,St.mk.injEq,and_true];rw[Es,Es,List.map_set];apply List.ext_getElem?;intro n;rw[List.getElem?_set];split
      ·rename_i O;subst O;split
       ·rename_i F;simp only[List.length_map]at F;have:st.s.getD d .und=st.s[d]:=by simp[List.getD,F]
        rw[this]at C;simp[F,C,AU]
       ·rename_i Q;rw[List.getElem?_eq_none (by simpa using Q)]
      ·rfl
     simp only[Tr.AZ]at h;rcases h with ⟨rfl,h⟩|⟨rfl,h⟩
     ·refine D true _ (A true rfl) (by rw[C];rfl) ?_;cases z<;>exact h
     ·refine D false _ (A false rfl) (by rw[C];rfl) ?_;cases z<;>exact h
    ·simp[Tr.AZ]at h
theorem ZCB {E:Env} {M:IK U} {call:Dn} (D:D9 U E) (C:NR U M call) {ops:Array Oper}:∀{q:List Nat} {st st' : Df U},(opsT E M ops q st).AZ st' -> MN call E ops q (CX U st)=some (CX U st'):=by
 intro q;induction q with
 | nil=>intro st st' h;simp only[opsT,Tr.AZ]at h;subst h;rfl
 | cons i q F=>
  intro st st' h;simp only[opsT,EL]at h;obtain⟨G,z,A⟩:=h;have:=Z32 D C z;simp only[MN,stepD];rw[show (CX U st).H.length=st.H.length from SC st.H,this];exact F A
theorem Zc6 {E:Env} {s:List (SV U.Ty)} {o:Oper}:ED E (Au U s) o=eP E s o:=by
 unfold ED eP;congr 1;funext x;rw[Fe,Zy5]
theorem ZuD {H:BH U} {a:SV U.Ty} {k:Nat} (h:Z3o H a k=true):OO (BO U H) (AU U a) k=true:=by
 unfold Z3o at h;split at h
 ·rename_i id i off tot;simp only[Bool.and_eq_true,beq_iff_eq]at h;obtain⟨z,q⟩:=h;split at q
  ·rename_i e n x hb;simp only[beq_iff_eq]at q;simp only[AU,OO,z,beq_self_eq_true,Bool.true_and,DZ,Lr];rw[<- z,hb];simp[CU,Bg,q]
  ·cases q
 ·rename_i id n;simp only[Bool.and_eq_true,beq_iff_eq]at h;obtain⟨z,q⟩:=h;split at q
  ·rename_i t xs fl hb;simp only[AU,OO,z,beq_self_eq_true,Bool.true_and,Lr];rw[<- z,hb];simp[CU]
  ·cases q
 ·cases h
theorem ZxZ {base k:Nat} {s0:List (SV U.Ty)} {t:Nat⊕Nat} (h:tV base s0 t=some k):P8 base (Au U s0) t=some k:=by
 cases t with
 | inl j=>exact h
 | inr d=>
  unfold tV at h;unfold P8;have:(Au U s0).getD d .und=AU U (s0.getD d .und):=by
   rw[Es];simp only[List.getD,List.getElem?_map];cases s0[d]?<;>rfl
  simp only at h ⊢;rw[this];split at h
  ·rename_i q;rw[q];exact h
  ·rename_i q;rw[q];exact h
  ·cases h
theorem ZzG {E:Env} {ms:List Nat} {lt:List (Nat×(Nat⊕Nat))} {s0:List (SV U.Ty)} {base i:Nat} {s:List (SV U.Ty)} {H:BH U} {o:Oper} (h:Z4m E ms lt s0 base i s H o=true):GX E ms lt (Au U s0) base i (Au U s) (BO U H) o=true:=by
 unfold Z4m at h;unfold GX;rw[List.all_eq_true]at h ⊢;intro p A;have h:=h p A;cases z:tV base s0 p.2 with
 | none=>rw[z]at h;cases h
 | some k=>
  rw[z]at h;simp only at h;rw[ZxZ z];simp only;have:addrOf E (Au U s) o=AU U (Z3j E s o):=by
   unfold addrOf Z3j;cases PK o<;>first|exact Fe ..|rfl
  rw[this,Zc6];split
  ·rename_i q;rw[if_pos q]at h;exact ZuD h
  ·rename_i q;rw[if_neg q]at h;exact h
theorem ZAk (v:SV U.Ty):uS (AU U v)=Zen v:=by cases v<;>rfl
theorem Zxe {E:Env} {s:List (SV U.Ty)} {o:Oper} (h:Z3L E s o=true):quietAt E (Au U s) o=true:=by
 unfold Z3L at h;unfold quietAt;cases z:o.op with
 | call c=>
  simp only[z]at h;simp only;cases q:c.callee with
  | value f=>
   cases f with
   | tmp t=>
    simp only[q]at h;simp only;rw[VD];cases C:(E.quiet&&o.type != 0) with
    | false=>rfl
    | true=>
     simp only[C,Bool.not_true,Bool.false_or]at h ⊢;cases A:s.getD t .und with
     | fn g a b=>
      rw[A]at h;simp only[Z3Z,Bool.and_eq_true]at h;simp only[AU,tH,Bool.and_eq_true];refine⟨h.1,?_⟩;rw[Es,Es,<- List.map_append,List.all_map];rw[List.all_eq_true]at h ⊢;intro x D;simp only[Function.comp,ZAk];exact h.2 x D
     | _=>rw[A]at h;simp[Z3Z]at h
   | _=>rfl
  | _=>rfl
 | _=>rfl
theorem Zx2 {E:Env} {M:IK U} {call:Dn} (F:D9 U E) (D:NR U M call) {ops:Array Oper} {ms:List Nat} {lt:List (Nat×(Nat⊕Nat))} {s0:List (SV U.Ty)} {base m i:Nat} {st st' : Df U} (h:(Z3H E M ops ms lt s0 base m i st).AZ st') :
  Ht call E ops ms lt (Au U s0) base m i (CX U st)=some (CX U st'):=by
 unfold Z3H at h;unfold Ht;split at h
 ·rename_i C;simp only[Tr.AZ]at h;subst h;rw[C]
 ·rename_i o C;rw[C];simp only[E8]at h ⊢;obtain⟨I,q,h⟩:=h;rw[Bool.and_eq_true,Bool.and_eq_true]at q;obtain⟨⟨G,z⟩,A⟩:=q;have q :=And.intro z A;rw[show quietAt E (CX U st).s o=true from Zxe G,Bool.and_true];rw[show ED E (CX U st).s o=eP E st.s o from Zc6,show (CX U st).H.length=st.H.length from SC st.H,if_pos (by rw[I,Bool.true_and,Bool.and_eq_true];exact⟨ZzG q.1,q.2⟩)];split at h
  ·rename_i hc;rw[if_pos hc];rw[show (CX U st).H[base+i]? = (st.H[base+i]?).map (CU U) from Lr _ _];split at h
   ·rename_i b hb;rw[hb];split at h
    ·rename_i J;have:b = .dead:=by cases b<;>simp_all [ZdV]
     subst this;simp only[Option.map_some,CU,Q9,Bool.false_eq_true,if_false];exact Z32 F D h
    ·simp[Tr.AZ]at h
   ·simp[Tr.AZ]at h
  ·rename_i hc;rw[if_neg hc];exact Z32 F D h
theorem Zvx {E:Env} {M:IK U} {call:Dn} (D:D9 U E) (C:NR U M call) {ops:Array Oper} {ms:List Nat} {lt:List (Nat×(Nat⊕Nat))} {s0:List (SV U.Ty)} {base m:Nat}:∀{q:List Nat} {st st' : Df U},(dY E M ops ms lt s0 base m q st).AZ st' ->
  Lt call E ops ms lt (Au U s0) base m q (CX U st)=some (CX U st'):=by
 intro q;induction q with
 | nil=>intro st st' h;simp only[dY,Tr.AZ]at h;subst h;rfl
 | cons i q F=>
  intro st st' h;simp only[dY,EL]at h;obtain⟨G,z,A⟩:=h;simp only[Lt,Zx2 D C z];exact F A
theorem Zzc {E:Env} {M:IK U} {call:Dn} (z:D9 U E) (q:NR U M call) {ops:Array Oper} {st st' : Df U} (h:(uK E M ops st).AZ st'):TL call E ops (CX U st)=some (CX U st'):=by
 unfold uK at h;unfold TL;have:=Zvx z q h;rw[show (CX U st).H.length=st.H.length from SC st.H];rw[<- this];congr 1;simp[CX,BO,CU]
end
end Go.Proofs.YtjodhcdmhobmoaaGreatDoor.Le
