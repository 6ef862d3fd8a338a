/- A part of it. -/
import Derived.Test.YtjodhcdmhobmoaaGreatDoorL3
set_option linter.unusedVariables false
set_option linter.unusedSimpArgs false
namespace Go.Proofs.YtjodhcdmhobmoaaGreatDoor.Le
open Go.RowKit (Below)
def Sg.ren (σ:Sg) (ids:List Nat):Sg:=⟨fun j=>(ids[j]?).bind σ.box,σ.fz⟩
theorem sO {ids:List Nat} {id:Nat} (h:id∈ids):ids[ids.idxOf id]? = some id:=by
 have q:=List.idxOf_lt_length_of_mem h;rw[List.getElem?_eq_getElem q,List.getElem_idxOf]
theorem Z3A {σ:Sg} {ids:List Nat} {id:Nat} (h:id∈ids):(σ.ren ids).box (ids.idxOf id)=σ.box id:=by
 simp[Sg.ren,sO h]
theorem Z8C {w w' : World} {B e sz n:Nat} {v:Value} {us:List Value} (h:FZ w B e sz v n us) (hb:∀g,v.ownBlock=some g->w'.heap[g]? = w.heap[g]?):FZ w' B e sz v n us:=by
 refine⟨h.1,?_⟩;rcases h.2 with D|⟨g,cap,z,F,rfl,A,C,q⟩
 ·exact .inl D
 ·exact .inr ⟨g,cap,z,F,rfl,A,by rw[hb g (by simp[Value.ownBlock])];exact C,q⟩
theorem OB (q:Nat->Nat) (b:Box):(Fj q b).live=b.live/\(Fj q b).row=b.row/\(Fj q b).EZ=b.EZ/\(Fj q b).elem=b.elem/\(Fj q b).Ap=b.Ap/\(Fj q b).floor=b.floor/\(Fj q b).xs.length=b.xs.length:=by
 unfold Fj;split
 ·exact⟨rfl,rfl,rfl,rfl,rfl,rfl,rfl⟩
 ·exact⟨rfl,rfl,rfl,rfl,rfl,rfl,Z0z _ _⟩
theorem Jr.ren {σ σ' : Sg} {w w' : World} {B:Nat} {b:Box} {L:Loc} (D:Nat->Nat) (h:Jr σ w B b L) (A:∀b c,σ.fz b c->σ'.fz b c/\w'.cell? ⟨b,c,none⟩=w.cell? ⟨b,c,none⟩) (C:EP w w')
  (O:b.row=false->∀id∈D7 b.xs,σ'.box (D id)=σ.box id) (hb:∀g,L.v.ownBlock=some g->w'.heap[g]? = w.heap[g]?):Jr σ' w' B (Fj D b) L:=by
 obtain⟨e1,I,J,M,N,e6,F⟩:=OB D b;obtain⟨us,G,Y,r3,r4⟩:=h.Dc;have Q:AQ σ' w' (Fj D b).xs us:=by
  unfold Fj;split
  ·rename_i q;exact G.bare A C ((KO _).2 (h.Hu q))
  ·rename_i q;exact Z26 G A C (O (by simpa using q))
 refine⟨by rw[F];exact h.tot,⟨us,Q,Y,r3,by rw[M,F];exact Z8C r4 hb⟩,by rw[J];exact h.EZ,by rw[N];exact h.Ap,?_,?_⟩
 ·intro x z;unfold Fj at z;split at z
  ·exact h.oks x z
  ·simp only[Z2G,List.mem_map]at z;obtain⟨y,S,rfl⟩:=z;rw[Ze5];exact h.oks y S
 ·intro q x z;rw[I]at q;unfold Fj at z;rw[if_pos q]at z;exact h.Hu q x z
section
variable {B:Nat} {w0:Start} {σ:Sg} {H:Heap} {w:World} {ids:List Nat}
theorem ZdR (H:Heap) (ids:List Nat) (j:Nat):(Iq H ids)[j]? = (ids[j]?).map fun id=>Fj (ids.idxOf ·) ((H[id]?).getD Qe):=by
 simp[Iq]
theorem Z2j {l:List Nat} (h:l.Nodup) {i j x:Nat} (A:l[i]? = some x) (C:l[j]? = some x):i=j:=by
 obtain⟨D,q⟩:=List.getElem?_eq_some_iff.1 A;obtain⟨F,z⟩:=List.getElem?_eq_some_iff.1 C;exact(List.getElem_inj h).1 (q.trans z.symm)
theorem fD {xs:List V} {vs:List Value} (A:AQ σ w xs vs) (hm:∀id∈D7 xs,id∈ids):AQ (σ.ren ids) w (Gl (ids.idxOf ·) xs) vs:=
 Z26 A (fun b c z=>⟨z,rfl⟩) (EP.refl _) fun id q=>Z3A (hm id q)
theorem Z4c (h:Inv B w0 σ H w) (hs:uQ ids H) (M:Start) (C:Below B M.w w) (N:∀b c,σ.fz b c->b<B->M.fz b c)
  (hk:∀b,M.keep b->b<w.heap.size/\w.heap[b]? = M.w.heap[b]? /\ (∀id∈ids,∀L,σ.box id=some L->L.v.ownBlock≠some b)/\∀c,σ.fz b c->M.fz b c):Inv B M (σ.ren ids) (Iq H ids) w:=by
 have q:∀{j:Nat} {L:Loc},(σ.ren ids).box j=some L->∃id,ids[j]? = some id/\σ.box id=some L:=by
  intro j L A;simp only[Sg.ren]at A;cases J:ids[j]? with
  | none=>simp[J]at A
  | some id=>simp only[J,Option.bind_some]at A;exact⟨id,rfl,A⟩
 have z:∀{j:Nat} {G : Box},(Iq H ids)[j]? = some G -> ∃id b,ids[j]? = some id/\H[id]? = some b/\b.live=true/\(b.row=false->∀r∈D7 b.xs,r∈ids)/\G = Fj (ids.idxOf ·) b:=by
  intro j G hb;rw[ZdR]at hb;cases J:ids[j]? with
  | none=>simp[J]at hb
  | some id=>
   obtain⟨b,k1,k2,k3⟩:=hs.at_ id (List.mem_of_getElem? J);simp only[J,Option.map_some,k1,Option.getD_some,Option.some.injEq]at hb;exact⟨id,b,rfl,k1,k2,k3,hb.symm⟩
 refine⟨C,h.size,?_,?_,?_,h.cells,?_,?_,N,fun b hb=>?_⟩
 ·intro j L A;obtain⟨id,I,O⟩:=q A;obtain⟨b,k1,k2,k3⟩:=hs.at_ id (List.mem_of_getElem? I);refine⟨Fj (ids.idxOf ·) b,by rw[ZdR,I];simp[k1],?_⟩;rw[(OB _ b).1];exact k2
 ·intro j G hb hl;obtain⟨id,b,I,O,h3,h4,rfl⟩:=z hb;obtain⟨L,A,Y⟩:=h.boxes id b O h3;refine⟨L,by simp[Sg.ren,I,A],Y.ren _ (fun b c S=>⟨S,rfl⟩) (EP.refl _) (fun hr r S=>Z3A (h4 hr r S)) (fun _ _=>rfl)⟩
 ·intro j j' b1 b2 L1 L2 g I O l1 l2 s1 s2 g1 g2;obtain⟨i1,e1,t1⟩:=q s1;obtain⟨i2,e2,t2⟩:=q s2;obtain⟨i1',c1,f1,p1,p2,_⟩:=z I;obtain⟨i2',c2,f2,q1,q2,_⟩:=z O;rw[e1]at f1;cases f1;rw[e2]at f2;cases f2;have:=h.apart i1 i2 c1 c2 L1 L2 g p1 q1 p2 q2 t1 t2 g1 g2;subst this;exact Z2j hs.nodup e1 e2
 ·intro b c hc j G L hb hl A Q;obtain⟨id,F,D⟩:=q A;obtain⟨id',b0,f1,p1,p2,_,rfl⟩:=z hb;rw[F]at f1;cases f1;rw[(OB _ b0).2.2.2.2.2.1];exact h.floor b c hc id b0 L p1 p2 D Q
 ·intro j G hb hl;obtain⟨id,b0,f1,p1,p2,_,rfl⟩:=z hb;obtain⟨_,_,_,_,_,e6,e7⟩:=OB (ids.idxOf ·) b0;rw[e6,e7];exact h.low id b0 p1 p2
 ·obtain⟨k1,k2,k3,k4⟩:=hk b hb;refine⟨k1,k2,fun j L A Q=>?_,k4⟩;obtain⟨id,F,D⟩:=q A;exact k3 id (List.mem_of_getElem? F) L D Q
def Gu (ids:List Nat) (n i:Nat):Option Nat:=if i<n then (if i∈ids then some (ids.idxOf i) else none) else some (ids.length+(i - n))
theorem ZAR:∀{ids:List Nat} {H q:Heap} (i:Nat),ids.Nodup->(∀id∈ids,id<H.length)->ids.length<=q.length ->
  (Pz H ids q)[i]? = match Gu ids H.length i with|some j=>q[j]? | none=>H[i]?:=by
 intro ids;induction ids with
 | nil=>
  intro H q i _ _ _;unfold Gu;simp only[Pz,List.getElem?_append,List.not_mem_nil,if_false,List.length_nil,Nat.zero_add];split<;>rfl
 | cons id ids J=>
  intro H q i C G hb;cases q with
  | nil=>simp at hb
  | cons b q=>
   rw[List.nodup_cons]at C;rw[Pz,J i C.2 (fun j I=>by simpa using G j (by simp[I])) (by simpa using hb)];have A:=G id (by simp);unfold Gu;simp only[List.length_set,List.mem_cons,List.length_cons]
   by_cases F:i<H.length
   ·simp only[F,if_true]
    by_cases z:i=id
    ·subst z;simp[C.1,A]
    ·by_cases hm:i∈ids
     ·simp only[hm,or_true,if_true];have D:(id==i)=false:=by simp only[beq_eq_false_iff_ne];exact fun e=>z e.symm
      simp[List.idxOf_cons,D]
     ·simp only[hm,z,or_self,if_false];rw[List.getElem?_set_ne (fun e=>z e.symm)]
   ·simp only[F,if_false];rw[show ids.length+1+(i - H.length)=(ids.length+(i - H.length))+1 by omega];rfl
theorem Zrp {q:Heap} (i:Nat) (A:ids.Nodup) (z:∀id∈ids,id<H.length) (hb:ids.length<=q.length) :
  (OQ H ids q)[i]? = match Gu ids H.length i with|some j=>(q[j]?).map (Fj (JZ ids H.length))|none=>H[i]?:=by
 unfold OQ;rw[ZAR i A z (by simpa using hb)];split<;>simp
theorem ZDA {n i i' j:Nat} (G:ids.Nodup) (q:Gu ids n i=some j) (z:Gu ids n i' = some j):i=i' :=by
 unfold Gu at q z;have key:∀{x:Nat},x∈ids->ids.idxOf x<ids.length:=fun h=>List.idxOf_lt_length_of_mem h;split at q<;>split at z
 ·split at q<;>split at z
  ·rename_i C D;simp only[Option.some.injEq]at q z;have F:=sO C;have A:=sO D;rw[q]at F;rw[z]at A;rw[F]at A;exact Option.some.inj A
  ·cases z
  ·cases q
  ·cases q
 ·split at q
  ·rename_i C;simp only[Option.some.injEq]at q z;have:=key C;omega
  ·cases q
 ·split at z
  ·rename_i D;simp only[Option.some.injEq]at q z;have:=key D;omega
  ·cases z
 ·simp only[Option.some.injEq]at q z;omega
theorem ZAg {n:Nat} (C:ids.Nodup) (A:∀id∈ids,id<n) (j:Nat):Gu ids n (JZ ids n j)=some j:=by
 unfold JZ Gu
 by_cases q:j<ids.length
 ·rw[if_pos q];have z:ids.getD j 0=ids[j]:=by simp[List.getD,q]
  rw[z];have hm:ids[j]∈ids:=List.getElem_mem q;rw[if_pos (A _ hm),if_pos hm];congr 1;exact Z2j C (sO hm) (List.getElem?_eq_getElem q)
 ·rw[if_neg q,if_neg (by omega)];congr 1;omega
def Sg.back (σ q:Sg) (ids:List Nat) (n:Nat):Sg:=⟨fun i=>match Gu ids n i with|some j=>q.box j|none=>σ.box i,q.fz⟩
theorem ZdF {q:Sg} {n:Nat} (A:ids.Nodup) (z:∀id∈ids,id<n) (j:Nat):(σ.back q ids n).box (JZ ids n j)=q.box j:=by
 simp only[Sg.back,ZAg A z]
def outer (σ:Sg) (ids:List Nat) (w0:Start) (b:Nat):Prop:=w0.keep b\/∃id L,id∉ids/\σ.box id=some L/\L.v.ownBlock=some b
theorem ZCe {G:Sg} {S:Heap} {w' : World} (h:Inv B w0 σ H w) (hs:uQ ids H) (D:Inv B ⟨w,σ.fz,outer σ ids w0⟩ G S w') (hE:Ext (σ.ren ids) w G w') (hlen:ids.length<=S.length) :
  Inv B w0 (σ.back G ids H.length) (OQ H ids S) w' /\ Ext σ w (σ.back G ids H.length) w' :=by
 have Y:∀id∈ids,id<H.length:=fun id hid=>by
  obtain⟨b,k1,_⟩:=hs.at_ id hid;exact(List.getElem?_eq_some_iff.1 k1).1
 have hfz:∀b c,σ.fz b c->G.fz b c/\w'.cell? ⟨b,c,none⟩=w.cell? ⟨b,c,none⟩:=hE.fz;have e:Ext σ w (σ.back G ids H.length) w' :=by
  refine⟨fun i L q=>?_,hfz,hE.mp⟩;have O:=h.Z4f q;simp only[Sg.back]
  by_cases hm:i∈ids
  ·have z:Gu ids H.length i=some (ids.idxOf i):=by simp[Gu,O,hm]
   simp only[z];exact hE.box _ L (by rw[Z3A hm];exact q)
  ·have z:Gu ids H.length i=none:=by simp[Gu,O,hm]
   simp only[z];exact⟨L,q,rfl,.inl rfl⟩
 have N:∀i,(OQ H ids S)[i]? = match Gu ids H.length i with|some j=>(S[j]?).map (Fj (JZ ids H.length))|none=>H[i]?:=fun i=>Zrp i hs.nodup Y hlen
 have F:∀{i:Nat} {L:Loc} {g:Nat},Gu ids H.length i=none->σ.box i=some L->L.v.ownBlock=some g->outer σ ids w0 g:=by
  intro i L g z q M;refine .inr ⟨i,L,?_,q,M⟩;intro hm;simp[Gu,Y i hm,hm]at z
 have A:∀{i:Nat} {J : Box},(OQ H ids S)[i]? = some J -> (∃j b,Gu ids H.length i=some j/\S[j]? = some b/\J = Fj (JZ ids H.length) b)\/(Gu ids H.length i=none/\H[i]? = some J):=by
  intro i J hb;rw[N]at hb;cases z:Gu ids H.length i with
  | none=>rw[z]at hb;exact .inr ⟨rfl,hb⟩
  | some j=>
   rw[z]at hb;simp only[Option.map_eq_some_iff]at hb;obtain⟨b,h2,h3⟩:=hb;exact .inl ⟨j,b,rfl,h2,h3.symm⟩
 refine⟨⟨h.below.trans D.below,D.size,?_,?_,?_,D.cells,?_,?_,fun b c hc Q =>h.old b c (D.old b c hc Q) Q,fun b hb=>?_⟩,e⟩
 ·intro i L q;simp only[Sg.back]at q;rw[N];cases z:Gu ids H.length i with
  | none=>rw[z]at q;exact h.dom i L q
  | some j=>
   rw[z]at q;obtain⟨b,k1,k2⟩:=D.dom j L q;exact⟨Fj (JZ ids H.length) b,by simp[k1],by rw[(OB _ b).1];exact k2⟩
 ·intro i J hb I;rcases A hb with ⟨j,b,z,hj,rfl⟩|⟨z,O⟩
  ·rw[(OB _ b).1]at I;obtain⟨L,q,C⟩:=D.boxes j b hj I;refine⟨L,by simp only[Sg.back,z];exact q,C.ren _ (fun b c hh=>⟨hh,rfl⟩) (EP.refl _) (fun _ r _=>ZdF hs.nodup Y r) (fun _ _=>rfl)⟩
  ·obtain⟨L,q,C⟩:=h.boxes i J O I;obtain⟨us,r1,r2,r3,r4⟩:=C.Dc;refine⟨L,by simp only[Sg.back,z];exact q,C.tot,⟨us,r1.ext e,r2,r3,Z8C r4 fun g M=>?_⟩,C.EZ,C.Ap,C.oks,C.Hu⟩;exact(D.kept g (F z q M)).2.1
 ·intro i i' b1 b2 L1 L2 g p1 p2 l1 l2 s1 s2 g1 g2;simp only[Sg.back]at s1 s2;rcases A p1 with ⟨j,c1,t1,q1,rfl⟩|⟨t1,q1⟩<;>rcases A p2 with ⟨j',c2,t2,q2,rfl⟩|⟨t2,q2⟩
  ·rw[t1]at s1;rw[t2]at s2;rw[(OB _ _).1]at l1 l2;have:=D.apart j j' c1 c2 L1 L2 g q1 q2 l1 l2 s1 s2 g1 g2;subst this;exact ZDA hs.nodup t1 t2
  ·rw[t1]at s1;rw[t2]at s2;exact absurd g1 ((D.kept g (F t2 s2 g2)).2.2.1 j L1 s1)
  ·rw[t1]at s1;rw[t2]at s2;exact absurd g2 ((D.kept g (F t1 s1 g1)).2.2.1 j' L2 s2)
  ·rw[t1]at s1;rw[t2]at s2;exact h.apart i i' b1 b2 L1 L2 g q1 q2 l1 l2 s1 s2 g1 g2
 ·intro b c hc i J L hb I q M;simp only[Sg.back]at q hc;rcases A hb with ⟨j,b0,z,hj,rfl⟩|⟨z,O⟩
  ·rw[z]at q;rw[(OB _ b0).1]at I;rw[(OB _ b0).2.2.2.2.2.1];exact D.floor b c hc j b0 L hj I q M
  ·rw[z]at q;exact h.floor b c ((D.kept b (F z q M)).2.2.2 c hc) i J L O I q M
 ·intro i J hb I;rcases A hb with ⟨j,b0,z,hj,rfl⟩|⟨z,O⟩
  ·obtain⟨e1,_,_,_,_,e6,e7⟩:=OB (JZ ids H.length) b0;rw[e6,e7];rw[e1]at I;exact D.low j b0 hj I
  ·exact h.low i J O I
 ·obtain⟨k1,k2,k3,k4⟩:=h.kept b hb;obtain⟨m1,m2,m3,m4⟩:=D.kept b (.inl hb);refine⟨m1,m2.trans k2,fun i L q M=>?_,fun c hc=>k4 c (m4 c hc)⟩;simp only[Sg.back]at q;cases z:Gu ids H.length i with
  | none=>rw[z]at q;exact k3 i L q M
  | some j=>rw[z]at q;exact m3 j L q M
end
def uJ (P:Program) (E:Env) (f:FuncId) (as:List V) (q:Heap) (r:V) (H1:Heap):Prop:=
 ∀(B:Nat) (w0:Start) (σ:Sg) (w:World) (vs:List Value),Inv B w0 σ q w->Df E σ w->AQ σ w as vs ->
  Calls P f vs.toArray w fun e w' =>∃u σ',e = .returned u/\Inv B w0 σ' H1 w' /\ Ext σ w σ' w' /\ AQ σ' w' [r] [u]
theorem Z3x {B:Nat} {w0:Start} {σ:Sg} {H z:Heap} {w:World} {fa:List (List Fk)} {fb:List Bf} {k:Nat} {args as:List V} {vs:List Value} {ids:List Nat} (h:Inv B w0 σ H w) (O:AQ σ w args vs)
  (q:pack fa fb k args H=some (ids,as,z)):uQ ids z/\(∀id∈D7 as,id∈ids)/\H.length<=z.length/\∃σ',Inv B w0 σ' z w/\Ext σ w σ' w/\AQ σ' w as vs:=by
 unfold pack at q;split at q
 ·rename_i I H1 M;split at q
  ·rename_i G F N;simp only[Option.some.injEq,Prod.mk.injEq]at q;obtain⟨rfl,rfl,rfl⟩:=q;obtain⟨k1,σ1,Q,J,r1⟩:=ZBr h O M;obtain⟨q1,q2,Y,C,S,D⟩:=ZBt 1000 Q N (by simp) (by simp);exact⟨Y,fun id A=>q2 id (by simp[A]),Nat.le_trans k1.len q1,C,S,J.trans D,r1.ext D⟩
  ·cases q
 ·cases q
theorem ZAU {P:Program} {E:Env} {B:Nat} {w0:Start} {σ:Sg} {H H' : Heap} {w:World} {f:FuncId} {hs:V7} {args:List V} {vs:List Value} {x:V} (J:∀as H0 r H1,hs.run as H0=some (r,H1)->uJ P E f as H0 r H1)
  (hc:Oe hs args H=some (x,H')) (h:Inv B w0 σ H w) (hg:Df E σ w) (hr:AQ σ w args vs) :
  Calls P f vs.toArray w fun e w' =>∃u σ',e = .returned u/\Inv B w0 σ' H' w' /\ Ext σ w σ' w' /\ AQ σ' w' [x] [u]:=by
 unfold Oe at hc;split at hc
 ·rename_i ids as H2 hp;split at hc
  ·rename_i r H3 N;split at hc
   ·rename_i M;simp only[Option.some.injEq,Prod.mk.injEq]at hc;obtain⟨rfl,rfl⟩:=hc;obtain⟨C,hm,_,A,q,F,hr1⟩:=Z3x h hr hp;have hlt:∀id∈ids,id<H2.length:=fun id D=>by
     obtain⟨b,k1,_⟩:=C.at_ id D;exact(List.getElem?_eq_some_iff.1 k1).1
    have O:Inv B ⟨w,A.fz,outer A ids w0⟩ (A.ren ids) (Iq H2 ids) w:=by
     refine Z4c q C _ (Below.refl _ _) (fun b c hc _=>hc) (fun b hb=>?_);rcases hb with hb|⟨id,L,D,G,I⟩
     ·obtain⟨k1,k2,k3,k4⟩:=q.kept b hb;exact⟨k1,rfl,fun id _ L G=>k3 id L G,fun c hc=>hc⟩
     ·obtain⟨bx,m1,m2⟩:=q.dom id L G;obtain⟨Q,z,hok⟩:=q.boxes id bx m1 m2;rw[G]at z;cases z;refine⟨(hok.block_lt I).2,rfl,fun i hi Q z hg' =>?_,fun c hc=>hc⟩;obtain⟨S,n1,n2⟩:=q.dom i Q z;have:=q.apart id i bx S L Q b m1 n1 m2 n2 G z I hg';subst this;exact D hi
    have hg1:Df E (A.ren ids) w:=(hg.ext F).bare (fun b c J=>⟨J,rfl⟩) (EP.refl _);refine(J _ _ _ _ N B _ (A.ren ids) w vs O hg1 (fD hr1 hm)).mono ?_
    rintro e w' ⟨u,σ2,rfl,hI2,Y,hr2⟩
    obtain⟨hI3,hE3⟩:=ZCe q C hI2 Y M;exact⟨u,_,rfl,hI3,F.trans hE3,Zyv hr2 (fun b c J=>⟨J,rfl⟩) (EP.refl _) (fun id _=>ZdF C.nodup hlt id)⟩
   ·cases hc
  ·cases hc
 ·cases hc
end Go.Proofs.YtjodhcdmhobmoaaGreatDoor.Le
namespace Go.Proofs.YtjodhcdmhobmoaaGreatDoor.Le
open Go.RowKit (Below)
def OX (P:Program) (E:Env) (f:FuncId) (as:List V) (r:V):Prop:=
 ∀(fz:Nat->Nat->Prop) (w:World) (vs:List Value),(∀b c,fz b c->∃u,w.cell? ⟨b,c,none⟩=some u)->Df E (bare fz) w->AQ (bare fz) w as vs ->
  Calls P f vs.toArray w fun e w' =>∃u q,e = .returned u/\Below w.heap.size w w' /\ (∀b c,fz b c->q b c)/\(∀b c,q b c->b<w.heap.size->fz b c) /\
   (∀b c,q b c->∃u,w'.cell? ⟨b,c,none⟩=some u)/\AQ (bare q) w' [r] [u]/\CS r=true
def sJ (P:Program) (E:Env) (f:FuncId) (as:List V) (e sz:Nat) (xs:List V):Prop:=
 ∀(fz:Nat->Nat->Prop) (w:World) (vs:List Value),(∀b c,fz b c->∃u,w.cell? ⟨b,c,none⟩=some u)->Df E (bare fz) w->AQ (bare fz) w as vs ->
  Calls P f vs.toArray w fun z w' =>∃u us q,z = .returned u/\Below w.heap.size w w' /\ (∀b c,fz b c->q b c)/\(∀b c,q b c->b<w.heap.size->fz b c) /\
   (∀b c,q b c->∃u,w'.cell? ⟨b,c,none⟩=some u)/\AQ (bare q) w' xs us/\(∀x∈xs,Eo x=true)/\(∀u∈us,u.cells.size=sz)/\(∀u∈flat us,u.oneCell' = true) /\
   FZ w' w.heap.size e sz u xs.length (flat us)/\(∀g c,u.ownBlock=some g->¬q g c)
def OO (P:Program) (f:FuncId):Prop:=∃fn,P.funcs[f]? = some fn/\fn.body.isNone=false/\(fn.name == "runtime.NumGoroutine")=false
structure Qm (P:Program) (E:Env):Prop where
 env:∀f F,E.env f=some F->OO P f/\∀as r,CJ as=true->F as=some r->match E.own f with|none=>OX P E f as r|some e=>∀sz xs,r = .sl false sz xs->sJ P E f as e sz xs
 hm:∀f key hs,E.hm f key=some hs->OO P f/\∀as H0 r H1,hs.run as H0=some (r,H1)->uJ P E f as H0 r H1
theorem Below.grownBy {w w' : World} (h:Below w.heap.size w w'):w.grownBy w' none:=⟨h.os,h.tape,h.output,h.size,fun k q _=>h.block k q⟩
theorem Z1O {B w0 σ H w} (h:Inv B w0 σ H w) {x C : V} {v:Value} (A:AQ σ w [x] [v]) (q:J8 H x=some C):CS C = true:=by
 unfold J8 at q;split at q
 ·rename_i vs;cases A with
  | BH D _=>
   cases z:FM H vs with
   | none=>simp[z]at q
   | some F =>
    simp only[z,Option.map_some,Option.some.injEq]at q;subst q;exact X9 h D z
 ·exact qX h A q
section
variable {P:Program} {E:Env} {B:Nat} {w0:Start} {σ:Sg} {H:Heap} {w:World} {f:FuncId}
theorem Zb7 {args as:List V} {r:V} {vs:List Value} (ts:List TypeId) (hp:OX P E f (GK E.rows ts as) r) (hf:FM H args=some as) (hI:Inv B w0 σ H w) (hg:Df E σ w) (hr:AQ σ w args vs) :
  Calls P f vs.toArray w fun e w' =>∃u σ',e = .returned u/\Inv B w0 σ' (bump H (args.flatMap Dh)) w' /\ Ext σ w σ' w' /\ AQ σ' w' [r] [u]:=by
 obtain⟨z,D⟩:=hI.freeze (args.flatMap Dh);have hr1:=ZP E.rows ts (nM hI hr hf (args.flatMap Dh) (fun i hi=>hi));have hn:CJ (GK E.rows ts as)=true:=by rw[lJ];exact X9 hI hr hf
 generalize hσ1:σ.freeze H (args.flatMap Dh)=q at z D hr1;have hbox1:q.box=σ.box:=by rw[<- hσ1];rfl
 have J:∀b c,q.fz b c->(bare q.fz).fz b c/\w.cell? ⟨b,c,none⟩=w.cell? ⟨b,c,none⟩:=fun b c h=>⟨h,rfl⟩;refine(hp q.fz w vs z.cells ((hg.ext D).bare J (EP.refl _)) (hr1.bare J (EP.refl _) hn)).mono ?_
 rintro e w' ⟨u,Q,rfl,hb,N,F,G,hru,hnr⟩
 obtain⟨C,I⟩:=z.grown (Below.grownBy hb);have hcell:∀b c,q.fz b c->w'.cell? ⟨b,c,none⟩=w.cell? ⟨b,c,none⟩:=fun b c h=>(I.fz b c h).2;have Y:Ext q w' ⟨q.box,Q⟩ w' :=⟨fun id L O=>⟨L,O,rfl,.inl rfl⟩,fun b c h=>⟨N b c h,rfl⟩,EP.refl _⟩;refine⟨u,⟨q.box,Q⟩,rfl,⟨C.below,C.size,C.dom,fun id bx hb hl=>?_,C.apart,G,fun b c hc id bx L hb hl O M=>?_,C.low,fun b c hc hlt=>?_,fun b hb=>?_⟩,D.trans (I.trans Y),?_⟩
 ·obtain⟨L,O,A⟩:=C.boxes id bx hb hl;obtain⟨us,h1,h2,h3,h4⟩:=A.Dc;exact⟨L,O,⟨A.tot,⟨us,h1.ext Y,h2,h3,h4⟩,A.EZ,A.Ap,A.oks,A.Hu⟩⟩
 ·obtain⟨L',S,A⟩:=z.boxes id bx hb hl;rw[show q.box id=some L from O]at S;cases S;exact z.floor b c (F b c hc (A.block_lt M).2) id bx L hb hl O M
 ·exact z.old b c (F b c hc (Nat.lt_of_lt_of_le hlt z.size)) hlt
 ·obtain⟨k1,k2,k3,k4⟩:=C.kept b hb;exact⟨k1,k2,k3,fun c hc=>k4 c (F b c hc (z.kept b hb).1)⟩
 ·exact hru.bare (fun b c h=>⟨h,rfl⟩) (EP.refl _) (by simp[CJ,hnr])
theorem ownsRow_base {w:World} {b z e sz n:Nat} {v:Value} {us:List Value} (h:FZ w b e sz v n us) (hb:z <= b):FZ w z e sz v n us:=by
 refine⟨h.1,?_⟩;rcases h.2 with h|⟨g,cap,q,D,A,F,C⟩
 ·exact .inl h
 ·exact .inr ⟨g,cap,q,D,A,by omega,C⟩
theorem Zdl {args as:List V} {e sz:Nat} {xs:List V} {vs:List Value} (ts:List TypeId) (hp:sJ P E f (GK E.rows ts as) e sz xs) (hf:FM H args=some as) (hI:Inv B w0 σ H w) (hg:Df E σ w) (hr:AQ σ w args vs) :
  Calls P f vs.toArray w fun en w' =>∃u σ',en = .returned u/\Inv B w0 σ' (place (bump H (args.flatMap Dh)) H.length (Bg true false e sz xs)) w' /\ Ext σ w σ' w' /\ AQ σ' w' [.Bc H.length 0 xs.length xs.length] [u]:=by
 obtain⟨q,F⟩:=hI.freeze (args.flatMap Dh);have hr1:=ZP E.rows ts (nM hI hr hf (args.flatMap Dh) (fun i hi=>hi));have hn:CJ (GK E.rows ts as)=true:=by rw[lJ];exact X9 hI hr hf
 generalize hσ1:σ.freeze H (args.flatMap Dh)=C at q F hr1;have S:∀b c,C.fz b c->(bare C.fz).fz b c/\w.cell? ⟨b,c,none⟩=w.cell? ⟨b,c,none⟩:=fun b c h=>⟨h,rfl⟩;refine(hp C.fz w vs q.cells ((hg.ext F).bare S (EP.refl _)) (hr1.bare S (EP.refl _) hn)).mono ?_
 rintro en w' ⟨u,us,fz',rfl,hb,Y,I,M,hru,G,hsz,hone,A,hnfz⟩
 obtain⟨D,hEx2⟩:=q.grown (Below.grownBy hb);have hex:Ext C w' ⟨C.box,fz'⟩ w' :=⟨fun id L hL=>⟨L,hL,rfl,.inl rfl⟩,fun b c h=>⟨Y b c h,rfl⟩,EP.refl _⟩;have hI3:Inv B w0 ⟨C.box,fz'⟩ (bump H (args.flatMap Dh)) w' :=by
  refine⟨D.below,D.size,D.dom,fun id bx hb hl=>?_,D.apart,M,fun b c hc id bx L hb hl hL A=>?_,D.low,fun b c hc hlt=>?_,fun b hb=>?_⟩
  ·obtain⟨L,hL,z⟩:=D.boxes id bx hb hl;obtain⟨us,h1,h2,h3,h4⟩:=z.Dc;exact⟨L,hL,⟨z.tot,⟨us,h1.ext hex,h2,h3,h4⟩,z.EZ,z.Ap,z.oks,z.Hu⟩⟩
  ·obtain⟨L',hL',z⟩:=q.boxes id bx hb hl;rw[show C.box id=some L from hL]at hL';cases hL';exact q.floor b c (I b c hc (z.block_lt A).2) id bx L hb hl hL A
  ·exact q.old b c (I b c hc (Nat.lt_of_lt_of_le hlt q.size)) hlt
  ·obtain⟨k1,k2,k3,k4⟩:=D.kept b hb;exact⟨k1,k2,k3,fun c hc=>k4 c (I b c hc (q.kept b hb).1)⟩
 have Q:∀g,u.ownBlock=some g->w.heap.size<=g:=by
  intro g N;rcases A.2 with ⟨J,_⟩|⟨g',cap,cur,tg,J,hle,_⟩
  ·rw[J]at N;cases N
  ·rw[J]at N;simp only[Value.ownBlock,Option.some.injEq]at N;omega
 have hnr:CJ xs=true:=PH G;have hk:FP (bump H (args.flatMap Dh)) H.length=true:=by
  have:=dU (bump H (args.flatMap Dh));rwa[bump_length]at this
 obtain⟨hI4,hEx4⟩:=hI3.ZCZ hk (Bg true false e sz xs) rfl ⟨u,xs.length,sz⟩ (by simp[Bg])
  (fun id bx' L' g h1 h2 h3 h4 h5=>by
   obtain⟨L'',O,z⟩:=q.boxes id bx' h1 h2;rw[show C.box id=some L' from h3]at O;cases O;have:=(z.block_lt h4).2;have:=Q g h5;omega)
  (fun g c h=>hnfz g c h) (fun g h hk=>by have:=(q.kept g hk).1;have:=Q g h;omega)
  ⟨rfl,⟨us,hru.bare (fun b c h=>⟨h,rfl⟩) (EP.refl _) hnr,hsz,hone,by simpa[Bg]using ownsRow_base A q.size⟩,by simp[Bg],rfl,Z3J G,fun _ x hx=>Q9 (G x hx)⟩
 have hval:∃a n c,u = .slice a n c/\n=xs.length/\n<=c:=by
  rcases A.2 with ⟨J,hn⟩|⟨g,cap,cur,tg,J,_,_,_,hnc,_⟩
  ·exact⟨none,0,0,J,hn.symm,Nat.le_refl _⟩
  ·exact⟨_,_,cap,J,rfl,hnc⟩
 obtain⟨a,n,c,J,hn',hnc⟩:=hval;refine⟨u,_,rfl,hI4,F.trans (hEx2.trans (hex.trans hEx4)),.Bc (L:=⟨u,xs.length,sz⟩) (by simp[Sg.put]) (Nat.le_refl _) (fun _=>⟨by omega,a,n,c,0,J,?_,Nat.zero_le _,Nat.le_refl _,fun _=>rfl⟩) ⟨a,n,c,J⟩ .nil⟩;subst hn';rw[J];cases a with
 | none=>simp
 | some a=>simp[Addr.add]
theorem Zef (J:Ci E) (N:E.P=P) {call:Dn} (z:JW P E B w0 call) (A:OL E call) {fn:Func} (Q:E.func f=some fn) {n:Nat} {args:List V} {H' : Heap} {r:V} {vs:List Value}
  (hb:Pj call n E f fn args H=some (r,H')) (hI:Inv B w0 σ H w) (hg:Df E σ w) (hr:AQ σ w args vs) :
  OO P f/\Calls P f vs.toArray w fun e w' =>∃u σ',e = .returned u/\Inv B w0 σ' H' w' /\ Ext σ w σ' w' /\ AQ σ' w' [r] [u]:=by
 unfold Pj at hb;cases q:fn.body with
 | none=>simp[q]at hb
 | some c=>
  simp only[q]at hb;obtain⟨M,hf2⟩:=J.func f fn Q;rw[N]at M;refine⟨⟨fn,M,by simp[q],hf2⟩,calls_of_wp M q ?_⟩;have O:=J.calm f fn c Q q;have F:AQ σ w (args++List.replicate (fn.ntmps - args.length) EH) (vs.toArray++Array.replicate (fn.ntmps - vs.toArray.size) undef).toList:=by
   simp only[Array.toList_append,Array.toList_replicate,List.size_toArray];rw[<- hr.length];exact hr.append (AQ.replicate _ (.no .nil))
  have I:Eu E B w0 σ ⟨args++List.replicate (fn.ntmps - args.length) EH,H⟩ { tmps:=vs.toArray++Array.replicate (fn.ntmps - vs.toArray.size) undef,defers:=[] } w:=⟨hI,hg,F,rfl⟩;have G:∀st,(KY E st.H st.s fn.results.toList).map (·,st.H)=some (r,H')->∀S w' σ',Eu E B w0 σ' st S w' -> Ext σ w σ' w' ->
    S.defers=[]/\∃v,(results fn S.tmps).run P w' = .ok v w' /\ (fun e w' =>∃u σ',e=Ending.returned u/\Inv B w0 σ' H' w' /\ Ext σ w σ' w' /\ AQ σ' w' [r] [u]) (.returned v) w' :=by
   intro st C S w' σ' D Y;cases hx:KY E st.H st.s fn.results.toList with
   | none=>simp[hx]at C
   | some x=>
    simp only[hx,Option.map_some,Option.some.injEq,Prod.mk.injEq]at C;obtain⟨rfl,rfl⟩:=C;obtain⟨u,hu,hur⟩:=pF (P:=P) J N D.inv D.slots hx;exact⟨D.calm,u,hu,u,σ',rfl,D.inv,Y,hur⟩
  split at hb
  ·rename_i st hc;exact SI J N z A (Z3p J N z A n) c _ .normal st O hc _ σ _ w I (G st hb)
  ·rename_i st hc;exact SI J N z A (Z3p J N z A n) c _ .ret st O hc _ σ _ w I (G st hb)
  ·cases hb
theorem ZcV (hE:Ci E) (hP:E.P=P) {call:Dn} (C:∀B w0,JW P E B w0 call) (D:OL E call) {fn:Func} (N:E.func f=some fn) {n:Nat} {as:List V} {H' : Heap} {M r:V}
  (hb:Pj call n E f fn as []=some (M,H')) (I:J8 H' M=some r):OX P E f as r:=by
 intro fz w vs q hg hr;have hI:Inv w.heap.size (Start.of w fz) (bare fz) [] w:=⟨Below.refl _ w,Nat.le_refl _,fun id L hL=>(by cases hL),fun id bx hb=>by simp at hb,fun i j b1 b2 L1 L2 g Y=>by simp at Y,q,
  fun b c hc id bx L hb=>by simp at hb,fun id bx hb=>by simp at hb,fun b c hc _=>hc,fun b hb=>hb.elim⟩
 obtain⟨_,hc⟩:=Zef hE hP (C w.heap.size (Start.of w fz)) D N hb hI hg hr;refine hc.mono ?_
 rintro e w' ⟨u,σ',rfl,z,F,J⟩
 obtain⟨A,G⟩:=z.freeze (Oj M);have Q:=Z2l z J I (Oj M) (fun i hi=>hi);have S:=Z1O z J I;refine⟨u,(σ'.freeze H' (Oj M)).fz,rfl,A.below,fun b c h=>(G.fz b c (F.fz b c h).1).1,fun b c h O=>A.old b c h O,A.cells,?_,S⟩;exact Q.bare (fun b c h=>⟨h,rfl⟩) (EP.refl _) (by simp[CJ,S])
theorem Zn8 {H:Heap}:∀{xs ys:List V},FM H xs=some ys->xs.length=ys.length:=by
 intro xs;induction xs with
 | nil=>intro ys h;simp[FM]at h;subst h;rfl
 | cons x xs q=>
  intro ys h;simp only[FM]at h;split at h
  ·rename_i a b z hb;simp only[Option.some.injEq]at h;subst h;simp[q hb]
  ·cases h
theorem ZxV {H H' : Heap} {x:V} (h:DU (Cj x) H H'):O7 H' x=O7 H x:=by
 unfold O7;split
 ·rename_i id i off tot;split
  ·cases hb:DX H id tot with
   | none=>rw[Rz (h id (by simp[Cj,EF])) hb]
   | some b=>
    obtain⟨F,C,D⟩:=PO (h id (by simp[Cj,EF])) hb;obtain⟨q,G,I,z,A⟩:=Si D;simp only[C,q,z,A]
  ·rfl
 ·exact Zeq h
theorem Zre {H H' : Heap} {xs:List V} (h:DU (xs.flatMap Cj) H H'):Ko H' xs=Ko H xs:=by
 induction xs with
 | nil=>rfl
 | cons x xs z=>
  simp only[Ko];rw[ZxV (fun i q=>h i (by simp[q])),z (fun i q=>h i (by rw[List.flatMap_cons];exact List.mem_append_right _ q))]
theorem ZwP (n:Nat):tZ E (En E n):=by
 intro f Q args H v H1 h;cases n with
 | zero=>cases h
 | succ n=>
  unfold En at h;cases q:E.env f with
  | some F=>
   simp only[q]at h
   by_cases N:args.any Sj=true
   ·rw[if_pos N]at h;have I:E.own f=none:=by simpa using (Bool.and_eq_true_iff.1 Q).2
    cases z:Ko H args with
    | none=>simp[z,I]at h
    | some as=>
     simp only[z,I]at h;cases A:F (GK E.rows (E.par f) as) with
     | none=>simp[A]at h
     | some r=>
      simp only[A]at h;split at h
      ·rename_i O;simp only[Option.some.injEq,Prod.mk.injEq]at h;refine⟨h.2.symm,fun H' M=>?_⟩;unfold En;simp only[q];rw[if_pos N,Zre M,z];simp only[I,A];rw[if_pos O,h.1]
      ·cases h
   rw[if_neg N]at h;cases z:FM H args with
   | none=>simp[z]at h
   | some as=>
    have I:E.own f=none:=by simpa using (Bool.and_eq_true_iff.1 Q).2
    simp only[z,I]at h;cases A:F (GK E.rows (E.par f) as) with
    | none=>simp[A]at h
    | some r=>
     simp only[A,Option.map_some,Option.some.injEq,Prod.mk.injEq]at h;refine⟨h.2.symm,fun H' M=>?_⟩;unfold En;simp only[q];rw[if_neg N,Z27 M,z];simp only[I,A,Option.map_some,h.1]
  | none=>
   have J:E.pure f=true:=by simpa[q]using (Bool.and_eq_true_iff.1 Q).1
   simp only[q,J,if_true]at h;cases D:E.func f with
   | none=>simp[D]at h
   | some fn=>
    simp only[D]at h;cases z:FM H args with
    | none=>simp[z]at h
    | some as=>
     simp only[z]at h;cases C:Pj (En E n) n E f fn as [] with
     | none=>simp[C]at h
     | some rr=>
      obtain⟨Y,S⟩:=rr;simp only[C]at h;cases G:J8 S Y with
      | none=>simp[G]at h
      | some r=>
       simp only[G,Option.map_some,Option.some.injEq,Prod.mk.injEq]at h;refine⟨h.2.symm,fun H' M=>?_⟩;unfold En;simp only[q,J,if_true,D];rw[Z27 M,z];simp only[C,G,Option.map_some,h.1]
theorem qP (H:Heap) (a b:List Nat):bump (bump H a) b=bump H (a++b):=by
 induction a generalizing H with
 | nil=>rfl
 | cons i a q=>simp only[bump,List.cons_append,q]
theorem Zcj {f:Fk} {H H1:Heap} {x y:V} (h:IA f H x=some (y,H1)) (q:EO y=[]):∃ids,(∀i∈ids,i∈EF x)/\H1=bump H ids/\∀H',DU (EF x) H H' -> IA f H' x=some (y,bump H' ids):=by
 cases f with
 | s e sz=>
  simp only[IA]at h;cases z:IE H x with
  | none=>simp[z]at h
  | some w=>
   simp only[z,Option.map_some,Option.some.injEq,Prod.mk.injEq]at h;obtain⟨rfl,rfl⟩:=h;exact⟨FB x,fun i A=>ZdH A,rfl,fun H' C=>by simp only[IA,Z3e C,z,Option.map_some]⟩
 | own e sz=>
  exfalso;simp only[IA,iE]at h;split at h
  ·simp only[Option.some.injEq,Prod.mk.injEq]at h;rw[<- h.1]at q;simp[EO]at q
  ·simp only[Option.some.injEq,Prod.mk.injEq]at h;rw[<- h.1]at q;simp[EO]at q
  ·split at h
   ·simp only[Option.some.injEq,Prod.mk.injEq]at h;rw[<- h.1]at q;simp[EO]at q
   ·cases h
  ·cases h
 | keep=>
  simp only[IA,Option.some.injEq,Prod.mk.injEq]at h;obtain⟨rfl,rfl⟩:=h;exact⟨[],by simp,rfl,fun H' _=>rfl⟩
 | drop=>
  simp only[IA,Option.some.injEq,Prod.mk.injEq]at h;obtain⟨rfl,rfl⟩:=h;exact⟨[],by simp,rfl,fun H' _=>rfl⟩
theorem Zus:∀{fl:List Fk} {H H1:Heap} {xs ys:List V},Hz fl H xs=some (ys,H1)->D7 ys=[]->∃ids,(∀i∈ids,i∈xs.flatMap EF)/\H1=bump H ids/\∀H',DU (xs.flatMap EF) H H' -> Hz fl H' xs=some (ys,bump H' ids):=by
 intro fl;induction fl with
 | nil=>
  intro H H1 xs ys h A;cases xs with
  | nil=>
   simp only[Hz,Option.some.injEq,Prod.mk.injEq]at h;obtain⟨rfl,rfl⟩:=h;exact⟨[],by simp,rfl,fun H' _=>rfl⟩
  | cons=>simp[Hz]at h
 | cons f fl Q=>
  intro H H1 xs ys h A;cases xs with
  | nil=>simp[Hz]at h
  | cons x xs=>
   simp only[Hz]at h;cases C:IA f H x with
   | none=>simp[C]at h
   | some r=>
    obtain⟨y,M⟩:=r;simp only[C]at h;cases D:Hz fl M xs with
    | none=>simp[D]at h
    | some q=>
     obtain⟨Y,S⟩:=q;simp only[D,Option.some.injEq,Prod.mk.injEq]at h;obtain⟨rfl,rfl⟩:=h;simp only[D7,List.append_eq_nil_iff]at A;obtain⟨z,N,rfl,O⟩:=Zcj C A.1;obtain⟨J,b1,rfl,b3⟩:=Q D A.2;refine⟨z++J,fun i hi=>?_,qP H z J,fun H' I=>?_⟩
     ·rw[List.flatMap_cons];rcases List.mem_append.1 hi with hi|hi
      ·exact List.mem_append_left _ (N i hi)
      ·exact List.mem_append_right _ (b1 i hi)
     ·have F:DU (EF x) H H' :=fun i hi=>I i (by rw[List.flatMap_cons];exact List.mem_append_left _ hi);have G:DU (xs.flatMap EF) (bump H z) (bump H' z):=(Qb _ z H).symm.trans (DU.trans (fun i hi=>I i (by rw[List.flatMap_cons];exact List.mem_append_right _ hi)) (Qb _ z H'));simp only[Hz,O H' F,b3 _ G,qP]
theorem Zvx {fl:List Fk} {H H1:Heap} {x y:V} (h:Js fl H x=some (y,H1)) (I:EO y=[]):∃ids,(∀i∈ids,i∈Cj x)/\H1=bump H ids/\∀H',DU (Cj x) H H' -> Js fl H' x=some (y,bump H' ids):=by
 unfold Js at h;split at h
 ·rename_i cs;cases F:Hz fl H cs with
  | none=>simp[F]at h
  | some r=>
   obtain⟨ys,M⟩:=r;simp only[F,Option.map_some,Option.some.injEq,Prod.mk.injEq]at h;obtain⟨rfl,rfl⟩:=h;obtain⟨ids,A,C,D⟩:=Zus F (by simpa[EO]using I);exact⟨ids,A,C,fun H' G=>by simp only[Js,D H' G,Option.map_some]⟩
 ·rename_i z;have J:∀i∈EF x,i∈Cj x:=fun i q=>by
   cases x with
   | fn f a b=>simp[EF]at q
   | agg cs=>exact absurd rfl (z cs)
   | _=>exact q
  split at h
  ·rename_i f;obtain⟨ids,A,C,D⟩:=Zcj h I;refine⟨ids,fun i q=>J i (A i q),C,fun H' G=>?_⟩;unfold Js;split
   ·rename_i cs;exact absurd rfl (z cs)
   ·exact D H' (fun i q=>G i (J i q))
  ·cases h
theorem ZvM:∀{fa:List (List Fk)} {H H1:Heap} {xs ys:List V},IM fa H xs=some (ys,H1)->D7 ys=[]->∃ids,(∀i∈ids,i∈xs.flatMap Cj)/\H1=bump H ids/\∀H',DU (xs.flatMap Cj) H H' -> IM fa H' xs=some (ys,bump H' ids):=by
 intro fl;induction fl with
 | nil=>
  intro H H1 xs ys h A;cases xs with
  | nil=>
   simp only[IM,Option.some.injEq,Prod.mk.injEq]at h;obtain⟨rfl,rfl⟩:=h;exact⟨[],by simp,rfl,fun H' _=>rfl⟩
  | cons=>simp[IM]at h
 | cons f fl Q=>
  intro H H1 xs ys h A;cases xs with
  | nil=>simp[IM]at h
  | cons x xs=>
   simp only[IM]at h;cases C:Js f H x with
   | none=>simp[C]at h
   | some r=>
    obtain⟨y,M⟩:=r;simp only[C]at h;cases D:IM fl M xs with
    | none=>simp[D]at h
    | some q=>
     obtain⟨Y,S⟩:=q;simp only[D,Option.some.injEq,Prod.mk.injEq]at h;obtain⟨rfl,rfl⟩:=h;simp only[D7,List.append_eq_nil_iff]at A;obtain⟨z,N,rfl,O⟩:=Zvx C A.1;obtain⟨J,b1,rfl,b3⟩:=Q D A.2;refine⟨z++J,fun i hi=>?_,qP H z J,fun H' I=>?_⟩
     ·rw[List.flatMap_cons];rcases List.mem_append.1 hi with hi|hi
      ·exact List.mem_append_left _ (N i hi)
      ·exact List.mem_append_right _ (b1 i hi)
     ·have F:DU (Cj x) H H' :=fun i hi=>I i (by rw[List.flatMap_cons];exact List.mem_append_left _ hi);have G:DU (xs.flatMap Cj) (bump H z) (bump H' z):=(Qb _ z H).symm.trans (DU.trans (fun i hi=>I i (by rw[List.flatMap_cons];exact List.mem_append_right _ hi)) (Qb _ z H'));simp only[IM,O H' F,b3 _ G,qP]
theorem Zw5 {n:Nat} {H z:Heap} {q ids:List Nat} (h:Ju n [] H q []=some (z,ids)):q=[]/\z=H/\ids=[]:=by
 cases n with
 | zero=>cases h
 | succ n=>
  cases q with
  | nil=>
   simp only[Ju,Option.some.injEq,Prod.mk.injEq]at h;exact⟨rfl,h.1.symm,h.2.symm⟩
  | cons i q=>
   exfalso;unfold Ju at h;simp only[List.contains_nil,Bool.false_eq_true,if_false]at h;split at h<;>first|(cases h;done)|simp_all
theorem ZwW {C:V7} (A:C.fb=[]) {args:List V} {H H1:Heap} {v:V} (h:Oe C args H=some (v,H1)) :
  ∃ids F,(∀i∈ids,i∈args.flatMap Cj)/\H1=bump H ids++F/\∀H',H'.length=H.length->DU (args.flatMap Cj) H H' -> Oe C args H' = some (v,bump H' ids++F):=by
 unfold Oe at h;unfold pack at h;rw[A]at h;cases I:IM C.fa H args with
 | none=>simp[I]at h
 | some r=>
  obtain⟨as,Q⟩:=r;simp only[I]at h;cases G:Ju 1000 [] Q (List.range 0++D7 as) [] with
  | none=>rw[G]at h;cases h
  | some q=>
   obtain⟨H2,N⟩:=q;obtain⟨J,rfl,rfl⟩:=Zw5 G;simp only[List.range_zero,List.nil_append]at J;obtain⟨ids,S,rfl,Y⟩:=ZvM I J;simp only[G]at h;cases z:C.run (Gl (([]:List Nat).idxOf ·) as) (Iq (bump H ids) []) with
   | none=>rw[z]at h;cases h
   | some rr=>
    obtain⟨r,O⟩:=rr;simp only[z,List.length_nil,Nat.zero_le,if_true,Option.some.injEq,Prod.mk.injEq,bump_length]at h;obtain⟨rfl,rfl⟩:=h;refine⟨ids,O.map (Fj (JZ [] H.length)),S,by simp only[OQ,Pz,bump_length],fun H' hl M =>?_⟩;unfold Oe pack;rw[A,Y H' M];simp only[List.range_zero,List.nil_append,J,Ju];have D:Iq (bump H' ids) []=Iq (bump H ids) []:=rfl;simp only[D,z,List.length_nil,Nat.zero_le,if_true,bump_length,hl,OQ,Pz]
theorem Zul (n:Nat):uF E (En E n):=by
 intro f z args H v H1 h;cases n with
 | zero=>cases h
 | succ n=>
  have A:=z;unfold Px at z;simp only[Bool.and_eq_true,Option.isNone_iff_eq_none,Bool.not_eq_true']at z;obtain⟨⟨Q,S⟩,q⟩:=z;cases D:E.hm f [] with
  | none=>rw[D]at q;cases q
  | some J=>
   rw[D]at q;have C:J.fb=[]:=by simpa using q
   have I:∀H,En E (n+1) f args H=Oe J args H:=fun H=>by
    unfold En;simp only[Q,S,Bool.false_eq_true,if_false,A,if_true,D]
   rw[I]at h;obtain⟨ids,G,M,N,O⟩:=ZwW C h;exact⟨ids,G,M,N,fun H' Y F =>by rw[I];exact O H' Y F⟩
theorem Ua (n:Nat):OL E (En E n):=⟨ZwP n,Zul n⟩
def iQ (w:World) (b c:Nat):Prop:=∃u,w.cell? ⟨b,c,none⟩=some u
theorem Zzk {σ σ' : Sg} {w w' : World} {cs:List V} {ws:List Value} (h:AQ σ w cs ws):AQ σ' w' (cs.map Vf) ws:=by
 induction cs generalizing ws with
 | nil=>cases h.FI;exact .nil
 | cons c cs C=>
  obtain⟨v,vs,rfl,q,z⟩:=h.Dq;simp only[List.map_cons];refine AQ.FD.2 ⟨?_,C z⟩;cases q with
  | lit A _=>exact .lit A .nil
  | _=>exact .und _ .nil
theorem Zc2 (cs:List V):CJ (cs.map Vf)=true:=by
 induction cs with
 | nil=>rfl
 | cons c cs q=>cases c<;>simp[Vf,CJ,CS,q]
theorem ZvQ {B:Nat} {w0:Start} {σ:Sg} {H:Heap} {w:World} (h:Inv B w0 σ H w) {x y:V} {v:Value} (M:AQ σ w [x] [v]) (C:O7 H x=some y):AQ (bare (iQ w)) w [y] [v]/\CS y=true:=by
 unfold O7 at C;split at C
 ·rename_i id i off tot;split at C
  ·rename_i hz;obtain⟨rfl,rfl⟩:=hz;split at C
   ·rename_i b hb;obtain⟨b1,b2,b3⟩:=Ug hb;split at C
    ·rename_i cs I F;simp only[Option.some.injEq]at C;subst C;obtain⟨L,us,m⟩:=h.meet b1 b2;cases M with
     | ptr g k1 k2 k3 k4 k5=>
      rename_i N;have Q:N = L:=by
       have:=m.box;rw[k1]at this;cases this;rfl
      subst Q;obtain⟨n,c,Y⟩:=k3 (m.tot.trans b3);have q:=m.Dc;rw[F]at q;have A:∃ws:List Value,us=[.agg ws.toArray]/\AQ σ w cs ws/\∀u∈ws,u.oneCell' = true:=by
       cases q with
       | agg q1 q2 q3=>cases q3;exact⟨_,rfl,q1,q2⟩
      obtain⟨ws,A,S,G⟩:=A;refine⟨?_,by simp[CS,CJ,Zc2]⟩;have key:AQ (bare (iQ w)) w [.CE b.Ap [.agg (cs.map Vf)] 0 0] [.pointer (some ⟨g,0+0*b.Ap+0,none⟩)]:=by
       refine .CE (us:=us) g 0 b.Ap 0 0 ?_ ?_ (fun u D=>by rw[m.Ap];exact m.sizes u D) m.ones ?_ .nil
       ·rw[A];exact .agg (Zzk S) G .nil
       ·intro x J;simp only[List.mem_singleton]at J;subst J;simp[Eo,okV,CS,Zc2]
       ·intro j u D;have:=m.cell (g:=g) (by rw[Y];rfl) j u D;rw[Nat.zero_add];exact⟨⟨u,this⟩,this⟩
      rw[k4];simpa using key
    ·rename_i z I F;simp only[Option.some.injEq]at C;subst C;obtain⟨L,us,m⟩:=h.meet b1 b2;cases M with
     | ptr g k1 k2 k3 k4 k5=>
      rename_i N;have Q:N = L:=by
       have:=m.box;rw[k1]at this;cases this;rfl
      subst Q;obtain⟨n,c,Y⟩:=k3 (m.tot.trans b3);have q:=m.Dc;rw[F]at q;have A:us=[z]/\leaf z=true:=by
       cases q with
       | lit q1 q2=>cases q2;exact⟨rfl,q1⟩
      obtain⟨A,hz⟩:=A;refine⟨?_,by simp[CS,CJ]⟩;have key:AQ (bare (iQ w)) w [.CE b.Ap [.lit z] 0 0] [.pointer (some ⟨g,0+0*b.Ap+0,none⟩)]:=by
       refine .CE (us:=us) g 0 b.Ap 0 0 ?_ ?_ (fun u D=>by rw[m.Ap];exact m.sizes u D) m.ones ?_ .nil
       ·rw[A];exact .lit hz .nil
       ·intro x J;simp only[List.mem_singleton]at J;subst J;simp[Eo,okV,CS]
       ·intro j u D;have:=m.cell (g:=g) (by rw[Y];rfl) j u D;rw[Nat.zero_add];exact⟨⟨u,this⟩,this⟩
      rw[k4];simpa using key
    ·cases C
   ·cases C
  ·cases C
 ·have hn:=qX h M C;refine⟨?_,hn⟩;obtain⟨O,hEx1⟩:=h.freeze (Dh x);have:=rD h M C (Dh x) (fun i hi=>hi);exact this.bare (fun b c hh=>⟨O.cells b c hh,rfl⟩) (EP.refl _) (by simp[CJ,hn])
theorem Zqd {B:Nat} {w0:Start} {σ:Sg} {H:Heap} {w:World} (h:Inv B w0 σ H w):∀{xs ys:List V} {vs:List Value},AQ σ w xs vs->Ko H xs=some ys->AQ (bare (iQ w)) w ys vs/\CJ ys=true:=by
 intro xs;induction xs with
 | nil=>
  intro ys vs z q;cases z.FI;simp only[Ko,Option.some.injEq]at q;subst q;exact⟨.nil,rfl⟩
 | cons x xs G=>
  intro ys vs z q;obtain⟨v,N,rfl,D,F⟩:=z.Dq;simp only[Ko]at q;split at q
  ·rename_i y O A C;simp only[Option.some.injEq]at q;subst q;obtain⟨J,n1⟩:=ZvQ h D A;obtain⟨M,I⟩:=G F C;exact⟨AQ.FD.2 ⟨J,M⟩,by simp[CJ,n1,I]⟩
  ·cases q
theorem Zdm {σ σ' : Sg} {w w' : World} {cs:List V} {ws:List Value} (h:AQ σ w cs ws) (q:cs.all Io=true):AQ σ' w' cs ws:=by
 induction cs generalizing ws with
 | nil=>cases h.FI;exact .nil
 | cons c cs D=>
  obtain⟨v,vs,rfl,A,C⟩:=h.Dq;simp only[List.all_cons,Bool.and_eq_true]at q;refine AQ.FD.2 ⟨?_,D C q.2⟩;cases A with
  | lit z _=>exact .lit z .nil
  | _=>simp[Io]at q
theorem Zuc {σ σ' : Sg} {w w' : World} {x:V} {u:Value} (h:AQ σ w [x] [u]) (z:Jt x=true):AQ σ' w' [x] [u]:=by
 cases h with
 | lit q _=>exact .lit q .nil
 | agg A C _=>exact .agg (Zdm A (by simpa[Jt]using z)) C .nil
 | _=>simp[Jt]at z
theorem Zw9 {σ σ' : Sg} {w w' : World} {cs:List V} {ws:List Value} (h:AQ σ w cs ws) (q:cs.all Jt=true):AQ σ' w' cs ws:=by
 induction cs generalizing ws with
 | nil=>cases h.FI;exact .nil
 | cons c cs C=>
  obtain⟨v,vs,rfl,z,A⟩:=h.Dq;simp only[List.all_cons,Bool.and_eq_true]at q;exact AQ.FD.2 ⟨Zuc z q.1,C A q.2⟩
theorem Zzu {σ σ' : Sg} {w w' : World} {x:V} {u:Value} (h:AQ σ w [x] [u]) (z:O4 x=true):AQ σ' w' [x] [u]:=by
 cases h with
 | lit A _=>exact .lit A .nil
 | agg q C _=>exact .agg (Zdm q (by simpa[O4,Jt]using z)) C .nil
 | BH q _=>exact .BH (Zw9 q (by simpa[O4]using z)) .nil
 | _=>simp[O4,Jt]at z
theorem ZsB {P:Program} {E:Env} {B:Nat} {w0:Start} {σ:Sg} {H:Heap} {w:World} {f:FuncId} {args as:List V} {r:V} {vs:List Value} (ts:List TypeId) (hp:CJ (GK E.rows ts as)=true->OX P E f (GK E.rows ts as) r) (Q:Ko H args=some as) (G:O4 r=true) (C:Inv B w0 σ H w) (S:Df E σ w) (hr:AQ σ w args vs) :
  Calls P f vs.toArray w fun e w' =>∃u σ',e = .returned u/\Inv B w0 σ' (bump H (args.flatMap Dh)) w' /\ Ext σ w σ' w' /\ AQ σ' w' [r] [u]:=by
 obtain⟨D,q⟩:=C.freeze (args.flatMap Dh);obtain⟨r1,n1⟩:=Zqd C hr Q;have J:=ZP E.rows ts r1;refine(hp (by rw[lJ];exact n1) (iQ w) w vs (fun b c h=>h) (S.bare (fun b c h=>⟨C.cells b c h,rfl⟩) (EP.refl _)) J).mono ?_
 rintro e w' ⟨u,O,rfl,hb,I,N,A,M,Y⟩
 obtain⟨F,z⟩:=D.grown (Below.grownBy hb);exact⟨u,_,rfl,F,q.trans z,Zzu M G⟩
theorem Z38 (hE:Ci E) (hP:E.P=P) (hF:Qm P E):∀(n:Nat) (B:Nat) (w0:Start),JW P E B w0 (En E n):=by
 intro n;induction n with
 | zero=>intro B w0 f args H x H' σ w vs h;cases h
 | succ n ih=>
  intro B w0 f args H x H' σ w vs h J S O;unfold En at h;cases A:E.env f with
  | some F=>
   simp only[A]at h
   by_cases hq:args.any Sj=true
   ·rw[if_pos hq]at h;cases G:E.own f with
    | some e=>simp[G]at h
    | none=>
     cases C:Ko H args with
     | none=>simp[G,C]at h
     | some as=>
      simp only[G,C]at h;cases q:F (GK E.rows (E.par f) as) with
      | none=>simp[q]at h
      | some r=>
       simp only[q]at h;split at h
       ·rename_i hfl;simp only[Option.some.injEq,Prod.mk.injEq]at h;obtain⟨rfl,rfl⟩:=h;obtain⟨Q,Y⟩:=hF.env f F A;refine⟨Q,ZsB (E.par f) (fun hn=>?_) C hfl J S O⟩;have I:=Y _ r hn q;rw[G]at I;exact I
       ·cases h
   rw[if_neg hq]at h;cases C:FM H args with
   | none=>simp[C]at h
   | some as=>
    simp only[C]at h;cases q:F (GK E.rows (E.par f) as) with
    | none=>
     cases G:E.own f<;>simp[G,q]at h
    | some r=>
     obtain⟨Q,Y⟩:=hF.env f F A;have I:=Y _ r (by rw[lJ];exact X9 J O C) q;cases G:E.own f with
     | none=>
      simp only[G,q,Option.map_some,Option.some.injEq,Prod.mk.injEq]at h;obtain⟨rfl,rfl⟩:=h;rw[G]at I;exact⟨Q,Zb7 (E.par f) I C J S O⟩
     | some e=>
      simp only[G,q]at h;rw[G]at I;split at h
      ·rename_i sz xs hr0;simp only[Option.some.injEq,Prod.mk.injEq]at h hr0;obtain⟨rfl,rfl⟩:=h;exact⟨Q,Zdl (E.par f) (I sz xs hr0) C J S O⟩
      ·cases h
  | none=>
   simp only[A]at h;split at h
   ·cases z:E.func f with
    | none=>simp[z]at h
    | some fn=>
     simp only[z]at h;cases C:FM H args with
     | none=>simp[C]at h
     | some as=>
      simp only[C]at h;cases D:Pj (En E n) n E f fn as [] with
      | none=>simp[D]at h
      | some rr=>
       obtain⟨r0,H2⟩:=rr;simp only[D]at h;cases M:J8 H2 r0 with
       | none=>simp[M]at h
       | some r=>
        simp only[M,Option.map_some,Option.some.injEq,Prod.mk.injEq]at h;obtain⟨rfl,rfl⟩:=h;have hent:OO P f:=by
         obtain⟨hf1,hf2⟩:=hE.func f fn z;rw[hP]at hf1;refine⟨fn,hf1,?_,hf2⟩;unfold Pj at D;cases hb:fn.body with
         | none=>simp[hb]at D
         | some c=>rfl
        exact⟨hent,Zb7 [] (by simpa[GK]using ZcV hE hP ih (Ua n) z D M) C J S O⟩
   ·cases N:E.hm f (if Px E f then [] else MM args) with
    | some hs=>
     simp only[N]at h;obtain⟨Q,Y⟩:=hF.hm f _ hs N;exact⟨Q,ZAU Y h J S O⟩
    | none=>
     simp only[N]at h;cases z:E.func f with
     | none=>simp[z]at h
     | some fn=>
      simp only[z]at h;exact Zef hE hP (ih B w0) (Ua n) z h J S O
theorem Zyp {n:Nat} {as:List V} {r:V} {H' : Heap} (D:Ci E) (F:E.P=P) (I:Qm P E) (M:E.pure f=true) (C:E.env f=none) (J:FM [] as=some as) (h:En E (n+1) f as []=some (r,H')):OX P E f as r:=by
 unfold En at h;simp only[C,M,if_true]at h;cases z:E.func f with
 | none=>simp[z]at h
 | some fn=>
  simp only[z,J]at h;cases q:Pj (En E n) n E f fn as [] with
  | none=>simp[q]at h
  | some O=>
   obtain⟨N,G⟩:=O;simp only[q]at h;cases A:J8 G N with
   | none=>simp[A]at h
   | some Q =>
    simp only[A,Option.map_some,Option.some.injEq,Prod.mk.injEq]at h;obtain⟨rfl,_⟩:=h;exact ZcV D F (Z38 D F I n) (Ua n) z q A
end
end Go.Proofs.YtjodhcdmhobmoaaGreatDoor.Le
namespace Go.Proofs.YtjodhcdmhobmoaaGreatDoor.Le
inductive SV (Ty:Nat->Type) where
 | lit (v:Value)
 | si (k:IntKind) (a:Int)
 | sb (b:Bool)
 | ss (s:ByteArray)
 | agg (cs:List (SV Ty))
 | BH (vs:List (SV Ty))
 | nil (e:Nat)
 | sl (t:Nat) (xs:List (Ty t))
 | Ce (t:Nat) (xs:List (Ty t))
 | all (id n:Nat)
 | Bc (id off len tot:Nat)
 | ptr (id i off tot:Nat)
 | CE (t:Nat) (xs:List (Ty t)) (i off:Nat)
 | fn (f:FuncId) (first caps:List (SV Ty))
 | raw (v:V)
 | Ot (kvs:List (SV Ty))
 | TV (d:Nat) (cs:List V) (off:Nat)
 | no
 | und
instance (Ty:Nat->Type):Inhabited (SV Ty):=⟨.und⟩
structure CY where
 Ty:Nat->Type
 Ap:Nat->Nat
 enc:(t:Nat)->Ty t->V
 encS:(t:Nat)->Ty t->SV Ty
 Gw:(t:Nat)->SV Ty->Option (Ty t)
 keys:List Nat
section
variable (U:CY)
mutual
def AU:SV U.Ty->V
 | .lit v=>.lit v
 | .si k a=>.lit (.int k a)
 | .sb b=>.lit (.bool b)
 | .ss s=>.lit (.string s)
 | .agg cs=>.agg (Aq cs)
 | .BH cs=>.BH (Aq cs)
 | .nil e=>.sl true e []
 | .sl t xs=>.sl false (U.Ap t) (xs.map (U.enc t))
 | .Ce t xs=>.Ce false (U.Ap t) (xs.map (U.enc t))
 | .all id n=>.Bc id 0 n n
 | .Bc id off len tot=>.Bc id off len tot
 | .ptr id i off tot=>.ptr id i off tot
 | .CE t xs i off=>.CE (U.Ap t) (xs.map (U.enc t)) i off
 | .fn f a b=>.fn f (Aq a) (Aq b)
 | .raw v=>v
 | .Ot cs=>.GY (Aq cs)
 | .TV d cs off=>.CE d [.agg cs] 0 off
 | .no=>.no
 | .und=>.und
def Aq:List (SV U.Ty)->List V
 | []=>[]
 | x::xs=>AU x::Aq xs
end
inductive Md (Ty:Nat->Type) where
 | var (elem:TypeId) (Ap:Nat) (x:SV Ty)
 | row (t:Nat) (xs:List (Ty t)) (fl:Option Nat)
 | dead
 | fvar (elem:TypeId) (Ap:Nat) (x:SV Ty)
def Md.floor {Ty:Nat->Type} (fl:Option Nat):Nat:=fl.getD 0
def CX:Md U.Ty->Box
 | .var e n x=>Bg false false e n [AU U x]
 | .row t xs fl=>{ live:=true,row:=true,EZ:=false,elem:=t,Ap:=U.Ap t,xs:=xs.map (U.enc t),floor:=fl.getD 0 }
 | .dead=>Qe
 | .fvar e n x=>{ Bg false false e n [AU U x] with floor:=1 }
abbrev BF:=List (Md U.Ty)
def BM (H:BF U):Heap:=H.map (CX U)
structure D9 where
 s:List (SV U.Ty)
 H:BF U
def CZ (st:D9 U):St:=⟨Aq U st.s,BM U st.H⟩
inductive Tr (L:Type) where
 | leaf (l:L)
 | br (c:Bool) (a b:Tr L)
 | bind (t:Nat) (o:Option (U.Ty t)) (k:U.Ty t->Tr L)
 | chk (c:Bool) (a:Tr L)
 | fail
variable {U}
def Tr.andThen {L M:Type}:Tr U L->(L->Tr U M)->Tr U M
 | .leaf l,f=>f l
 | .br c a b,f=>.br c (a.andThen f) (b.andThen f)
 | .bind t o k,f=>.bind t o fun x=>(k x).andThen f
 | .chk c a,f=>.chk c (a.andThen f)
 | .fail,_=>.fail
def Tr.map {L M:Type} (g:L->M):Tr U L->Tr U M
 | .leaf l=>.leaf (g l)
 | .br c a b=>.br c (a.map g) (b.map g)
 | .bind t o k=>.bind t o fun x=>(k x).map g
 | .chk c a=>.chk c (a.map g)
 | .fail=>.fail
def Tr.den {L R:Type} (J:L->Option R):Tr U L->Option R
 | .leaf l=>J l
 | .br c a b=>cond c (a.den J) (b.den J)
 | .bind t o k=>o.bind fun x=>(k x).den J
 | .chk c a=>cond c (a.den J) none
 | .fail=>none
def Tr.AY {L:Type}:Tr U L->L->Prop
 | .leaf l,x=>l=x
 | .br c a b,x=>(c=true/\a.AY x)\/(c=false/\b.AY x)
 | .bind t o k,x=>∃a,o=some a/\(k a).AY x
 | .chk c a,x=>c=true/\a.AY x
 | .fail,_=>False
def Tr.opt {L:Type}:Option L->Tr U L
 | some l=>.leaf l
 | none=>.fail
def Tr.when {L:Type} (p:Prop) [Decidable p] (a:Tr U L):Tr U L:=if p then a else .fail
variable (U)
def RP:V->SV U.Ty
 | .lit v=>.lit v
 | .sl true e []=>.nil e
 | .no=>.no
 | .und=>.und
 | v=>.raw v
def Jg:V->SV U.Ty
 | .agg cs=>.agg (cs.map (RP U))
 | v=>RP U v
variable {U}
def cellsS:SV U.Ty->List (SV U.Ty)
 | .agg cs=>cs
 | v=>[v]
def okS:SV U.Ty->Bool
 | .und | .no | .BH _ | .Ot _ | .TV ..=>false
 | .raw (.agg _)=>false
 | .raw v=>okV v
 | _=>true
def Vo:SV U.Ty->Option Value
 | .lit v=>some v
 | .si k a=>some (.int k a)
 | .sb b=>some (.bool b)
 | .ss s=>some (.string s)
 | _=>none
def asInt:SV U.Ty->Option (IntKind×Int)
 | .lit (.int k a)=>some (k,a)
 | .si k a=>some (k,a)
 | _=>none
def J5:SV U.Ty->Option ByteArray
 | .lit (.string s)=>some s
 | .ss s=>some s
 | _=>none
def asBool:SV U.Ty->Option Bool
 | .lit (.bool b)=>some b
 | .sb b=>some b
 | _=>none
def Cm (E:Env) (s:List (SV U.Ty)):Operand->SV U.Ty
 | .tmp t=>s.getD t .und
 | .const v=>Jg U (PT v)
 | .func f=>.fn f [] []
 | .global g=>match E.Ee g with|some r=>.raw (.CE r.length [.agg r] 0 0)|none=>.und
def RG (s:List (SV U.Ty)) (d:Option Tmp) (v:SV U.Ty):List (SV U.Ty):=match d with|some t=>s.set t v|none=>s
def O0 (H:BF U) (k:Nat) (b:Md U.Ty):BF U:=if k<H.length then H.set k b else H++[b]
def rowAt {L:Type} (H:BF U) (id tot:Nat) (k:(t:Nat)->List (U.Ty t)->Option Nat->Tr U L):Tr U L:=
 match H[id]? with
 | some (.row t xs fl)=>.chk (xs.length==tot) (k t xs fl)
 | _=>.fail
def NV (H:BF U):SV U.Ty->Tr U (SV U.Ty)
 | .lit v=>.leaf (.lit v)
 | .si k a=>.leaf (.si k a)
 | .sb b=>.leaf (.sb b)
 | .ss s=>.leaf (.ss s)
 | .nil e=>.leaf (.nil e)
 | .sl t xs=>.leaf (.sl t xs)
 | .Ce t xs=>.leaf (.sl t xs)
 | .all id n=>rowAt H id n fun t xs _=>.leaf (.sl t xs)
 | .Bc id off len tot=>rowAt H id tot fun t xs _=>.chk (decide (off+len<=tot)) (.leaf (.sl t ((xs.drop off).take len)))
 | .fn f [] []=>.leaf (.fn f [] [])
 | _=>.fail
def TK (H:BF U):List (SV U.Ty)->Tr U (List (SV U.Ty))
 | []=>.leaf []
 | v::vs=>(NV H v).andThen fun w=>(TK H vs).andThen fun ws=>.leaf (w::ws)
def RH (H:BF U):SV U.Ty->Tr U (SV U.Ty)
 | .agg cs=>(TK H cs).andThen fun ws=>.leaf (.agg ws)
 | v=>NV H v
def PY (H:BF U):List (SV U.Ty)->Tr U (List (SV U.Ty))
 | []=>.leaf []
 | v::vs=>(RH H v).andThen fun w=>(PY H vs).andThen fun ws=>.leaf (w::ws)
def O8:SV U.Ty->List Nat
 | .Bc id _ _ _=>[id]
 | .all id _=>[id]
 | .raw v=>FB v
 | _=>[]
def NZ:SV U.Ty->List Nat
 | .agg cs=>cs.flatMap O8
 | .raw v=>Dh v
 | v=>O8 v
def rW:Md U.Ty->Md U.Ty
 | .row t xs _=>.row t xs (some xs.length)
 | b=>b
def Pv (H:BF U):List Nat->BF U
 | []=>H
 | i::q=>Pv (H.modify i rW) q
def Qy (cs:List (SV U.Ty)) (off n:Nat) (isAgg:Bool):Option (SV U.Ty):=
 if isAgg then (if off+n<=cs.length then some (.agg ((cs.drop off).take n)) else none) else cs[off]?
def Qq (e:Nat):List (SV U.Ty)->Option (List (U.Ty e))
 | []=>some []
 | v::vs=>match okS v,U.Gw e v,Qq e vs with|true,some a,some as=>some (a::as)|_,_,_=>none
def loadT (E:Env) (H:BF U) (t:TypeId) (a:SV U.Ty):Tr U (SV U.Ty):=
 match E.ti t with
 | none=>.fail
 | some i=>
  match a with
  | .CE q xs j off=>.bind q xs[j]? fun x=>.opt (Qy (cellsS (U.encS q x)) off i.size i.isAgg)
  | .ptr id j off tot=>match H[id]? with
   | some (.var _ _ x)=>.when (j=0/\tot=1/\okS x=true) (.opt (Qy (cellsS x) off i.size i.isAgg))
   | some (.row q xs _)=>.chk (xs.length==tot) (.bind q xs[j]? fun x=>.opt (Qy (cellsS (U.encS q x)) off i.size i.isAgg))
   | _=>.fail
  | .raw (.CE _ [.lit z] 0 0)=>.opt (Qy [.lit z] 0 i.size i.isAgg)
  | .raw (.CE _ [.agg cs] 0 off)=>.opt ((partOf cs off i.size i.isAgg).map (Jg U))
  | .TV _ cs off=>match Qq t (cs.map (RP U)) with
   | some ys=>.when (i.size=1/\i.isAgg=false/\cs.all Io=true) (.bind t ys[off]? fun x=>.leaf (U.encS t x))
   | none=>.fail
  | _=>.fail
def sG (x:SV U.Ty) (off:Nat) (cs:List (SV U.Ty)):Option (SV U.Ty):=
 match x with
 | .agg q=>if off+cs.length<=q.length then some (.agg (q.take off++cs++q.drop (off+cs.length))) else none
 | .raw _=>none
 | _=>match off,cs with|0,[c]=>some c|_,_=>none
def storeT (E:Env) (H:BF U) (t:TypeId) (a v:SV U.Ty):Tr U (BF U):=
 match E.ti t with
 | none=>.fail
 | some i=>
  match a with
  | .ptr id j off tot=>match H[id]? with
   | some (.var e n x)=>.when ((j=0/\tot=1)/\(cellsS v).length=i.size/\okS v=true/\okS x=true)
     (match sG x off (cellsS v) with
      | some q =>.when (okS q = true) (.leaf (H.set id (.var e n q)))
      | none=>.fail)
   | some (.row z xs fl)=>.when ((cellsS v).length=i.size/\okS v=true/\(NZ v).contains id=false)
     (.chk (xs.length==tot&&decide (fl.getD 0<=j)) (.bind z xs[j]? fun x=>(RH H v).andThen fun v' =>
      match sG (U.encS z x) off (cellsS v') with
      | some q =>match U.Gw z q with
       | some y=>.when (okS v' = true/\okS q = true) (.leaf ((Pv H (NZ v)).set id (.row z (xs.set j y) fl)))
       | none=>.fail
      | none=>.fail))
   | _=>.fail
  | _=>.fail
end
section
variable {U:CY}
def intT (op:BinOp) (k:IntKind) (a b:Int) (lit:Bool):Tr U (SV U.Ty):=
 match op with
 | .add=>.leaf (.si k (k.wrap (a+b)))
 | .sub=>.leaf (.si k (k.wrap (a - b)))
 | .mul=>.leaf (.si k (k.wrap (a*b)))
 | .quo=>if lit then (if b=0 then .fail else .leaf (.si k (k.wrap (a.tdiv b)))) else .chk (b != 0) (.leaf (.si k (k.wrap (a.tdiv b))))
 | .rem=>if lit then (if b=0 then .fail else .leaf (.si k (a.tmod b))) else .chk (b != 0) (.leaf (.si k (a.tmod b)))
 | .and | .or | .xor | .andNot=>.leaf (.si k (bits op k a b))
 | .eql=>.leaf (.sb (a==b))
 | .neq=>.leaf (.sb (a != b))
 | .lss=>.leaf (.sb (decide (a<b)))
 | .leq=>.leaf (.sb (decide (a<=b)))
 | .gtr=>.leaf (.sb (decide (a>b)))
 | .geq=>.leaf (.sb (decide (a>=b)))
 | _=>.fail
def ZeR (op:BinOp) (k:IntKind) (a b:Int):Option Int:=
 match op with
 | .shl=>some (k.wrap (a*2 ^ min b.toNat k.bits))
 | .shr=>some (a.fdiv (2 ^ min b.toNat k.bits))
 | _=>none
def sS (op:BinOp) (k:IntKind) (a b:Int) (lit:Bool):Tr U (SV U.Ty):=
 match ZeR op k a b with
 | none=>.fail
 | some r=>if lit then (if b<0 then .fail else .leaf (.si k r)) else .chk (decide (0<=b)) (.leaf (.si k r))
def strT (op:BinOp) (x y:ByteArray):Tr U (SV U.Ty):=
 match op with
 | .add=>.chk (decide (x.size+y.size<=maxLen)) (.leaf (.ss (x++y)))
 | .eql=>.leaf (.sb (x.toList==y.toList))
 | .neq=>.leaf (.sb !(x.toList==y.toList))
 | .lss=>.leaf (.sb (Op.bytesLess x.toList y.toList))
 | .leq=>.leaf (.sb (Op.bytesLess x.toList y.toList||x.toList==y.toList))
 | .gtr=>.leaf (.sb !(Op.bytesLess x.toList y.toList||x.toList==y.toList))
 | .geq=>.leaf (.sb !(Op.bytesLess x.toList y.toList))
 | _=>.fail
def NP:List FK->List (SV U.Ty)->List (SV U.Ty)->Option Bool
 | [],[],[]=>some true
 | .b::ks,x::xs,y::ys=>match asBool x,asBool y,NP ks xs ys with|some a,some b,some r=>some (a==b&&r)|_,_,_=>none
 | .i k::ks,x::xs,y::ys=>match asInt x,asInt y,NP ks xs ys with
  | some (k1,a),some (k2,b),some r=>if k1=k/\k2=k then some (a==b&&r) else none
  | _,_,_=>none
 | .s::ks,x::xs,y::ys=>match J5 x,J5 y,NP ks xs ys with|some a,some b,some r=>some (a==b&&r)|_,_,_=>none
 | _,_,_=>none
def isLit:SV U.Ty->Bool | .lit _=>true|_=>false
def Z4u:SV U.Ty->SV U.Ty | .si k a=>.lit (.int k a) | .sb b=>.lit (.bool b)|v=>v
def binT (E:Env) (op:BinOp) (t:TypeId) (x y:SV U.Ty):Tr U (SV U.Ty):=
 match x,y with
 | .agg xs,.agg ys=>match E.flat t with
  | some ks=>match NP ks xs ys with
   | some b=>(match op with | .eql=>.leaf (.sb b) | .neq=>.leaf (.sb !b)|_=>.fail)
   | none=>.fail
  | none=>.fail
 | x,y=>match asInt x,asInt y with
  | some (k,a),some (j,b)=>(match op with
   | .shl=>sS .shl k a b (isLit y)
   | .shr=>sS .shr k a b (isLit y)
   | op=>if k=j then intT op k a b (isLit y) else .fail)
  | _,_=>match J5 x,J5 y with
   | some a,some b=>strT op a b
   | _,_=>match asBool x,asBool y with
    | some a,some b=>if E.isBool t then (match op with | .eql=>.leaf (.sb (a==b)) | .neq=>.leaf (.sb (!(a==b)))|_=>.fail) else .fail
    | _,_=>.fail
def unT (op:UnOp) (x:SV U.Ty):Tr U (SV U.Ty):=
 match op,asInt x,asBool x with
 | .neg,some (k,n),_=>.leaf (.si k (k.wrap (0 - n)))
 | .xor,some (k,n),_=>.leaf (.si k (bits .xor k (if k.signed then -1 else k.max) n))
 | .not,_,some b=>.leaf (.sb !b)
 | _,_,_=>.fail
def iZ (q:Bool) (k:IntKind):Int->List (SV U.Ty)->Option Int
 | a,[]=>some a
 | a,x::z=>match asInt x with
  | some (j,b)=>if k=j then iZ q k (if q then (if b>a then b else a) else (if b<a then b else a)) z else none
  | none=>none
def sK (q:Bool):List (SV U.Ty)->Tr U (SV U.Ty)
 | x::z=>match asInt x with
  | some (k,a)=>(match iZ q k a z with|some r=>.leaf (.si k r)|none=>.fail)
  | none=>.fail
 | []=>.fail
def Qu (cs:List (SV U.Ty)):List (Nat×SV U.Ty)->(Nat->Option (Nat×Nat))->Option (List (SV U.Ty))
 | [],_=>some cs
 | (i,v)::q,place=>
  match place i with
  | none=>none
  | some (off,size)=>if (cellsS v).length==size&&decide (off+size<=cs.length)&&okS v then Qu (cs.take off++cellsS v++cs.drop (off+size)) q place else none
def Z4h (E:Env) (t:TypeId) (q:List (Nat×SV U.Ty)):Option (SV U.Ty):=
 match E.ti t with
 | some i=>match i.zero with
  | some z=>
   if okV z then
    match i.ty with
    | .struct fs=>if fs.all fun x=>(E.ti x.2).isSome then (Qu (cellsS (Jg U z)) q (placesOf E fs)).map .agg else none
    | .array _ e=>match E.ti e with
     | some A=>(Qu (cellsS (Jg U z)) q (fun i=>some (i*A.size,A.size))).map .agg
     | none=>none
    | _=>none
   else none
  | none=>none
 | none=>none
def Z0U (E:Env) (k:Nat) (H:BF U) (t:TypeId) (n:Nat) (q:List (Nat×SV U.Ty)):Tr U (SV U.Ty×BF U):=
 match E.ti t with
 | some ⟨.slice e,_,_,_⟩=>match E.ti e with
  | some A=>match A.zero with
   | some z=>(PY H (q.map (·.2))).andThen fun vs=>match Qq e vs with
    | some ys=>.when ((n*A.size<=16777216/\0<A.size/\z.cells.length=A.size/\okV z=true)/\q.map (·.1)=List.range n/\vs.all (fun v=>(cellsS v).length==A.size)=true/\U.Ap e=A.size)
      (.leaf (.all k n,O0 (Pv H ((q.map (·.2)).flatMap NZ)) k (.row e ys none)))
    | none=>.fail
   | none=>.fail
  | none=>.fail
 | _=>.fail
def Z24 (E:Env) (s:TypeId) (x:SV U.Ty) (f:Nat):Option (SV U.Ty):=
 match E.ti s with
 | some ⟨.struct fs,_,_,_⟩=>match fs[f]? with
  | some (o,t)=>match E.size t with
   | some sz=>if sz=0 then none else match x with
    | .ptr id j off tot=>some (.ptr id j (off+o) tot)
    | .CE d xs j off=>some (.CE d xs j (off+o))
    | .raw (.CE d xs j off)=>some (.raw (.CE d xs j (off+o)))
    | _=>none
   | none=>none
  | none=>none
 | _=>none
def Z3S (E:Env) (s:TypeId) (x:SV U.Ty) (f:Nat):Option (SV U.Ty):=
 match E.ti s,x with
 | some ⟨.struct fs,_,_,_⟩,.agg cs=>match fs[f]? with
  | some (o,t)=>match E.ti t with|some i=>Qy cs o i.size i.isAgg|none=>none
  | none=>none
 | _,_=>none
def sU (H:BF U) (x:SV U.Ty) (e:Nat):Tr U (List (U.Ty e)):=
 let q (t:Nat) (xs:List (U.Ty t)):Tr U (List (U.Ty e)):=if h:t=e then .leaf (h▸xs) else .fail
 match x with
 | .nil _=>.leaf []
 | .sl t xs=>q t xs
 | .Ce t xs=>q t xs
 | .all id n=>rowAt H id n fun t xs _=>q t xs
 | .Bc id off len tot=>rowAt H id tot fun t xs _=>.chk (decide (off+len<=tot)) (q t ((xs.drop off).take len))
 | _=>.fail
def Z3y (E:Env) (k:Nat) (H:BF U) (t u:TypeId) (s x:SV U.Ty):Tr U (SV U.Ty×BF U):=
 match E.ti t with
 | some ⟨.slice e,_,_,_⟩=>match E.ti e with
  | some q=>.when (u=t/\0<q.size/\q.TY=true/\U.Ap e=q.size) ((sU H x e).andThen fun ys=>
    match s with
    | .all id n=>rowAt H id n fun z xs fl=>if h:z = e then
      .chk (decide ((n+ys.length)*q.bytes<=lim)&&decide (n+ys.length<=maxLen))
       (.leaf (.all id ((h▸xs:List (U.Ty e))++ys).length,H.set id (.row e ((h▸xs:List (U.Ty e))++ys) fl)))
     else .fail
    | .Bc id off len tot=>rowAt H id tot fun z xs fl=>if h:z = e then
      .chk (decide (off=0)&&(decide (fl.getD 0<=len)&&(decide (len<tot)&&decide (len+ys.length<=tot))))
       (.leaf (.Bc id 0 (len+ys.length) tot,H.set id (.row e ((h▸xs:List (U.Ty e)).take len++ys++(h▸xs:List (U.Ty e)).drop (len+ys.length)) fl)))
     else .fail
    | .nil _=>.chk (decide (ys.length*q.bytes<=lim)&&decide (ys.length<=maxLen)) (.leaf (.all k ys.length,O0 H k (.row e ys none)))
    | .Ce z xs=>if h:z = e then
      .chk (decide ((xs.length+ys.length)*q.bytes<=lim)&&decide (xs.length+ys.length<=maxLen))
       (.br ys.isEmpty (.leaf (.Ce z xs,H)) (.leaf (.all k ((h▸xs:List (U.Ty e))++ys).length,O0 H k (.row e ((h▸xs:List (U.Ty e))++ys) none))))
     else .fail
    | _=>.fail)
  | none=>.fail
 | _=>.fail
def Z4n (E:Env) (H:BF U) (t u:TypeId) (d x:SV U.Ty):Tr U (SV U.Ty×BF U):=
 match E.ti t with
 | some ⟨.slice e,_,_,_⟩=>match E.ti e with
  | some q=>.when (U.Ap e=q.size) ((sU H x e).andThen fun ys=>
    match d with
    | .all id n=>rowAt H id n fun z xs fl=>if h:z = e then
      .when (fl.getD 0=0) (.leaf (.si .i64 (min ys.length xs.length:Nat),H.set id (.row e (ys.take xs.length++(h▸xs:List (U.Ty e)).drop ys.length) fl)))
     else .fail
    | _=>.fail)
  | none=>.fail
 | _=>.fail
def lenT (x:SV U.Ty):Option Nat:=
 match x with
 | .nil _=>some 0
 | .sl _ xs=>some xs.length
 | .Ce _ xs=>some xs.length
 | .lit (.string s)=>some s.size
 | .ss s=>some s.size
 | _=>none
def NW {L:Type} (H:BF U) (x:SV U.Ty) (k:Nat->Tr U L):Tr U L:=
 match x with
 | .all id n=>rowAt H id n fun _ _ _=>k n
 | .Bc id _ len tot=>rowAt H id tot fun _ _ _=>k len
 | x=>match lenT x with|some n=>k n|none=>.fail
def Su (x:SV U.Ty):Bool:=(J5 x).isSome
def Z2X (E:Env) (t:TypeId) (x:SV U.Ty):Bool:=
 if Su x then E.isStr t else match E.ti t with|some ⟨.slice _,_,_,_⟩=>true|_=>false
def gI {L:Type} (x:Option (SV U.Ty)) (z q:Nat) (k:Nat->Tr U L):Tr U L:=
 match x with
 | none=>k q
 | some v=>match asInt v with
  | some (_,n)=>.chk (decide (0<=n/\n<=z)) (k n.toNat)
  | none=>.fail
def Z40 (E:Env) (H:BF U) (x:SV U.Ty) (n:Nat):Bool:=
 match x with
 | .nil _=>true
 | .sl t _=>U.Ap t==n
 | .Ce t _=>U.Ap t==n
 | .all id _ | .Bc id _ _ _=>match H[id]? with|some (.row t _ _)=>U.Ap t==n|_=>false
 | _=>false
def Z1y (E:Env) (H:BF U) (t:TypeId) (x:SV U.Ty):Bool:=
 if Su x then E.isStr t else match E.ti t with
  | some ⟨.slice e,_,_,_⟩=>match E.ti e with|some q=>Z40 E H x q.size|none=>false
  | _=>false
def sliceT (E:Env) (H:BF U) (t:TypeId) (x:SV U.Ty) (z q A:Option (SV U.Ty)):Tr U (SV U.Ty×BF U):=
 if Z1y E H t x then
  NW H x fun n=>gI q n n fun h=>gI z h 0 fun l=>
   match A with
   | some m=>(match q with
    | none=>.fail
    | some _=>gI (some m) n n fun k=>.chk (k==h)
     (match x with
      | .sl e xs=>.leaf (.Ce e ((xs.drop l).take (h - l)),H)
      | .Ce e xs=>.leaf (.Ce e ((xs.drop l).take (h - l)),H)
      | .all id n=>rowAt H id n fun e xs _=>.leaf (.Ce e ((xs.drop l).take (h - l)),Pv H [id])
      | _=>.fail))
   | none=>match x with
    | .nil e=>.leaf (.nil e,H)
    | .sl e xs=>.leaf (.sl e ((xs.drop l).take (h - l)),H)
    | .Ce e xs=>.leaf (.sl e ((xs.drop l).take (h - l)),H)
    | .all id n=>(match z,q with
     | none,none=>.leaf (.all id n,H)
     | _,_=>.leaf (.Bc id l (h - l) n,H))
    | .Bc id off _ tot=>.leaf (.Bc id (off+l) (h - l) tot,H)
    | x=>match J5 x with
     | some s=>.leaf (.ss (s.extract l h),H)
     | none=>.fail
 else .fail
def Z2K (x:Option (SV U.Ty)) (n:Nat):Option Nat:=match x with
 | none=>some n
 | some (.lit (.int _ h))=>if 0<=h/\h<=n then some h.toNat else none
 | _=>none
def Z3u (E:Env) (H:BF U) (n e:Nat) (x:SV U.Ty) (A z C:Option (SV U.Ty)):Tr U (SV U.Ty×BF U):=
 match x,A,Z2K z n,C with
 | .ptr id i off tot,none,some m,none=>match H[id]? with
  | some (.var q k (.agg cs))=>match Qq e cs with
   | some ys=>.when ((i=0/\off=0/\tot=1/\cs.length=n/\n<=maxLen)/\E.size e=some 1/\U.Ap e=1/\cs.all (fun c=>(Vo c).isSome)=true) (.leaf (.sl e (ys.take m),H.set id (.fvar q k (.agg cs))))
   | none=>.fail
  | _=>.fail
 | _,_,_,_=>.fail
def uP {L:Type} {t:Nat} (xs:List (U.Ty t)):Nat->Nat->(List Value->Tr U L)->Tr U L
 | _,0,k=>k []
 | i,n+1,k=>.bind t xs[i]? fun x=>match Vo (U.encS t x) with|some v=>uP xs (i+1) n fun vs=>k (v::vs)|none=>.fail
def arrT (E:Env) (t:TypeId) (x:SV U.Ty):Tr U (SV U.Ty):=
 match E.ti t,x with
 | some ⟨.array n e,_,_,_⟩,.sl q xs=>.when (E.size e=some 1/\U.Ap q = 1/\0<n) (uP xs 0 n fun vs=>.leaf (.raw (.CE n [.agg (vs.map .lit)] 0 0)))
 | _,_=>.fail
def SX {L:Type} (n:Int) (lit:Bool) (len:Nat) (k:Nat->Tr U L):Tr U L:=
 if lit then (if 0<=n/\n<len then k n.toNat else .fail)
 else (List.range len).foldr (fun(i:Nat) q=>.br (n==(i:Int)) (k i) q) .fail
def Z2d (E:Env) (H:BF U) (t:TypeId) (x i:SV U.Ty):Tr U (SV U.Ty):=
 match asInt i,E.ti t with
 | some (_,n),some ti=>
  match ti.ty with
  | .slice z=>(match x with
   | .sl q xs=>.when (E.size z=some (U.Ap q)) (.chk (decide (0<=n/\n<xs.length)) (.leaf (.CE q xs n.toNat 0)))
   | .Ce q xs=>.when (E.size z=some (U.Ap q)) (.chk (decide (0<=n/\n<xs.length)) (.leaf (.CE q xs n.toNat 0)))
   | .all id m=>rowAt H id m fun q xs _=>.when (E.size z=some (U.Ap q)) (.chk (decide (0<=n/\n<m)) (.leaf (.ptr id n.toNat 0 m)))
   | .Bc id off len tot=>rowAt H id tot fun q xs _=>.when (E.size z=some (U.Ap q)) (.chk (decide (0<=n/\n<len)) (.leaf (.ptr id (off+n.toNat) 0 tot)))
   | _=>.fail)
  | .array len e=>(match E.size e with
   | none=>.fail
   | some sz=>match x with
    | .ptr id j off tot=>SX n (isLit i) len fun m=>.leaf (.ptr id j (off+m*sz) tot)
    | .CE d xs j off=>SX n (isLit i) len fun m=>.leaf (.CE d xs j (off+m*sz))
    | .raw (.CE d [.agg cs] 0 0)=>if (decide (sz=1)&&(cs.all Io && !isLit i))=true then .chk (decide (0<=n/\n<len)) (.leaf (.TV d cs n.toNat))
     else SX n (isLit i) len fun m=>.leaf (.raw (.CE d [.agg cs] 0 (0+m*sz)))
    | .raw (.CE d xs j off)=>SX n (isLit i) len fun m=>.leaf (.raw (.CE d xs j (off+m*sz)))
    | _=>.fail)
  | _=>.fail
 | _,_=>.fail
def Z42 (E:Env) (t:TypeId) (x i:SV U.Ty):Tr U (SV U.Ty):=
 match asInt i with
 | some (_,n)=>
  match E.ti t,x with
  | some ⟨.array len e,_,_,_⟩,.agg cs=>match E.ti e with
   | some q=>SX n (isLit i) len fun m=>.opt (Qy cs (m*q.size) q.size q.isAgg)
   | none=>.fail
  | some ⟨.scalar,_,_,_⟩,x=>match J5 x with
   | some s=>if E.isStr t then .chk (decide (0<=n/\n<s.size)) (.leaf (.si .u8 (s.get! n.toNat).toNat)) else .fail
   | none=>.fail
  | _,_=>.fail
 | none=>.fail
def MB (U:CY) (t:Nat) (xs:List (U.Ty t)):Bool:=match bytesOf (xs.map (U.enc t)) with|some q=>decide (q.length<=maxLen)|none=>false
def strOf (U:CY) (t:Nat) (xs:List (U.Ty t)):ByteArray:=⟨((bytesOf (xs.map (U.enc t))).getD []).toArray⟩
def Vd (t:Nat) (xs:List (U.Ty t)):Tr U (SV U.Ty):=.when (U.Ap t=1) (.chk (MB U t xs) (.leaf (.ss (strOf U t xs))))
def Z46 (E:Env) (H:BF U) (q dst:TypeId) (x:SV U.Ty):Tr U (SV U.Ty):=
 .when ((E.isStr dst&&E.isBytes q)=true) (match x with
  | .nil _=>.leaf (.ss ⟨#[]⟩)
  | .sl t xs=>Vd t xs
  | .Ce t xs=>Vd t xs
  | .all id n=>rowAt H id n fun t xs _=>Vd t xs
  | .Bc id off len tot=>rowAt H id tot fun t xs _=>.chk (decide (off+len<=tot)) (Vd t ((xs.drop off).take len))
  | _=>.fail)
def Z4s (E:Env) (H:BF U) (q dst:TypeId) (x:SV U.Ty):Tr U (SV U.Ty):=
 match asInt x with
 | some (_,n)=>(match E.kind dst with
  | some k=>if (E.ti q).isSome then .leaf (.si k (k.wrap n)) else .fail
  | none=>.fail)
 | none=>match J5 x with
  | some s=>if E.isStr q&&E.isStr dst then .leaf (.ss s) else .fail
  | none=>Z46 E H q dst x
def uN (U:CY) (e:Nat) (st:ByteArray):Bool:=st.data.toList.all fun b=>(U.Gw e (.si .u8 b.toNat)).isSome
def OD (U:CY) (e:Nat) (st:ByteArray):List (U.Ty e):=st.data.toList.filterMap fun b=>U.Gw e (.si .u8 b.toNat)
def Z3T (E:Env) (k:Nat) (H:BF U) (dst:TypeId) (x:SV U.Ty):Tr U (SV U.Ty×BF U):=
 match J5 x,E.ti dst with
 | some st,some ⟨.slice e,_,_,_⟩=>.when (E.size e=some 1/\U.Ap e=1) (.chk (uN U e st) (.leaf (.all k (OD U e st).length,O0 H k (.row e (OD U e st) none))))
 | _,_=>.fail
abbrev IU (U:CY):=FuncId->List (SV U.Ty)->BF U->Tr U (SV U.Ty×BF U)
def vH (x:SV U.Ty):Option (Int×Bool):=match x with | .lit (.int _ n)=>some (n,true) | .si _ n=>some (n,false)|_=>none
def JP (H:BF U) (T:Tr U (SV U.Ty)):Tr U (SV U.Ty×BF U):=T.andThen fun v=>.leaf (v,H)
def Z4r (E:Env) (M:IU U) (k:Nat) (H:BF U) (s:List (SV U.Ty)) (c:Call):Tr U (SV U.Ty×BF U):=
 match c.callee with
 | .builtin b=>(match b,c.args.toList.map (Cm E s),c.argTypes.toList with
  | .len,[x],[t]=>if Z2X E t x then NW H x fun n=>.leaf (.si .i64 n,H) else .fail
  | .append,[a,x],[t,u]=>Z3y E k H t u a x
  | .copy,[d,x],[t,u]=>Z4n E H t u d x
  | .min,args,_=>JP H (sK false args)
  | .max,args,_=>JP H (sK true args)
  | _,_,_=>.fail)
 | .value f=>(match Cm E s f with
  | .fn g first caps=>M g (first++c.args.toList.map (Cm E s)++caps) H
  | _=>.fail)
 | _=>.fail
def Po {L:Type} (kd:IntKind) (n:Int) (lit:Bool) (z:Tr U L) (f:SV U.Ty->Tr U L):List (SV U.Ty)->Tr U L
 | []=>z
 | .lit (.int k a)::v::r=>.when (k=kd) (if lit then (if n=a then f v else Po kd n lit z f r) else .br (n==a) (f v) (Po kd n lit z f r))
 | _=>.fail
def Z4l (E:Env) (t:TypeId) (ok:Bool) (m x:SV U.Ty):Tr U (SV U.Ty):=
 match E.ti t,m,asInt x with
 | some ⟨.map k e,_,_,_⟩,.Ot kvs,some (kd,n)=>.when (E.kind k=some kd)
  (Po kd n (isLit x) (match E.ti e with|some q=>(match q.zero with|some z=>.leaf (if ok then .BH [Jg U z,.sb false] else Jg U z)|none=>.fail)|none=>.fail)
   (fun v=>.leaf (if ok then .BH [v,.sb true] else v)) kvs)
 | _,_,_=>.fail
def jE (E:Env) (M:IU U) (k:Nat) (H:BF U) (s:List (SV U.Ty)) (o:Oper):Tr U (SV U.Ty×BF U):=
 match o.op with
 | .move x=>.leaf (Cm E s x,H)
 | .assign (.const (.slice none 0 0))=>match E.ti o.type with
  | some ⟨.slice e,_,_,_⟩=>.when (U.Ap e=(E.size e).getD 0) (.leaf (.all k 0,O0 H k (.row e [] none)))
  | _=>.fail
 | .assign x=>.leaf (Cm E s x,H)
 | .pick c a b=>(match Cm E s c with
  | .lit (.bool true)=>.leaf (Cm E s a,H)
  | .lit (.bool false)=>.leaf (Cm E s b,H)
  | .sb t=>(match asBool (Cm E s a),asBool (Cm E s b) with
   | some x,some y=>.leaf (.sb (cond t x y),H)
   | _,_=>.br t (.leaf (Cm E s a,H)) (.leaf (Cm E s b,H)))
  | _=>.fail)
 | .alloc t=>match E.ti t with
  | some i=>match i.zero with|some z=>.when (z.cells.length=i.size/\okV z=true) (.leaf (.ptr k 0 0 1,O0 H k (.var t i.size (Jg U z))))|none=>.fail
  | none=>.fail
 | .box t x=>match E.ti t with
  | some i=>.when ((cellsS (Cm E s x)).length=i.size/\okS (Cm E s x)=true) (.leaf (.ptr k 0 0 1,O0 H k (.var t i.size (Cm E s x))))
  | none=>.fail
 | .build t q=>JP H (.opt (Z4h E t (q.toList.map fun(i,x)=>(i,Cm E s x))))
 | .buildSlice t n q=>Z0U E k H t n (q.toList.map fun(i,x)=>(i,Cm E s x))
 | .load t a=>JP H (loadT E H t (Cm E s a))
 | .store t a v=>(storeT E H t (Cm E s a) (Cm E s v)).andThen fun H' =>.leaf (.no,H')
 | .nilCheck x=>(match Cm E s x with
  | .ptr a b c d=>.leaf (.ptr a b c d,H)
  | .CE a b c d=>.leaf (.CE a b c d,H)
  | .raw (.CE a b c d)=>.leaf (.raw (.CE a b c d),H)
  | .fn a b c=>.leaf (.fn a b c,H)
  | _=>.fail)
 | .binOp op t x y _=>JP H ((binT E op t (Cm E s x) (Cm E s y)).andThen fun v=>.leaf (if isLit (Cm E s x)&&isLit (Cm E s y) then Z4u v else v))
 | .unOp op _ x=>JP H (unT op (Cm E s x))
 | .convert C dst x=>if E.isStr C&&E.isBytes dst then Z3T E k H dst (Cm E s x) else JP H (Z4s E H C dst (Cm E s x))
 | .makeSlice t l c=>match E.ti t with
  | some ⟨.slice e,_,_,_⟩=>(match vH (Cm E s l),vH (Cm E s c),E.ti e with
   | some (n,_),some (m,_),some A=>(match A.zero with
    | some z=>(match U.Gw e (Jg U z) with
     | some y=>.when (0<A.size/\z.cells.length=A.size/\okV z=true/\U.Ap e=A.size)
       (.chk (decide (0<=n/\n<=m/\m.toNat*A.bytes<=lim/\m<=maxLen)) (.leaf (.all k (List.replicate n.toNat y).length,O0 H k (.row e (List.replicate n.toNat y) none))))
     | none=>.fail)
    | none=>.fail)
   | _,_,_=>.fail)
  | _=>.fail
 | .slice t x F D G=>match E.ti t with
  | some ⟨.array n e,_,_,_⟩=>Z3u E H n e (Cm E s x) (F.map (Cm E s)) (D.map (Cm E s)) (G.map (Cm E s))
  | _=>sliceT E H t (Cm E s x) (F.map (Cm E s)) (D.map (Cm E s)) (G.map (Cm E s))
 | .sliceToArrayPointer t x=>JP H (arrT E t (Cm E s x))
 | .fieldAddr t x f=>JP H (.opt (Z24 E t (Cm E s x) f))
 | .field t x f=>JP H (.opt (Z3S E t (Cm E s x) f))
 | .indexAddr t x i=>JP H (Z2d E H t (Cm E s x) (Cm E s i))
 | .index t x i=>JP H (Z42 E t (Cm E s x) (Cm E s i))
 | .extract x i=>(match Cm E s x with | .BH vs=>JP H (.opt vs[i]?)|_=>.fail)
 | .lookup t m x ok=>JP H (Z4l E t ok (Cm E s m) (Cm E s x))
 | .makeFunc (.func f) first caps=>.leaf (.fn f (first.toList.map (Cm E s)) (caps.toList.map (Cm E s)),H)
 | .call c=>Z4r E M k H s c
 | _=>.fail
def stepT (E:Env) (M:IU U) (ops:Array Oper) (k i:Nat) (st:D9 U):Tr U (D9 U):=
 match ops[i]? with
 | none=>.leaf st
 | some o=>
  let run (st:D9 U):Tr U (D9 U):=(jE E M k st.H st.s o).andThen fun r=>.leaf ⟨RG st.s o.dst r.1,r.2⟩;let skip (st:D9 U):Tr U (D9 U):=.leaf ⟨RG st.s o.dst .no,st.H⟩
  match o.guard with
  | none=>run st
  | some (j,q)=>
   match (ops[j]?).bind (·.dst) with
   | none=>.fail
   | some d=>(match st.s.getD d .und with
    | .no=>skip st
    | .lit (.bool true)=>if q then run st else skip st
    | .lit (.bool false)=>if q then skip st else run st
    | .sb b=>.br b (if q then run ⟨st.s.set d (.lit (.bool true)),st.H⟩ else skip ⟨st.s.set d (.lit (.bool true)),st.H⟩)
      (if q then skip ⟨st.s.set d (.lit (.bool false)),st.H⟩ else run ⟨st.s.set d (.lit (.bool false)),st.H⟩)
    | _=>.fail)
def opsT (E:Env) (M:IU U) (ops:Array Oper):List Nat->D9 U->Tr U (D9 U)
 | [],st=>.leaf st
 | i::q,st=>(stepT E M ops st.H.length i st).andThen (opsT E M ops q)
def Qx:SV U.Ty->List Nat
 | .Bc id _ _ _=>[id]
 | .all id _=>[id]
 | .ptr id _ _ _=>[id]
 | .raw v=>EF v
 | _=>[]
def Z44:SV U.Ty->List Nat
 | .agg cs=>cs.flatMap Qx
 | .raw v=>iC v
 | v=>Qx v
def iG:SV U.Ty->List Nat
 | .agg cs=>cs.flatMap Qx
 | .fn _ a b=>(a++b).flatMap Z44
 | .raw v=>Cj v
 | v=>Qx v
def Zfx:SV U.Ty->Bool | .fn _ _ _=>true | .raw v=>vI v|_=>false
def Z3Q (E:Env):SV U.Ty->Bool
 | .fn g a b=>((E.pure g||(E.env g).isSome)&&(E.own g).isNone)&&(a++b).all (fun v=>!Zfx v)
 | _=>false
def Z3W (E:Env) (s:List (SV U.Ty)) (o:Oper):Bool:=
 match o.op with
 | .call c=>(match c.callee with
  | .value (.tmp t)=>!(E.quiet&&o.type != 0)||Z3Q E (s.getD t .und)
  | _=>true)
 | _=>true
def fQ (E:Env) (s:List (SV U.Ty)) (o:Oper):List Nat:=o.op.operands.toList.flatMap fun x=>iG (Cm E s x)
def Zf3:Md U.Ty->Bool | .dead=>true|_=>false
def Z3K (E:Env) (s:List (SV U.Ty)) (o:Oper):SV U.Ty:=match PR o with|some a=>Cm E s a|_=>.no
def Z3v (H:BF U) (a:SV U.Ty) (k:Nat):Bool:=match a with
 | .ptr id _ _ tot=>id==k&&(match H[id]? with|some (.var _ _ _)=>tot==1|_=>false)
 | .all id _=>id==k&&(match H[id]? with|some (.row _ _ _)=>true|_=>false)
 | _=>false
def uA (base:Nat) (s0:List (SV U.Ty)):Nat⊕Nat->Option Nat
 | .inl j=>some (base+j)
 | .inr d=>match s0.getD d .und with | .ptr id _ _ _=>some id | .all id _=>some id|_=>none
def Z4C (E:Env) (ms:List Nat) (lt:List (Nat×(Nat⊕Nat))) (s0:List (SV U.Ty)) (base i:Nat) (s:List (SV U.Ty)) (H:BF U) (o:Oper):Bool:=
 lt.all fun p=>match uA base s0 p.2 with
  | none=>false
  | some k=>if p.1=i then Z3v H (Z3K E s o) k else !needs E o||(linked ms p.1 i || !(fQ E s o).contains k)
def Z4a (E:Env) (M:IU U) (ops:Array Oper) (ms:List Nat) (lt:List (Nat×(Nat⊕Nat))) (s0:List (SV U.Ty)) (base m i:Nat) (st:D9 U):Tr U (D9 U):=
 match ops[i]? with
 | none=>.leaf st
 | some o=>
  .when ((fQ E st.s o).all (fun id=>decide (id<base)||(decide (base+m<=id)&&VP E ops ms i)||(decide (id<base+m)&&(ms.getD i 0).testBit (id - base)))=true) (.when ((Z3W E st.s o&&Z4C E ms lt s0 base i st.s st.H o&&(!decide (Bi E o = .c)||decide (base+m<=st.H.length)))=true)
   (if Bi E o = .a then
    match st.H[base+i]? with
    | some b=>if Zf3 b then stepT E M ops (base+i) i st else .fail
    | none=>.fail
    else stepT E M ops st.H.length i st))
def fJ (E:Env) (M:IU U) (ops:Array Oper) (ms:List Nat) (lt:List (Nat×(Nat⊕Nat))) (s0:List (SV U.Ty)) (base m:Nat):List Nat->D9 U->Tr U (D9 U)
 | [],st=>.leaf st
 | i::q,st=>(Z4a E M ops ms lt s0 base m i st).andThen (fJ E M ops ms lt s0 base m q)
def uU (E:Env) (M:IU U) (ops:Array Oper) (st:D9 U):Tr U (D9 U):=
 let m:=if ops.any (fun o=>decide (Bi E o = .a)) then ops.size else 0
 fJ E M ops (Fe [] ops.toList) (Pn E ops) st.s st.H.length m (List.range ops.size) ⟨st.s,st.H++List.replicate m .dead⟩
end
structure D6 (U:CY) (E:Env):Prop where
 encS:∀t a,AU U (U.encS t a)=U.enc t a
 dec:∀t v a,U.Gw t v=some a->Du (E.rows t) (AU U v)=U.enc t a
 cells:∀t a,(U.enc t a).cells=Aq U (cellsS (U.encS t a))
 nr:∀t a,CS (U.enc t a)=true
 inj:∀t∈U.keys,∀a b,U.enc t a=U.enc t b->a=b
section
variable {U:CY}
theorem Ep (xs:List (SV U.Ty)):Aq U xs=xs.map (AU U):=by
 induction xs with
 | nil=>rfl
 | cons x xs q=>simp[Aq,q]
theorem Uo (s:List (SV U.Ty)) (t:Nat):(Aq U s).getD t .und=AU U (s.getD t .und):=by
 rw[Ep];simp only[List.getD,List.getElem?_map];cases s[t]?<;>rfl
theorem Z3b (v:V):AU U (RP U v)=v:=by
 unfold RP;split<;>rfl
theorem VL (v:V):AU U (Jg U v)=v:=by
 unfold Jg;split
 ·rename_i cs;simp only[AU,Ep,List.map_map,V.agg.injEq]
  conv=>rhs;rw[<- List.map_id cs]
  apply List.map_congr_left;intro x _;exact Z3b x
 ·exact Z3b _
theorem Fb (E:Env) (s:List (SV U.Ty)) (x:Operand):ev E (Aq U s) x=AU U (Cm E s x):=by
 cases x with
 | tmp t=>exact Uo s t
 | const v=>simp only[ev,Cm,VL]
 | func f=>rfl
 | global g=>simp only[ev,Cm];cases E.Ee g<;>rfl
theorem Zev (E:Env) (s:List (SV U.Ty)) (xs:List Operand):xs.map (ev E (Aq U s))=Aq U (xs.map (Cm E s)):=by
 rw[Ep (xs.map (Cm E s)),List.map_map];apply List.map_congr_left;intro x _;exact Fb E s x
theorem ZeG (s:List (SV U.Ty)) (d:Option Tmp) (v:SV U.Ty):Aq U (RG s d v)=setSlot (Aq U s) d (AU U v):=by
 unfold RG setSlot;cases d with
 | none=>rfl
 | some t=>simp only[Ep,List.map_set]
theorem Rw (H:BF U):(BM U H).length=H.length:=by simp[BM]
theorem MF (H:BF U) (i:Nat):(BM U H)[i]? = (H[i]?).map (CX U):=by simp[BM]
theorem P6 (H:BF U) (i:Nat) (b:Md U.Ty):BM U (H.set i b)=(BM U H).set i (CX U b):=by simp[BM,List.map_set]
theorem Q7 (H:BF U) (k:Nat) (b:Md U.Ty):BM U (O0 H k b)=place (BM U H) k (CX U b):=by
 unfold O0 place;rw[Rw];split
 ·exact P6 H k b
 ·simp[BM]
theorem PV {x:SV U.Ty} (h:okS x=true):okV (AU U x)=true:=by
 cases x<;>simp_all [okS,AU,okV];rename_i v;cases v<;>simp_all [okS]
theorem SB {x:SV U.Ty} (h:okS x=true):(AU U x).cells=Aq U (cellsS x):=by
 cases x<;>simp_all [okS,AU,V.cells,cellsS,Aq];rename_i v;cases v<;>simp_all [okS,V.cells]
theorem EI {L M:Type} (T:Tr U L) (f:L->Tr U M) (y:M):(T.andThen f).AY y↔∃x,T.AY x/\(f x).AY y:=by
 induction T with
 | leaf l=>simp[Tr.andThen,Tr.AY]
 | br c a b C D=>
  simp only[Tr.andThen,Tr.AY,C,D];constructor
  ·rintro (⟨h,x,q,z⟩|⟨h,x,q,z⟩)
   ·exact⟨x,.inl ⟨h,q⟩,z⟩
   ·exact⟨x,.inr ⟨h,q⟩,z⟩
  ·rintro ⟨x,(⟨h,q⟩|⟨h,q⟩),z⟩
   ·exact .inl ⟨h,x,q,z⟩
   ·exact .inr ⟨h,x,q,z⟩
 | bind t o k A=>
  simp only[Tr.andThen,Tr.AY,A];constructor
  ·rintro ⟨a,h,x,q,z⟩;exact⟨x,⟨a,h,q⟩,z⟩
  ·rintro ⟨x,⟨a,h,q⟩,z⟩;exact⟨a,h,x,q,z⟩
 | chk c a A=>
  simp only[Tr.andThen,Tr.AY,A];constructor
  ·rintro ⟨h,x,q,z⟩;exact⟨x,⟨h,q⟩,z⟩
  ·rintro ⟨x,⟨h,q⟩,z⟩;exact⟨h,x,q,z⟩
 | fail=>simp[Tr.andThen,Tr.AY]
theorem OH {L:Type} {o:Option L} {x:L}:(Tr.opt (U:=U) o).AY x↔o=some x:=by
 cases o<;>simp[Tr.opt,Tr.AY]
theorem E8 {L:Type} {p:Prop} [Decidable p] {a:Tr U L} {x:L}:(Tr.when p a).AY x↔p/\a.AY x:=by
 unfold Tr.when;split<;>simp_all [Tr.AY]
theorem He {L:Type} {H:BF U} {id tot:Nat} {k:(t:Nat)->List (U.Ty t)->Option Nat->Tr U L} {y:L} (h:(rowAt H id tot k).AY y) :
  ∃t xs fl,H[id]? = some (.row t xs fl)/\xs.length=tot/\(k t xs fl).AY y/\DX (BM U H) id tot=some (CX U (.row t xs fl)):=by
 unfold rowAt at h;split at h
 ·rename_i t xs fl hb;simp only[Tr.AY,beq_iff_eq]at h;refine⟨t,xs,fl,hb,h.1,h.2,?_⟩;unfold DX;rw[MF,hb];simp[CX,h.1]
 ·simp[Tr.AY]at h
theorem Z3l {H:BF U} {x y:SV U.Ty} (h:(NV H x).AY y):IE (BM U H) (AU U x)=some (AU U y):=by
 unfold NV at h;split at h<;>(try (simp only[Tr.AY]at h;subst h;rfl))
 ·obtain⟨t,xs,fl,C,A,q,z⟩:=He h;simp only[Tr.AY]at q;subst q;subst A;simp only[AU,IE,z];simp only[CX,Nat.zero_add,Nat.le_refl,decide_true,Bool.and_self,if_true,List.drop_zero,Option.some.injEq,V.sl.injEq,true_and];exact List.take_of_length_le (by simp)
 ·obtain⟨t,xs,fl,C,A,q,z⟩:=He h;simp only[Tr.AY,decide_eq_true_eq]at q;obtain⟨q,rfl⟩:=q;simp only[AU,IE,z];simp[CX,q,List.map_take,List.map_drop]
 ·simp[Tr.AY]at h
theorem ZAX {H:BF U}:∀{xs ys:List (SV U.Ty)},(TK H xs).AY ys->JQ (BM U H) (Aq U xs)=some (Aq U ys):=by
 intro xs;induction xs with
 | nil=>intro ys h;simp only[TK,Tr.AY]at h;subst h;rfl
 | cons x xs A=>
  intro ys h;simp only[TK,EI,Tr.AY]at h;obtain⟨w,q,ws,z,rfl⟩:=h;simp only[Aq,JQ,Z3l q,A z]
theorem rX {H:BF U} {x y:SV U.Ty} (h:(RH H x).AY y):IG (BM U H) (AU U x)=some (AU U y):=by
 unfold RH at h;split at h
 ·rename_i cs;simp only[EI,Tr.AY]at h;obtain⟨ws,q,rfl⟩:=h;simp only[AU,IG,ZAX q,Option.map_some]
 ·rename_i A;have:=Z3l h;unfold IG;split
  ·rename_i cs z;exfalso;cases x<;>simp_all [AU,NV,Tr.AY]
  ·exact this
theorem Z1R {H:BF U}:∀{xs ys:List (SV U.Ty)},(PY H xs).AY ys->FM (BM U H) (Aq U xs)=some (Aq U ys):=by
 intro xs;induction xs with
 | nil=>intro ys h;simp only[PY,Tr.AY]at h;subst h;rfl
 | cons x xs A=>
  intro ys h;simp only[PY,EI,Tr.AY]at h;obtain⟨w,q,ws,z,rfl⟩:=h;simp only[Aq,FM,rX q,A z]
theorem ZdG (x:SV U.Ty):FB (AU U x)=O8 x:=by
 cases x<;>simp[AU,FB,O8]
theorem ZdX (x:SV U.Ty):Dh (AU U x)=NZ x:=by
 cases x<;>simp[AU,Dh,NZ,O8,FB];rename_i cs;rw[Ep,List.flatMap_map];simp[ZdG]
theorem Z2W (xs:List (SV U.Ty)):(Aq U xs).flatMap Dh=xs.flatMap NZ:=by
 rw[Ep,List.flatMap_map];simp[ZdX]
theorem Zdx (x:SV U.Ty):EF (AU U x)=Qx x:=by
 cases x<;>simp[AU,EF,Qx]
theorem ZzB (x:SV U.Ty):iC (AU U x)=Z44 x:=by
 cases x<;>simp[AU,iC,Z44,Qx,EF];rename_i cs;rw[Ep,List.flatMap_map];simp[Zdx]
theorem ZzS (x:SV U.Ty):Cj (AU U x)=iG x:=by
 cases x with
 | agg cs=>
  simp only[AU,Cj,iG];rw[Ep,List.flatMap_map];simp[Zdx]
 | fn f a b=>
  simp only[AU,Cj,iG];rw[Ep,Ep,<- List.map_append,List.flatMap_map];simp[ZzB]
 | _=>simp[AU,Cj,iG,Qx,EF]
theorem VJ (H:BF U):∀(ids:List Nat),(∀i∈ids,∃t xs fl,H[i]? = some (.row t xs fl))->BM U (Pv H ids)=bump (BM U H) ids:=by
 intro ids;induction ids generalizing H with
 | nil=>intro _;rfl
 | cons i D C=>
  intro h;simp only[Pv,bump];have z:BM U (H.modify i rW)=(BM U H).modify i fun b=>{ b with floor:=b.xs.length }:=by
   apply List.ext_getElem?;intro j;simp only[BM,List.getElem?_map,List.getElem?_modify]
   by_cases q:i=j
   ·subst q;obtain⟨t,xs,fl,hb⟩:=h i (by simp);simp[hb,rW,CX]
   ·simp[q]
  rw[C,z];intro j A;obtain⟨t,xs,fl,hb⟩:=h j (by simp[A])
  by_cases q:i=j
  ·subst q;exact⟨t,xs,some xs.length,by simp[List.getElem?_modify,hb,rW]⟩
  ·exact⟨t,xs,fl,by simp[List.getElem?_modify,q,hb]⟩
theorem Z2a {H:BF U} {x y:SV U.Ty} (h:(NV H x).AY y):∀i∈O8 x,∃t xs fl,H[i]? = some (.row t xs fl):=by
 intro i z;unfold NV at h;split at h<;>(try (simp[O8]at z))
 ·obtain⟨t,xs,fl,q,_⟩:=He h;subst z;exact⟨t,xs,fl,q⟩
 ·obtain⟨t,xs,fl,q,_⟩:=He h;subst z;exact⟨t,xs,fl,q⟩
 ·simp[Tr.AY]at h
theorem Zwt {H:BF U}:∀{xs ys:List (SV U.Ty)},(TK H xs).AY ys->∀i∈xs.flatMap O8,∃t xs fl,H[i]? = some (.row t xs fl):=by
 intro xs;induction xs with
 | nil=>intro ys h i hi;simp at hi
 | cons x xs A=>
  intro ys h i hi;simp only[TK,EI,Tr.AY]at h;obtain⟨w,q,ws,z,rfl⟩:=h;simp only[List.flatMap_cons,List.mem_append]at hi;rcases hi with hi|hi
  ·exact Z2a q i hi
  ·exact A z i hi
theorem ZcB {H:BF U} {x y:SV U.Ty} (h:(RH H x).AY y):∀i∈NZ x,∃t xs fl,H[i]? = some (.row t xs fl):=by
 unfold RH at h;split at h
 ·simp only[EI,Tr.AY]at h;obtain⟨ws,q,rfl⟩:=h;exact Zwt q
 ·rename_i z;intro i A;refine Z2a h i ?_;cases x<;>simp_all [NZ,O8];simp[NV,Tr.AY]at h
theorem Z9p {H:BF U}:∀{xs ys:List (SV U.Ty)},(PY H xs).AY ys->∀i∈xs.flatMap NZ,∃t xs fl,H[i]? = some (.row t xs fl):=by
 intro xs;induction xs with
 | nil=>intro ys h i hi;simp at hi
 | cons x xs A=>
  intro ys h i hi;simp only[PY,EI,Tr.AY]at h;obtain⟨w,q,ws,z,rfl⟩:=h;simp only[List.flatMap_cons,List.mem_append]at hi;rcases hi with hi|hi
  ·exact ZcB q i hi
  ·exact A z i hi
theorem VI (cs:List (SV U.Ty)) (off n:Nat) (b:Bool):partOf (Aq U cs) off n b=(Qy cs off n b).map (AU U):=by
 unfold partOf Qy;simp only[Ep,List.length_map];split
 ·split
  ·simp[AU,Ep,List.map_take,List.map_drop]
  ·rfl
 ·simp
theorem IZ (cs:List (SV U.Ty)):(Aq U cs).length=cs.length:=by simp[Ep]
theorem Zbb {x:SV U.Ty} {off:Nat} {cs:List (SV U.Ty)} {y:SV U.Ty} (h:sG x off cs=some y):Kq (AU U x) off (Aq U cs)=some (AU U y):=by
 unfold sG at h;split at h
 ·rename_i ds;split at h
  ·rename_i z;simp only[Option.some.injEq]at h;subst h;simp only[AU,Kq,IZ,z,if_true];simp[Ep,List.map_take,List.map_drop]
  ·cases h
 ·cases h
 ·rename_i A C;split at h
  ·rename_i c;simp only[Option.some.injEq]at h;subst h;have:∀ds,AU U x≠.agg ds:=by
    intro ds q;cases x<;>simp_all [AU]
   unfold Kq;split
   ·rename_i ds q;exact absurd q (this ds)
   ·simp[Aq]
  ·cases h
theorem Z2M {H:BF U} {id:Nat} {e n:Nat} {x:SV U.Ty} (h:H[id]? = some (.var e n x)):DX (BM U H) id 1=some (Bg false false e n [AU U x]):=by
 unfold DX;rw[MF,h];simp[CX,Bg]
theorem Zd1 {H:BF U} {id tot:Nat} {t:Nat} {xs:List (U.Ty t)} {fl:Option Nat} (h:H[id]? = some (.row t xs fl)) (q:xs.length=tot):DX (BM U H) id tot=some (CX U (.row t xs fl)):=by
 unfold DX;rw[MF,h];simp[CX,q]
theorem Z2I {E:Env} (C:D6 U E) {e:Nat}:∀{vs:List (SV U.Ty)} {ys:List (U.Ty e)},Qq e vs=some ys->(Aq U vs).map (Du (E.rows e))=ys.map (U.enc e)/\∀v∈vs,okS v=true:=by
 intro vs;induction vs with
 | nil=>intro ys h;simp only[Qq,Option.some.injEq]at h;subst h;simp[Aq]
 | cons v vs G=>
  intro ys h;simp only[Qq]at h;split at h
  ·rename_i a as q z A;simp only[Option.some.injEq]at h;subst h;obtain⟨D,F⟩:=G A;refine⟨by simp only[Aq,List.map_cons,D,C.dec _ _ _ z],?_⟩;intro x hx;rcases List.mem_cons.1 hx with hx|hx
   ·rw[hx];exact q
   ·exact F x hx
  ·cases h
theorem sV {E:Env} (C:D6 U E) {t:Nat} {cs:List V} {ys:List (U.Ty t)} {j:Nat} {x:U.Ty t} (F:Qq t (cs.map (RP U))=some ys) (G:cs.all Io=true) (J:ys[j]? = some x):cs[j]? = some (AU U (U.encS t x)):=by
 obtain⟨A,-⟩:=Z2I C F;have D:Aq U (cs.map (RP U))=cs:=by
  rw[Ep,List.map_map];exact(List.map_congr_left fun v _=>Z3b v).trans (List.map_id cs)
 rw[D]at A;have q:=congrArg (·[j]?) A;simp only[List.getElem?_map,J,Option.map_some]at q;cases hc:cs[j]? with
 | none=>simp[hc]at q
 | some v=>
  simp only[hc,Option.map_some,Option.some.injEq]at q;have I:=List.all_eq_true.1 G v (List.mem_of_getElem? hc);cases v with
  | lit z=>rw[C.encS,<- q];rfl
  | _=>simp[Io]at I
theorem ZdE {E:Env} (C:D6 U E) {H:BF U} {t:TypeId} {a y:SV U.Ty} (h:(loadT E H t a).AY y):MP E (BM U H) t (AU U a)=some (AU U y):=by
 unfold loadT at h;split at h
 ·simp[Tr.AY]at h
 ·rename_i i M;unfold MP;rw[M];simp only;split at h
  ·rename_i G xs j off;simp only[Tr.AY,OH]at h;obtain⟨x,A,q⟩:=h;simp only[AU,OZ,List.getElem?_map,A,Option.map_some];rw[C.cells,VI,q];rfl
  ·rename_i id j off tot;split at h
   ·rename_i e n x hb;simp only[E8,OH]at h;obtain⟨⟨rfl,rfl,D⟩,q⟩:=h;simp only[AU,Z2M hb,Bg,OZ,List.getElem?_cons_zero];rw[SB D,VI,q];rfl
   ·rename_i G xs fl hb;simp only[Tr.AY,OH,beq_iff_eq]at h;obtain⟨N,x,A,q⟩:=h;simp only[AU,Zd1 hb N,CX,OZ,List.getElem?_map,A,Option.map_some];rw[C.cells,VI,q];rfl
   ·simp[Tr.AY]at h
  ·rename_i e z;simp only[OH]at h;simp only[AU,OZ,List.getElem?_cons_zero];rw[show (V.lit z).cells=Aq U [SV.lit z] from rfl,VI,h];rfl
  ·rename_i e cs off;simp only[OH]at h;cases q:partOf cs off i.size i.isAgg with
   | none=>simp[q]at h
   | some v=>
    simp only[q,Option.map_some,Option.some.injEq]at h;subst h;simp only[AU,OZ,List.getElem?_cons_zero,V.cells,q,VL]
  ·rename_i d cs off;split at h
   ·rename_i ys F;simp only[E8,Tr.AY]at h;obtain⟨⟨O,I,J⟩,x,A,rfl⟩:=h;simp only[AU,OZ,List.getElem?_cons_zero,V.cells,partOf,I,sV C F J A,Bool.false_eq_true,if_false]
   ·simp[Tr.AY]at h
  ·simp[Tr.AY]at h
theorem Zxy {E:Env} (Y:D6 U E) {H H' : BF U} {t:TypeId} {a v:SV U.Ty} (h:(storeT E H t a v).AY H'):MH E (BM U H) t (AU U a) (AU U v)=some (BM U H'):=by
 unfold storeT at h;split at h
 ·simp[Tr.AY]at h
 ·rename_i i hi;unfold MH;rw[hi];simp only;split at h
  ·rename_i id j off tot;split at h
   ·rename_i e n x hb;simp only[E8]at h;obtain⟨⟨⟨rfl,rfl⟩,O,q,hokx⟩,h⟩:=h;split at h
    ·rename_i x' C;simp only[E8,Tr.AY]at h;obtain⟨F,rfl⟩:=h;simp only[AU,Z2M hb,Bg,List.getElem?_cons_zero];rw[SB q,IZ,O,Zbb C,PV q];simp[PV F,P6,CX,Bg]
    ·simp[Tr.AY]at h
   ·rename_i S xs fl hb;simp only[E8,Tr.AY,EI,Bool.and_eq_true,beq_iff_eq,decide_eq_true_eq]at h;obtain⟨⟨O,q,Q⟩,⟨D,N⟩,x,hx,v',M,h⟩:=h;split at h
    ·rename_i x' C;split at h
     ·rename_i y hy;simp only[E8,Tr.AY]at h;obtain⟨⟨A,G⟩,rfl⟩:=h;simp only[AU,Zd1 hb D,CX,List.getElem?_map,hx,Option.map_some];rw[SB q,IZ,O,PV q];have hc:(IG (BM U H) (AU U v))=some (AU U v'):=rX M;have J:=Zbb C;rw[Y.encS]at J;have z:=Y.dec S x' y hy;have I:okV (U.enc S y)=true:=by rw[<- z,qN];exact PV G
      rw[hc];simp only[SB A,J,Option.map_some,z,I,PV A,ZdX,Q,beq_self_eq_true,Bool.and_self,Bool.and_true,decide_eq_true N,if_true,Bool.not_true,Bool.or_self,Bool.false_eq_true,if_false];rw[P6,VJ H _ (ZcB M)];simp[CX,List.map_set]
     ·simp[Tr.AY]at h
    ·simp[Tr.AY]at h
   ·simp[Tr.AY]at h
  ·simp[Tr.AY]at h
end
section
variable {U:CY}
theorem KT {x:SV U.Ty} {k:IntKind} {a:Int} (h:asInt x=some (k,a)):AU U x = .lit (.int k a):=by
 unfold asInt at h;split at h<;>simp_all [AU]
theorem PL {x:SV U.Ty} {s:ByteArray} (h:J5 x=some s):AU U x = .lit (.string s):=by
 unfold J5 at h;split at h<;>simp_all [AU]
theorem Ru {x:SV U.Ty} {b:Bool} (h:asBool x=some b):AU U x = .lit (.bool b):=by
 unfold asBool at h;split at h<;>simp_all [AU]
theorem ZcC {x:SV U.Ty} {n:Int} {l:Bool} (h:vH x=some (n,l)):∃k,AU U x = .lit (.int k n):=by
 unfold vH at h;split at h<;>simp_all [AU]
theorem ZCy {op:BinOp} {k:IntKind} {a b:Int} {l:Bool} {y:SV U.Ty} (h:(intT op k a b l).AY y):(O6 op k a b).map V.lit=some (AU U y):=by
 unfold intT at h;cases op<;>simp only[Tr.AY]at h<;>(try (subst h;rfl))<;>(try (exact h.elim))
 ·split at h
  ·split at h
   ·simp[Tr.AY]at h
   ·rename_i hb;simp only[Tr.AY]at h;subst h;simp[O6,hb,AU]
  ·simp only[Tr.AY,bne_iff_ne,ne_eq]at h;obtain⟨hb,rfl⟩:=h;simp[O6,hb,AU]
 ·split at h
  ·split at h
   ·simp[Tr.AY]at h
   ·rename_i hb;simp only[Tr.AY]at h;subst h;simp[O6,hb,AU]
  ·simp only[Tr.AY,bne_iff_ne,ne_eq]at h;obtain⟨hb,rfl⟩:=h;simp[O6,hb,AU]
theorem Zdf {op:BinOp} {k:IntKind} {a b:Int} {l:Bool} {y:SV U.Ty} (h:(sS op k a b l).AY y):(PZ op k a b).map V.lit=some (AU U y):=by
 unfold sS at h;split at h
 ·simp[Tr.AY]at h
 ·rename_i r q;have key:∀(hb:¬b<0) (z:SV.si k r=y),(PZ op k a b).map V.lit=some (AU U y):=by
   intro hb z;subst z;unfold PZ;unfold ZeR at q;split at q<;>simp_all [AU]
  split at h
  ·split at h
   ·simp[Tr.AY]at h
   ·rename_i hb;exact key hb h
  ·simp only[Tr.AY,decide_eq_true_eq]at h;exact key (by omega) h.2
theorem ZBL {op:BinOp} {x y:ByteArray} {z:SV U.Ty} (h:(strT op x y).AY z):(Ve op x y).map V.lit=some (AU U z):=by
 unfold strT at h;cases op<;>simp only[Tr.AY]at h<;>(try (subst h;rfl))<;>(try (exact h.elim));obtain⟨hb,rfl⟩:=h;simp only[decide_eq_true_eq]at hb;simp[Ve,hb,AU]
theorem Zsr:∀{ks:List FK} {xs ys:List (SV U.Ty)} {r:Bool},NP ks xs ys=some r->JD ks (Aq U xs) (Aq U ys)=some r:=by
 intro ks;induction ks with
 | nil=>
  intro xs ys r h;unfold NP at h;split at h<;>simp_all [Aq,JD]
 | cons k ks C=>
  intro xs ys r h;cases xs with
  | nil=>cases k<;>simp[NP]at h
  | cons x xs=>
   cases ys with
   | nil=>cases k<;>simp[NP]at h
   | cons y ys=>
    cases k with
    | b=>
     simp only[NP]at h;split at h
     ·rename_i a b D q z A;simp only[Option.some.injEq]at h;subst h;simp only[Aq,Ru q,Ru z,JD,C A]
     ·cases h
    | i k=>
     simp only[NP]at h;split at h
     ·rename_i k1 a k2 b D q z A;split at h
      ·rename_i F;simp only[Option.some.injEq]at h;subst h;simp only[Aq,KT q,KT z,JD,C A,F,and_self,if_true]
      ·cases h
     ·cases h
    | s=>
     simp only[NP]at h;split at h
     ·rename_i a b D q z A;simp only[Option.some.injEq]at h;subst h;simp only[Aq,PL q,PL z,JD,C A]
     ·cases h
theorem ZDM {E:Env} {op:BinOp} {t:TypeId} {x y z:SV U.Ty} (h:(binT E op t x y).AY z):MV E op t (AU U x) (AU U y)=some (AU U z):=by
 unfold binT at h;split at h
 ·rename_i xs ys;split at h
  ·rename_i ks A;split at h
   ·rename_i b hb;have:=Zsr hb;split at h
    ·simp only[Tr.AY]at h;subst h;simp only[AU,MV,A,this,Option.map_some]
    ·simp only[Tr.AY]at h;subst h;simp only[AU,MV,A,this,Option.map_some]
    ·simp[Tr.AY]at h
   ·simp[Tr.AY]at h
  ·simp[Tr.AY]at h
 ·split at h
  ·rename_i k a j b q hb;rw[KT q,KT hb];split at h
   ·exact Zdf h
   ·exact Zdf h
   ·rename_i D F;split at h
    ·rename_i I;have G:=ZCy h;subst I;have hb:MV E op t (.lit (.int k a)) (.lit (.int k b))=(O6 op k a b).map V.lit:=by
      cases op<;>first|exact absurd rfl D|exact absurd rfl F|simp[MV]
     rw[hb];exact G
    ·simp[Tr.AY]at h
  ·split at h
   ·rename_i a b q hb;rw[PL q,PL hb];have:=ZBL h;unfold MV;split<;>simp_all
   ·split at h
    ·rename_i a b q hb;rw[Ru q,Ru hb];split at h
     ·rename_i C;split at h
      ·simp only[Tr.AY]at h;subst h;simp[MV,C,AU]
      ·simp only[Tr.AY]at h;subst h;simp[MV,C,AU]
      ·simp[Tr.AY]at h
     ·simp[Tr.AY]at h
    ·simp[Tr.AY]at h
theorem ZEB {op:UnOp} {x z:SV U.Ty} (h:(unT op x).AY z):jD op (AU U x)=some (AU U z):=by
 unfold unT at h;split at h
 ·rename_i k n q;simp only[Tr.AY]at h;subst h;rw[KT q];rfl
 ·rename_i k n q;simp only[Tr.AY]at h;subst h;rw[KT q];rfl
 ·rename_i b _ hb;simp only[Tr.AY]at h;subst h;rw[Ru hb];rfl
 ·simp[Tr.AY]at h
theorem ZEG {q:Bool} {k:IntKind}:∀{xs:List (SV U.Ty)} {a r:Int},iZ q k a xs=some r->mm q k a (Aq U xs)=some (.lit (.int k r)):=by
 intro xs;induction xs with
 | nil=>intro a r h;simp only[iZ,Option.some.injEq]at h;subst h;rfl
 | cons x xs C=>
  intro a r h;simp only[iZ]at h;split at h
  ·rename_i j b A;split at h
   ·rename_i z;simp only[Aq,KT A,mm,z,if_true];exact z▸C h
   ·cases h
  ·cases h
theorem Zce {q:Bool} {xs:List (SV U.Ty)} {z:SV U.Ty} (h:(sK q xs).AY z):Pg q (Aq U xs)=some (AU U z):=by
 unfold sK at h;split at h
 ·rename_i x A;split at h
  ·rename_i k a C;split at h
   ·rename_i r D;simp only[Tr.AY]at h;subst h;simp only[Aq,KT C,Pg,AU];exact ZEG D
   ·simp[Tr.AY]at h
  ·simp[Tr.AY]at h
 ·simp[Tr.AY]at h
def Kr (q:List (Nat×SV U.Ty)):List (Nat×V):=q.map fun(i,x)=>(i,AU U x)
theorem Ze2 {place:Nat->Option (Nat×Nat)}:∀{q:List (Nat×SV U.Ty)} {cs z : List (SV U.Ty)},Qu cs q place=some z -> Ob (Aq U cs) (Kr q) place=some (Aq U z):=by
 intro q;induction q with
 | nil=>intro cs z h;simp only[Qu,Option.some.injEq]at h;subst h;rfl
 | cons p q G=>
  intro cs z h;obtain⟨i,v⟩:=p;simp only[Qu]at h;split at h
  ·cases h
  ·rename_i off size F;split at h
   ·rename_i hc;simp only[Bool.and_eq_true,beq_iff_eq,decide_eq_true_eq]at hc;obtain⟨⟨C,D⟩,A⟩:=hc;have:=G h;simp only[Kr,List.map_cons,Ob,F];rw[SB A,IZ,C,IZ,PV A];simp only[beq_self_eq_true,D,decide_true,Bool.and_self,if_true];rw[<- this];simp only[Kr,Ep,List.map_append,List.map_take,List.map_drop]
   ·cases h
theorem cells_toV' {x:SV U.Ty} (h:∀cs,x≠.raw (.agg cs)):(AU U x).cells=Aq U (cellsS x):=by
 cases x with
 | raw v=>
  cases v with
  | agg cs=>exact absurd rfl (h cs)
  | _=>rfl
 | _=>rfl
theorem ZcX {z:V}:Aq U (cellsS (Jg U z))=z.cells:=by
 have C:∀cs,Jg U z≠.raw (.agg cs):=by
  intro cs q;unfold Jg at q;split at q
  ·cases q
  ·rename_i A;unfold RP at q;split at q<;>(try cases q);simp at A
 rw[<- cells_toV' C,VL]
theorem Zzz {E:Env} {t:TypeId} {q:List (Nat×SV U.Ty)} {y:SV U.Ty} (h:Z4h E t q=some y):VN E t (Kr q)=some (AU U y):=by
 unfold Z4h at h;unfold VN;split at h
 ·rename_i i J;rw[J];split at h
  ·rename_i z M;simp only[M];split at h
   ·rename_i G;rw[if_pos G];split at h
    ·rename_i fs C;simp only[C];split at h
     ·rename_i D;rw[if_pos D];cases A:Qu (cellsS (Jg U z)) q (placesOf E fs) with
      | none=>simp[A]at h
      | some cs=>
       simp only[A,Option.map_some,Option.some.injEq]at h;subst h;have:=Ze2 A;rw[ZcX]at this;simp only[this,Option.map_some,AU]
     ·cases h
    ·rename_i len e C;simp only[C];split at h
     ·rename_i I F;simp only[F];cases A:Qu (cellsS (Jg U z)) q (fun i=>some (i*I.size,I.size)) with
      | none=>simp[A]at h
      | some cs=>
       simp only[A,Option.map_some,Option.some.injEq]at h;subst h;have:=Ze2 A;rw[ZcX]at this;simp only[this,Option.map_some,AU]
     ·cases h
    ·cases h
   ·cases h
  ·cases h
 ·cases h
theorem Zvv (sz:Nat):∀(vs pre post:List V),(∀v∈vs,v.cells.length=sz/\okV v=true)->vs.length<=post.length ->
  ML (pre++post) sz ((List.range' pre.length vs.length).zip vs)=some (pre++vs++post.drop vs.length):=by
 intro vs;induction vs with
 | nil=>intro pre post _ _;simp[ML]
 | cons v vs F=>
  intro pre post h z;cases post with
  | nil=>simp at z
  | cons p post=>
   simp only[List.length_cons,List.range'_succ,List.zip_cons_cons,ML];obtain⟨A,C⟩:=h v (by simp);have q:(pre++p::post).set pre.length v=(pre++[v])++post:=by simp
   have:=F (pre++[v]) post (fun x D=>h x (by simp[D])) (by simpa using z);rw[List.length_append,List.length_singleton]at this;rw[A,C,q,this];simp
theorem Zm6 {E:Env} (hU:D6 U E) {k:Nat} {H H' : BF U} {t:TypeId} {n:Nat} {q:List (Nat×SV U.Ty)} {y:SV U.Ty} (h:(Z0U E k H t n q).AY (y,H')) :
  Ov E k (BM U H) t n (Kr q)=some (AU U y,BM U H'):=by
 unfold Z0U at h;unfold Ov;split at h
 ·rename_i e sz by' z0 Y;rw[Y];simp only;split at h
  ·rename_i ei O;simp only[O];split at h
   ·rename_i z hz;simp only[EI]at h;obtain⟨vs,J,h⟩:=h;split at h
    ·rename_i ys hys;simp only[E8,Tr.AY,Prod.mk.injEq]at h;obtain⟨⟨⟨c1,c2,c3,c4⟩,M,c6,c7⟩,rfl,rfl⟩:=h;have S:(Kr q).map (·.2)=Aq U (q.map (·.2)):=by
      rw[Ep];simp[Kr]
     have Q:(Kr q).map (·.1)=List.range n:=by rw[<- M];simp[Kr]
     obtain⟨N,d2⟩:=Z2I hU hys;have hf:=Z1R J;have G:(Aq U vs).length=n:=by
      rw[<- Zn8 hf,IZ,List.length_map,<- List.length_map (f:=(·.1)) (as:=q),M,List.length_range]
     have C : (ys.map (U.enc e)).length=n:=by rw[<- N,List.length_map,G]
     have D:(n==0 && !(Kr q).isEmpty)=false:=by
      cases hn:n with
      | zero=>
       have:q=[]:=by
        have:=congrArg List.length M;rw[hn]at this;simpa using this
       simp[this,Kr]
      | succ m=>simp
     rw[hz,S,hf];simp only;rw[if_pos ⟨c1,c2,c3,c4,D⟩,Q,N];have A:=Zvv ei.size (ys.map (U.enc e)) [] (List.replicate n (Du (E.rows e) z)) (by
      intro v hv;rw[<- N]at hv;obtain⟨w,hw,rfl⟩:=List.mem_map.1 hv;rw[Ep]at hw;obtain⟨s,hs,rfl⟩:=List.mem_map.1 hw;have I:=d2 s hs;rw[qN,Zwi];refine⟨?_,PV I⟩;rw[SB I,IZ];simpa using List.all_eq_true.1 c6 s hs) (by rw[C];simp)
     rw[C]at A;simp only[List.length_nil,List.nil_append]at A;rw[show List.range n=List.range' 0 n from List.range_eq_range' ..,A];have F:List.drop n (List.replicate n (Du (E.rows e) z))=[]:=by simp
     rw[F,List.append_nil,Q7,Z2W,VJ H _ (Z9p J)];simp[AU,CX,Bg,c7]
    ·simp[Tr.AY]at h
   ·simp[Tr.AY]at h
  ·simp[Tr.AY]at h
 ·simp[Tr.AY]at h
theorem Znd {E:Env} {s:TypeId} {x y:SV U.Ty} {f:Nat} (h:Z24 E s x f=some y):Uj E s (AU U x) f=some (AU U y):=by
 unfold Z24 at h;unfold Uj;split at h
 ·rename_i fs sz by' D q;rw[q];simp only;split at h
  ·rename_i o t A;rw[A];simp only;split at h
   ·rename_i n z;simp only[z];split at h
    ·cases h
    ·rename_i C;rw[if_neg C];split at h
     ·simp only[Option.some.injEq]at h;subst h;rfl
     ·simp only[Option.some.injEq]at h;subst h;rfl
     ·simp only[Option.some.injEq]at h;subst h;rfl
     ·cases h
   ·cases h
  ·cases h
 ·cases h
theorem Zzc {E:Env} {s:TypeId} {x y:SV U.Ty} {f:Nat} (h:Z3S E s x f=some y):VR E s (AU U x) f=some (AU U y):=by
 unfold Z3S at h;unfold VR;split at h
 ·rename_i fs sz by' C cs q;rw[q];simp only[AU];split at h
  ·rename_i o t A;rw[A];simp only;split at h
   ·rename_i i z;simp only[z,VI,h,Option.map_some]
   ·cases h
  ·cases h
 ·cases h
theorem Xj {L:Type} {n:Int} {lit:Bool} {len:Nat} {k:Nat->Tr U L} {y:L} (h:(SX n lit len k).AY y):(0<=n/\n<len)/\(k n.toNat).AY y:=by
 unfold SX at h;split at h
 ·split at h
  ·rename_i D;exact⟨D,h⟩
  ·simp[Tr.AY]at h
 ·revert h
  suffices hh:∀l:List Nat,(∀i∈l,i<len)->(l.foldr (fun(i:Nat) q=>Tr.br (n==(i:Int)) (k i) q) .fail).AY y->(0<=n/\n<len)/\(k n.toNat).AY y from
   fun h=>hh _ (fun i z=>by simpa using z) h
  intro l;induction l with
  | nil=>intro _ h;simp[Tr.AY]at h
  | cons i l G=>
   intro C h;simp only[List.foldr_cons,Tr.AY,beq_iff_eq]at h;rcases h with ⟨D,A⟩|⟨_,A⟩
   ·have:=C i (by simp);have z:n.toNat=i:=by omega
    rw[z];exact⟨by omega,A⟩
   ·exact G (fun j F=>C j (by simp[F])) A
theorem ZnX {E:Env} {H:BF U} {t:TypeId} {x i y:SV U.Ty} (h:(Z2d E H t x i).AY y):PG E (BM U H) t (AU U x) (AU U i)=some (AU U y):=by
 unfold Z2d at h;unfold PG;split at h
 ·rename_i Q n ti J G;rw[KT J,G];simp only;split at h
  ·rename_i O C;simp only[C];split at h
   ·rename_i F xs;simp only[E8,Tr.AY,decide_eq_true_eq]at h;obtain⟨z,A,rfl⟩:=h;simp only[AU,List.length_map,A,z,and_self,if_true]
   ·rename_i F xs;simp only[E8,Tr.AY,decide_eq_true_eq]at h;obtain⟨z,A,rfl⟩:=h;simp only[AU,List.length_map,A,z,and_self,if_true]
   ·rename_i id m;obtain⟨F,xs,fl,M,N,D,I⟩:=He h;simp only[E8,Tr.AY,decide_eq_true_eq]at D;obtain⟨z,A,rfl⟩:=D;simp only[AU,I,CX,A,z,and_self,if_true,Nat.zero_add]
   ·rename_i id off len tot;obtain⟨F,xs,fl,M,N,D,I⟩:=He h;simp only[E8,Tr.AY,decide_eq_true_eq]at D;obtain⟨z,A,rfl⟩:=D;simp only[AU,I,CX,A,z,and_self,if_true]
   ·simp[Tr.AY]at h
  ·rename_i len e C;simp only[C];split at h
   ·simp[Tr.AY]at h
   ·rename_i sz q;split at h
    ·obtain⟨hb,h⟩:=Xj h;simp only[Tr.AY]at h;subst h;simp only[AU,q,hb,and_self,if_true]
    ·obtain⟨hb,h⟩:=Xj h;simp only[Tr.AY]at h;subst h;simp only[AU,q,hb,and_self,if_true]
    ·split at h
     ·rename_i hc;simp only[Bool.and_eq_true,decide_eq_true_eq]at hc;simp only[Tr.AY,decide_eq_true_eq]at h;obtain⟨hb,rfl⟩:=h;simp only[AU,q,hb,and_self,if_true,hc.1,Nat.mul_one,Nat.zero_add]
     ·obtain⟨hb,h⟩:=Xj h;simp only[Tr.AY]at h;subst h;simp only[AU,q,hb,and_self,if_true]
    ·obtain⟨hb,h⟩:=Xj h;simp only[Tr.AY]at h;subst h;simp only[AU,q,hb,and_self,if_true]
    ·simp[Tr.AY]at h
  ·simp[Tr.AY]at h
 ·simp[Tr.AY]at h
theorem ZB0 {s:ByteArray} {n:Nat} (h:n<s.size):s[n]? = some (s.get! n):=by
 rw[getElem?_pos s n h];cases s with
 | mk d=>
  have q:n<d.size:=h;show some d[n]=some d[n]!;rw[getElem!_pos d n q]
theorem ZzI {E:Env} {t:TypeId} {x i y:SV U.Ty} (h:(Z42 E t x i).AY y):VW E t (AU U x) (AU U i)=some (AU U y):=by
 unfold Z42 at h;unfold VW;split at h
 ·rename_i N n F;rw[KT F];simp only;split at h
  ·rename_i len e sz by' I cs q;rw[q];simp only[AU];split at h
   ·rename_i J z;obtain⟨hb,h⟩:=Xj h;rw[OH]at h;simp only[z,hb,and_self,if_true,VI,h,Option.map_some]
   ·simp[Tr.AY]at h
  ·rename_i sz by' I q;rw[q];split at h
   ·rename_i s G;rw[PL G];split at h
    ·rename_i D;simp only[Tr.AY,decide_eq_true_eq]at h;obtain⟨⟨C,M⟩,rfl⟩:=h;have A:n.toNat<s.size:=by omega
     simp only[D,C,if_true,ZB0 A,Option.map_some,AU]
    ·simp[Tr.AY]at h
   ·simp[Tr.AY]at h
  ·simp[Tr.AY]at h
 ·simp[Tr.AY]at h
theorem pG {t:Nat} {xs:List (U.Ty t)} {y:SV U.Ty} (h:(Vd t xs).AY y) :
  U.Ap t=1/\∃q,bytesOf (xs.map (U.enc t))=some q/\q.length<=maxLen/\y = .ss ⟨q.toArray⟩:=by
 unfold Vd at h;simp only[E8,Tr.AY]at h;obtain⟨D,A,C⟩:=h;refine⟨D,?_⟩;unfold MB at A;unfold strOf at C;split at A
 ·rename_i q z;refine⟨q,z,by simpa using A,?_⟩;rw[<- C,z];rfl
 ·cases A
theorem Zzx {E:Env} {H:BF U} {F dst:TypeId} {x y:SV U.Ty} (h:(Z46 E H F dst x).AY y):Ia E (BM U H) F dst (AU U x)=some (AU U y,BM U H):=by
 unfold Z46 at h;simp only[E8]at h;obtain⟨hb,h⟩:=h;simp only[Bool.and_eq_true]at hb;split at h
 ·simp only[Tr.AY]at h;subst h;simp[Ia,AU,hb,Eb,elemsOf,bytesOf]
 ·obtain⟨A,G,z,q,rfl⟩:=pG h;simp[Ia,AU,hb,Eb,elemsOf,A,z,q]
 ·obtain⟨A,G,z,q,rfl⟩:=pG h;simp[Ia,AU,hb,Eb,elemsOf,A,z,q]
 ·obtain⟨t,xs,fl,A,z,q,C⟩:=He h;obtain⟨I,G,J,M,rfl⟩:=pG q;subst z;rename_i id;have D:elemsOf (BM U H) (AU U (.all id xs.length))=some (xs.map (U.enc t)):=by
   simp only[AU,elemsOf,C];simp only[CX,Nat.zero_add,Nat.le_refl,decide_true,Bool.and_self,if_true,List.drop_zero,Option.some.injEq];exact List.take_of_length_le (by simp)
  simp only[AU]at D;simp only[Ia,AU,hb,D,Eb,C,CX,I,Bool.and_self,beq_self_eq_true,if_true,J,if_pos M]
 ·obtain⟨t,xs,fl,A,z,q,C⟩:=He h;simp only[Tr.AY,decide_eq_true_eq]at q;obtain⟨N,q⟩:=q;obtain⟨I,G,J,M,rfl⟩:=pG q;rename_i id off len tot;have D:elemsOf (BM U H) (AU U (.Bc id off len tot))=some ((((xs.drop off).take len)).map (U.enc t)):=by
   simp only[AU,elemsOf,C];simp[CX,N,List.map_take,List.map_drop]
  simp only[AU]at D;simp only[Ia,AU,hb,D,Eb,C,CX,I,Bool.and_self,beq_self_eq_true,if_true,J,if_pos M]
 ·simp[Tr.AY]at h
theorem ZzY {E:Env} {H:BF U} {q dst:TypeId} {x y:SV U.Ty} (h:(Z4s E H q dst x).AY y):Ia E (BM U H) q dst (AU U x)=some (AU U y,BM U H):=by
 unfold Z4s at h;split at h
 ·rename_i k n C;rw[KT C];unfold Ia;split at h
  ·rename_i j A;simp only[A];split at h
   ·rename_i z;simp only[Tr.AY]at h;subst h;simp[z,AU]
   ·simp[Tr.AY]at h
  ·simp[Tr.AY]at h
 ·split at h
  ·rename_i s z;rw[PL z];unfold Ia;split at h
   ·rename_i hb;simp only[Tr.AY]at h;subst h;simp only[Bool.and_eq_true]at hb;simp[hb,AU]
   ·simp[Tr.AY]at h
  ·exact Zzx h
end
section
variable {U:CY}
theorem ZcD {H:BF U} {x:SV U.Ty} {e:Nat} {ys:List (U.Ty e)} (h:(sU H x e).AY ys) :
  elemsOf (BM U H) (AU U x)=some (ys.map (U.enc e))/\(Eb (BM U H) (AU U x) (U.Ap e)=true):=by
 have A:∀(t:Nat) (xs:List (U.Ty t)),(if h:t=e then Tr.leaf (h▸xs) else Tr.fail:Tr U (List (U.Ty e))).AY ys->∃C:t=e,(C▸xs:List (U.Ty e))=ys:=by
  intro t xs h;split at h
  ·rename_i C;exact⟨C,h⟩
  ·simp[Tr.AY]at h
 unfold sU at h;simp only at h;split at h
 ·simp only[Tr.AY]at h;subst h;exact⟨rfl,rfl⟩
 ·obtain⟨rfl,rfl⟩:=A _ _ h;exact⟨rfl,by simp[AU,Eb]⟩
 ·obtain⟨rfl,rfl⟩:=A _ _ h;exact⟨rfl,by simp[AU,Eb]⟩
 ·obtain⟨t,xs,fl,G,F,q,z⟩:=He h;obtain⟨rfl,rfl⟩:=A _ _ q;subst F;refine⟨?_,by simp[AU,Eb,z,CX]⟩;simp only[AU,elemsOf,z];simp only[CX,Nat.zero_add,Nat.le_refl,decide_true,Bool.and_self,if_true,List.drop_zero,Option.some.injEq];exact List.take_of_length_le (by simp)
 ·obtain⟨t,xs,fl,G,F,q,z⟩:=He h;simp only[Tr.AY,decide_eq_true_eq]at q;obtain⟨D,q⟩:=q;obtain⟨rfl,rfl⟩:=A _ _ q;refine⟨?_,by simp[AU,Eb,z,CX]⟩;simp only[AU,elemsOf,z];simp[CX,D,List.map_take,List.map_drop]
 ·simp[Tr.AY]at h
theorem ZdN {L:Type} {kd:IntKind} {n:Int} {lit:Bool} {z:Tr U L} {f:SV U.Ty->Tr U L} {y:L}:∀{kvs:List (SV U.Ty)},(Po kd n lit z f kvs).AY y ->
  (MN kd n (Aq U kvs)=some none/\z.AY y)\/∃v,MN kd n (Aq U kvs)=some (some (AU U v))/\(f v).AY y
 | [],h=>.inl ⟨rfl,h⟩
 | [x],h=>by
  cases x with
  | lit v=>cases v<;>simp[Po,Tr.AY]at h
  | _=>simp[Po,Tr.AY]at h
 | x::v::r,h=>by
  have key:∀k a,x = .lit (.int k a)->(MN kd n (Aq U (x::v::r))=some none/\z.AY y)\/∃u,MN kd n (Aq U (x::v::r))=some (some (AU U u))/\(f u).AY y:=by
   intro k a C;subst C;simp only[Po,E8]at h;obtain⟨rfl,h⟩:=h;simp only[Aq,AU,MN,if_true]
   by_cases q:n=a
   ·subst q;simp only[if_true];cases lit with
    | true=>
     simp only[if_true]at h;exact .inr ⟨v,rfl,h⟩
    | false=>
     simp only[Bool.false_eq_true,if_false,Tr.AY,beq_self_eq_true,true_and]at h;rcases h with h|⟨A,_⟩
     ·exact .inr ⟨v,rfl,h⟩
     ·cases A
   ·rw[if_neg q];refine ZdN (lit:=lit) (z:=z) (f:=f) (kvs:=r) ?_;cases lit with
    | true=>
     simp only[if_true]at h;rw[if_neg q]at h;exact h
    | false=>
     have hb:(n==a)=false:=by simpa using q
     simp only[Bool.false_eq_true,if_false,Tr.AY,hb]at h;rcases h with ⟨A,_⟩|⟨_,h⟩
     ·cases A
     ·exact h
  cases x with
  | lit c=>
   cases c with
   | int k a=>exact key k a rfl
   | _=>simp[Po,Tr.AY]at h
  | _=>simp[Po,Tr.AY]at h
theorem ZA0 {E:Env} {t:TypeId} {ok:Bool} {m x y:SV U.Ty} (h:(Z4l E t ok m x).AY y):Vg E t ok (AU U m) (AU U x)=some (AU U y):=by
 unfold Z4l at h;split at h
 ·rename_i k e sz by' M kvs kd n D G;simp only[E8]at h;obtain⟨F,h⟩:=h;rw[KT G];simp only[AU,Vg,D,F,if_true];rcases ZdN h with ⟨A,q⟩|⟨v,A,q⟩
  ·rw[A];simp only;split at q
   ·rename_i J C;rw[C];simp only;split at q
    ·rename_i z I;simp only[Tr.AY]at q;subst q;rw[I];cases ok<;>simp[AU,Aq,VL]
    ·simp[Tr.AY]at q
   ·simp[Tr.AY]at q
  ·rw[A];simp only[Tr.AY]at q;subst q;cases ok<;>simp[AU,Aq]
 ·simp[Tr.AY]at h
theorem Zyk (v:SV U.Ty):AU U (Z4u v)=AU U v:=by cases v<;>rfl
theorem Zu5 {E:Env} {k:Nat} {H H' : BF U} {t u:TypeId} {s x y:SV U.Ty} (h:(Z3y E k H t u s x).AY (y,H')) :
  MG E k (BM U H) t u (AU U s) (AU U x)=some (AU U y,BM U H'):=by
 unfold Z3y at h;unfold MG;split at h
 ·rename_i e sz by' z0 O;rw[O];simp only;split at h
  ·rename_i ei M;simp only[E8,EI]at h;obtain⟨⟨rfl,G,hz,q⟩,ys,Q,h⟩:=h;obtain⟨e1,S⟩:=ZcD Q;rw[q]at S;simp only[M,beq_self_eq_true,e1];rw[if_pos (by simp[G,S,hz])];split at h
   ·rename_i id n;obtain⟨Y,xs,fl,h1,I,z,J⟩:=He h;split at z
    ·rename_i F;subst F;simp only[Tr.AY,Bool.and_eq_true,decide_eq_true_eq,Prod.mk.injEq]at z;obtain⟨⟨C,D⟩,rfl,rfl⟩:=z;subst I;simp only[AU,J,List.length_map];simp only[CX,q,beq_self_eq_true,decide_true,Bool.and_self,if_true,C,D,Option.some.injEq,Prod.mk.injEq];refine⟨by simp[AU],?_⟩;rw[P6];simp[CX,q]
    ·simp[Tr.AY]at z
   ·rename_i id off len tot;obtain⟨Y,xs,fl,h1,I,z,J⟩:=He h;split at z
    ·rename_i F;subst F;simp only[Tr.AY,Bool.and_eq_true,decide_eq_true_eq,Prod.mk.injEq]at z;obtain⟨⟨C,D,l3,l4⟩,rfl,rfl⟩:=z;subst I;subst C;have N:¬len=xs.length:=by omega
     simp only[AU,J];simp only[CX,q,beq_self_eq_true,decide_true,Bool.and_self,Bool.and_true,Bool.true_and,N,decide_false,Bool.and_false,Bool.false_and,Bool.false_eq_true,if_false,D,l3,l4,List.length_map,if_true,Option.some.injEq,Prod.mk.injEq,true_and];rw[P6];simp[CX,q,List.map_take,List.map_drop]
    ·simp[Tr.AY]at z
   ·simp only[Tr.AY,Bool.and_eq_true,decide_eq_true_eq,Prod.mk.injEq]at h;obtain⟨⟨C,D⟩,rfl,rfl⟩:=h;simp only[AU,List.length_map,C,D,decide_true,Bool.and_self,if_true,Option.some.injEq,Prod.mk.injEq,true_and];rw[Q7];simp[CX,Bg,q]
   ·rename_i Y xs;split at h
    ·rename_i F;subst F;simp only[Tr.AY,Bool.and_eq_true,decide_eq_true_eq,Prod.mk.injEq]at h;obtain⟨⟨C,D⟩,h⟩:=h;simp only[AU,List.length_map,q,beq_self_eq_true,C,D,decide_true,Bool.and_self,if_true];rcases h with ⟨A,rfl,rfl⟩|⟨A,rfl,rfl⟩
     ·simp[A,AU,q]
     ·simp only[List.isEmpty_map,A,Bool.false_eq_true,if_false,Option.some.injEq,Prod.mk.injEq];refine⟨by simp[AU],?_⟩;rw[Q7];simp[CX,Bg,q]
    ·simp[Tr.AY]at h
   ·simp[Tr.AY]at h
  ·simp[Tr.AY]at h
 ·simp[Tr.AY]at h
theorem Zy9 {E:Env} (J:D6 U E) {k:Nat} {H H' : BF U} {dst:TypeId} {x y:SV U.Ty} (h:(Z3T E k H dst x).AY (y,H')):MO E k (BM U H) dst (AU U x)=some (AU U y,BM U H'):=by
 unfold Z3T at h;split at h
 ·rename_i st e sz by' O M F;simp only[E8,Tr.AY,Prod.mk.injEq]at h;obtain⟨⟨G,I⟩,D,rfl,rfl⟩:=h;have key:∀l:List UInt8,(l.all fun b=>(U.Gw e (.si .u8 b.toNat)).isSome)=true->(l.filterMap fun b=>U.Gw e (.si .u8 b.toNat)).map (U.enc e)=l.map fun c=>V.lit (.int .u8 c.toNat):=by
   intro l;induction l with
   | nil=>intro _;rfl
   | cons b l N=>
    intro A;simp only[List.all_cons,Bool.and_eq_true]at A;cases C:U.Gw e (.si .u8 b.toNat) with
    | none=>rw[C]at A;cases A.1
    | some a=>
     have:=J.dec _ _ _ C;simp only[AU,Du,GL]at this;rw[List.filterMap_cons,C];simp only[List.map_cons,N A.2,this]
  have q:(OD U e st).map (U.enc e)=bytesV st:=key _ D;have z:(OD U e st).length=st.size:=by
   have:=congrArg List.length q;rw[List.length_map]at this;rw[this];simp only[bytesV,List.length_map];exact Array.length_toList
  rw[PL M];simp only[MO,F,G,if_true,AU,z,Option.some.injEq,Prod.mk.injEq,true_and];rw[Q7];simp[CX,Bg,I,q]
 ·simp[Tr.AY]at h
theorem ZdV {x:SV U.Ty} {v:Value} (h:Vo x=some v):AU U x = .lit v:=by
 unfold Vo at h;split at h<;>simp_all [AU]
theorem ZAL {E:Env} {L:Type} (D:D6 U E) {t:Nat} {xs:List (U.Ty t)} {r:L}:∀{n i:Nat} {k:List Value->Tr U L},(uP xs i n k).AY r->∃vs,((xs.drop i).take n).map (U.enc t)=vs.map V.lit/\vs.length=n/\(k vs).AY r:=by
 intro n;induction n with
 | zero=>intro i k h;exact⟨[],by simp,rfl,h⟩
 | succ n J=>
  intro i k h;simp only[uP,Tr.AY]at h;obtain⟨x,I,h⟩:=h;split at h
  ·rename_i v G;obtain⟨vs,z,A,C⟩:=J h;obtain⟨F,q⟩:=List.getElem?_eq_some_iff.1 I;refine⟨v::vs,?_,by simp[A],C⟩;rw[List.drop_eq_getElem_cons F,List.take_succ_cons,List.map_cons,List.map_cons,z,q,<- D.encS,ZdV G]
  ·simp[Tr.AY]at h
theorem ZC7 {E:Env} (M:D6 U E) {t:TypeId} {x y:SV U.Ty} (h:(arrT E t x).AY y):Vq E t (AU U x)=some (AU U y):=by
 unfold arrT at h;split at h
 ·rename_i n e sz by' Q N xs C;simp only[E8]at h;obtain⟨⟨G,I,J⟩,h⟩:=h;obtain⟨vs,A,O,F⟩:=ZAL M h;simp only[Tr.AY]at F;subst F;rw[List.drop_zero]at A;unfold Vq;have z:n<=xs.length:=by
   have:=congrArg List.length A;simp only[List.length_map,List.length_take]at this;omega
  have D:(xs.map (U.enc N)).take n=vs.map V.lit:=by rw[<- List.map_take,A]
  have q:(vs.map V.lit).all Io=true:=by simp[List.all_eq_true,Io]
  simp only[C,AU,G,I,J,D,List.length_map,z,q,and_self,if_true]
 ·simp[Tr.AY]at h
theorem Zqe {q:Option (SV U.Ty)} {n m:Nat} (h:Z2K q n=some m):I5 (q.map (AU U)) n n=some m:=by
 unfold Z2K at h;split at h
 ·simpa[I5]using h
 ·simpa[I5,Ip,AU]using h
 ·cases h
theorem Zwm {E:Env} (hU:D6 U E) {H H' : BF U} {n e:Nat} {x y:SV U.Ty} {O M Q:Option (SV U.Ty)} (h:(Z3u E H n e x O M Q).AY (y,H')) :
  OU E (BM U H) n e (AU U x) (O.map (AU U)) (M.map (AU U)) (Q.map (AU U))=some (AU U y,BM U H'):=by
 unfold Z3u at h;split at h
 ·rename_i id i off tot m hm;split at h
  ·rename_i e' k cs hb;split at h
   ·rename_i ys I;simp only[E8,Tr.AY,Prod.mk.injEq]at h;obtain⟨⟨⟨rfl,rfl,rfl,S,Y⟩,c6,c7,c8⟩,rfl,rfl⟩:=h;obtain⟨J,d2⟩:=Z2I hU I;have A:∀c∈cs,∃v,AU U c = .lit v:=fun c hc=>by
     have:=List.all_eq_true.1 c8 c hc;obtain⟨v,C⟩:=Option.isSome_iff_exists.1 this;exact⟨v,ZdV C⟩
    have G:(Aq U cs).map (Du (E.rows e))=Aq U cs:=by
     rw[Ep,List.map_map];apply List.map_congr_left;intro c hc;obtain⟨v,C⟩:=A c hc;simp only[Function.comp,C,Du,GL]
    rw[G]at J;have q:(Aq U cs).all Io=true:=by
     rw[Ep,List.all_eq_true];intro y hy;obtain⟨c,hc,rfl⟩:=List.mem_map.1 hy;obtain⟨v,C⟩:=A c hc;rw[C];rfl
    have z:(Aq U cs).length=n:=by rw[Ep,List.length_map,S]
    have D:=Z2M hb;unfold OU;simp only[AU,Option.map_none,Zqe hm,D,Bg];rw[if_pos ⟨trivial,trivial,z,Y,c6,q⟩];simp only[Option.some.injEq,Prod.mk.injEq,c7,List.map_take,J,true_and];rw[P6];simp only[bump];apply List.ext_getElem?;intro j;rw[List.getElem?_modify,List.getElem?_set]
    by_cases N:id=j
    ·subst N;have F:id<H.length:=(List.getElem?_eq_some_iff.1 hb).1;rw[MF,hb];simp[CX,Bg,AU,Rw,F]
    ·simp[N]
   ·simp[Tr.AY]at h
  ·simp[Tr.AY]at h
 ·simp[Tr.AY]at h
theorem ZAf {E:Env} {H H' : BF U} {t u:TypeId} {d x y:SV U.Ty} (h:(Z4n E H t u d x).AY (y,H')) :
  iI E (BM U H) t u (AU U d) (AU U x)=some (AU U y,BM U H'):=by
 unfold Z4n at h;unfold iI;split at h
 ·rename_i e sz by' Y D;rw[D];simp only;split at h
  ·rename_i O C;simp only[E8,EI]at h;obtain⟨q,ys,F,h⟩:=h;obtain⟨I,G⟩:=ZcD F;rw[q]at G;simp only[C,I];split at h
   ·rename_i id n;obtain⟨S,xs,fl,Q,J,A,M⟩:=He h;split at A
    ·rename_i N;subst N;simp only[E8,Tr.AY,Prod.mk.injEq]at A;obtain⟨z,rfl,rfl⟩:=A;subst J;simp only[AU,M];simp only[CX,q,z,beq_self_eq_true,decide_true,Bool.and_self,G,if_true,Option.some.injEq,Prod.mk.injEq,List.length_map];refine⟨by simp[AU],?_⟩;rw[P6];simp[CX,q,z,List.map_take,List.map_drop]
    ·simp[Tr.AY]at A
   ·simp[Tr.AY]at h
  ·simp[Tr.AY]at h
 ·simp[Tr.AY]at h
theorem ZdL {L:Type} {H:BF U} {x:SV U.Ty} {k:Nat->Tr U L} {y:L} (h:(NW H x k).AY y):∃n,lenOf (BM U H) (AU U x)=some n/\(k n).AY y:=by
 unfold NW at h;split at h
 ·rename_i id n;obtain⟨t,xs,fl,C,D,q,z⟩:=He h;exact⟨n,by simp[AU,lenOf,z],q⟩
 ·rename_i id off len tot;obtain⟨t,xs,fl,C,D,q,z⟩:=He h;exact⟨len,by simp[AU,lenOf,z],q⟩
 ·split at h
  ·rename_i n A;refine⟨n,?_,h⟩;unfold lenT at A;split at A<;>simp_all [AU,lenOf]
  ·simp[Tr.AY]at h
theorem Z2N {L:Type} {H:BF U} {x:SV U.Ty} {k:Nat->Tr U L} {y:L} (h:(NW H x k).AY y):∀v,x≠.raw v:=by
 rintro v rfl
 simp[NW,lenT,Tr.AY]at h
theorem Zfh {x:SV U.Ty} (z:∀v,x≠.raw v) (h:Su x=false):∀s,AU U x≠.lit (.string s):=by
 intro s q;unfold Su at h;cases x with
 | raw v=>exact z v rfl
 | lit v=>simp only[AU,V.lit.injEq]at q;subst q;simp[J5]at h
 | ss b=>simp[J5]at h
 | _=>simp[AU]at q
theorem Ze6 {x:SV U.Ty} (h:Su x=true):∃s,J5 x=some s/\AU U x = .lit (.string s):=by
 unfold Su at h;cases q:J5 x with
 | none=>simp[q]at h
 | some s=>exact⟨s,rfl,PL q⟩
theorem ZwR {E:Env} {t:TypeId} {x:SV U.Ty} (z:∀v,x≠.raw v):sH E t (AU U x)=Z2X E t x:=by
 unfold sH Z2X
 by_cases q:Su x=true
 ·obtain⟨s,_,h⟩:=Ze6 q;rw[h,if_pos q]
 ·rw[if_neg q];have:=Zfh z (by simpa using q);split
  ·rename_i s h;exact absurd h (this s)
  ·rfl
theorem Zz2 {E:Env} {H:BF U} {x:SV U.Ty} {n:Nat} {L:Type} {k:Nat->Tr U L} {y:L} (q:(NW H x k).AY y) (h:Z40 E H x n=true):Eb (BM U H) (AU U x) n=true:=by
 unfold Z40 at h;split at h
 ·simp[AU,Eb]
 ·simpa[AU,Eb]using h
 ·simpa[AU,Eb]using h
 ·rename_i id m;unfold NW at q;obtain⟨t,xs,fl,z,C,D,A⟩:=He q;simp only[z]at h;simpa[AU,Eb,A,CX]using h
 ·rename_i id off len tot;unfold NW at q;obtain⟨t,xs,fl,z,C,D,A⟩:=He q;simp only[z]at h;simpa[AU,Eb,A,CX]using h
 ·cases h
theorem Zoc {E:Env} {H:BF U} {t:TypeId} {x:SV U.Ty} {L:Type} {k:Nat->Tr U L} {y:L} (F:(NW H x k).AY y) (h:Z1y E H t x=true):PN E (BM U H) t (AU U x)=true:=by
 have G:=Z2N F;unfold Z1y at h;unfold PN;split at h
 ·rename_i C;obtain⟨s,_,q⟩:=Ze6 C;rw[q];exact h
 ·rename_i C;have A:=Zfh G (by simpa using C);split
  ·rename_i s q;exact absurd q (A s)
  ·split at h
   ·rename_i e _ _ _ D;split at h
    ·rename_i I z;simp only[D,z];exact Zz2 F h
    ·cases h
   ·cases h
theorem Z2V {L:Type} {x:Option (SV U.Ty)} {q d:Nat} {k:Nat->Tr U L} {y:L} (h:(gI x q d k).AY y):∃n,I5 (x.map (AU U)) q d=some n/\(k n).AY y:=by
 unfold gI at h;split at h
 ·exact⟨d,rfl,h⟩
 ·rename_i v;split at h
  ·rename_i A n z;simp only[Tr.AY,decide_eq_true_eq]at h;refine⟨n.toNat,?_,h.2⟩;simp[I5,KT z,Ip,h.1]
  ·simp[Tr.AY]at h
theorem Zyu {E:Env} {H H' : BF U} {t:TypeId} {x y:SV U.Ty} {lo z mx:Option (SV U.Ty)} (h:(sliceT E H t x lo z mx).AY (y,H')) :
  JX E (BM U H) t (AU U x) (lo.map (AU U)) (z.map (AU U)) (mx.map (AU U))=some (AU U y,BM U H'):=by
 unfold sliceT at h;unfold JX;split at h
 ·rename_i q;have A:=h;have Y:=Z2N A;rw[if_pos (Zoc A q)];obtain⟨n,S,Q⟩:=ZdL A;rw[S];obtain⟨hh,C,hb⟩:=Z2V Q;obtain⟨l,D,hc⟩:=Z2V hb;simp only[C,D];clear h Q hb;revert hc;intro h;split at h
  ·rename_i m;split at h
   ·simp[Tr.AY]at h
   ·rename_i xh;obtain⟨kk,N,hd⟩:=Z2V h;clear h;revert hd;intro h;simp only[Tr.AY,beq_iff_eq]at h;obtain⟨rfl,h⟩:=h;simp only[Option.map_some,I5]at N;simp only[Option.map_some,N];split at h
    ·rename_i e xs;simp only[Tr.AY,Prod.mk.injEq]at h;obtain⟨rfl,rfl⟩:=h;simp[AU,elemsOf,List.map_take,List.map_drop]
    ·rename_i e xs;simp only[Tr.AY,Prod.mk.injEq]at h;obtain⟨rfl,rfl⟩:=h;simp[AU,elemsOf,List.map_take,List.map_drop]
    ·rename_i id n';obtain⟨e,xs,fl,F,O,G,I⟩:=He h;simp only[Tr.AY,Prod.mk.injEq]at G;obtain⟨rfl,rfl⟩:=G;subst O;have hg:(BM U H).getD id default=CX U (.row e xs fl):=by simp[List.getD,MF,F]
     have J:elemsOf (BM U H) (.Bc id 0 xs.length xs.length)=some (xs.map (U.enc e)):=by
      simp only[elemsOf,I];simp only[CX,Nat.zero_add,Nat.le_refl,decide_true,Bool.and_self,if_true,List.drop_zero];rw[List.take_of_length_le (by simp)]
     simp only[AU,J,if_true,hg];simp only[CX,Option.some.injEq,Prod.mk.injEq];refine⟨by simp[List.map_take,List.map_drop],?_⟩;rw[VJ H [id] (by intro i z;simp at z;subst z;exact⟨_,_,_,F⟩)]
    ·simp[Tr.AY]at h
  ·simp only[Option.map_none];split at h
   ·simp only[Tr.AY,Prod.mk.injEq]at h;obtain⟨rfl,rfl⟩:=h;simp[AU]
   ·simp only[Tr.AY,Prod.mk.injEq]at h;obtain⟨rfl,rfl⟩:=h;simp[AU,List.map_take,List.map_drop]
   ·simp only[Tr.AY,Prod.mk.injEq]at h;obtain⟨rfl,rfl⟩:=h;simp[AU,List.map_take,List.map_drop]
   ·rename_i id n';have M:n=n' :=by
     unfold NW at A;obtain⟨e,xs,fl,F,O,G,I⟩:=He A;simpa[AU,lenOf,I]using S.symm
    subst M;split at h
    ·simp only[Tr.AY,Prod.mk.injEq]at h;obtain⟨rfl,rfl⟩:=h;simp only[Option.map_none,I5,Option.some.injEq]at C D;subst C;subst D;simp[AU]
    ·simp only[Tr.AY,Prod.mk.injEq]at h;obtain⟨rfl,rfl⟩:=h;simp[AU]
   ·simp only[Tr.AY,Prod.mk.injEq]at h;obtain⟨rfl,rfl⟩:=h;simp[AU]
   ·split at h
    ·rename_i s hs;simp only[Tr.AY,Prod.mk.injEq]at h;obtain⟨rfl,rfl⟩:=h;simp[PL hs,AU]
    ·simp[Tr.AY]at h
 ·simp[Tr.AY]at h
def NY (U:CY) (M:IU U) (call:Dn):Prop:=
 ∀g as H v H',(M g as H).AY (v,H')->call g (Aq U as) (BM U H)=some (AU U v,BM U H')
theorem Jl {H H' : BF U} {T:Tr U (SV U.Ty)} {y:SV U.Ty} (h:(JP H T).AY (y,H')):T.AY y/\H' = H:=by
 simp only[JP,EI,Tr.AY,Prod.mk.injEq]at h;obtain⟨x,q,rfl,rfl⟩:=h;exact⟨q,rfl⟩
theorem ZBd {E:Env} {M:IU U} {call:Dn} (Q:D6 U E) (J:NY U M call) {k:Nat} {H H' : BF U} {s:List (SV U.Ty)} {c:Call} {o:Oper} {y:SV U.Ty} (I:o.op = .call c) (h:(Z4r E M k H s c).AY (y,H')) :
  BN call E k (BM U H) (Aq U s) o=some (AU U y,BM U H'):=by
 unfold BN;rw[I];simp only;unfold Z4r at h;have q:evs E (Aq U s) c.args=Aq U (c.args.toList.map (Cm E s)):=Zev E s c.args.toList;split at h
 ·rename_i b hb;rw[hb];simp only;rw[q];unfold PS;split at h
  ·rename_i x t z A;rw[z,A];split at h
   ·rename_i G;have D:=Z2N h;obtain⟨n,O,h⟩:=ZdL h;simp only[Tr.AY,Prod.mk.injEq]at h;obtain⟨rfl,rfl⟩:=h;simp only[Aq,ZwR D,G,if_true,O,Option.map_some,AU];rfl
   ·simp[Tr.AY]at h
  ·rename_i a x t u z A;rw[z,A];simp only[Aq];exact Zu5 h
  ·rename_i a x t u z A;rw[z,A];simp only[Aq];exact ZAf h
  ·obtain⟨F,rfl⟩:=Jl h;simp only[Zce F,Option.map_some]
  ·obtain⟨F,rfl⟩:=Jl h;simp only[Zce F,Option.map_some]
  ·simp[Tr.AY]at h
 ·rename_i f G;rw[G];simp only;rw[Fb];split at h
  ·rename_i g first caps N
   rw[N];simp only[AU];have C:Aq U first++evs E (Aq U s) c.args++Aq U caps=Aq U (first++c.args.toList.map (Cm E s)++caps):=by
    rw[q];simp only[Ep,List.map_append]
   rw[C];exact J _ _ _ _ _ h
  ·simp[Tr.AY]at h
 ·simp[Tr.AY]at h
theorem Zcv {E:Env} {s:List (SV U.Ty)} (ps:List (Nat×Operand)):(ps.map fun(i,x)=>(i,ev E (Aq U s) x))=Kr (ps.map fun(i,x)=>(i,Cm E s x)):=by
 simp[Kr,Fb]
theorem optEv {E:Env} {s:List (SV U.Ty)} (x:Option Operand):x.map (ev E (Aq U s))=(x.map (Cm E s)).map (AU U):=by
 cases x<;>simp[Fb]
theorem ZFn {E:Env} {M:IU U} {call:Dn} (F:D6 U E) (hM:NY U M call) {k:Nat} {H H' : BF U} {s:List (SV U.Ty)} {o:Oper} {y:SV U.Ty} (h:(jE E M k H s o).AY (y,H')) :
  BN call E k (BM U H) (Aq U s) o=some (AU U y,BM U H'):=by
 unfold jE at h;split at h
 ·rename_i x q;simp only[Tr.AY,Prod.mk.injEq]at h;obtain⟨rfl,rfl⟩:=h;unfold BN;rw[q];simp only[Fb]
 ·rename_i q;unfold BN;rw[q];simp only;split at h
  ·rename_i e _ _ _ C;simp only[E8,Tr.AY,Prod.mk.injEq]at h;obtain⟨O,rfl,rfl⟩:=h;simp only[C,AU,Q7,CX,Bg,O];rfl
  ·simp[Tr.AY]at h
 ·rename_i x hne q;simp only[Tr.AY,Prod.mk.injEq]at h;obtain⟨rfl,rfl⟩:=h;unfold BN;rw[q];split<;>simp_all [Fb]
 ·rename_i c a b q;unfold BN;rw[q];simp only[Fb];split at h
  ·rename_i hc;simp only[Tr.AY,Prod.mk.injEq]at h;obtain⟨rfl,rfl⟩:=h;rw[hc];simp[AU]
  ·rename_i hc;simp only[Tr.AY,Prod.mk.injEq]at h;obtain⟨rfl,rfl⟩:=h;rw[hc];simp[AU]
  ·rename_i t hc;rw[hc];simp only[AU];split at h
   ·rename_i x' y' D J;simp only[Tr.AY,Prod.mk.injEq]at h;obtain⟨rfl,rfl⟩:=h;rw[Ru D,Ru J];cases t<;>simp[AU]
   ·simp only[Tr.AY,Prod.mk.injEq]at h;rcases h with ⟨rfl,rfl,rfl⟩|⟨rfl,rfl,rfl⟩<;>simp
  ·simp[Tr.AY]at h
 ·rename_i t q;unfold BN;rw[q];simp only;split at h
  ·rename_i i I;simp only[I];split at h
   ·rename_i z hz;simp only[E8,Tr.AY,Prod.mk.injEq]at h;obtain⟨hc,rfl,rfl⟩:=h;simp only[hz,hc,and_self,if_true,AU,Q7,CX,VL]
   ·simp[Tr.AY]at h
  ·simp[Tr.AY]at h
 ·rename_i t x q;unfold BN;rw[q];simp only[Fb];split at h
  ·rename_i i I;simp only[E8,Tr.AY,Prod.mk.injEq]at h;obtain⟨⟨A,G⟩,rfl,rfl⟩:=h;simp only[I,SB G,IZ,A,PV G,and_self,if_true,AU,Q7,CX]
  ·simp[Tr.AY]at h
 ·rename_i t ps q;obtain⟨A,rfl⟩:=Jl h;rw[OH]at A;unfold BN;rw[q];simp only[Zcv,Zzz A,Option.map_some]
 ·rename_i t n ps q;unfold BN;rw[q];simp only[Zcv];exact Zm6 F h
 ·rename_i t a q;obtain⟨A,rfl⟩:=Jl h;unfold BN;rw[q];simp only[Fb,ZdE F A,Option.map_some]
 ·rename_i t a v q;simp only[EI,Tr.AY,Prod.mk.injEq]at h;obtain⟨H1,A,rfl,rfl⟩:=h;unfold BN;rw[q];simp only[Fb,Zxy F A,Option.map_some];rfl
 ·rename_i x q;unfold BN;rw[q];simp only[Fb];split at h
  ·rename_i D;simp only[Tr.AY,Prod.mk.injEq]at h;obtain⟨rfl,rfl⟩:=h;simp[D,AU,TD]
  ·rename_i D;simp only[Tr.AY,Prod.mk.injEq]at h;obtain⟨rfl,rfl⟩:=h;simp[D,AU,TD]
  ·rename_i D;simp only[Tr.AY,Prod.mk.injEq]at h;obtain⟨rfl,rfl⟩:=h;simp[D,AU,TD]
  ·rename_i D;simp only[Tr.AY,Prod.mk.injEq]at h;obtain⟨rfl,rfl⟩:=h;simp[D,AU,TD]
  ·simp[Tr.AY]at h
 ·rename_i op t x z _ q;obtain⟨A,rfl⟩:=Jl h;rw[EI]at A;obtain⟨v,A,G⟩:=A;have hv:∀(c:Bool) y,(Tr.leaf (if c=true then Z4u v else v):Tr U (SV U.Ty)).AY y->AU U y=AU U v:=fun c y J=>by
   simp only[Tr.AY]at J;subst J;split
   ·exact Zyk v
   ·rfl
  unfold BN;rw[q];simp only[Fb,ZDM A,Option.map_some,hv _ _ G]
 ·rename_i op _ x q;obtain⟨A,rfl⟩:=Jl h;unfold BN;rw[q];simp only[Fb,ZEB A,Option.map_some]
 ·rename_i src dst x q;unfold BN;rw[q];simp only[Fb];split at h
  ·rename_i hb;rw[if_pos hb];exact Zy9 F h
  ·rename_i hb;rw[if_neg hb];obtain⟨A,rfl⟩:=Jl h;simp only[ZzY A]
 ·rename_i t l c q;unfold BN;rw[q];simp only[Fb];split at h
  ·rename_i e _ _ _ C;simp only[C];split at h
   ·rename_i n _ m _ ei hn hm N;obtain⟨k1,S⟩:=ZcC hn;obtain⟨k2,Q⟩:=ZcC hm;simp only[S,Q,N];split at h
    ·rename_i z hz;simp only[hz];split at h
     ·rename_i y0 hy0;simp only[E8,Tr.AY,decide_eq_true_eq,Prod.mk.injEq]at h;obtain⟨⟨c1,c2,c3,c4⟩,⟨c5,c6,c7,c8⟩,rfl,rfl⟩:=h;have hd:=F.dec _ _ _ hy0;rw[VL]at hd;rw[if_pos ⟨c5,c6,c7,c8,c1,c2,c3⟩];simp only[AU,Q7,CX,Bg,c4,hd,List.map_replicate,List.length_replicate];rfl
     ·simp[Tr.AY]at h
    ·simp[Tr.AY]at h
   ·simp[Tr.AY]at h
  ·simp[Tr.AY]at h
 ·rename_i t x lo I mx q;unfold BN;rw[q];simp only[Fb,optEv];split at h
  ·rename_i n e sz by' z0 C;rw[C];exact Zwm F h
  ·rename_i Y;split
   ·rename_i n e sz by' z0 C;exact absurd C (Y n e sz by' z0)
   ·exact Zyu h
 ·rename_i t x q;obtain⟨A,rfl⟩:=Jl h;unfold BN;rw[q];simp only[Fb,ZC7 F A,Option.map_some]
 ·rename_i t x f q;obtain⟨A,rfl⟩:=Jl h;rw[OH]at A;unfold BN;rw[q];simp only[Fb,Znd A,Option.map_some]
 ·rename_i t x f q;obtain⟨A,rfl⟩:=Jl h;rw[OH]at A;unfold BN;rw[q];simp only[Fb,Zzc A,Option.map_some]
 ·rename_i t x i q;obtain⟨A,rfl⟩:=Jl h;unfold BN;rw[q];simp only[Fb,ZnX A,Option.map_some]
 ·rename_i t x i q;obtain⟨A,rfl⟩:=Jl h;unfold BN;rw[q];simp only[Fb,ZzI A,Option.map_some]
 ·rename_i x i q;unfold BN;rw[q];simp only[Fb];split at h
  ·rename_i vs hv;obtain⟨A,rfl⟩:=Jl h;rw[OH]at A;simp[hv,AU,Ep,A]
  ·simp[Tr.AY]at h
 ·rename_i t m x ok q;obtain⟨A,rfl⟩:=Jl h;unfold BN;rw[q];simp only[Fb,ZA0 A,Option.map_some]
 ·rename_i f first caps q
  simp only[Tr.AY,Prod.mk.injEq]at h;obtain⟨rfl,rfl⟩:=h;unfold BN;rw[q];simp only[AU,evs,Zev]
 ·rename_i c q;exact ZBd F hM q h
 ·simp[Tr.AY]at h
theorem Z36 {E:Env} {M:IU U} {call:Dn} (hU:D6 U E) (hM:NY U M call) {ops:Array Oper} {k i:Nat} {st st' : D9 U} (h:(stepT E M ops k i st).AY st') :
  Jm call E ops k i (CZ U st)=some (CZ U st'):=by
 unfold stepT at h;unfold Jm;split at h
 ·rename_i S;simp only[Tr.AY]at h;subst h;rw[S]
 ·rename_i o S;rw[S];simp only at h ⊢;have run:∀(q:D9 U),((jE E M k q.H q.s o).andThen fun r=>Tr.leaf (⟨RG q.s o.dst r.1,r.2⟩:D9 U)).AY st' -> ∃v H1,BN call E k (BM U q.H) (Aq U q.s) o=some (v,H1)/\(⟨setSlot (Aq U q.s) o.dst v,H1⟩:St)=CZ U st' :=by
   intro q G;simp only[EI,Tr.AY]at G;obtain⟨⟨v,H1⟩,I,rfl⟩:=G;exact⟨_,_,ZFn hU hM I,by simp only[CZ,ZeG]⟩
  have skip:∀(q:D9 U),(Tr.leaf (⟨RG q.s o.dst .no,q.H⟩:D9 U):Tr U (D9 U)).AY st' -> (⟨setSlot (Aq U q.s) o.dst EH,BM U q.H⟩:St)=CZ U st' :=by
   intro q G;simp only[Tr.AY]at G;subst G;simp only[CZ,ZeG];rfl
  unfold F7;cases hg:o.guard with
  | none=>
   simp only[hg]at h;obtain⟨v,H1,I,N⟩:=run st h;simp only[CZ,I];rw[N];rfl
  | some jw=>
   obtain⟨j,z⟩:=jw;simp only[hg]at h;split at h
   ·simp[Tr.AY]at h
   ·rename_i d hd;simp only[hd];rw[show (CZ U st).s.getD d .und=AU U (st.s.getD d .und) from Uo st.s d];have D:∀(b:Bool) (q:D9 U),CZ U q=CZ U st->AU U (st.s.getD d .und) = .lit (.bool b) ->
      (if b==z then ((jE E M k q.H q.s o).andThen fun r=>Tr.leaf (⟨RG q.s o.dst r.1,r.2⟩:D9 U)) else (Tr.leaf (⟨RG q.s o.dst .no,q.H⟩:D9 U):Tr U (D9 U))).AY st' ->
      (match (match OY (AU U (st.s.getD d .und)) z with
       | none=>none
       | some false=>some (EH,(CZ U st).H)
       | some true=>BN call E k (CZ U st).H (CZ U st).s o) with
      | some (v,H)=>some (⟨setSlot (CZ U st).s o.dst v,H⟩:St)
      | none=>none)=some (CZ U st'):=by
     intro b q G hv Y;rw[hv,<- G];simp only[OY];split at Y
     ·rename_i hb;obtain⟨v,H1,I,N⟩:=run q Y;rw[hb];simp only[CZ,I];exact congrArg some N
     ·rename_i hb;have:=skip q Y;rw[show (b==z)=false by simpa using hb];simp only[CZ];exact congrArg some this
    split at h
    ·rename_i C;rw[C];have:=skip st h;simp only[AU,OY,CZ];exact congrArg some this
    ·rename_i C;refine D true st rfl (by rw[C];rfl) ?_;cases z<;>exact h
    ·rename_i C;refine D false st rfl (by rw[C];rfl) ?_;cases z<;>exact h
    ·rename_i b C;have A:∀J,b=J -> CZ U (⟨st.s.set d (.lit (.bool J)),st.H⟩:D9 U)=CZ U st:=by
      rintro J rfl
      simp only[CZ,St.mk.injEq,and_true];rw[Ep,Ep,List.map_set];apply List.ext_getElem?;intro n;rw[List.getElem?_set];split
      ·rename_i O;subst O;split
       ·rename_i F;simp only[List.length_map]at F;have:st.s.getD d .und=st.s[d]:=by simp[List.getD,F]
        rw[this]at C;simp[F,C,AU]
       ·rename_i Q;rw[List.getElem?_eq_none (by simpa using Q)]
      ·rfl
     simp only[Tr.AY]at h;rcases h with ⟨rfl,h⟩|⟨rfl,h⟩
     ·refine D true _ (A true rfl) (by rw[C];rfl) ?_;cases z<;>exact h
     ·refine D false _ (A false rfl) (by rw[C];rfl) ?_;cases z<;>exact h
    ·simp[Tr.AY]at h
theorem ZC4 {E:Env} {M:IU U} {call:Dn} (D:D6 U E) (C:NY U M call) {ops:Array Oper}:∀{q:List Nat} {st st' : D9 U},(opsT E M ops q st).AY st' -> MW call E ops q (CZ U st)=some (CZ U st'):=by
 intro q;induction q with
 | nil=>intro st st' h;simp only[opsT,Tr.AY]at h;subst h;rfl
 | cons i q F=>
  intro st st' h;simp only[opsT,EI]at h;obtain⟨G,z,A⟩:=h;have:=Z36 D C z;simp only[MW,stepD];rw[show (CZ U st).H.length=st.H.length from Rw st.H,this];exact F A
theorem ZcT {E:Env} {s:List (SV U.Ty)} {o:Oper}:EE E (Aq U s) o=fQ E s o:=by
 unfold EE fQ;congr 1;funext x;rw[Fb,ZzS]
theorem Zuy {H:BF U} {a:SV U.Ty} {k:Nat} (h:Z3v H a k=true):O3 (BM U H) (AU U a) k=true:=by
 unfold Z3v at h;split at h
 ·rename_i id i off tot;simp only[Bool.and_eq_true,beq_iff_eq]at h;obtain⟨z,q⟩:=h;split at q
  ·rename_i e n x hb;simp only[beq_iff_eq]at q;simp only[AU,O3,z,beq_self_eq_true,Bool.true_and,DX,MF];rw[<- z,hb];simp[CX,Bg,q]
  ·cases q
 ·rename_i id n;simp only[Bool.and_eq_true,beq_iff_eq]at h;obtain⟨z,q⟩:=h;split at q
  ·rename_i t xs fl hb;simp only[AU,O3,z,beq_self_eq_true,Bool.true_and,MF];rw[<- z,hb];simp[CX]
  ·cases q
 ·cases h
theorem Zz3 {base k:Nat} {s0:List (SV U.Ty)} {t:Nat⊕Nat} (h:uA base s0 t=some k):Pq base (Aq U s0) t=some k:=by
 cases t with
 | inl j=>exact h
 | inr d=>
  unfold uA at h;unfold Pq;have:(Aq U s0).getD d .und=AU U (s0.getD d .und):=by
   rw[Ep];simp only[List.getD,List.getElem?_map];cases s0[d]?<;>rfl
  simp only at h ⊢;rw[this];split at h
  ·rename_i q;rw[q];exact h
  ·rename_i q;rw[q];exact h
  ·cases h
theorem ZAK {E:Env} {ms:List Nat} {lt:List (Nat×(Nat⊕Nat))} {s0:List (SV U.Ty)} {base i:Nat} {s:List (SV U.Ty)} {H:BF U} {o:Oper} (h:Z4C E ms lt s0 base i s H o=true):GU E ms lt (Aq U s0) base i (Aq U s) (BM U H) o=true:=by
 unfold Z4C at h;unfold GU;rw[List.all_eq_true]at h ⊢;intro p A;have h:=h p A;cases z:uA base s0 p.2 with
 | none=>rw[z]at h;cases h
 | some k=>
  rw[z]at h;simp only at h;rw[Zz3 z];simp only;have:addrOf E (Aq U s) o=AU U (Z3K E s o):=by
   unfold addrOf Z3K;cases PR o<;>first|exact Fb ..|rfl
  rw[this,ZcT];split
  ·rename_i q;rw[if_pos q]at h;exact Zuy h
  ·rename_i q;rw[if_neg q]at h;exact h
theorem ZAc (v:SV U.Ty):vI (AU U v)=Zfx v:=by cases v<;>rfl
theorem Zyj {E:Env} {s:List (SV U.Ty)} {o:Oper} (h:Z3W E s o=true):quietAt E (Aq U s) o=true:=by
 unfold Z3W at h;unfold quietAt;cases z:o.op with
 | call c=>
  simp only[z]at h;simp only;cases q:c.callee with
  | value f=>
   cases f with
   | tmp t=>
    simp only[q]at h;simp only;rw[Uo];cases C:(E.quiet&&o.type != 0) with
    | false=>rfl
    | true=>
     simp only[C,Bool.not_true,Bool.false_or]at h ⊢;cases A:s.getD t .und with
     | fn g a b=>
      rw[A]at h;simp only[Z3Q,Bool.and_eq_true]at h;simp only[AU,tX,Bool.and_eq_true];refine⟨h.1,?_⟩;rw[Ep,Ep,<- List.map_append,List.all_map];rw[List.all_eq_true]at h ⊢;intro x D;simp only[Function.comp,ZAc];exact h.2 x D
     | _=>rw[A]at h;simp[Z3Q]at h
   | _=>rfl
  | _=>rfl
 | _=>rfl
theorem Zzn {E:Env} {M:IU U} {call:Dn} (F:D6 U E) (D:NY U M call) {ops:Array Oper} {ms:List Nat} {lt:List (Nat×(Nat⊕Nat))} {s0:List (SV U.Ty)} {base m i:Nat} {st st' : D9 U} (h:(Z4a E M ops ms lt s0 base m i st).AY st') :
  IB call E ops ms lt (Aq U s0) base m i (CZ U st)=some (CZ U st'):=by
 unfold Z4a at h;unfold IB;split at h
 ·rename_i C;simp only[Tr.AY]at h;subst h;rw[C]
 ·rename_i o C;rw[C];simp only[E8]at h ⊢;obtain⟨I,q,h⟩:=h;rw[Bool.and_eq_true,Bool.and_eq_true]at q;obtain⟨⟨G,z⟩,A⟩:=q;have q :=And.intro z A;rw[show quietAt E (CZ U st).s o=true from Zyj G,Bool.and_true];rw[show EE E (CZ U st).s o=fQ E st.s o from ZcT,show (CZ U st).H.length=st.H.length from Rw st.H,if_pos (by rw[I,Bool.true_and,Bool.and_eq_true];exact⟨ZAK q.1,q.2⟩)];split at h
  ·rename_i hc;rw[if_pos hc];rw[show (CZ U st).H[base+i]? = (st.H[base+i]?).map (CX U) from MF _ _];split at h
   ·rename_i b hb;rw[hb];split at h
    ·rename_i J;have:b = .dead:=by cases b<;>simp_all [Zf3]
     subst this;simp only[Option.map_some,CX,Qe,Bool.false_eq_true,if_false];exact Z36 F D h
    ·simp[Tr.AY]at h
   ·simp[Tr.AY]at h
  ·rename_i hc;rw[if_neg hc];exact Z36 F D h
theorem Zv9 {E:Env} {M:IU U} {call:Dn} (D:D6 U E) (C:NY U M call) {ops:Array Oper} {ms:List Nat} {lt:List (Nat×(Nat⊕Nat))} {s0:List (SV U.Ty)} {base m:Nat}:∀{q:List Nat} {st st' : D9 U},(fJ E M ops ms lt s0 base m q st).AY st' ->
  MJ call E ops ms lt (Aq U s0) base m q (CZ U st)=some (CZ U st'):=by
 intro q;induction q with
 | nil=>intro st st' h;simp only[fJ,Tr.AY]at h;subst h;rfl
 | cons i q F=>
  intro st st' h;simp only[fJ,EI]at h;obtain⟨G,z,A⟩:=h;simp only[MJ,Zzn D C z];exact F A
theorem ZAW {E:Env} {M:IU U} {call:Dn} (z:D6 U E) (q:NY U M call) {ops:Array Oper} {st st' : D9 U} (h:(uU E M ops st).AY st'):TJ call E ops (CZ U st)=some (CZ U st'):=by
 unfold uU at h;unfold TJ;have:=Zv9 z q h;rw[show (CZ U st).H.length=st.H.length from Rw st.H];rw[<- this];congr 1;simp[CZ,BM,CX]
end
end Go.Proofs.YtjodhcdmhobmoaaGreatDoor.Le
