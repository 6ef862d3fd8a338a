/- A part of it. -/
import Derived.Test.YtjodhcdmhobmoaaGreatDoorL3
set_option linter.unusedVariables false
set_option linter.unusedSimpArgs false
namespace Go.Proofs.YtjodhcdmhobmoaaGreatDoor.Le
open Go.RowKit (Below)
def Sg.ren (σ:Sg) (ids:List Nat):Sg:=⟨fun j=>(ids[j]?).bind σ.box,σ.fz⟩
theorem rQ {ids:List Nat} {id:Nat} (h:id∈ids):ids[ids.idxOf id]? = some id:=by
 have hlt:=List.idxOf_lt_length_of_mem h
 rw [List.getElem?_eq_getElem hlt,List.getElem_idxOf]
theorem Z3o {σ:Sg} {ids:List Nat} {id:Nat} (h:id∈ids):(σ.ren ids).box (ids.idxOf id)=σ.box id:=by
 simp [Sg.ren,rQ h]
theorem Z7E {w w' : World} {B e sz n:Nat} {v:Value} {us:List Value} (h:FZ w B e sz v n us) (hb:∀g,v.ownBlock=some g->w'.heap[g]? = w.heap[g]?):FZ w' B e sz v n us:=by
 refine⟨h.1,?_⟩
 rcases h.2 with hn|⟨g,cap,cur,tg,rfl,h1,h2,rest⟩
 ·exact .inl hn
 ·exact .inr ⟨g,cap,cur,tg,rfl,h1,by rw [hb g (by simp [Value.ownBlock])];exact h2,rest⟩
theorem Ns (ρ:Nat->Nat) (b:Box):(Fg ρ b).live=b.live/\(Fg ρ b).row=b.row/\(Fg ρ b).EX=b.EX/\(Fg ρ b).elem=b.elem/\(Fg ρ b).Ap=b.Ap/\(Fg ρ b).floor=b.floor/\(Fg ρ b).xs.length=b.xs.length:=by
 unfold Fg
 split
 ·exact⟨rfl,rfl,rfl,rfl,rfl,rfl,rfl⟩
 ·exact⟨rfl,rfl,rfl,rfl,rfl,rfl,Z0y _ _⟩
theorem Jn.ren {σ σ' : Sg} {w w' : World} {B:Nat} {b:Box} {L:Loc} (ρ:Nat->Nat) (h:Jn σ w B b L) (hfz:∀b c,σ.fz b c->σ'.fz b c/\w'.cell? ⟨b,c,none⟩=w.cell? ⟨b,c,none⟩) (hmp:EM w w')
  (hn:b.row=false->∀id∈D5 b.xs,σ'.box (ρ id)=σ.box id) (hb:∀g,L.v.ownBlock=some g->w'.heap[g]? = w.heap[g]?):Jn σ' w' B (Fg ρ b) L:=by
 obtain⟨e1,e2,e3,e4,e5,e6,e7⟩:=Ns ρ b
 obtain⟨us,r1,r2,r3,r4⟩:=h.D9
 have hr:AQ σ' w' (Fg ρ b).xs us:=by
  unfold Fg
  split
  ·rename_i hrow;exact r1.bare hfz hmp ((KG _).2 (h.Ho hrow))
  ·rename_i hrow;exact Z1G r1 hfz hmp (hn (by simpa using hrow))
 refine⟨by rw [e7];exact h.tot,⟨us,hr,r2,r3,by rw [e4,e7];exact Z7E r4 hb⟩,by rw [e3];exact h.EX,by rw [e5];exact h.Ap,?_,?_⟩
 ·intro x hx
  unfold Fg at hx
  split at hx
  ·exact h.oks x hx
  ·simp only [Z2V,List.mem_map] at hx
   obtain⟨y,hy,rfl⟩:=hx
   rw [Ze3]
   exact h.oks y hy
 ·intro hrow x hx
  rw [e2] at hrow
  unfold Fg at hx
  rw [if_pos hrow] at hx
  exact h.Ho hrow x hx
section
variable {B:Nat} {w0:Start} {σ:Sg} {H:Heap} {w:World} {ids:List Nat}
theorem Zdl (H:Heap) (ids:List Nat) (j:Nat):(Ih H ids)[j]? = (ids[j]?).map fun id=>Fg (ids.idxOf ·) ((H[id]?).getD QX):=by
 simp [Ih]
theorem Z2H {l:List Nat} (h:l.Nodup) {i j x:Nat} (hi:l[i]? = some x) (hj:l[j]? = some x):i=j:=by
 obtain⟨h1,e1⟩:=List.getElem?_eq_some_iff.1 hi
 obtain⟨h2,e2⟩:=List.getElem?_eq_some_iff.1 hj
 exact(List.getElem_inj h).1 (e1.trans e2.symm)
theorem dQ {xs:List V} {vs:List Value} (hr:AQ σ w xs vs) (hm:∀id∈D5 xs,id∈ids):AQ (σ.ren ids) w (Gi (ids.idxOf ·) xs) vs:=
 Z1G hr (fun b c hh=>⟨hh,rfl⟩) (EM.refl _) fun id hid=>Z3o (hm id hid)
theorem Z3Y (h:Inv B w0 σ H w) (hs:uU ids H) (w1:Start) (hbelow:Below B w1.w w) (hold:∀b c,σ.fz b c->b<B->w1.fz b c)
  (hk:∀b,w1.keep b->b<w.heap.size/\w.heap[b]? = w1.w.heap[b]? /\ (∀id∈ids,∀L,σ.box id=some L->L.v.ownBlock≠some b)/\∀c,σ.fz b c->w1.fz b c):Inv B w1 (σ.ren ids) (Ih H ids) w:=by
 have hbox:∀{j:Nat} {L:Loc},(σ.ren ids).box j=some L->∃id,ids[j]? = some id/\σ.box id=some L:=by
  intro j L hL
  simp only [Sg.ren] at hL
  cases hj:ids[j]? with
  | none=>simp [hj] at hL
  | some id=>simp only [hj,Option.bind_some] at hL;exact⟨id,rfl,hL⟩
 have hget:∀{j:Nat} {b' : Box},(Ih H ids)[j]? = some b' -> ∃id b,ids[j]? = some id/\H[id]? = some b/\b.live=true/\(b.row=false->∀r∈D5 b.xs,r∈ids)/\b' = Fg (ids.idxOf ·) b:=by
  intro j b' hb
  rw [Zdl] at hb
  cases hj:ids[j]? with
  | none=>simp [hj] at hb
  | some id=>
   obtain⟨b,k1,k2,k3⟩:=hs.at_ id (List.mem_of_getElem? hj)
   simp only [hj,Option.map_some,k1,Option.getD_some,Option.some.injEq] at hb
   exact⟨id,b,rfl,k1,k2,k3,hb.symm⟩
 refine⟨hbelow,h.size,?_,?_,?_,h.cells,?_,?_,hold,fun b hb=>?_⟩
 ·intro j L hL
  obtain⟨id,h1,h2⟩:=hbox hL
  obtain⟨b,k1,k2,k3⟩:=hs.at_ id (List.mem_of_getElem? h1)
  refine⟨Fg (ids.idxOf ·) b,by rw [Zdl,h1];simp [k1],?_⟩
  rw [(Ns _ b).1];exact k2
 ·intro j b' hb hl
  obtain⟨id,b,h1,h2,h3,h4,rfl⟩:=hget hb
  obtain⟨L,hL,hok⟩:=h.boxes id b h2 h3
  refine⟨L,by simp [Sg.ren,h1,hL],hok.ren _ (fun b c hh=>⟨hh,rfl⟩) (EM.refl _) (fun hr r hh=>Z3o (h4 hr r hh)) (fun _ _=>rfl)⟩
 ·intro j j' b1 b2 L1 L2 g h1 h2 l1 l2 s1 s2 g1 g2
  obtain⟨i1,e1,t1⟩:=hbox s1
  obtain⟨i2,e2,t2⟩:=hbox s2
  obtain⟨i1',c1,f1,p1,p2,_⟩:=hget h1
  obtain⟨i2',c2,f2,q1,q2,_⟩:=hget h2
  rw [e1] at f1;cases f1
  rw [e2] at f2;cases f2
  have:=h.apart i1 i2 c1 c2 L1 L2 g p1 q1 p2 q2 t1 t2 g1 g2
  subst this
  exact Z2H hs.nodup e1 e2
 ·intro b c hc j b' L hb hl hL hg
  obtain⟨id,hid,hL'⟩:=hbox hL
  obtain⟨id',b0,f1,p1,p2,_,rfl⟩:=hget hb
  rw [hid] at f1;cases f1
  rw [(Ns _ b0).2.2.2.2.2.1]
  exact h.floor b c hc id b0 L p1 p2 hL' hg
 ·intro j b' hb hl
  obtain⟨id,b0,f1,p1,p2,_,rfl⟩:=hget hb
  obtain⟨_,_,_,_,_,e6,e7⟩:=Ns (ids.idxOf ·) b0
  rw [e6,e7]
  exact h.low id b0 p1 p2
 ·obtain⟨k1,k2,k3,k4⟩:=hk b hb
  refine⟨k1,k2,fun j L hL hg=>?_,k4⟩
  obtain⟨id,hid,hL'⟩:=hbox hL
  exact k3 id (List.mem_of_getElem? hid) L hL' hg
def Gt (ids:List Nat) (n i:Nat):Option Nat:=if i<n then (if i∈ids then some (ids.idxOf i) else none) else some (ids.length+(i - n))
theorem ZBq:∀{ids:List Nat} {H bs:Heap} (i:Nat),ids.Nodup->(∀id∈ids,id<H.length)->ids.length<=bs.length ->
  (P8 H ids bs)[i]? = match Gt ids H.length i with|some j=>bs[j]? | none=>H[i]?:=by
 intro ids
 induction ids with
 | nil=>
  intro H bs i _ _ _
  unfold Gt
  simp only [P8,List.getElem?_append,List.not_mem_nil,if_false,List.length_nil,Nat.zero_add]
  split<;>rfl
 | cons id ids ih=>
  intro H bs i hn hl hb
  cases bs with
  | nil=>simp at hb
  | cons b bs=>
   rw [List.nodup_cons] at hn
   rw [P8,ih i hn.2 (fun j hj=>by simpa using hl j (by simp [hj])) (by simpa using hb)]
   have hid:=hl id (by simp)
   unfold Gt
   simp only [List.length_set,List.mem_cons,List.length_cons]
   by_cases hi:i<H.length
   ·simp only [hi,if_true]
    by_cases he:i=id
    ·subst he
     simp [hn.1,hid]
    ·by_cases hm:i∈ids
     ·simp only [hm,or_true,if_true]
      have hne:(id==i)=false:=by simp only [beq_eq_false_iff_ne];exact fun e=>he e.symm
      simp [List.idxOf_cons,hne]
     ·simp only [hm,he,or_self,if_false]
      rw [List.getElem?_set_ne (fun e=>he e.symm)]
   ·simp only [hi,if_false]
    rw [show ids.length+1+(i - H.length)=(ids.length+(i - H.length))+1 by omega]
    rfl
theorem Zr3 {H3:Heap} (i:Nat) (hn:ids.Nodup) (hl:∀id∈ids,id<H.length) (hb:ids.length<=H3.length) :
  (OA H ids H3)[i]? = match Gt ids H.length i with|some j=>(H3[j]?).map (Fg (JP ids H.length))|none=>H[i]?:=by
 unfold OA
 rw [ZBq i hn hl (by simpa using hb)]
 split<;>simp
theorem ZD0 {n i i' j:Nat} (hn:ids.Nodup) (h1:Gt ids n i=some j) (h2:Gt ids n i' = some j):i=i' :=by
 unfold Gt at h1 h2
 have key:∀{x:Nat},x∈ids->ids.idxOf x<ids.length:=fun h=>List.idxOf_lt_length_of_mem h
 split at h1<;>split at h2
 ·split at h1<;>split at h2
  ·rename_i m1 m2
   simp only [Option.some.injEq] at h1 h2
   have e1:=rQ m1
   have e2:=rQ m2
   rw [h1] at e1;rw [h2] at e2
   rw [e1] at e2
   exact Option.some.inj e2
  ·cases h2
  ·cases h1
  ·cases h1
 ·split at h1
  ·rename_i m1
   simp only [Option.some.injEq] at h1 h2
   have:=key m1
   omega
  ·cases h1
 ·split at h2
  ·rename_i m2
   simp only [Option.some.injEq] at h1 h2
   have:=key m2
   omega
  ·cases h2
 ·simp only [Option.some.injEq] at h1 h2
  omega
theorem ZA1 {n:Nat} (hn:ids.Nodup) (hl:∀id∈ids,id<n) (j:Nat):Gt ids n (JP ids n j)=some j:=by
 unfold JP Gt
 by_cases hj:j<ids.length
 ·rw [if_pos hj]
  have hg:ids.getD j 0=ids[j]:=by simp [List.getD,hj]
  rw [hg]
  have hm:ids[j]∈ids:=List.getElem_mem hj
  rw [if_pos (hl _ hm),if_pos hm]
  congr 1
  exact Z2H hn (rQ hm) (List.getElem?_eq_getElem hj)
 ·rw [if_neg hj,if_neg (by omega)]
  congr 1
  omega
def Sg.back (σ σ1:Sg) (ids:List Nat) (n:Nat):Sg:=⟨fun i=>match Gt ids n i with|some j=>σ1.box j|none=>σ.box i,σ1.fz⟩
theorem Zds {σ1:Sg} {n:Nat} (hn:ids.Nodup) (hl:∀id∈ids,id<n) (j:Nat):(σ.back σ1 ids n).box (JP ids n j)=σ1.box j:=by
 simp only [Sg.back,ZA1 hn hl]
def outer (σ:Sg) (ids:List Nat) (w0:Start) (b:Nat):Prop:=w0.keep b\/∃id L,id∉ids/\σ.box id=some L/\L.v.ownBlock=some b
theorem ZCg {σ1:Sg} {H3:Heap} {w' : World} (h:Inv B w0 σ H w) (hs:uU ids H) (h1:Inv B ⟨w,σ.fz,outer σ ids w0⟩ σ1 H3 w') (hE:Ext (σ.ren ids) w σ1 w') (hlen:ids.length<=H3.length) :
  Inv B w0 (σ.back σ1 ids H.length) (OA H ids H3) w' /\ Ext σ w (σ.back σ1 ids H.length) w' :=by
 have hlt:∀id∈ids,id<H.length:=fun id hid=>by
  obtain⟨b,k1,_⟩:=hs.at_ id hid
  exact(List.getElem?_eq_some_iff.1 k1).1
 have hfz:∀b c,σ.fz b c->σ1.fz b c/\w'.cell? ⟨b,c,none⟩=w.cell? ⟨b,c,none⟩:=hE.fz
 have e:Ext σ w (σ.back σ1 ids H.length) w' :=by
  refine⟨fun i L hL=>?_,hfz,hE.mp⟩
  have hi:=h.Z4c hL
  simp only [Sg.back]
  by_cases hm:i∈ids
  ·have ht:Gt ids H.length i=some (ids.idxOf i):=by simp [Gt,hi,hm]
   simp only [ht]
   exact hE.box _ L (by rw [Z3o hm];exact hL)
  ·have ht:Gt ids H.length i=none:=by simp [Gt,hi,hm]
   simp only [ht]
   exact⟨L,hL,rfl,.inl rfl⟩
 have hget:∀i,(OA H ids H3)[i]? = match Gt ids H.length i with|some j=>(H3[j]?).map (Fg (JP ids H.length))|none=>H[i]?:=fun i=>Zr3 i hs.nodup hlt hlen
 have hout:∀{i:Nat} {L:Loc} {g:Nat},Gt ids H.length i=none->σ.box i=some L->L.v.ownBlock=some g->outer σ ids w0 g:=by
  intro i L g ht hL hg
  refine .inr ⟨i,L,?_,hL,hg⟩
  intro hm
  simp [Gt,hlt i hm,hm] at ht
 have hcase:∀{i:Nat} {b' : Box},(OA H ids H3)[i]? = some b' -> (∃j b,Gt ids H.length i=some j/\H3[j]? = some b/\b' = Fg (JP ids H.length) b)\/(Gt ids H.length i=none/\H[i]? = some b'):=by
  intro i b' hb
  rw [hget] at hb
  cases ht:Gt ids H.length i with
  | none=>rw [ht] at hb;exact .inr ⟨rfl,hb⟩
  | some j=>
   rw [ht] at hb
   simp only [Option.map_eq_some_iff] at hb
   obtain⟨b,h2,h3⟩:=hb
   exact .inl ⟨j,b,rfl,h2,h3.symm⟩
 refine⟨⟨h.below.trans h1.below,h1.size,?_,?_,?_,h1.cells,?_,?_,fun b c hc hlt' =>h.old b c (h1.old b c hc hlt') hlt',fun b hb=>?_⟩,e⟩
 ·intro i L hL
  simp only [Sg.back] at hL
  rw [hget]
  cases ht:Gt ids H.length i with
  | none=>rw [ht] at hL;exact h.dom i L hL
  | some j=>
   rw [ht] at hL
   obtain⟨b,k1,k2⟩:=h1.dom j L hL
   exact⟨Fg (JP ids H.length) b,by simp [k1],by rw [(Ns _ b).1];exact k2⟩
 ·intro i b' hb hl
  rcases hcase hb with ⟨j,b,ht,hj,rfl⟩|⟨ht,hi⟩
  ·rw [(Ns _ b).1] at hl
   obtain⟨L,hL,hok⟩:=h1.boxes j b hj hl
   refine⟨L,by simp only [Sg.back,ht];exact hL,hok.ren _ (fun b c hh=>⟨hh,rfl⟩) (EM.refl _) (fun _ r _=>Zds hs.nodup hlt r) (fun _ _=>rfl)⟩
  ·obtain⟨L,hL,hok⟩:=h.boxes i b' hi hl
   obtain⟨us,r1,r2,r3,r4⟩:=hok.D9
   refine⟨L,by simp only [Sg.back,ht];exact hL,hok.tot,⟨us,r1.ext e,r2,r3,Z7E r4 fun g hg=>?_⟩,hok.EX,hok.Ap,hok.oks,hok.Ho⟩
   exact(h1.kept g (hout ht hL hg)).2.1
 ·intro i i' b1 b2 L1 L2 g p1 p2 l1 l2 s1 s2 g1 g2
  simp only [Sg.back] at s1 s2
  rcases hcase p1 with ⟨j,c1,t1,q1,rfl⟩|⟨t1,q1⟩<;>rcases hcase p2 with ⟨j',c2,t2,q2,rfl⟩|⟨t2,q2⟩
  ·rw [t1] at s1;rw [t2] at s2
   rw [(Ns _ _).1] at l1 l2
   have:=h1.apart j j' c1 c2 L1 L2 g q1 q2 l1 l2 s1 s2 g1 g2
   subst this
   exact ZD0 hs.nodup t1 t2
  ·rw [t1] at s1;rw [t2] at s2
   exact absurd g1 ((h1.kept g (hout t2 s2 g2)).2.2.1 j L1 s1)
  ·rw [t1] at s1;rw [t2] at s2
   exact absurd g2 ((h1.kept g (hout t1 s1 g1)).2.2.1 j' L2 s2)
  ·rw [t1] at s1;rw [t2] at s2
   exact h.apart i i' b1 b2 L1 L2 g q1 q2 l1 l2 s1 s2 g1 g2
 ·intro b c hc i b' L hb hl hL hg
  simp only [Sg.back] at hL hc
  rcases hcase hb with ⟨j,b0,ht,hj,rfl⟩|⟨ht,hi⟩
  ·rw [ht] at hL
   rw [(Ns _ b0).1] at hl
   rw [(Ns _ b0).2.2.2.2.2.1]
   exact h1.floor b c hc j b0 L hj hl hL hg
  ·rw [ht] at hL
   exact h.floor b c ((h1.kept b (hout ht hL hg)).2.2.2 c hc) i b' L hi hl hL hg
 ·intro i b' hb hl
  rcases hcase hb with ⟨j,b0,ht,hj,rfl⟩|⟨ht,hi⟩
  ·obtain⟨e1,_,_,_,_,e6,e7⟩:=Ns (JP ids H.length) b0
   rw [e6,e7]
   rw [e1] at hl
   exact h1.low j b0 hj hl
  ·exact h.low i b' hi hl
 ·obtain⟨k1,k2,k3,k4⟩:=h.kept b hb
  obtain⟨m1,m2,m3,m4⟩:=h1.kept b (.inl hb)
  refine⟨m1,m2.trans k2,fun i L hL hg=>?_,fun c hc=>k4 c (m4 c hc)⟩
  simp only [Sg.back] at hL
  cases ht:Gt ids H.length i with
  | none=>rw [ht] at hL;exact k3 i L hL hg
  | some j=>rw [ht] at hL;exact m3 j L hL hg
end
def sG (P:Program) (E:Env) (f:FuncId) (as:List V) (H0:Heap) (r:V) (H1:Heap):Prop:=
 ∀(B:Nat) (w0:Start) (σ:Sg) (w:World) (vs:List Value),Inv B w0 σ H0 w->Di E σ w->AQ σ w as vs ->
  Calls P f vs.toArray w fun e w' =>∃u σ',e = .returned u/\Inv B w0 σ' H1 w' /\ Ext σ w σ' w' /\ AQ σ' w' [r] [u]
theorem Z3r {B:Nat} {w0:Start} {σ:Sg} {H H2:Heap} {w:World} {fa:List (List Fk)} {fb:List Bf} {k:Nat} {args as:List V} {vs:List Value} {ids:List Nat} (h:Inv B w0 σ H w) (hr:AQ σ w args vs)
  (hp:pack fa fb k args H=some (ids,as,H2)):uU ids H2/\(∀id∈D5 as,id∈ids)/\H.length<=H2.length/\∃σ',Inv B w0 σ' H2 w/\Ext σ w σ' w/\AQ σ' w as vs:=by
 unfold pack at hp
 split at hp
 ·rename_i as' H1 ha
  split at hp
  ·rename_i H2' ids' hh
   simp only [Option.some.injEq,Prod.mk.injEq] at hp
   obtain⟨rfl,rfl,rfl⟩:=hp
   obtain⟨k1,σ1,i1,e1,r1⟩:=ZAN h hr ha
   obtain⟨q1,q2,q3,σ2,i2,e2⟩:=ZAk 1000 i1 hh (by simp) (by simp)
   exact⟨q3,fun id hid=>q2 id (by simp [hid]),Nat.le_trans k1.len q1,σ2,i2,e1.trans e2,r1.ext e2⟩
  ·cases hp
 ·cases hp
theorem ZB2 {P:Program} {E:Env} {B:Nat} {w0:Start} {σ:Sg} {H H' : Heap} {w:World} {f:FuncId} {hs:VK} {args:List V} {vs:List Value} {x:V} (hh:∀as H0 r H1,hs.run as H0=some (r,H1)->sG P E f as H0 r H1)
  (hc:OX hs args H=some (x,H')) (h:Inv B w0 σ H w) (hg:Di E σ w) (hr:AQ σ w args vs) :
  Calls P f vs.toArray w fun e w' =>∃u σ',e = .returned u/\Inv B w0 σ' H' w' /\ Ext σ w σ' w' /\ AQ σ' w' [x] [u]:=by
 unfold OX at hc
 split at hc
 ·rename_i ids as H2 hp
  split at hc
  ·rename_i r H3 hrun
   split at hc
   ·rename_i hlen
    simp only [Option.some.injEq,Prod.mk.injEq] at hc
    obtain⟨rfl,rfl⟩:=hc
    obtain⟨hs',hm,_,σ1,hI1,hE1,hr1⟩:=Z3r h hr hp
    have hlt:∀id∈ids,id<H2.length:=fun id hid=>by
     obtain⟨b,k1,_⟩:=hs'.at_ id hid
     exact(List.getElem?_eq_some_iff.1 k1).1
    have hsub:Inv B ⟨w,σ1.fz,outer σ1 ids w0⟩ (σ1.ren ids) (Ih H2 ids) w:=by
     refine Z3Y hI1 hs' _ (Below.refl _ _) (fun b c hc _=>hc) (fun b hb=>?_)
     rcases hb with hb|⟨id,L,hid,hL,hgL⟩
     ·obtain⟨k1,k2,k3,k4⟩:=hI1.kept b hb
      exact⟨k1,rfl,fun id _ L hL=>k3 id L hL,fun c hc=>hc⟩
     ·obtain⟨bx,m1,m2⟩:=hI1.dom id L hL
      obtain⟨L',hL',hok⟩:=hI1.boxes id bx m1 m2
      rw [hL] at hL';cases hL'
      refine⟨(hok.block_lt hgL).2,rfl,fun i hi L' hL' hg' =>?_,fun c hc=>hc⟩
      obtain⟨bx',n1,n2⟩:=hI1.dom i L' hL'
      have:=hI1.apart id i bx bx' L L' b m1 n1 m2 n2 hL hL' hgL hg'
      subst this
      exact hid hi
    have hg1:Di E (σ1.ren ids) w:=(hg.ext hE1).bare (fun b c hh=>⟨hh,rfl⟩) (EM.refl _)
    refine(hh _ _ _ _ hrun B _ (σ1.ren ids) w vs hsub hg1 (dQ hr1 hm)).mono ?_
    rintro e w' ⟨u,σ2,rfl,hI2,hE2,hr2⟩
    obtain⟨hI3,hE3⟩:=ZCg hI1 hs' hI2 hE2 hlen
    exact⟨u,_,rfl,hI3,hE1.trans hE3,Zyp hr2 (fun b c hh=>⟨hh,rfl⟩) (EM.refl _) (fun id _=>Zds hs'.nodup hlt id)⟩
   ·cases hc
  ·cases hc
 ·cases hc
def OO (P:Program) (E:Env) (f:FuncId) (as:List V) (r:V):Prop:=
 ∀(fz:Nat->Nat->Prop) (w:World) (vs:List Value),(∀b c,fz b c->∃u,w.cell? ⟨b,c,none⟩=some u)->Di E (bare fz) w->AQ (bare fz) w as vs ->
  Calls P f vs.toArray w fun e w' =>∃u fz',e = .returned u/\Below w.heap.size w w' /\ (∀b c,fz b c->fz' b c)/\(∀b c,fz' b c->b<w.heap.size->fz b c) /\
   (∀b c,fz' b c->∃u,w'.cell? ⟨b,c,none⟩=some u)/\AQ (bare fz') w' [r] [u]/\CU r=true
def rU (P:Program) (E:Env) (f:FuncId) (as:List V) (e sz:Nat) (xs:List V):Prop:=
 ∀(fz:Nat->Nat->Prop) (w:World) (vs:List Value),(∀b c,fz b c->∃u,w.cell? ⟨b,c,none⟩=some u)->Di E (bare fz) w->AQ (bare fz) w as vs ->
  Calls P f vs.toArray w fun en w' =>∃u us fz',en = .returned u/\Below w.heap.size w w' /\ (∀b c,fz b c->fz' b c)/\(∀b c,fz' b c->b<w.heap.size->fz b c) /\
   (∀b c,fz' b c->∃u,w'.cell? ⟨b,c,none⟩=some u)/\AQ (bare fz') w' xs us/\(∀x∈xs,Em x=true)/\(∀u∈us,u.cells.size=sz)/\(∀u∈flat us,u.oneCell' = true) /\
   FZ w' w.heap.size e sz u xs.length (flat us)/\(∀g c,u.ownBlock=some g->¬fz' g c)
def OD (P:Program) (f:FuncId):Prop:=∃fn,P.funcs[f]? = some fn/\fn.body.isNone=false/\(fn.name == "runtime.NumGoroutine")=false
structure Qb (P:Program) (E:Env):Prop where
 env:∀f F,E.env f=some F->OD P f/\∀as r,CJ as=true->F as=some r->match E.own f with|none=>OO P E f as r|some e=>∀sz xs,r = .sl false sz xs->rU P E f as e sz xs
 hm:∀f key hs,E.hm f key=some hs->OD P f/\∀as H0 r H1,hs.run as H0=some (r,H1)->sG P E f as H0 r H1
theorem Below.grownBy {w w' : World} (h:Below w.heap.size w w'):w.grownBy w' none:=⟨h.os,h.tape,h.output,h.size,fun k hk _=>h.block k hk⟩
theorem Z1N {B w0 σ H w} (h:Inv B w0 σ H w) {x x' : V} {v:Value} (hr:AQ σ w [x] [v]) (hf:JU H x=some x'):CU x' = true:=by
 unfold JU at hf
 split at hf
 ·rename_i vs
  cases hr with
  | BF h1 _=>
   cases hl:FN H vs with
   | none=>simp [hl] at hf
   | some vs' =>
    simp only [hl,Option.map_some,Option.some.injEq] at hf
    subst hf
    exact Xb h h1 hl
 ·exact qL h hr hf
section
variable {P:Program} {E:Env} {B:Nat} {w0:Start} {σ:Sg} {H:Heap} {w:World} {f:FuncId}
theorem Zbk {args as:List V} {r:V} {vs:List Value} (ts:List TypeId) (hp:OO P E f (GG E.rows ts as) r) (hf:FN H args=some as) (hI:Inv B w0 σ H w) (hg:Di E σ w) (hr:AQ σ w args vs) :
  Calls P f vs.toArray w fun e w' =>∃u σ',e = .returned u/\Inv B w0 σ' (bump H (args.flatMap Dj)) w' /\ Ext σ w σ' w' /\ AQ σ' w' [r] [u]:=by
 obtain⟨hI1,hEx1⟩:=hI.freeze (args.flatMap Dj)
 have hr1:=ZN E.rows ts (nY hI hr hf (args.flatMap Dj) (fun i hi=>hi))
 have hn:CJ (GG E.rows ts as)=true:=by rw [kK];exact Xb hI hr hf
 generalize hσ1:σ.freeze H (args.flatMap Dj)=σ1 at hI1 hEx1 hr1
 have hbox1:σ1.box=σ.box:=by rw [<- hσ1];rfl
 have hfz0:∀b c,σ1.fz b c->(bare σ1.fz).fz b c/\w.cell? ⟨b,c,none⟩=w.cell? ⟨b,c,none⟩:=fun b c h=>⟨h,rfl⟩
 refine(hp σ1.fz w vs hI1.cells ((hg.ext hEx1).bare hfz0 (EM.refl _)) (hr1.bare hfz0 (EM.refl _) hn)).mono ?_
 rintro e w' ⟨u,fz',rfl,hb,hmono,hold,hcells,hru,hnr⟩
 obtain⟨hI2,hEx2⟩:=hI1.grown (Below.grownBy hb)
 have hcell:∀b c,σ1.fz b c->w'.cell? ⟨b,c,none⟩=w.cell? ⟨b,c,none⟩:=fun b c h=>(hEx2.fz b c h).2
 have hex:Ext σ1 w' ⟨σ1.box,fz'⟩ w' :=⟨fun id L hL=>⟨L,hL,rfl,.inl rfl⟩,fun b c h=>⟨hmono b c h,rfl⟩,EM.refl _⟩
 refine⟨u,⟨σ1.box,fz'⟩,rfl,⟨hI2.below,hI2.size,hI2.dom,fun id bx hb hl=>?_,hI2.apart,hcells,fun b c hc id bx L hb hl hL hown=>?_,hI2.low,fun b c hc hlt=>?_,fun b hb=>?_⟩,hEx1.trans (hEx2.trans hex),?_⟩
 ·obtain⟨L,hL,hok⟩:=hI2.boxes id bx hb hl
  obtain⟨us,h1,h2,h3,h4⟩:=hok.D9
  exact⟨L,hL,⟨hok.tot,⟨us,h1.ext hex,h2,h3,h4⟩,hok.EX,hok.Ap,hok.oks,hok.Ho⟩⟩
 ·obtain⟨L',hL',hok⟩:=hI1.boxes id bx hb hl
  rw [show σ1.box id=some L from hL] at hL'
  cases hL'
  exact hI1.floor b c (hold b c hc (hok.block_lt hown).2) id bx L hb hl hL hown
 ·exact hI1.old b c (hold b c hc (Nat.lt_of_lt_of_le hlt hI1.size)) hlt
 ·obtain⟨k1,k2,k3,k4⟩:=hI2.kept b hb
  exact⟨k1,k2,k3,fun c hc=>k4 c (hold b c hc (hI1.kept b hb).1)⟩
 ·exact hru.bare (fun b c h=>⟨h,rfl⟩) (EM.refl _) (by simp [CJ,hnr])
theorem ownsRow_base {w:World} {b b' e sz n:Nat} {v:Value} {us:List Value} (h:FZ w b e sz v n us) (hb:b' <= b):FZ w b' e sz v n us:=by
 refine⟨h.1,?_⟩
 rcases h.2 with h|⟨g,cap,cur,tg,h1,h2,h3⟩
 ·exact .inl h
 ·exact .inr ⟨g,cap,cur,tg,h1,by omega,h3⟩
theorem ZcF {args as:List V} {e sz:Nat} {xs:List V} {vs:List Value} (ts:List TypeId) (hp:rU P E f (GG E.rows ts as) e sz xs) (hf:FN H args=some as) (hI:Inv B w0 σ H w) (hg:Di E σ w) (hr:AQ σ w args vs) :
  Calls P f vs.toArray w fun en w' =>∃u σ',en = .returned u/\Inv B w0 σ' (place (bump H (args.flatMap Dj)) H.length (Bg true false e sz xs)) w' /\ Ext σ w σ' w' /\ AQ σ' w' [.Ba H.length 0 xs.length xs.length] [u]:=by
 obtain⟨hI1,hEx1⟩:=hI.freeze (args.flatMap Dj)
 have hr1:=ZN E.rows ts (nY hI hr hf (args.flatMap Dj) (fun i hi=>hi))
 have hn:CJ (GG E.rows ts as)=true:=by rw [kK];exact Xb hI hr hf
 generalize hσ1:σ.freeze H (args.flatMap Dj)=σ1 at hI1 hEx1 hr1
 have hfz0:∀b c,σ1.fz b c->(bare σ1.fz).fz b c/\w.cell? ⟨b,c,none⟩=w.cell? ⟨b,c,none⟩:=fun b c h=>⟨h,rfl⟩
 refine(hp σ1.fz w vs hI1.cells ((hg.ext hEx1).bare hfz0 (EM.refl _)) (hr1.bare hfz0 (EM.refl _) hn)).mono ?_
 rintro en w' ⟨u,us,fz',rfl,hb,hmono,hold,hcells,hru,hfzv,hsz,hone,hown,hnfz⟩
 obtain⟨hI2,hEx2⟩:=hI1.grown (Below.grownBy hb)
 have hex:Ext σ1 w' ⟨σ1.box,fz'⟩ w' :=⟨fun id L hL=>⟨L,hL,rfl,.inl rfl⟩,fun b c h=>⟨hmono b c h,rfl⟩,EM.refl _⟩
 have hI3:Inv B w0 ⟨σ1.box,fz'⟩ (bump H (args.flatMap Dj)) w' :=by
  refine⟨hI2.below,hI2.size,hI2.dom,fun id bx hb hl=>?_,hI2.apart,hcells,fun b c hc id bx L hb hl hL hown=>?_,hI2.low,fun b c hc hlt=>?_,fun b hb=>?_⟩
  ·obtain⟨L,hL,hok⟩:=hI2.boxes id bx hb hl
   obtain⟨us,h1,h2,h3,h4⟩:=hok.D9
   exact⟨L,hL,⟨hok.tot,⟨us,h1.ext hex,h2,h3,h4⟩,hok.EX,hok.Ap,hok.oks,hok.Ho⟩⟩
  ·obtain⟨L',hL',hok⟩:=hI1.boxes id bx hb hl
   rw [show σ1.box id=some L from hL] at hL'
   cases hL'
   exact hI1.floor b c (hold b c hc (hok.block_lt hown).2) id bx L hb hl hL hown
  ·exact hI1.old b c (hold b c hc (Nat.lt_of_lt_of_le hlt hI1.size)) hlt
  ·obtain⟨k1,k2,k3,k4⟩:=hI2.kept b hb
   exact⟨k1,k2,k3,fun c hc=>k4 c (hold b c hc (hI1.kept b hb).1)⟩
 have hblk:∀g,u.ownBlock=some g->w.heap.size<=g:=by
  intro g hg'
  rcases hown.2 with ⟨hv,_⟩|⟨g',cap,cur,tg,hv,hle,_⟩
  ·rw [hv] at hg';cases hg'
  ·rw [hv] at hg'
   simp only [Value.ownBlock,Option.some.injEq] at hg'
   omega
 have hnr:CJ xs=true:=Ol hfzv
 have hk:FP (bump H (args.flatMap Dj)) H.length=true:=by
  have:=dG (bump H (args.flatMap Dj))
  rwa [bump_length] at this
 obtain⟨hI4,hEx4⟩:=hI3.ZCK hk (Bg true false e sz xs) rfl ⟨u,xs.length,sz⟩ (by simp [Bg])
  (fun id bx' L' g h1 h2 h3 h4 h5=>by
   obtain⟨L'',hL'',hok⟩:=hI1.boxes id bx' h1 h2
   rw [show σ1.box id=some L' from h3] at hL''
   cases hL''
   have:=(hok.block_lt h4).2
   have:=hblk g h5
   omega)
  (fun g c h=>hnfz g c h) (fun g h hk=>by have:=(hI1.kept g hk).1;have:=hblk g h;omega)
  ⟨rfl,⟨us,hru.bare (fun b c h=>⟨h,rfl⟩) (EM.refl _) hnr,hsz,hone,by simpa [Bg] using ownsRow_base hown hI1.size⟩,by simp [Bg],rfl,Z3I hfzv,fun _ x hx=>QQ (hfzv x hx)⟩
 have hval:∃a n c,u = .slice a n c/\n=xs.length/\n<=c:=by
  rcases hown.2 with ⟨hv,hn⟩|⟨g,cap,cur,tg,hv,_,_,_,hnc,_⟩
  ·exact⟨none,0,0,hv,hn.symm,Nat.le_refl _⟩
  ·exact⟨_,_,cap,hv,rfl,hnc⟩
 obtain⟨a,n,c,hv,hn',hnc⟩:=hval
 refine⟨u,_,rfl,hI4,hEx1.trans (hEx2.trans (hex.trans hEx4)),.Ba (L:=⟨u,xs.length,sz⟩) (by simp [Sg.put]) (Nat.le_refl _) (fun _=>⟨by omega,a,n,c,0,hv,?_,Nat.zero_le _,Nat.le_refl _,fun _=>rfl⟩) ⟨a,n,c,hv⟩ .nil⟩
 subst hn'
 rw [hv]
 cases a with
 | none=>simp
 | some a=>simp [Addr.add]
theorem Zeq (hE:Ci E) (hP:E.P=P) {call:Dl} (hcall:JL P E B w0 call) (hpure:OB E call) {fn:Func} (hfn:E.func f=some fn) {n:Nat} {args:List V} {H' : Heap} {r:V} {vs:List Value}
  (hb:P6 call n E f fn args H=some (r,H')) (hI:Inv B w0 σ H w) (hg:Di E σ w) (hr:AQ σ w args vs) :
  OD P f/\Calls P f vs.toArray w fun e w' =>∃u σ',e = .returned u/\Inv B w0 σ' H' w' /\ Ext σ w σ' w' /\ AQ σ' w' [r] [u]:=by
 unfold P6 at hb
 cases hbody:fn.body with
 | none=>simp [hbody] at hb
 | some c=>
  simp only [hbody] at hb
  obtain⟨hf1,hf2⟩:=hE.func f fn hfn
  rw [hP] at hf1
  refine⟨⟨fn,hf1,by simp [hbody],hf2⟩,calls_of_wp hf1 hbody ?_⟩
  have hcm:=hE.calm f fn c hfn hbody
  have hslots:AQ σ w (args++List.replicate (fn.ntmps - args.length) EE) (vs.toArray++Array.replicate (fn.ntmps - vs.toArray.size) undef).toList:=by
   simp only [Array.toList_append,Array.toList_replicate,List.size_toArray]
   rw [<- hr.length]
   exact hr.append (AQ.replicate _ (.no .nil))
  have hrel:Eu E B w0 σ ⟨args++List.replicate (fn.ntmps - args.length) EE,H⟩ { tmps:=vs.toArray++Array.replicate (fn.ntmps - vs.toArray.size) undef,defers:=[] } w:=⟨hI,hg,hslots,rfl⟩
  have hfin:∀st,(KO E st.H st.s fn.results.toList).map (·,st.H)=some (r,H')->∀a' w' σ',Eu E B w0 σ' st a' w' -> Ext σ w σ' w' ->
    a'.defers=[]/\∃v,(results fn a'.tmps).run P w' = .ok v w' /\ (fun e w' =>∃u σ',e=Ending.returned u/\Inv B w0 σ' H' w' /\ Ext σ w σ' w' /\ AQ σ' w' [r] [u]) (.returned v) w' :=by
   intro st hres a' w' σ' hr' he'
   cases hx:KO E st.H st.s fn.results.toList with
   | none=>simp [hx] at hres
   | some x=>
    simp only [hx,Option.map_some,Option.some.injEq,Prod.mk.injEq] at hres
    obtain⟨rfl,rfl⟩:=hres
    obtain⟨u,hu,hur⟩:=o8 (P:=P) hE hP hr'.inv hr'.slots hx
    exact⟨hr'.calm,u,hu,u,σ',rfl,hr'.inv,he',hur⟩
  split at hb
  ·rename_i st hc
   exact Rl hE hP hcall hpure (Z3A hE hP hcall hpure n) c _ .normal st hcm hc _ σ _ w hrel (hfin st hb)
  ·rename_i st hc
   exact Rl hE hP hcall hpure (Z3A hE hP hcall hpure n) c _ .ret st hcm hc _ σ _ w hrel (hfin st hb)
  ·cases hb
theorem Zcj (hE:Ci E) (hP:E.P=P) {call:Dl} (hcall:∀B w0,JL P E B w0 call) (hpure:OB E call) {fn:Func} (hfn:E.func f=some fn) {n:Nat} {as:List V} {H' : Heap} {r0 r:V}
  (hb:P6 call n E f fn as []=some (r0,H')) (hfr:JU H' r0=some r):OO P E f as r:=by
 intro fz w vs hcells hg hr
 have hI:Inv w.heap.size (Start.of w fz) (bare fz) [] w:=⟨Below.refl _ w,Nat.le_refl _,fun id L hL=>(by cases hL),fun id bx hb=>by simp at hb,fun i j b1 b2 L1 L2 g h1=>by simp at h1,hcells,
  fun b c hc id bx L hb=>by simp at hb,fun id bx hb=>by simp at hb,fun b c hc _=>hc,fun b hb=>hb.elim⟩
 obtain⟨_,hc⟩:=Zeq hE hP (hcall w.heap.size (Start.of w fz)) hpure hfn hb hI hg hr
 refine hc.mono ?_
 rintro e w' ⟨u,σ',rfl,hI',hEx',hr'⟩
 obtain⟨hI2,hEx2⟩:=hI'.freeze (O6 r0)
 have hr2:=Z2z hI' hr' hfr (O6 r0) (fun i hi=>hi)
 have hn:=Z1N hI' hr' hfr
 refine⟨u,(σ'.freeze H' (O6 r0)).fz,rfl,hI2.below,fun b c h=>(hEx2.fz b c (hEx'.fz b c h).1).1,fun b c h hlt=>hI2.old b c h hlt,hI2.cells,?_,hn⟩
 exact hr2.bare (fun b c h=>⟨h,rfl⟩) (EM.refl _) (by simp [CJ,hn])
theorem ZnQ {H:Heap}:∀{xs ys:List V},FN H xs=some ys->xs.length=ys.length:=by
 intro xs
 induction xs with
 | nil=>intro ys h;simp [FN] at h;subst h;rfl
 | cons x xs ih=>
  intro ys h
  simp only [FN] at h
  split at h
  ·rename_i a b ha hb
   simp only [Option.some.injEq] at h
   subst h
   simp [ih hb]
  ·cases h
theorem Zzp {H H' : Heap} {x:V} (h:DV (Cj x) H H'):O5 H' x=O5 H x:=by
 unfold O5
 split
 ·rename_i id i off tot
  split
  ·cases hb:DW H id tot with
   | none=>rw [RX (h id (by simp [Cj,Dz])) hb]
   | some b=>
    obtain⟨b',h1,h2⟩:=Ov (h id (by simp [Cj,Dz])) hb
    obtain⟨e1,e2,e3,e4,e5⟩:=Rw h2
    simp only [h1,e1,e4,e5]
  ·rfl
 ·exact Zen h
theorem Zt1 {H H' : Heap} {xs:List V} (h:DV (xs.flatMap Cj) H H'):KU H' xs=KU H xs:=by
 induction xs with
 | nil=>rfl
 | cons x xs ih=>
  simp only [KU]
  rw [Zzp (fun i hi=>h i (by simp [hi])),ih (fun i hi=>h i (by rw [List.flatMap_cons];exact List.mem_append_right _ hi))]
theorem Zwz (n:Nat):sW E (Eh E n):=by
 intro f hp args H v H1 h
 cases n with
 | zero=>cases h
 | succ n=>
  unfold Eh at h
  cases henv:E.env f with
  | some F=>
   simp only [henv] at h
   by_cases hq:args.any SE=true
   ·rw [if_pos hq] at h
    have ho:E.own f=none:=by simpa using (Bool.and_eq_true_iff.1 hp).2
    cases hf:KU H args with
    | none=>simp [hf,ho] at h
    | some as=>
     simp only [hf,ho] at h
     cases hF:F (GG E.rows (E.par f) as) with
     | none=>simp [hF] at h
     | some r=>
      simp only [hF] at h
      split at h
      ·rename_i hfl
       simp only [Option.some.injEq,Prod.mk.injEq] at h
       refine⟨h.2.symm,fun H' hs=>?_⟩
       unfold Eh
       simp only [henv]
       rw [if_pos hq,Zt1 hs,hf]
       simp only [ho,hF]
       rw [if_pos hfl,h.1]
      ·cases h
   rw [if_neg hq] at h
   cases hf:FN H args with
   | none=>simp [hf] at h
   | some as=>
    have ho:E.own f=none:=by simpa using (Bool.and_eq_true_iff.1 hp).2
    simp only [hf,ho] at h
    cases hF:F (GG E.rows (E.par f) as) with
    | none=>simp [hF] at h
    | some r=>
     simp only [hF,Option.map_some,Option.some.injEq,Prod.mk.injEq] at h
     refine⟨h.2.symm,fun H' hs=>?_⟩
     unfold Eh
     simp only [henv]
     rw [if_neg hq,Z1L hs,hf]
     simp only [ho,hF,Option.map_some,h.1]
  | none=>
   have hpf:E.pure f=true:=by simpa [henv] using (Bool.and_eq_true_iff.1 hp).1
   simp only [henv,hpf,if_true] at h
   cases hfn:E.func f with
   | none=>simp [hfn] at h
   | some fn=>
    simp only [hfn] at h
    cases hf:FN H args with
    | none=>simp [hf] at h
    | some as=>
     simp only [hf] at h
     cases hbd:P6 (Eh E n) n E f fn as [] with
     | none=>simp [hbd] at h
     | some rr=>
      obtain⟨r0,H2⟩:=rr
      simp only [hbd] at h
      cases hft:JU H2 r0 with
      | none=>simp [hft] at h
      | some r=>
       simp only [hft,Option.map_some,Option.some.injEq,Prod.mk.injEq] at h
       refine⟨h.2.symm,fun H' hs=>?_⟩
       unfold Eh
       simp only [henv,hpf,if_true,hfn]
       rw [Z1L hs,hf]
       simp only [hbd,hft,Option.map_some,h.1]
theorem pR (H:Heap) (a b:List Nat):bump (bump H a) b=bump H (a++b):=by
 induction a generalizing H with
 | nil=>rfl
 | cons i a ih=>simp only [bump,List.cons_append,ih]
theorem Zc3 {f:Fk} {H H1:Heap} {x y:V} (h:Ht f H x=some (y,H1)) (hn:EL y=[]):∃ids,(∀i∈ids,i∈Dz x)/\H1=bump H ids/\∀H',DV (Dz x) H H' -> Ht f H' x=some (y,bump H' ids):=by
 cases f with
 | s e sz=>
  simp only [Ht] at h
  cases hf:IA H x with
  | none=>simp [hf] at h
  | some w=>
   simp only [hf,Option.map_some,Option.some.injEq,Prod.mk.injEq] at h
   obtain⟨rfl,rfl⟩:=h
   exact⟨FB x,fun i hi=>ZdK hi,rfl,fun H' hs=>by simp only [Ht,Z3h hs,hf,Option.map_some]⟩
 | own e sz=>
  exfalso
  simp only [Ht,gJ] at h
  split at h
  ·simp only [Option.some.injEq,Prod.mk.injEq] at h
   rw [<- h.1] at hn
   simp [EL] at hn
  ·simp only [Option.some.injEq,Prod.mk.injEq] at h
   rw [<- h.1] at hn
   simp [EL] at hn
  ·split at h
   ·simp only [Option.some.injEq,Prod.mk.injEq] at h
    rw [<- h.1] at hn
    simp [EL] at hn
   ·cases h
  ·cases h
 | keep=>
  simp only [Ht,Option.some.injEq,Prod.mk.injEq] at h
  obtain⟨rfl,rfl⟩:=h
  exact⟨[],by simp,rfl,fun H' _=>rfl⟩
 | drop=>
  simp only [Ht,Option.some.injEq,Prod.mk.injEq] at h
  obtain⟨rfl,rfl⟩:=h
  exact⟨[],by simp,rfl,fun H' _=>rfl⟩
theorem Zuq:∀{fl:List Fk} {H H1:Heap} {xs ys:List V},Hu fl H xs=some (ys,H1)->D5 ys=[]->∃ids,(∀i∈ids,i∈xs.flatMap Dz)/\H1=bump H ids/\∀H',DV (xs.flatMap Dz) H H' -> Hu fl H' xs=some (ys,bump H' ids):=by
 intro fl
 induction fl with
 | nil=>
  intro H H1 xs ys h hn
  cases xs with
  | nil=>
   simp only [Hu,Option.some.injEq,Prod.mk.injEq] at h
   obtain⟨rfl,rfl⟩:=h
   exact⟨[],by simp,rfl,fun H' _=>rfl⟩
  | cons=>simp [Hu] at h
 | cons f fl ih=>
  intro H H1 xs ys h hn
  cases xs with
  | nil=>simp [Hu] at h
  | cons x xs=>
   simp only [Hu] at h
   cases h1:Ht f H x with
   | none=>simp [h1] at h
   | some r=>
    obtain⟨y,Ha⟩:=r
    simp only [h1] at h
    cases h2:Hu fl Ha xs with
    | none=>simp [h2] at h
    | some q=>
     obtain⟨zs,Hb⟩:=q
     simp only [h2,Option.some.injEq,Prod.mk.injEq] at h
     obtain⟨rfl,rfl⟩:=h
     simp only [D5,List.append_eq_nil_iff] at hn
     obtain⟨i1,a1,rfl,a3⟩:=Zc3 h1 hn.1
     obtain⟨i2,b1,rfl,b3⟩:=ih h2 hn.2
     refine⟨i1++i2,fun i hi=>?_,pR H i1 i2,fun H' hs=>?_⟩
     ·rw [List.flatMap_cons]
      rcases List.mem_append.1 hi with hi|hi
      ·exact List.mem_append_left _ (a1 i hi)
      ·exact List.mem_append_right _ (b1 i hi)
     ·have hs1:DV (Dz x) H H' :=fun i hi=>hs i (by rw [List.flatMap_cons];exact List.mem_append_left _ hi)
      have hs2:DV (xs.flatMap Dz) (bump H i1) (bump H' i1):=(QT _ i1 H).symm.trans (DV.trans (fun i hi=>hs i (by rw [List.flatMap_cons];exact List.mem_append_right _ hi)) (QT _ i1 H'))
      simp only [Hu,a3 H' hs1,b3 _ hs2,pR]
theorem Zwq {fl:List Fk} {H H1:Heap} {x y:V} (h:Jm fl H x=some (y,H1)) (hn:EL y=[]):∃ids,(∀i∈ids,i∈Cj x)/\H1=bump H ids/\∀H',DV (Cj x) H H' -> Jm fl H' x=some (y,bump H' ids):=by
 unfold Jm at h
 split at h
 ·rename_i cs
  cases h1:Hu fl H cs with
  | none=>simp [h1] at h
  | some r=>
   obtain⟨ys,Ha⟩:=r
   simp only [h1,Option.map_some,Option.some.injEq,Prod.mk.injEq] at h
   obtain⟨rfl,rfl⟩:=h
   obtain⟨ids,a1,a2,a3⟩:=Zuq h1 (by simpa [EL] using hn)
   exact⟨ids,a1,a2,fun H' hs=>by simp only [Jm,a3 H' hs,Option.map_some]⟩
 ·rename_i hne
  have hr:∀i∈Dz x,i∈Cj x:=fun i hi=>by
   cases x with
   | fn f a b=>simp [Dz] at hi
   | agg cs=>exact absurd rfl (hne cs)
   | _=>exact hi
  split at h
  ·rename_i f
   obtain⟨ids,a1,a2,a3⟩:=Zc3 h hn
   refine⟨ids,fun i hi=>hr i (a1 i hi),a2,fun H' hs=>?_⟩
   unfold Jm
   split
   ·rename_i cs;exact absurd rfl (hne cs)
   ·exact a3 H' (fun i hi=>hs i (hr i hi))
  ·cases h
theorem Zvh:∀{fa:List (List Fk)} {H H1:Heap} {xs ys:List V},IE fa H xs=some (ys,H1)->D5 ys=[]->∃ids,(∀i∈ids,i∈xs.flatMap Cj)/\H1=bump H ids/\∀H',DV (xs.flatMap Cj) H H' -> IE fa H' xs=some (ys,bump H' ids):=by
 intro fl
 induction fl with
 | nil=>
  intro H H1 xs ys h hn
  cases xs with
  | nil=>
   simp only [IE,Option.some.injEq,Prod.mk.injEq] at h
   obtain⟨rfl,rfl⟩:=h
   exact⟨[],by simp,rfl,fun H' _=>rfl⟩
  | cons=>simp [IE] at h
 | cons f fl ih=>
  intro H H1 xs ys h hn
  cases xs with
  | nil=>simp [IE] at h
  | cons x xs=>
   simp only [IE] at h
   cases h1:Jm f H x with
   | none=>simp [h1] at h
   | some r=>
    obtain⟨y,Ha⟩:=r
    simp only [h1] at h
    cases h2:IE fl Ha xs with
    | none=>simp [h2] at h
    | some q=>
     obtain⟨zs,Hb⟩:=q
     simp only [h2,Option.some.injEq,Prod.mk.injEq] at h
     obtain⟨rfl,rfl⟩:=h
     simp only [D5,List.append_eq_nil_iff] at hn
     obtain⟨i1,a1,rfl,a3⟩:=Zwq h1 hn.1
     obtain⟨i2,b1,rfl,b3⟩:=ih h2 hn.2
     refine⟨i1++i2,fun i hi=>?_,pR H i1 i2,fun H' hs=>?_⟩
     ·rw [List.flatMap_cons]
      rcases List.mem_append.1 hi with hi|hi
      ·exact List.mem_append_left _ (a1 i hi)
      ·exact List.mem_append_right _ (b1 i hi)
     ·have hs1:DV (Cj x) H H' :=fun i hi=>hs i (by rw [List.flatMap_cons];exact List.mem_append_left _ hi)
      have hs2:DV (xs.flatMap Cj) (bump H i1) (bump H' i1):=(QT _ i1 H).symm.trans (DV.trans (fun i hi=>hs i (by rw [List.flatMap_cons];exact List.mem_append_right _ hi)) (QT _ i1 H'))
      simp only [IE,a3 H' hs1,b3 _ hs2,pR]
theorem Zur {n:Nat} {H H2:Heap} {todo ids:List Nat} (h:Jl n [] H todo []=some (H2,ids)):todo=[]/\H2=H/\ids=[]:=by
 cases n with
 | zero=>cases h
 | succ n=>
  cases todo with
  | nil=>
   simp only [Jl,Option.some.injEq,Prod.mk.injEq] at h
   exact⟨rfl,h.1.symm,h.2.symm⟩
  | cons i todo=>
   exfalso
   unfold Jl at h
   simp only [List.contains_nil,Bool.false_eq_true,if_false] at h
   split at h<;>first|(cases h;done)|simp_all
theorem Zuc {hs:VK} (hfb:hs.fb=[]) {args:List V} {H H1:Heap} {v:V} (h:OX hs args H=some (v,H1)) :
  ∃ids nbs,(∀i∈ids,i∈args.flatMap Cj)/\H1=bump H ids++nbs/\∀H',H'.length=H.length->DV (args.flatMap Cj) H H' -> OX hs args H' = some (v,bump H' ids++nbs):=by
 unfold OX at h
 unfold pack at h
 rw [hfb] at h
 cases hp:IE hs.fa H args with
 | none=>simp [hp] at h
 | some r=>
  obtain⟨as,Ha⟩:=r
  simp only [hp] at h
  cases hk:Jl 1000 [] Ha (List.range 0++D5 as) [] with
  | none=>rw [hk] at h;cases h
  | some q=>
   obtain⟨H2,ids0⟩:=q
   obtain⟨hr,rfl,rfl⟩:=Zur hk
   simp only [List.range_zero,List.nil_append] at hr
   obtain⟨ids,a1,rfl,a3⟩:=Zvh hp hr
   simp only [hk] at h
   cases hrun:hs.run (Gi (([]:List Nat).idxOf ·) as) (Ih (bump H ids) []) with
   | none=>rw [hrun] at h;cases h
   | some rr=>
    obtain⟨r,H3⟩:=rr
    simp only [hrun,List.length_nil,Nat.zero_le,if_true,Option.some.injEq,Prod.mk.injEq,bump_length] at h
    obtain⟨rfl,rfl⟩:=h
    refine⟨ids,H3.map (Fg (JP [] H.length)),a1,by simp only [OA,P8,bump_length],fun H' hl hs' =>?_⟩
    unfold OX pack
    rw [hfb,a3 H' hs']
    simp only [List.range_zero,List.nil_append,hr,Jl]
    have hsub:Ih (bump H' ids) []=Ih (bump H ids) []:=rfl
    simp only [hsub,hrun,List.length_nil,Nat.zero_le,if_true,bump_length,hl,OA,P8]
theorem Zva (n:Nat):tX E (Eh E n):=by
 intro f hf args H v H1 h
 cases n with
 | zero=>cases h
 | succ n=>
  have hf0:=hf
  unfold PW at hf
  simp only [Bool.and_eq_true,Option.isNone_iff_eq_none,Bool.not_eq_true'] at hf
  obtain⟨⟨h1,h2⟩,h3⟩:=hf
  cases hh:E.hm f [] with
  | none=>rw [hh] at h3;cases h3
  | some hs=>
   rw [hh] at h3
   have hfb:hs.fb=[]:=by simpa using h3
   have he:∀H,Eh E (n+1) f args H=OX hs args H:=fun H=>by
    unfold Eh
    simp only [h1,h2,Bool.false_eq_true,if_false,hf0,if_true,hh]
   rw [he] at h
   obtain⟨ids,nbs,a1,a2,a3⟩:=Zuc hfb h
   exact⟨ids,nbs,a1,a2,fun H' hl hs' =>by rw [he];exact a3 H' hl hs'⟩
theorem UU (n:Nat):OB E (Eh E n):=⟨Zwz n,Zva n⟩
def gY (w:World) (b c:Nat):Prop:=∃u,w.cell? ⟨b,c,none⟩=some u
theorem Zz4 {σ σ' : Sg} {w w' : World} {cs:List V} {ws:List Value} (h:AQ σ w cs ws):AQ σ' w' (cs.map VP) ws:=by
 induction cs generalizing ws with
 | nil=>cases h.FM;exact .nil
 | cons c cs ih=>
  obtain⟨v,vs,rfl,h1,h2⟩:=h.Dq
  simp only [List.map_cons]
  refine AQ.FH.2 ⟨?_,ih h2⟩
  cases h1 with
  | lit hl _=>exact .lit hl .nil
  | _=>exact .und _ .nil
theorem Zbz (cs:List V):CJ (cs.map VP)=true:=by
 induction cs with
 | nil=>rfl
 | cons c cs ih=>cases c<;>simp [VP,CJ,CU,ih]
theorem ZwS {B:Nat} {w0:Start} {σ:Sg} {H:Heap} {w:World} (h:Inv B w0 σ H w) {x y:V} {v:Value} (hr:AQ σ w [x] [v]) (hs:O5 H x=some y):AQ (bare (gY w)) w [y] [v]/\CU y=true:=by
 unfold O5 at hs
 split at hs
 ·rename_i id i off tot
  split at hs
  ·rename_i hz
   obtain⟨rfl,rfl⟩:=hz
   split at hs
   ·rename_i b hb
    obtain⟨b1,b2,b3⟩:=U2 hb
    split at hs
    ·rename_i cs hrow hxs
     simp only [Option.some.injEq] at hs
     subst hs
     obtain⟨L,us,m⟩:=h.meet b1 b2
     cases hr with
     | ptr g k1 k2 k3 k4 k5=>
      rename_i L'
      have hL:L' = L:=by
       have:=m.box
       rw [k1] at this
       cases this
       rfl
      subst hL
      obtain⟨n,c,hv⟩:=k3 (m.tot.trans b3)
      have hrep:=m.D9
      rw [hxs] at hrep
      have hus:∃ws:List Value,us=[.agg ws.toArray]/\AQ σ w cs ws/\∀u∈ws,u.oneCell' = true:=by
       cases hrep with
       | agg q1 q2 q3=>cases q3;exact⟨_,rfl,q1,q2⟩
      obtain⟨ws,hus,hcs,hone⟩:=hus
      refine⟨?_,by simp [CU,CJ,Zbz]⟩
      have key:AQ (bare (gY w)) w [.CG b.Ap [.agg (cs.map VP)] 0 0] [.pointer (some ⟨g,0+0*b.Ap+0,none⟩)]:=by
       refine .CG (us:=us) g 0 b.Ap 0 0 ?_ ?_ (fun u hu=>by rw [m.Ap];exact m.sizes u hu) m.ones ?_ .nil
       ·rw [hus];exact .agg (Zz4 hcs) hone .nil
       ·intro x hx
        simp only [List.mem_singleton] at hx
        subst hx
        simp [Em,okV,CU,Zbz]
       ·intro j u hu
        have:=m.cell (g:=g) (by rw [hv];rfl) j u hu
        rw [Nat.zero_add]
        exact⟨⟨u,this⟩,this⟩
      rw [k4]
      simpa using key
    ·rename_i z hrow hxs
     simp only [Option.some.injEq] at hs
     subst hs
     obtain⟨L,us,m⟩:=h.meet b1 b2
     cases hr with
     | ptr g k1 k2 k3 k4 k5=>
      rename_i L'
      have hL:L' = L:=by
       have:=m.box
       rw [k1] at this
       cases this
       rfl
      subst hL
      obtain⟨n,c,hv⟩:=k3 (m.tot.trans b3)
      have hrep:=m.D9
      rw [hxs] at hrep
      have hus:us=[z]/\leaf z=true:=by
       cases hrep with
       | lit q1 q2=>cases q2;exact⟨rfl,q1⟩
      obtain⟨hus,hz⟩:=hus
      refine⟨?_,by simp [CU,CJ]⟩
      have key:AQ (bare (gY w)) w [.CG b.Ap [.lit z] 0 0] [.pointer (some ⟨g,0+0*b.Ap+0,none⟩)]:=by
       refine .CG (us:=us) g 0 b.Ap 0 0 ?_ ?_ (fun u hu=>by rw [m.Ap];exact m.sizes u hu) m.ones ?_ .nil
       ·rw [hus];exact .lit hz .nil
       ·intro x hx
        simp only [List.mem_singleton] at hx
        subst hx
        simp [Em,okV,CU]
       ·intro j u hu
        have:=m.cell (g:=g) (by rw [hv];rfl) j u hu
        rw [Nat.zero_add]
        exact⟨⟨u,this⟩,this⟩
      rw [k4]
      simpa using key
    ·cases hs
   ·cases hs
  ·cases hs
 ·have hn:=qL h hr hs
  refine⟨?_,hn⟩
  obtain⟨hI1,hEx1⟩:=h.freeze (Dj x)
  have:=qX h hr hs (Dj x) (fun i hi=>hi)
  exact this.bare (fun b c hh=>⟨hI1.cells b c hh,rfl⟩) (EM.refl _) (by simp [CJ,hn])
theorem ZoO {B:Nat} {w0:Start} {σ:Sg} {H:Heap} {w:World} (h:Inv B w0 σ H w):∀{xs ys:List V} {vs:List Value},AQ σ w xs vs->KU H xs=some ys->AQ (bare (gY w)) w ys vs/\CJ ys=true:=by
 intro xs
 induction xs with
 | nil=>
  intro ys vs hr hs
  cases hr.FM
  simp only [KU,Option.some.injEq] at hs
  subst hs
  exact⟨.nil,rfl⟩
 | cons x xs ih=>
  intro ys vs hr hs
  obtain⟨v,vs',rfl,h1,h2⟩:=hr.Dq
  simp only [KU] at hs
  split at hs
  ·rename_i y ys' e1 e2
   simp only [Option.some.injEq] at hs
   subst hs
   obtain⟨r1,n1⟩:=ZwS h h1 e1
   obtain⟨r2,n2⟩:=ih h2 e2
   exact⟨AQ.FH.2 ⟨r1,r2⟩,by simp [CJ,n1,n2]⟩
  ·cases hs
theorem Zci {σ σ' : Sg} {w w' : World} {cs:List V} {ws:List Value} (h:AQ σ w cs ws) (hl:cs.all Ic=true):AQ σ' w' cs ws:=by
 induction cs generalizing ws with
 | nil=>cases h.FM;exact .nil
 | cons c cs ih=>
  obtain⟨v,vs,rfl,h1,h2⟩:=h.Dq
  simp only [List.all_cons,Bool.and_eq_true] at hl
  refine AQ.FH.2 ⟨?_,ih h2 hl.2⟩
  cases h1 with
  | lit hl' _=>exact .lit hl' .nil
  | _=>simp [Ic] at hl
theorem Zui {σ σ' : Sg} {w w' : World} {x:V} {u:Value} (h:AQ σ w [x] [u]) (hl:Jo x=true):AQ σ' w' [x] [u]:=by
 cases h with
 | lit hl' _=>exact .lit hl' .nil
 | agg h1 h2 _=>exact .agg (Zci h1 (by simpa [Jo] using hl)) h2 .nil
 | _=>simp [Jo] at hl
theorem Zw7 {σ σ' : Sg} {w w' : World} {cs:List V} {ws:List Value} (h:AQ σ w cs ws) (hl:cs.all Jo=true):AQ σ' w' cs ws:=by
 induction cs generalizing ws with
 | nil=>cases h.FM;exact .nil
 | cons c cs ih=>
  obtain⟨v,vs,rfl,h1,h2⟩:=h.Dq
  simp only [List.all_cons,Bool.and_eq_true] at hl
  exact AQ.FH.2 ⟨Zui h1 hl.1,ih h2 hl.2⟩
theorem Zy0 {σ σ' : Sg} {w w' : World} {x:V} {u:Value} (h:AQ σ w [x] [u]) (hl:O1 x=true):AQ σ' w' [x] [u]:=by
 cases h with
 | lit hl' _=>exact .lit hl' .nil
 | agg h1 h2 _=>exact .agg (Zci h1 (by simpa [O1,Jo] using hl)) h2 .nil
 | BF h1 _=>exact .BF (Zw7 h1 (by simpa [O1] using hl)) .nil
 | _=>simp [O1,Jo] at hl
theorem ZrG {P:Program} {E:Env} {B:Nat} {w0:Start} {σ:Sg} {H:Heap} {w:World} {f:FuncId} {args as:List V} {r:V} {vs:List Value} (ts:List TypeId) (hp:CJ (GG E.rows ts as)=true->OO P E f (GG E.rows ts as) r) (hf:KU H args=some as) (hfl:O1 r=true) (hI:Inv B w0 σ H w) (hg:Di E σ w) (hr:AQ σ w args vs) :
  Calls P f vs.toArray w fun e w' =>∃u σ',e = .returned u/\Inv B w0 σ' (bump H (args.flatMap Dj)) w' /\ Ext σ w σ' w' /\ AQ σ' w' [r] [u]:=by
 obtain⟨hI1,hEx1⟩:=hI.freeze (args.flatMap Dj)
 obtain⟨r1,n1⟩:=ZoO hI hr hf
 have hr1:=ZN E.rows ts r1
 refine(hp (by rw [kK];exact n1) (gY w) w vs (fun b c h=>h) (hg.bare (fun b c h=>⟨hI.cells b c h,rfl⟩) (EM.refl _)) hr1).mono ?_
 rintro e w' ⟨u,fz',rfl,hb,hmono,hold,hcells,hru,hnr⟩
 obtain⟨hI2,hEx2⟩:=hI1.grown (Below.grownBy hb)
 exact⟨u,_,rfl,hI2,hEx1.trans hEx2,Zy0 hru hfl⟩
theorem Z2Z (hE:Ci E) (hP:E.P=P) (hF:Qb P E):∀(n:Nat) (B:Nat) (w0:Start),JL P E B w0 (Eh E n):=by
 intro n
 induction n with
 | zero=>intro B w0 f args H x H' σ w vs h;cases h
 | succ n ih=>
  intro B w0 f args H x H' σ w vs h hI hg hr
  unfold Eh at h
  cases henv:E.env f with
  | some F=>
   simp only [henv] at h
   by_cases hq:args.any SE=true
   ·rw [if_pos hq] at h
    cases ho:E.own f with
    | some e=>simp [ho] at h
    | none=>
     cases hf:KU H args with
     | none=>simp [ho,hf] at h
     | some as=>
      simp only [ho,hf] at h
      cases hFa:F (GG E.rows (E.par f) as) with
      | none=>simp [hFa] at h
      | some r=>
       simp only [hFa] at h
       split at h
       ·rename_i hfl
        simp only [Option.some.injEq,Prod.mk.injEq] at h
        obtain⟨rfl,rfl⟩:=h
        obtain⟨h1,h2⟩:=hF.env f F henv
        refine⟨h1,ZrG (E.par f) (fun hn=>?_) hf hfl hI hg hr⟩
        have h3:=h2 _ r hn hFa
        rw [ho] at h3
        exact h3
       ·cases h
   rw [if_neg hq] at h
   cases hf:FN H args with
   | none=>simp [hf] at h
   | some as=>
    simp only [hf] at h
    cases hFa:F (GG E.rows (E.par f) as) with
    | none=>
     cases ho:E.own f<;>simp [ho,hFa] at h
    | some r=>
     obtain⟨h1,h2⟩:=hF.env f F henv
     have h3:=h2 _ r (by rw [kK];exact Xb hI hr hf) hFa
     cases ho:E.own f with
     | none=>
      simp only [ho,hFa,Option.map_some,Option.some.injEq,Prod.mk.injEq] at h
      obtain⟨rfl,rfl⟩:=h
      rw [ho] at h3
      exact⟨h1,Zbk (E.par f) h3 hf hI hg hr⟩
     | some e=>
      simp only [ho,hFa] at h
      rw [ho] at h3
      split at h
      ·rename_i sz xs hr0
       simp only [Option.some.injEq,Prod.mk.injEq] at h hr0
       obtain⟨rfl,rfl⟩:=h
       exact⟨h1,ZcF (E.par f) (h3 sz xs hr0) hf hI hg hr⟩
      ·cases h
  | none=>
   simp only [henv] at h
   split at h
   ·cases hfn:E.func f with
    | none=>simp [hfn] at h
    | some fn=>
     simp only [hfn] at h
     cases hf:FN H args with
     | none=>simp [hf] at h
     | some as=>
      simp only [hf] at h
      cases hbd:P6 (Eh E n) n E f fn as [] with
      | none=>simp [hbd] at h
      | some rr=>
       obtain⟨r0,H2⟩:=rr
       simp only [hbd] at h
       cases hft:JU H2 r0 with
       | none=>simp [hft] at h
       | some r=>
        simp only [hft,Option.map_some,Option.some.injEq,Prod.mk.injEq] at h
        obtain⟨rfl,rfl⟩:=h
        have hent:OD P f:=by
         obtain⟨hf1,hf2⟩:=hE.func f fn hfn
         rw [hP] at hf1
         refine⟨fn,hf1,?_,hf2⟩
         unfold P6 at hbd
         cases hb:fn.body with
         | none=>simp [hb] at hbd
         | some c=>rfl
        exact⟨hent,Zbk [] (by simpa [GG] using Zcj hE hP ih (UU n) hfn hbd hft) hf hI hg hr⟩
   ·cases hhm:E.hm f (if PW E f then [] else MJ args) with
    | some hs=>
     simp only [hhm] at h
     obtain⟨h1,h2⟩:=hF.hm f _ hs hhm
     exact⟨h1,ZB2 h2 h hI hg hr⟩
    | none=>
     simp only [hhm] at h
     cases hfn:E.func f with
     | none=>simp [hfn] at h
     | some fn=>
      simp only [hfn] at h
      exact Zeq hE hP (ih B w0) (UU n) hfn h hI hg hr
theorem ZxY {n:Nat} {as:List V} {r:V} {H' : Heap} (hE:Ci E) (hP:E.P=P) (hF:Qb P E) (hp:E.pure f=true) (hne:E.env f=none) (hn:FN [] as=some as) (h:Eh E (n+1) f as []=some (r,H')):OO P E f as r:=by
 unfold Eh at h
 simp only [hne,hp,if_true] at h
 cases hfn:E.func f with
 | none=>simp [hfn] at h
 | some fn=>
  simp only [hfn,hn] at h
  cases hbd:P6 (Eh E n) n E f fn as [] with
  | none=>simp [hbd] at h
  | some rr=>
   obtain⟨r0,H2⟩:=rr
   simp only [hbd] at h
   cases hft:JU H2 r0 with
   | none=>simp [hft] at h
   | some r' =>
    simp only [hft,Option.map_some,Option.some.injEq,Prod.mk.injEq] at h
    obtain⟨rfl,_⟩:=h
    exact Zcj hE hP (Z2Z hE hP hF n) (UU n) hfn hbd hft
end
inductive SV (Ty:Nat->Type) where
 | lit (v:Value)
 | si (k:IntKind) (a:Int)
 | sb (b:Bool)
 | ss (s:ByteArray)
 | agg (cs:List (SV Ty))
 | BF (vs:List (SV Ty))
 | nil (e:Nat)
 | sl (t:Nat) (xs:List (Ty t))
 | Cb (t:Nat) (xs:List (Ty t))
 | all (id n:Nat)
 | Ba (id off len tot:Nat)
 | ptr (id i off tot:Nat)
 | CG (t:Nat) (xs:List (Ty t)) (i off:Nat)
 | fn (f:FuncId) (first caps:List (SV Ty))
 | raw (v:V)
 | Oc (kvs:List (SV Ty))
 | TD (d:Nat) (cs:List V) (off:Nat)
 | no
 | und
instance (Ty:Nat->Type):Inhabited (SV Ty):=⟨.und⟩
structure CY where
 Ty:Nat->Type
 Ap:Nat->Nat
 enc:(t:Nat)->Ty t->V
 encS:(t:Nat)->Ty t->SV Ty
 Gq:(t:Nat)->SV Ty->Option (Ty t)
 keys:List Nat
section
variable (U:CY)
mutual
def AU:SV U.Ty->V
 | .lit v=>.lit v
 | .si k a=>.lit (.int k a)
 | .sb b=>.lit (.bool b)
 | .ss s=>.lit (.string s)
 | .agg cs=>.agg (Ar cs)
 | .BF cs=>.BF (Ar cs)
 | .nil e=>.sl true e []
 | .sl t xs=>.sl false (U.Ap t) (xs.map (U.enc t))
 | .Cb t xs=>.Cb false (U.Ap t) (xs.map (U.enc t))
 | .all id n=>.Ba id 0 n n
 | .Ba id off len tot=>.Ba id off len tot
 | .ptr id i off tot=>.ptr id i off tot
 | .CG t xs i off=>.CG (U.Ap t) (xs.map (U.enc t)) i off
 | .fn f a b=>.fn f (Ar a) (Ar b)
 | .raw v=>v
 | .Oc cs=>.GV (Ar cs)
 | .TD d cs off=>.CG d [.agg cs] 0 off
 | .no=>.no
 | .und=>.und
def Ar:List (SV U.Ty)->List V
 | []=>[]
 | x::xs=>AU x::Ar xs
end
inductive MW (Ty:Nat->Type) where
 | var (elem:TypeId) (Ap:Nat) (x:SV Ty)
 | row (t:Nat) (xs:List (Ty t)) (fl:Option Nat)
 | dead
 | fvar (elem:TypeId) (Ap:Nat) (x:SV Ty)
def MW.floor {Ty:Nat->Type} (fl:Option Nat):Nat:=fl.getD 0
def CW:MW U.Ty->Box
 | .var e n x=>Bg false false e n [AU U x]
 | .row t xs fl=>{ live:=true,row:=true,EX:=false,elem:=t,Ap:=U.Ap t,xs:=xs.map (U.enc t),floor:=fl.getD 0 }
 | .dead=>QX
 | .fvar e n x=>{ Bg false false e n [AU U x] with floor:=1 }
abbrev BC:=List (MW U.Ty)
def BL (H:BC U):Heap:=H.map (CW U)
structure D8 where
 s:List (SV U.Ty)
 H:BC U
def CX (st:D8 U):St:=⟨Ar U st.s,BL U st.H⟩
inductive Tr (L:Type) where
 | leaf (l:L)
 | br (c:Bool) (a b:Tr L)
 | bind (t:Nat) (o:Option (U.Ty t)) (k:U.Ty t->Tr L)
 | chk (c:Bool) (a:Tr L)
 | fail
variable {U}
def Tr.andThen {L M:Type}:Tr U L->(L->Tr U M)->Tr U M
 | .leaf l,f=>f l
 | .br c a b,f=>.br c (a.andThen f) (b.andThen f)
 | .bind t o k,f=>.bind t o fun x=>(k x).andThen f
 | .chk c a,f=>.chk c (a.andThen f)
 | .fail,_=>.fail
def Tr.map {L M:Type} (g:L->M):Tr U L->Tr U M
 | .leaf l=>.leaf (g l)
 | .br c a b=>.br c (a.map g) (b.map g)
 | .bind t o k=>.bind t o fun x=>(k x).map g
 | .chk c a=>.chk c (a.map g)
 | .fail=>.fail
def Tr.den {L R:Type} (J:L->Option R):Tr U L->Option R
 | .leaf l=>J l
 | .br c a b=>cond c (a.den J) (b.den J)
 | .bind t o k=>o.bind fun x=>(k x).den J
 | .chk c a=>cond c (a.den J) none
 | .fail=>none
def Tr.AY {L:Type}:Tr U L->L->Prop
 | .leaf l,x=>l=x
 | .br c a b,x=>(c=true/\a.AY x)\/(c=false/\b.AY x)
 | .bind t o k,x=>∃a,o=some a/\(k a).AY x
 | .chk c a,x=>c=true/\a.AY x
 | .fail,_=>False
def Tr.opt {L:Type}:Option L->Tr U L
 | some l=>.leaf l
 | none=>.fail
def Tr.when {L:Type} (p:Prop) [Decidable p] (a:Tr U L):Tr U L:=if p then a else .fail
variable (U)
def Qn:V->SV U.Ty
 | .lit v=>.lit v
 | .sl true e []=>.nil e
 | .no=>.no
 | .und=>.und
 | v=>.raw v
def J8:V->SV U.Ty
 | .agg cs=>.agg (cs.map (Qn U))
 | v=>Qn U v
variable {U}
def cellsS:SV U.Ty->List (SV U.Ty)
 | .agg cs=>cs
 | v=>[v]
def okS:SV U.Ty->Bool
 | .und | .no | .BF _ | .Oc _ | .TD ..=>false
 | .raw (.agg _)=>false
 | .raw v=>okV v
 | _=>true
def Vd:SV U.Ty->Option Value
 | .lit v=>some v
 | .si k a=>some (.int k a)
 | .sb b=>some (.bool b)
 | .ss s=>some (.string s)
 | _=>none
def asInt:SV U.Ty->Option (IntKind×Int)
 | .lit (.int k a)=>some (k,a)
 | .si k a=>some (k,a)
 | _=>none
def JQ:SV U.Ty->Option ByteArray
 | .lit (.string s)=>some s
 | .ss s=>some s
 | _=>none
def asBool:SV U.Ty->Option Bool
 | .lit (.bool b)=>some b
 | .sb b=>some b
 | _=>none
def Cm (E:Env) (s:List (SV U.Ty)):Operand->SV U.Ty
 | .tmp t=>s.getD t .und
 | .const v=>J8 U (PD v)
 | .func f=>.fn f [] []
 | .global g=>match E.Ea g with|some r=>.raw (.CG r.length [.agg r] 0 0)|none=>.und
def Qp (s:List (SV U.Ty)) (d:Option Tmp) (v:SV U.Ty):List (SV U.Ty):=match d with|some t=>s.set t v|none=>s
def OL (H:BC U) (k:Nat) (b:MW U.Ty):BC U:=if k<H.length then H.set k b else H++[b]
def rowAt {L:Type} (H:BC U) (id tot:Nat) (k:(t:Nat)->List (U.Ty t)->Option Nat->Tr U L):Tr U L:=
 match H[id]? with
 | some (.row t xs fl)=>.chk (xs.length==tot) (k t xs fl)
 | _=>.fail
def NR (H:BC U):SV U.Ty->Tr U (SV U.Ty)
 | .lit v=>.leaf (.lit v)
 | .si k a=>.leaf (.si k a)
 | .sb b=>.leaf (.sb b)
 | .ss s=>.leaf (.ss s)
 | .nil e=>.leaf (.nil e)
 | .sl t xs=>.leaf (.sl t xs)
 | .Cb t xs=>.leaf (.sl t xs)
 | .all id n=>rowAt H id n fun t xs _=>.leaf (.sl t xs)
 | .Ba id off len tot=>rowAt H id tot fun t xs _=>.chk (decide (off+len<=tot)) (.leaf (.sl t ((xs.drop off).take len)))
 | .fn f [] []=>.leaf (.fn f [] [])
 | _=>.fail
def SY (H:BC U):List (SV U.Ty)->Tr U (List (SV U.Ty))
 | []=>.leaf []
 | v::vs=>(NR H v).andThen fun w=>(SY H vs).andThen fun ws=>.leaf (w::ws)
def Qv (H:BC U):SV U.Ty->Tr U (SV U.Ty)
 | .agg cs=>(SY H cs).andThen fun ws=>.leaf (.agg ws)
 | v=>NR H v
def PI (H:BC U):List (SV U.Ty)->Tr U (List (SV U.Ty))
 | []=>.leaf []
 | v::vs=>(Qv H v).andThen fun w=>(PI H vs).andThen fun ws=>.leaf (w::ws)
def O3:SV U.Ty->List Nat
 | .Ba id _ _ _=>[id]
 | .all id _=>[id]
 | .raw v=>FB v
 | _=>[]
def NP:SV U.Ty->List Nat
 | .agg cs=>cs.flatMap O3
 | .raw v=>Dj v
 | v=>O3 v
def rY:MW U.Ty->MW U.Ty
 | .row t xs _=>.row t xs (some xs.length)
 | b=>b
def P7 (H:BC U):List Nat->BC U
 | []=>H
 | i::is=>P7 (H.modify i rY) is
def Qe (cs:List (SV U.Ty)) (off n:Nat) (isAgg:Bool):Option (SV U.Ty):=
 if isAgg then (if off+n<=cs.length then some (.agg ((cs.drop off).take n)) else none) else cs[off]?
def Qa (e:Nat):List (SV U.Ty)->Option (List (U.Ty e))
 | []=>some []
 | v::vs=>match okS v,U.Gq e v,Qa e vs with|true,some a,some as=>some (a::as)|_,_,_=>none
def loadT (E:Env) (H:BC U) (t:TypeId) (a:SV U.Ty):Tr U (SV U.Ty):=
 match E.ti t with
 | none=>.fail
 | some i=>
  match a with
  | .CG et xs j off=>.bind et xs[j]? fun x=>.opt (Qe (cellsS (U.encS et x)) off i.size i.isAgg)
  | .ptr id j off tot=>match H[id]? with
   | some (.var _ _ x)=>.when (j=0/\tot=1/\okS x=true) (.opt (Qe (cellsS x) off i.size i.isAgg))
   | some (.row et xs _)=>.chk (xs.length==tot) (.bind et xs[j]? fun x=>.opt (Qe (cellsS (U.encS et x)) off i.size i.isAgg))
   | _=>.fail
  | .raw (.CG _ [.lit z] 0 0)=>.opt (Qe [.lit z] 0 i.size i.isAgg)
  | .raw (.CG _ [.agg cs] 0 off)=>.opt ((partOf cs off i.size i.isAgg).map (J8 U))
  | .TD _ cs off=>match Qa t (cs.map (Qn U)) with
   | some ys=>.when (i.size=1/\i.isAgg=false/\cs.all Ic=true) (.bind t ys[off]? fun x=>.leaf (U.encS t x))
   | none=>.fail
  | _=>.fail
def rG (x:SV U.Ty) (off:Nat) (cs:List (SV U.Ty)):Option (SV U.Ty):=
 match x with
 | .agg ds=>if off+cs.length<=ds.length then some (.agg (ds.take off++cs++ds.drop (off+cs.length))) else none
 | .raw _=>none
 | _=>match off,cs with|0,[c]=>some c|_,_=>none
def storeT (E:Env) (H:BC U) (t:TypeId) (a v:SV U.Ty):Tr U (BC U):=
 match E.ti t with
 | none=>.fail
 | some i=>
  match a with
  | .ptr id j off tot=>match H[id]? with
   | some (.var e n x)=>.when ((j=0/\tot=1)/\(cellsS v).length=i.size/\okS v=true/\okS x=true)
     (match rG x off (cellsS v) with
      | some x' =>.when (okS x' = true) (.leaf (H.set id (.var e n x')))
      | none=>.fail)
   | some (.row et xs fl)=>.when ((cellsS v).length=i.size/\okS v=true/\(NP v).contains id=false)
     (.chk (xs.length==tot&&decide (fl.getD 0<=j)) (.bind et xs[j]? fun x=>(Qv H v).andThen fun v' =>
      match rG (U.encS et x) off (cellsS v') with
      | some x' =>match U.Gq et x' with
       | some y=>.when (okS v' = true/\okS x' = true) (.leaf ((P7 H (NP v)).set id (.row et (xs.set j y) fl)))
       | none=>.fail
      | none=>.fail))
   | _=>.fail
  | _=>.fail
end
section
variable {U:CY}
def intT (op:BinOp) (k:IntKind) (a b:Int) (lit:Bool):Tr U (SV U.Ty):=
 match op with
 | .add=>.leaf (.si k (k.wrap (a+b)))
 | .sub=>.leaf (.si k (k.wrap (a - b)))
 | .mul=>.leaf (.si k (k.wrap (a*b)))
 | .quo=>if lit then (if b=0 then .fail else .leaf (.si k (k.wrap (a.tdiv b)))) else .chk (b != 0) (.leaf (.si k (k.wrap (a.tdiv b))))
 | .rem=>if lit then (if b=0 then .fail else .leaf (.si k (a.tmod b))) else .chk (b != 0) (.leaf (.si k (a.tmod b)))
 | .and | .or | .xor | .andNot=>.leaf (.si k (bits op k a b))
 | .eql=>.leaf (.sb (a==b))
 | .neq=>.leaf (.sb (a != b))
 | .lss=>.leaf (.sb (decide (a<b)))
 | .leq=>.leaf (.sb (decide (a<=b)))
 | .gtr=>.leaf (.sb (decide (a>b)))
 | .geq=>.leaf (.sb (decide (a>=b)))
 | _=>.fail
def ZeP (op:BinOp) (k:IntKind) (a b:Int):Option Int:=
 match op with
 | .shl=>some (k.wrap (a*2 ^ min b.toNat k.bits))
 | .shr=>some (a.fdiv (2 ^ min b.toNat k.bits))
 | _=>none
def sF (op:BinOp) (k:IntKind) (a b:Int) (lit:Bool):Tr U (SV U.Ty):=
 match ZeP op k a b with
 | none=>.fail
 | some r=>if lit then (if b<0 then .fail else .leaf (.si k r)) else .chk (decide (0<=b)) (.leaf (.si k r))
def strT (op:BinOp) (x y:ByteArray):Tr U (SV U.Ty):=
 match op with
 | .add=>.chk (decide (x.size+y.size<=maxLen)) (.leaf (.ss (x++y)))
 | .eql=>.leaf (.sb (x.toList==y.toList))
 | .neq=>.leaf (.sb !(x.toList==y.toList))
 | .lss=>.leaf (.sb (Op.bytesLess x.toList y.toList))
 | .leq=>.leaf (.sb (Op.bytesLess x.toList y.toList||x.toList==y.toList))
 | .gtr=>.leaf (.sb !(Op.bytesLess x.toList y.toList||x.toList==y.toList))
 | .geq=>.leaf (.sb !(Op.bytesLess x.toList y.toList))
 | _=>.fail
def NI:List FK->List (SV U.Ty)->List (SV U.Ty)->Option Bool
 | [],[],[]=>some true
 | .b::ks,x::xs,y::ys=>match asBool x,asBool y,NI ks xs ys with|some a,some b,some r=>some (a==b&&r)|_,_,_=>none
 | .i k::ks,x::xs,y::ys=>match asInt x,asInt y,NI ks xs ys with
  | some (k1,a),some (k2,b),some r=>if k1=k/\k2=k then some (a==b&&r) else none
  | _,_,_=>none
 | .s::ks,x::xs,y::ys=>match JQ x,JQ y,NI ks xs ys with|some a,some b,some r=>some (a==b&&r)|_,_,_=>none
 | _,_,_=>none
def isLit:SV U.Ty->Bool | .lit _=>true|_=>false
def Z4u:SV U.Ty->SV U.Ty | .si k a=>.lit (.int k a) | .sb b=>.lit (.bool b)|v=>v
def binT (E:Env) (op:BinOp) (t:TypeId) (x y:SV U.Ty):Tr U (SV U.Ty):=
 match x,y with
 | .agg xs,.agg ys=>match E.flat t with
  | some ks=>match NI ks xs ys with
   | some b=>(match op with | .eql=>.leaf (.sb b) | .neq=>.leaf (.sb !b)|_=>.fail)
   | none=>.fail
  | none=>.fail
 | x,y=>match asInt x,asInt y with
  | some (k,a),some (j,b)=>(match op with
   | .shl=>sF .shl k a b (isLit y)
   | .shr=>sF .shr k a b (isLit y)
   | op=>if k=j then intT op k a b (isLit y) else .fail)
  | _,_=>match JQ x,JQ y with
   | some a,some b=>strT op a b
   | _,_=>match asBool x,asBool y with
    | some a,some b=>if E.isBool t then (match op with | .eql=>.leaf (.sb (a==b)) | .neq=>.leaf (.sb (!(a==b)))|_=>.fail) else .fail
    | _,_=>.fail
def unT (op:UnOp) (x:SV U.Ty):Tr U (SV U.Ty):=
 match op,asInt x,asBool x with
 | .neg,some (k,n),_=>.leaf (.si k (k.wrap (0 - n)))
 | .xor,some (k,n),_=>.leaf (.si k (bits .xor k (if k.signed then -1 else k.max) n))
 | .not,_,some b=>.leaf (.sb !b)
 | _,_,_=>.fail
def iM (isMax:Bool) (k:IntKind):Int->List (SV U.Ty)->Option Int
 | a,[]=>some a
 | a,x::rest=>match asInt x with
  | some (j,b)=>if k=j then iM isMax k (if isMax then (if b>a then b else a) else (if b<a then b else a)) rest else none
  | none=>none
def rV (isMax:Bool):List (SV U.Ty)->Tr U (SV U.Ty)
 | x::rest=>match asInt x with
  | some (k,a)=>(match iM isMax k a rest with|some r=>.leaf (.si k r)|none=>.fail)
  | none=>.fail
 | []=>.fail
def Qg (cs:List (SV U.Ty)):List (Nat×SV U.Ty)->(Nat->Option (Nat×Nat))->Option (List (SV U.Ty))
 | [],_=>some cs
 | (i,v)::rest,place=>
  match place i with
  | none=>none
  | some (off,size)=>if (cellsS v).length==size&&decide (off+size<=cs.length)&&okS v then Qg (cs.take off++cellsS v++cs.drop (off+size)) rest place else none
def Z3R (E:Env) (t:TypeId) (parts:List (Nat×SV U.Ty)):Option (SV U.Ty):=
 match E.ti t with
 | some i=>match i.zero with
  | some z=>
   if okV z then
    match i.ty with
    | .struct fs=>if fs.all fun x=>(E.ti x.2).isSome then (Qg (cellsS (J8 U z)) parts (placesOf E fs)).map .agg else none
    | .array _ e=>match E.ti e with
     | some ei=>(Qg (cellsS (J8 U z)) parts (fun i=>some (i*ei.size,ei.size))).map .agg
     | none=>none
    | _=>none
   else none
  | none=>none
 | none=>none
def Z1i (E:Env) (k:Nat) (H:BC U) (t:TypeId) (n:Nat) (parts:List (Nat×SV U.Ty)):Tr U (SV U.Ty×BC U):=
 match E.ti t with
 | some ⟨.slice e,_,_,_⟩=>match E.ti e with
  | some ei=>match ei.zero with
   | some z=>(PI H (parts.map (·.2))).andThen fun vs=>match Qa e vs with
    | some ys=>.when ((n*ei.size<=16777216/\0<ei.size/\z.cells.length=ei.size/\okV z=true)/\parts.map (·.1)=List.range n/\vs.all (fun v=>(cellsS v).length==ei.size)=true/\U.Ap e=ei.size)
      (.leaf (.all k n,OL (P7 H ((parts.map (·.2)).flatMap NP)) k (.row e ys none)))
    | none=>.fail
   | none=>.fail
  | none=>.fail
 | _=>.fail
def Z2c (E:Env) (s:TypeId) (x:SV U.Ty) (f:Nat):Option (SV U.Ty):=
 match E.ti s with
 | some ⟨.struct fs,_,_,_⟩=>match fs[f]? with
  | some (o,t)=>match E.size t with
   | some sz=>if sz=0 then none else match x with
    | .ptr id j off tot=>some (.ptr id j (off+o) tot)
    | .CG d xs j off=>some (.CG d xs j (off+o))
    | .raw (.CG d xs j off)=>some (.raw (.CG d xs j (off+o)))
    | _=>none
   | none=>none
  | none=>none
 | _=>none
def Z3X (E:Env) (s:TypeId) (x:SV U.Ty) (f:Nat):Option (SV U.Ty):=
 match E.ti s,x with
 | some ⟨.struct fs,_,_,_⟩,.agg cs=>match fs[f]? with
  | some (o,t)=>match E.ti t with|some i=>Qe cs o i.size i.isAgg|none=>none
  | none=>none
 | _,_=>none
def sK (H:BC U) (x:SV U.Ty) (e:Nat):Tr U (List (U.Ty e)):=
 let go (t:Nat) (xs:List (U.Ty t)):Tr U (List (U.Ty e)):=if h:t=e then .leaf (h▸xs) else .fail
 match x with
 | .nil _=>.leaf []
 | .sl t xs=>go t xs
 | .Cb t xs=>go t xs
 | .all id n=>rowAt H id n fun t xs _=>go t xs
 | .Ba id off len tot=>rowAt H id tot fun t xs _=>.chk (decide (off+len<=tot)) (go t ((xs.drop off).take len))
 | _=>.fail
def Z3F (E:Env) (k:Nat) (H:BC U) (t u:TypeId) (s x:SV U.Ty):Tr U (SV U.Ty×BC U):=
 match E.ti t with
 | some ⟨.slice e,_,_,_⟩=>match E.ti e with
  | some ei=>.when (u=t/\0<ei.size/\ei.TB=true/\U.Ap e=ei.size) ((sK H x e).andThen fun ys=>
    match s with
    | .all id n=>rowAt H id n fun t' xs fl=>if h:t' = e then
      .chk (decide ((n+ys.length)*ei.bytes<=lim)&&decide (n+ys.length<=maxLen))
       (.leaf (.all id ((h▸xs:List (U.Ty e))++ys).length,H.set id (.row e ((h▸xs:List (U.Ty e))++ys) fl)))
     else .fail
    | .Ba id off len tot=>rowAt H id tot fun t' xs fl=>if h:t' = e then
      .chk (decide (off=0)&&(decide (fl.getD 0<=len)&&(decide (len<tot)&&decide (len+ys.length<=tot))))
       (.leaf (.Ba id 0 (len+ys.length) tot,H.set id (.row e ((h▸xs:List (U.Ty e)).take len++ys++(h▸xs:List (U.Ty e)).drop (len+ys.length)) fl)))
     else .fail
    | .nil _=>.chk (decide (ys.length*ei.bytes<=lim)&&decide (ys.length<=maxLen)) (.leaf (.all k ys.length,OL H k (.row e ys none)))
    | .Cb t' xs=>if h:t' = e then
      .chk (decide ((xs.length+ys.length)*ei.bytes<=lim)&&decide (xs.length+ys.length<=maxLen))
       (.br ys.isEmpty (.leaf (.Cb t' xs,H)) (.leaf (.all k ((h▸xs:List (U.Ty e))++ys).length,OL H k (.row e ((h▸xs:List (U.Ty e))++ys) none))))
     else .fail
    | _=>.fail)
  | none=>.fail
 | _=>.fail
def Z4x (E:Env) (H:BC U) (t u:TypeId) (d x:SV U.Ty):Tr U (SV U.Ty×BC U):=
 match E.ti t with
 | some ⟨.slice e,_,_,_⟩=>match E.ti e with
  | some ei=>.when (U.Ap e=ei.size) ((sK H x e).andThen fun ys=>
    match d with
    | .all id n=>rowAt H id n fun t' xs fl=>if h:t' = e then
      .when (fl.getD 0=0) (.leaf (.si .i64 (min ys.length xs.length:Nat),H.set id (.row e (ys.take xs.length++(h▸xs:List (U.Ty e)).drop ys.length) fl)))
     else .fail
    | _=>.fail)
  | none=>.fail
 | _=>.fail
def lenT (x:SV U.Ty):Option Nat:=
 match x with
 | .nil _=>some 0
 | .sl _ xs=>some xs.length
 | .Cb _ xs=>some xs.length
 | .lit (.string s)=>some s.size
 | .ss s=>some s.size
 | _=>none
def NS {L:Type} (H:BC U) (x:SV U.Ty) (k:Nat->Tr U L):Tr U L:=
 match x with
 | .all id n=>rowAt H id n fun _ _ _=>k n
 | .Ba id _ len tot=>rowAt H id tot fun _ _ _=>k len
 | x=>match lenT x with|some n=>k n|none=>.fail
def Rz (x:SV U.Ty):Bool:=(JQ x).isSome
def Z36 (E:Env) (t:TypeId) (x:SV U.Ty):Bool:=
 if Rz x then E.isStr t else match E.ti t with|some ⟨.slice _,_,_,_⟩=>true|_=>false
def fO {L:Type} (x:Option (SV U.Ty)) (hi dflt:Nat) (k:Nat->Tr U L):Tr U L:=
 match x with
 | none=>k dflt
 | some v=>match asInt v with
  | some (_,n)=>.chk (decide (0<=n/\n<=hi)) (k n.toNat)
  | none=>.fail
def Z3S (E:Env) (H:BC U) (x:SV U.Ty) (n:Nat):Bool:=
 match x with
 | .nil _=>true
 | .sl t _=>U.Ap t==n
 | .Cb t _=>U.Ap t==n
 | .all id _ | .Ba id _ _ _=>match H[id]? with|some (.row t _ _)=>U.Ap t==n|_=>false
 | _=>false
def Z1U (E:Env) (H:BC U) (t:TypeId) (x:SV U.Ty):Bool:=
 if Rz x then E.isStr t else match E.ti t with
  | some ⟨.slice e,_,_,_⟩=>match E.ti e with|some ei=>Z3S E H x ei.size|none=>false
  | _=>false
def sliceT (E:Env) (H:BC U) (t:TypeId) (x:SV U.Ty) (lo hi mx:Option (SV U.Ty)):Tr U (SV U.Ty×BC U):=
 if Z1U E H t x then
  NS H x fun n=>fO hi n n fun h=>fO lo h 0 fun l=>
   match mx with
   | some m=>(match hi with
    | none=>.fail
    | some _=>fO (some m) n n fun k=>.chk (k==h)
     (match x with
      | .sl e xs=>.leaf (.Cb e ((xs.drop l).take (h - l)),H)
      | .Cb e xs=>.leaf (.Cb e ((xs.drop l).take (h - l)),H)
      | .all id n=>rowAt H id n fun e xs _=>.leaf (.Cb e ((xs.drop l).take (h - l)),P7 H [id])
      | _=>.fail))
   | none=>match x with
    | .nil e=>.leaf (.nil e,H)
    | .sl e xs=>.leaf (.sl e ((xs.drop l).take (h - l)),H)
    | .Cb e xs=>.leaf (.sl e ((xs.drop l).take (h - l)),H)
    | .all id n=>(match lo,hi with
     | none,none=>.leaf (.all id n,H)
     | _,_=>.leaf (.Ba id l (h - l) n,H))
    | .Ba id off _ tot=>.leaf (.Ba id (off+l) (h - l) tot,H)
    | x=>match JQ x with
     | some s=>.leaf (.ss (s.extract l h),H)
     | none=>.fail
 else .fail
def Z2x (x:Option (SV U.Ty)) (n:Nat):Option Nat:=match x with
 | none=>some n
 | some (.lit (.int _ h))=>if 0<=h/\h<=n then some h.toNat else none
 | _=>none
def Z3B (E:Env) (H:BC U) (n e:Nat) (x:SV U.Ty) (lo hi mx:Option (SV U.Ty)):Tr U (SV U.Ty×BC U):=
 match x,lo,Z2x hi n,mx with
 | .ptr id i off tot,none,some m,none=>match H[id]? with
  | some (.var e' k (.agg cs))=>match Qa e cs with
   | some ys=>.when ((i=0/\off=0/\tot=1/\cs.length=n/\n<=maxLen)/\E.size e=some 1/\U.Ap e=1/\cs.all (fun c=>(Vd c).isSome)=true) (.leaf (.sl e (ys.take m),H.set id (.fvar e' k (.agg cs))))
   | none=>.fail
  | _=>.fail
 | _,_,_,_=>.fail
def uF {L:Type} {t:Nat} (xs:List (U.Ty t)):Nat->Nat->(List Value->Tr U L)->Tr U L
 | _,0,k=>k []
 | i,n+1,k=>.bind t xs[i]? fun x=>match Vd (U.encS t x) with|some v=>uF xs (i+1) n fun vs=>k (v::vs)|none=>.fail
def arrT (E:Env) (t:TypeId) (x:SV U.Ty):Tr U (SV U.Ty):=
 match E.ti t,x with
 | some ⟨.array n e,_,_,_⟩,.sl t' xs=>.when (E.size e=some 1/\U.Ap t' = 1/\0<n) (uF xs 0 n fun vs=>.leaf (.raw (.CG n [.agg (vs.map .lit)] 0 0)))
 | _,_=>.fail
def Rn {L:Type} (n:Int) (lit:Bool) (len:Nat) (k:Nat->Tr U L):Tr U L:=
 if lit then (if 0<=n/\n<len then k n.toNat else .fail)
 else (List.range len).foldr (fun(i:Nat) rest=>.br (n==(i:Int)) (k i) rest) .fail
def Z2a (E:Env) (H:BC U) (t:TypeId) (x i:SV U.Ty):Tr U (SV U.Ty):=
 match asInt i,E.ti t with
 | some (_,n),some ti=>
  match ti.ty with
  | .slice el=>(match x with
   | .sl et xs=>.when (E.size el=some (U.Ap et)) (.chk (decide (0<=n/\n<xs.length)) (.leaf (.CG et xs n.toNat 0)))
   | .Cb et xs=>.when (E.size el=some (U.Ap et)) (.chk (decide (0<=n/\n<xs.length)) (.leaf (.CG et xs n.toNat 0)))
   | .all id m=>rowAt H id m fun et xs _=>.when (E.size el=some (U.Ap et)) (.chk (decide (0<=n/\n<m)) (.leaf (.ptr id n.toNat 0 m)))
   | .Ba id off len tot=>rowAt H id tot fun et xs _=>.when (E.size el=some (U.Ap et)) (.chk (decide (0<=n/\n<len)) (.leaf (.ptr id (off+n.toNat) 0 tot)))
   | _=>.fail)
  | .array len e=>(match E.size e with
   | none=>.fail
   | some sz=>match x with
    | .ptr id j off tot=>Rn n (isLit i) len fun m=>.leaf (.ptr id j (off+m*sz) tot)
    | .CG d xs j off=>Rn n (isLit i) len fun m=>.leaf (.CG d xs j (off+m*sz))
    | .raw (.CG d [.agg cs] 0 0)=>if (decide (sz=1)&&(cs.all Ic && !isLit i))=true then .chk (decide (0<=n/\n<len)) (.leaf (.TD d cs n.toNat))
     else Rn n (isLit i) len fun m=>.leaf (.raw (.CG d [.agg cs] 0 (0+m*sz)))
    | .raw (.CG d xs j off)=>Rn n (isLit i) len fun m=>.leaf (.raw (.CG d xs j (off+m*sz)))
    | _=>.fail)
  | _=>.fail
 | _,_=>.fail
def Z41 (E:Env) (t:TypeId) (x i:SV U.Ty):Tr U (SV U.Ty):=
 match asInt i with
 | some (_,n)=>
  match E.ti t,x with
  | some ⟨.array len e,_,_,_⟩,.agg cs=>match E.ti e with
   | some ei=>Rn n (isLit i) len fun m=>.opt (Qe cs (m*ei.size) ei.size ei.isAgg)
   | none=>.fail
  | some ⟨.scalar,_,_,_⟩,x=>match JQ x with
   | some s=>if E.isStr t then .chk (decide (0<=n/\n<s.size)) (.leaf (.si .u8 (s.get! n.toNat).toNat)) else .fail
   | none=>.fail
  | _,_=>.fail
 | none=>.fail
def Jd (U:CY) (t:Nat) (xs:List (U.Ty t)):Bool:=match bytesOf (xs.map (U.enc t)) with|some bs=>decide (bs.length<=maxLen)|none=>false
def strOf (U:CY) (t:Nat) (xs:List (U.Ty t)):ByteArray:=⟨((bytesOf (xs.map (U.enc t))).getD []).toArray⟩
def VL (t:Nat) (xs:List (U.Ty t)):Tr U (SV U.Ty):=.when (U.Ap t=1) (.chk (Jd U t xs) (.leaf (.ss (strOf U t xs))))
def Z3W (E:Env) (H:BC U) (src dst:TypeId) (x:SV U.Ty):Tr U (SV U.Ty):=
 .when ((E.isStr dst&&E.isBytes src)=true) (match x with
  | .nil _=>.leaf (.ss ⟨#[]⟩)
  | .sl t xs=>VL t xs
  | .Cb t xs=>VL t xs
  | .all id n=>rowAt H id n fun t xs _=>VL t xs
  | .Ba id off len tot=>rowAt H id tot fun t xs _=>.chk (decide (off+len<=tot)) (VL t ((xs.drop off).take len))
  | _=>.fail)
def Z4y (E:Env) (H:BC U) (src dst:TypeId) (x:SV U.Ty):Tr U (SV U.Ty):=
 match asInt x with
 | some (_,n)=>(match E.kind dst with
  | some k=>if (E.ti src).isSome then .leaf (.si k (k.wrap n)) else .fail
  | none=>.fail)
 | none=>match JQ x with
  | some s=>if E.isStr src&&E.isStr dst then .leaf (.ss s) else .fail
  | none=>Z3W E H src dst x
def uK (U:CY) (e:Nat) (st:ByteArray):Bool:=st.data.toList.all fun b=>(U.Gq e (.si .u8 b.toNat)).isSome
def Ny (U:CY) (e:Nat) (st:ByteArray):List (U.Ty e):=st.data.toList.filterMap fun b=>U.Gq e (.si .u8 b.toNat)
def Z49 (E:Env) (k:Nat) (H:BC U) (dst:TypeId) (x:SV U.Ty):Tr U (SV U.Ty×BC U):=
 match JQ x,E.ti dst with
 | some st,some ⟨.slice e,_,_,_⟩=>.when (E.size e=some 1/\U.Ap e=1) (.chk (uK U e st) (.leaf (.all k (Ny U e st).length,OL H k (.row e (Ny U e st) none))))
 | _,_=>.fail
abbrev IJ (U:CY):=FuncId->List (SV U.Ty)->BC U->Tr U (SV U.Ty×BC U)
def uD (x:SV U.Ty):Option (Int×Bool):=match x with | .lit (.int _ n)=>some (n,true) | .si _ n=>some (n,false)|_=>none
def JE (H:BC U) (T:Tr U (SV U.Ty)):Tr U (SV U.Ty×BC U):=T.andThen fun v=>.leaf (v,H)
def Z4n (E:Env) (M:IJ U) (k:Nat) (H:BC U) (s:List (SV U.Ty)) (c:Call):Tr U (SV U.Ty×BC U):=
 match c.callee with
 | .builtin b=>(match b,c.args.toList.map (Cm E s),c.argTypes.toList with
  | .len,[x],[t]=>if Z36 E t x then NS H x fun n=>.leaf (.si .i64 n,H) else .fail
  | .append,[a,x],[t,u]=>Z3F E k H t u a x
  | .copy,[d,x],[t,u]=>Z4x E H t u d x
  | .min,args,_=>JE H (rV false args)
  | .max,args,_=>JE H (rV true args)
  | _,_,_=>.fail)
 | .value f=>(match Cm E s f with
  | .fn g first caps=>M g (first++c.args.toList.map (Cm E s)++caps) H
  | _=>.fail)
 | _=>.fail
def P5 {L:Type} (kd:IntKind) (n:Int) (lit:Bool) (z:Tr U L) (f:SV U.Ty->Tr U L):List (SV U.Ty)->Tr U L
 | []=>z
 | .lit (.int k a)::v::r=>.when (k=kd) (if lit then (if n=a then f v else P5 kd n lit z f r) else .br (n==a) (f v) (P5 kd n lit z f r))
 | _=>.fail
def Z4p (E:Env) (t:TypeId) (ok:Bool) (m x:SV U.Ty):Tr U (SV U.Ty):=
 match E.ti t,m,asInt x with
 | some ⟨.map k e,_,_,_⟩,.Oc kvs,some (kd,n)=>.when (E.kind k=some kd)
  (P5 kd n (isLit x) (match E.ti e with|some ei=>(match ei.zero with|some z=>.leaf (if ok then .BF [J8 U z,.sb false] else J8 U z)|none=>.fail)|none=>.fail)
   (fun v=>.leaf (if ok then .BF [v,.sb true] else v)) kvs)
 | _,_,_=>.fail
def iK (E:Env) (M:IJ U) (k:Nat) (H:BC U) (s:List (SV U.Ty)) (o:Oper):Tr U (SV U.Ty×BC U):=
 match o.op with
 | .move x=>.leaf (Cm E s x,H)
 | .assign (.const (.slice none 0 0))=>match E.ti o.type with
  | some ⟨.slice e,_,_,_⟩=>.when (U.Ap e=(E.size e).getD 0) (.leaf (.all k 0,OL H k (.row e [] none)))
  | _=>.fail
 | .assign x=>.leaf (Cm E s x,H)
 | .pick c a b=>(match Cm E s c with
  | .lit (.bool true)=>.leaf (Cm E s a,H)
  | .lit (.bool false)=>.leaf (Cm E s b,H)
  | .sb t=>(match asBool (Cm E s a),asBool (Cm E s b) with
   | some x,some y=>.leaf (.sb (cond t x y),H)
   | _,_=>.br t (.leaf (Cm E s a,H)) (.leaf (Cm E s b,H)))
  | _=>.fail)
 | .alloc t=>match E.ti t with
  | some i=>match i.zero with|some z=>.when (z.cells.length=i.size/\okV z=true) (.leaf (.ptr k 0 0 1,OL H k (.var t i.size (J8 U z))))|none=>.fail
  | none=>.fail
 | .box t x=>match E.ti t with
  | some i=>.when ((cellsS (Cm E s x)).length=i.size/\okS (Cm E s x)=true) (.leaf (.ptr k 0 0 1,OL H k (.var t i.size (Cm E s x))))
  | none=>.fail
 | .build t parts=>JE H (.opt (Z3R E t (parts.toList.map fun(i,x)=>(i,Cm E s x))))
 | .buildSlice t n parts=>Z1i E k H t n (parts.toList.map fun(i,x)=>(i,Cm E s x))
 | .load t a=>JE H (loadT E H t (Cm E s a))
 | .store t a v=>(storeT E H t (Cm E s a) (Cm E s v)).andThen fun H' =>.leaf (.no,H')
 | .nilCheck x=>(match Cm E s x with
  | .ptr a b c d=>.leaf (.ptr a b c d,H)
  | .CG a b c d=>.leaf (.CG a b c d,H)
  | .raw (.CG a b c d)=>.leaf (.raw (.CG a b c d),H)
  | .fn a b c=>.leaf (.fn a b c,H)
  | _=>.fail)
 | .binOp op t x y _=>JE H ((binT E op t (Cm E s x) (Cm E s y)).andThen fun v=>.leaf (if isLit (Cm E s x)&&isLit (Cm E s y) then Z4u v else v))
 | .unOp op _ x=>JE H (unT op (Cm E s x))
 | .convert src dst x=>if E.isStr src&&E.isBytes dst then Z49 E k H dst (Cm E s x) else JE H (Z4y E H src dst (Cm E s x))
 | .makeSlice t l c=>match E.ti t with
  | some ⟨.slice e,_,_,_⟩=>(match uD (Cm E s l),uD (Cm E s c),E.ti e with
   | some (n,_),some (m,_),some ei=>(match ei.zero with
    | some z=>(match U.Gq e (J8 U z) with
     | some y=>.when (0<ei.size/\z.cells.length=ei.size/\okV z=true/\U.Ap e=ei.size)
       (.chk (decide (0<=n/\n<=m/\m.toNat*ei.bytes<=lim/\m<=maxLen)) (.leaf (.all k (List.replicate n.toNat y).length,OL H k (.row e (List.replicate n.toNat y) none))))
     | none=>.fail)
    | none=>.fail)
   | _,_,_=>.fail)
  | _=>.fail
 | .slice t x lo hi mx=>match E.ti t with
  | some ⟨.array n e,_,_,_⟩=>Z3B E H n e (Cm E s x) (lo.map (Cm E s)) (hi.map (Cm E s)) (mx.map (Cm E s))
  | _=>sliceT E H t (Cm E s x) (lo.map (Cm E s)) (hi.map (Cm E s)) (mx.map (Cm E s))
 | .sliceToArrayPointer t x=>JE H (arrT E t (Cm E s x))
 | .fieldAddr t x f=>JE H (.opt (Z2c E t (Cm E s x) f))
 | .field t x f=>JE H (.opt (Z3X E t (Cm E s x) f))
 | .indexAddr t x i=>JE H (Z2a E H t (Cm E s x) (Cm E s i))
 | .index t x i=>JE H (Z41 E t (Cm E s x) (Cm E s i))
 | .extract x i=>(match Cm E s x with | .BF vs=>JE H (.opt vs[i]?)|_=>.fail)
 | .lookup t m x ok=>JE H (Z4p E t ok (Cm E s m) (Cm E s x))
 | .makeFunc (.func f) first caps=>.leaf (.fn f (first.toList.map (Cm E s)) (caps.toList.map (Cm E s)),H)
 | .call c=>Z4n E M k H s c
 | _=>.fail
def stepT (E:Env) (M:IJ U) (ops:Array Oper) (k i:Nat) (st:D8 U):Tr U (D8 U):=
 match ops[i]? with
 | none=>.leaf st
 | some o=>
  let run (st:D8 U):Tr U (D8 U):=(iK E M k st.H st.s o).andThen fun r=>.leaf ⟨Qp st.s o.dst r.1,r.2⟩
  let skip (st:D8 U):Tr U (D8 U):=.leaf ⟨Qp st.s o.dst .no,st.H⟩
  match o.guard with
  | none=>run st
  | some (j,want)=>
   match (ops[j]?).bind (·.dst) with
   | none=>.fail
   | some d=>(match st.s.getD d .und with
    | .no=>skip st
    | .lit (.bool true)=>if want then run st else skip st
    | .lit (.bool false)=>if want then skip st else run st
    | .sb b=>.br b (if want then run ⟨st.s.set d (.lit (.bool true)),st.H⟩ else skip ⟨st.s.set d (.lit (.bool true)),st.H⟩)
      (if want then skip ⟨st.s.set d (.lit (.bool false)),st.H⟩ else run ⟨st.s.set d (.lit (.bool false)),st.H⟩)
    | _=>.fail)
def opsT (E:Env) (M:IJ U) (ops:Array Oper):List Nat->D8 U->Tr U (D8 U)
 | [],st=>.leaf st
 | i::rest,st=>(stepT E M ops st.H.length i st).andThen (opsT E M ops rest)
def Qc:SV U.Ty->List Nat
 | .Ba id _ _ _=>[id]
 | .all id _=>[id]
 | .ptr id _ _ _=>[id]
 | .raw v=>Dz v
 | _=>[]
def Z3V:SV U.Ty->List Nat
 | .agg cs=>cs.flatMap Qc
 | .raw v=>fP v
 | v=>Qc v
def gQ:SV U.Ty->List Nat
 | .agg cs=>cs.flatMap Qc
 | .fn _ a b=>(a++b).flatMap Z3V
 | .raw v=>Cj v
 | v=>Qc v
def Zf1:SV U.Ty->Bool | .fn _ _ _=>true | .raw v=>uO v|_=>false
def Z4a (E:Env):SV U.Ty->Bool
 | .fn g a b=>((E.pure g||(E.env g).isSome)&&(E.own g).isNone)&&(a++b).all (fun v=>!Zf1 v)
 | _=>false
def Z46 (E:Env) (s:List (SV U.Ty)) (o:Oper):Bool:=
 match o.op with
 | .call c=>(match c.callee with
  | .value (.tmp t)=>!(E.quiet&&o.type != 0)||Z4a E (s.getD t .und)
  | _=>true)
 | _=>true
def fM (E:Env) (s:List (SV U.Ty)) (o:Oper):List Nat:=o.op.operands.toList.flatMap fun x=>gQ (Cm E s x)
def ZeK:MW U.Ty->Bool | .dead=>true|_=>false
def Z3y (E:Env) (s:List (SV U.Ty)) (o:Oper):SV U.Ty:=match Oy o with|some a=>Cm E s a|_=>.no
def Z3H (H:BC U) (a:SV U.Ty) (k:Nat):Bool:=match a with
 | .ptr id _ _ tot=>id==k&&(match H[id]? with|some (.var _ _ _)=>tot==1|_=>false)
 | .all id _=>id==k&&(match H[id]? with|some (.row _ _ _)=>true|_=>false)
 | _=>false
def uB (base:Nat) (s0:List (SV U.Ty)):Nat⊕Nat->Option Nat
 | .inl j=>some (base+j)
 | .inr d=>match s0.getD d .und with | .ptr id _ _ _=>some id | .all id _=>some id|_=>none
def Z4k (E:Env) (ms:List Nat) (lt:List (Nat×(Nat⊕Nat))) (s0:List (SV U.Ty)) (base i:Nat) (s:List (SV U.Ty)) (H:BC U) (o:Oper):Bool:=
 lt.all fun p=>match uB base s0 p.2 with
  | none=>false
  | some k=>if p.1=i then Z3H H (Z3y E s o) k else !needs E o||(linked ms p.1 i || !(fM E s o).contains k)
def Z3K (E:Env) (M:IJ U) (ops:Array Oper) (ms:List Nat) (lt:List (Nat×(Nat⊕Nat))) (s0:List (SV U.Ty)) (base m i:Nat) (st:D8 U):Tr U (D8 U):=
 match ops[i]? with
 | none=>.leaf st
 | some o=>
  .when ((fM E st.s o).all (fun id=>decide (id<base)||(decide (base+m<=id)&&VB E ops ms i)||(decide (id<base+m)&&(ms.getD i 0).testBit (id - base)))=true) (.when ((Z46 E st.s o&&Z4k E ms lt s0 base i st.s st.H o&&(!decide (Bi E o = .c)||decide (base+m<=st.H.length)))=true)
   (if Bi E o = .a then
    match st.H[base+i]? with
    | some b=>if ZeK b then stepT E M ops (base+i) i st else .fail
    | none=>.fail
    else stepT E M ops st.H.length i st))
def eY (E:Env) (M:IJ U) (ops:Array Oper) (ms:List Nat) (lt:List (Nat×(Nat⊕Nat))) (s0:List (SV U.Ty)) (base m:Nat):List Nat->D8 U->Tr U (D8 U)
 | [],st=>.leaf st
 | i::rest,st=>(Z3K E M ops ms lt s0 base m i st).andThen (eY E M ops ms lt s0 base m rest)
def uH (E:Env) (M:IJ U) (ops:Array Oper) (st:D8 U):Tr U (D8 U):=
 let m:=if ops.any (fun o=>decide (Bi E o = .a)) then ops.size else 0
 eY E M ops (Fa [] ops.toList) (PY E ops) st.s st.H.length m (List.range ops.size) ⟨st.s,st.H++List.replicate m .dead⟩
end
structure D7 (U:CY) (E:Env):Prop where
 encS:∀t a,AU U (U.encS t a)=U.enc t a
 dec:∀t v a,U.Gq t v=some a->Du (E.rows t) (AU U v)=U.enc t a
 cells:∀t a,(U.enc t a).cells=Ar U (cellsS (U.encS t a))
 nr:∀t a,CU (U.enc t a)=true
 inj:∀t∈U.keys,∀a b,U.enc t a=U.enc t b->a=b
section
variable {U:CY}
theorem En (xs:List (SV U.Ty)):Ar U xs=xs.map (AU U):=by
 induction xs with
 | nil=>rfl
 | cons x xs ih=>simp [Ar,ih]
theorem Ub (s:List (SV U.Ty)) (t:Nat):(Ar U s).getD t .und=AU U (s.getD t .und):=by
 rw [En]
 simp only [List.getD,List.getElem?_map]
 cases s[t]?<;>rfl
theorem Z33 (v:V):AU U (Qn U v)=v:=by
 unfold Qn
 split<;>rfl
theorem Ut (v:V):AU U (J8 U v)=v:=by
 unfold J8
 split
 ·rename_i cs
  simp only [AU,En,List.map_map,V.agg.injEq]
  conv=>rhs;rw [<- List.map_id cs]
  apply List.map_congr_left
  intro x _
  exact Z33 x
 ·exact Z33 _
theorem Fb (E:Env) (s:List (SV U.Ty)) (x:Operand):ev E (Ar U s) x=AU U (Cm E s x):=by
 cases x with
 | tmp t=>exact Ub s t
 | const v=>simp only [ev,Cm,Ut]
 | func f=>rfl
 | global g=>simp only [ev,Cm];cases E.Ea g<;>rfl
theorem Zet (E:Env) (s:List (SV U.Ty)) (xs:List Operand):xs.map (ev E (Ar U s))=Ar U (xs.map (Cm E s)):=by
 rw [En (xs.map (Cm E s)),List.map_map]
 apply List.map_congr_left
 intro x _
 exact Fb E s x
theorem Zec (s:List (SV U.Ty)) (d:Option Tmp) (v:SV U.Ty):Ar U (Qp s d v)=setSlot (Ar U s) d (AU U v):=by
 unfold Qp setSlot
 cases d with
 | none=>rfl
 | some t=>simp only [En,List.map_set]
theorem RY (H:BC U):(BL U H).length=H.length:=by simp [BL]
theorem Lp (H:BC U) (i:Nat):(BL U H)[i]? = (H[i]?).map (CW U):=by simp [BL]
theorem PK (H:BC U) (i:Nat) (b:MW U.Ty):BL U (H.set i b)=(BL U H).set i (CW U b):=by simp [BL,List.map_set]
theorem QR (H:BC U) (k:Nat) (b:MW U.Ty):BL U (OL H k b)=place (BL U H) k (CW U b):=by
 unfold OL place
 rw [RY]
 split
 ·exact PK H k b
 ·simp [BL]
theorem PE {x:SV U.Ty} (h:okS x=true):okV (AU U x)=true:=by
 cases x<;>simp_all [okS,AU,okV]
 rename_i v
 cases v<;>simp_all [okS]
theorem Rf {x:SV U.Ty} (h:okS x=true):(AU U x).cells=Ar U (cellsS x):=by
 cases x<;>simp_all [okS,AU,V.cells,cellsS,Ar]
 rename_i v
 cases v<;>simp_all [okS,V.cells]
theorem EH {L M:Type} (T:Tr U L) (f:L->Tr U M) (y:M):(T.andThen f).AY y↔∃x,T.AY x/\(f x).AY y:=by
 induction T with
 | leaf l=>simp [Tr.andThen,Tr.AY]
 | br c a b iha ihb=>
  simp only [Tr.andThen,Tr.AY,iha,ihb]
  constructor
  ·rintro (⟨h,x,h1,h2⟩|⟨h,x,h1,h2⟩)
   ·exact⟨x,.inl ⟨h,h1⟩,h2⟩
   ·exact⟨x,.inr ⟨h,h1⟩,h2⟩
  ·rintro ⟨x,(⟨h,h1⟩|⟨h,h1⟩),h2⟩
   ·exact .inl ⟨h,x,h1,h2⟩
   ·exact .inr ⟨h,x,h1,h2⟩
 | bind t o k ih=>
  simp only [Tr.andThen,Tr.AY,ih]
  constructor
  ·rintro ⟨a,h,x,h1,h2⟩;exact⟨x,⟨a,h,h1⟩,h2⟩
  ·rintro ⟨x,⟨a,h,h1⟩,h2⟩;exact⟨a,h,x,h1,h2⟩
 | chk c a ih=>
  simp only [Tr.andThen,Tr.AY,ih]
  constructor
  ·rintro ⟨h,x,h1,h2⟩;exact⟨x,⟨h,h1⟩,h2⟩
  ·rintro ⟨x,⟨h,h1⟩,h2⟩;exact⟨h,x,h1,h2⟩
 | fail=>simp [Tr.andThen,Tr.AY]
theorem Nv {L:Type} {o:Option L} {x:L}:(Tr.opt (U:=U) o).AY x↔o=some x:=by
 cases o<;>simp [Tr.opt,Tr.AY]
theorem EY {L:Type} {p:Prop} [Decidable p] {a:Tr U L} {x:L}:(Tr.when p a).AY x↔p/\a.AY x:=by
 unfold Tr.when
 split<;>simp_all [Tr.AY]
theorem Gy {L:Type} {H:BC U} {id tot:Nat} {k:(t:Nat)->List (U.Ty t)->Option Nat->Tr U L} {y:L} (h:(rowAt H id tot k).AY y) :
  ∃t xs fl,H[id]? = some (.row t xs fl)/\xs.length=tot/\(k t xs fl).AY y/\DW (BL U H) id tot=some (CW U (.row t xs fl)):=by
 unfold rowAt at h
 split at h
 ·rename_i t xs fl hb
  simp only [Tr.AY,beq_iff_eq] at h
  refine⟨t,xs,fl,hb,h.1,h.2,?_⟩
  unfold DW
  rw [Lp,hb]
  simp [CW,h.1]
 ·simp [Tr.AY] at h
theorem Z34 {H:BC U} {x y:SV U.Ty} (h:(NR H x).AY y):IA (BL U H) (AU U x)=some (AU U y):=by
 unfold NR at h
 split at h<;>(try (simp only [Tr.AY] at h;subst h;rfl))
 ·obtain⟨t,xs,fl,h1,h2,h3,h4⟩:=Gy h
  simp only [Tr.AY] at h3
  subst h3
  subst h2
  simp only [AU,IA,h4]
  simp only [CW,Nat.zero_add,Nat.le_refl,decide_true,Bool.and_self,if_true,List.drop_zero,Option.some.injEq,V.sl.injEq,true_and]
  exact List.take_of_length_le (by simp)
 ·obtain⟨t,xs,fl,h1,h2,h3,h4⟩:=Gy h
  simp only [Tr.AY,decide_eq_true_eq] at h3
  obtain⟨h3,rfl⟩:=h3
  simp only [AU,IA,h4]
  simp [CW,h3,List.map_take,List.map_drop]
 ·simp [Tr.AY] at h
theorem ZAD {H:BC U}:∀{xs ys:List (SV U.Ty)},(SY H xs).AY ys->JF (BL U H) (Ar U xs)=some (Ar U ys):=by
 intro xs
 induction xs with
 | nil=>intro ys h;simp only [SY,Tr.AY] at h;subst h;rfl
 | cons x xs ih=>
  intro ys h
  simp only [SY,EH,Tr.AY] at h
  obtain⟨w,h1,ws,h2,rfl⟩:=h
  simp only [Ar,JF,Z34 h1,ih h2]
theorem rJ {H:BC U} {x y:SV U.Ty} (h:(Qv H x).AY y):IB (BL U H) (AU U x)=some (AU U y):=by
 unfold Qv at h
 split at h
 ·rename_i cs
  simp only [EH,Tr.AY] at h
  obtain⟨ws,h1,rfl⟩:=h
  simp only [AU,IB,ZAD h1,Option.map_some]
 ·rename_i hne
  have:=Z34 h
  unfold IB
  split
  ·rename_i cs hcs
   exfalso
   cases x<;>simp_all [AU,NR,Tr.AY]
  ·exact this
theorem Z2d {H:BC U}:∀{xs ys:List (SV U.Ty)},(PI H xs).AY ys->FN (BL U H) (Ar U xs)=some (Ar U ys):=by
 intro xs
 induction xs with
 | nil=>intro ys h;simp only [PI,Tr.AY] at h;subst h;rfl
 | cons x xs ih=>
  intro ys h
  simp only [PI,EH,Tr.AY] at h
  obtain⟨w,h1,ws,h2,rfl⟩:=h
  simp only [Ar,FN,rJ h1,ih h2]
theorem Zdx (x:SV U.Ty):FB (AU U x)=O3 x:=by
 cases x<;>simp [AU,FB,O3]
theorem ZdA (x:SV U.Ty):Dj (AU U x)=NP x:=by
 cases x<;>simp [AU,Dj,NP,O3,FB]
 rename_i cs
 rw [En,List.flatMap_map]
 simp [Zdx]
theorem Z2u (xs:List (SV U.Ty)):(Ar U xs).flatMap Dj=xs.flatMap NP:=by
 rw [En,List.flatMap_map]
 simp [ZdA]
theorem ZdI (x:SV U.Ty):Dz (AU U x)=Qc x:=by
 cases x<;>simp [AU,Dz,Qc]
theorem Zzk (x:SV U.Ty):fP (AU U x)=Z3V x:=by
 cases x<;>simp [AU,fP,Z3V,Qc,Dz]
 rename_i cs
 rw [En,List.flatMap_map]
 simp [ZdI]
theorem ZxT (x:SV U.Ty):Cj (AU U x)=gQ x:=by
 cases x with
 | agg cs=>
  simp only [AU,Cj,gQ]
  rw [En,List.flatMap_map]
  simp [ZdI]
 | fn f a b=>
  simp only [AU,Cj,gQ]
  rw [En,En,<- List.map_append,List.flatMap_map]
  simp [Zzk]
 | _=>simp [AU,Cj,gQ,Qc,Dz]
theorem Ul (H:BC U):∀(ids:List Nat),(∀i∈ids,∃t xs fl,H[i]? = some (.row t xs fl))->BL U (P7 H ids)=bump (BL U H) ids:=by
 intro ids
 induction ids generalizing H with
 | nil=>intro _;rfl
 | cons i is ih=>
  intro h
  simp only [P7,bump]
  have hmod:BL U (H.modify i rY)=(BL U H).modify i fun b=>{ b with floor:=b.xs.length }:=by
   apply List.ext_getElem?
   intro j
   simp only [BL,List.getElem?_map,List.getElem?_modify]
   by_cases hij:i=j
   ·subst hij
    obtain⟨t,xs,fl,hb⟩:=h i (by simp)
    simp [hb,rY,CW]
   ·simp [hij]
  rw [ih,hmod]
  intro j hj
  obtain⟨t,xs,fl,hb⟩:=h j (by simp [hj])
  by_cases hij:i=j
  ·subst hij
   exact⟨t,xs,some xs.length,by simp [List.getElem?_modify,hb,rY]⟩
  ·exact⟨t,xs,fl,by simp [List.getElem?_modify,hij,hb]⟩
theorem Z1D {H:BC U} {x y:SV U.Ty} (h:(NR H x).AY y):∀i∈O3 x,∃t xs fl,H[i]? = some (.row t xs fl):=by
 intro i hi
 unfold NR at h
 split at h<;>(try (simp [O3] at hi))
 ·obtain⟨t,xs,fl,h1,_⟩:=Gy h
  subst hi
  exact⟨t,xs,fl,h1⟩
 ·obtain⟨t,xs,fl,h1,_⟩:=Gy h
  subst hi
  exact⟨t,xs,fl,h1⟩
 ·simp [Tr.AY] at h
theorem Zuk {H:BC U}:∀{xs ys:List (SV U.Ty)},(SY H xs).AY ys->∀i∈xs.flatMap O3,∃t xs fl,H[i]? = some (.row t xs fl):=by
 intro xs
 induction xs with
 | nil=>intro ys h i hi;simp at hi
 | cons x xs ih=>
  intro ys h i hi
  simp only [SY,EH,Tr.AY] at h
  obtain⟨w,h1,ws,h2,rfl⟩:=h
  simp only [List.flatMap_cons,List.mem_append] at hi
  rcases hi with hi|hi
  ·exact Z1D h1 i hi
  ·exact ih h2 i hi
theorem Zd2 {H:BC U} {x y:SV U.Ty} (h:(Qv H x).AY y):∀i∈NP x,∃t xs fl,H[i]? = some (.row t xs fl):=by
 unfold Qv at h
 split at h
 ·simp only [EH,Tr.AY] at h
  obtain⟨ws,h1,rfl⟩:=h
  exact Zuk h1
 ·rename_i hne
  intro i hi
  refine Z1D h i ?_
  cases x<;>simp_all [NP,O3]
  simp [NR,Tr.AY] at h
theorem Z8V {H:BC U}:∀{xs ys:List (SV U.Ty)},(PI H xs).AY ys->∀i∈xs.flatMap NP,∃t xs fl,H[i]? = some (.row t xs fl):=by
 intro xs
 induction xs with
 | nil=>intro ys h i hi;simp at hi
 | cons x xs ih=>
  intro ys h i hi
  simp only [PI,EH,Tr.AY] at h
  obtain⟨w,h1,ws,h2,rfl⟩:=h
  simp only [List.flatMap_cons,List.mem_append] at hi
  rcases hi with hi|hi
  ·exact Zd2 h1 i hi
  ·exact ih h2 i hi
theorem Uo (cs:List (SV U.Ty)) (off n:Nat) (b:Bool):partOf (Ar U cs) off n b=(Qe cs off n b).map (AU U):=by
 unfold partOf Qe
 simp only [En,List.length_map]
 split
 ·split
  ·simp [AU,En,List.map_take,List.map_drop]
  ·rfl
 ·simp
theorem IU (cs:List (SV U.Ty)):(Ar U cs).length=cs.length:=by simp [En]
theorem ZbJ {x:SV U.Ty} {off:Nat} {cs:List (SV U.Ty)} {y:SV U.Ty} (h:rG x off cs=some y):KT (AU U x) off (Ar U cs)=some (AU U y):=by
 unfold rG at h
 split at h
 ·rename_i ds
  split at h
  ·rename_i hle
   simp only [Option.some.injEq] at h
   subst h
   simp only [AU,KT,IU,hle,if_true]
   simp [En,List.map_take,List.map_drop]
  ·cases h
 ·cases h
 ·rename_i h1 h2
  split at h
  ·rename_i c
   simp only [Option.some.injEq] at h
   subst h
   have:∀ds,AU U x≠.agg ds:=by
    intro ds hds
    cases x<;>simp_all [AU]
   unfold KT
   split
   ·rename_i ds hds;exact absurd hds (this ds)
   ·simp [Ar]
  ·cases h
theorem Z2l {H:BC U} {id:Nat} {e n:Nat} {x:SV U.Ty} (h:H[id]? = some (.var e n x)):DW (BL U H) id 1=some (Bg false false e n [AU U x]):=by
 unfold DW
 rw [Lp,h]
 simp [CW,Bg]
theorem Zco {H:BC U} {id tot:Nat} {t:Nat} {xs:List (U.Ty t)} {fl:Option Nat} (h:H[id]? = some (.row t xs fl)) (hl:xs.length=tot):DW (BL U H) id tot=some (CW U (.row t xs fl)):=by
 unfold DW
 rw [Lp,h]
 simp [CW,hl]
theorem Z2E {E:Env} (hU:D7 U E) {e:Nat}:∀{vs:List (SV U.Ty)} {ys:List (U.Ty e)},Qa e vs=some ys->(Ar U vs).map (Du (E.rows e))=ys.map (U.enc e)/\∀v∈vs,okS v=true:=by
 intro vs
 induction vs with
 | nil=>intro ys h;simp only [Qa,Option.some.injEq] at h;subst h;simp [Ar]
 | cons v vs ih=>
  intro ys h
  simp only [Qa] at h
  split at h
  ·rename_i a as h1 h2 h3
   simp only [Option.some.injEq] at h
   subst h
   obtain⟨i1,i2⟩:=ih h3
   refine⟨by simp only [Ar,List.map_cons,i1,hU.dec _ _ _ h2],?_⟩
   intro x hx
   rcases List.mem_cons.1 hx with hx|hx
   ·rw [hx];exact h1
   ·exact i2 x hx
  ·cases h
theorem ZFd {E:Env} (hU:D7 U E) {t:Nat} {cs:List V} {ys:List (U.Ty t)} {j:Nat} {x:U.Ty t} (hd:Qa t (cs.map (Qn U))=some ys) (hl:cs.all Ic=true) (hx:ys[j]? = some x):cs[j]? = some (AU U (U.encS t x)):=by
 obtain⟨h1,-⟩:=Z2E hU hd
 have h2:Ar U (cs.map (Qn U))=cs:=by
  rw [En,List.map_map]
  exact(List.map_congr_left fun v _=>Z33 v).trans (List.map_id cs)
 rw [h2] at h1
 have h3:=congrArg (·[j]?) h1
 simp only [List.getElem?_map,hx,Option.map_some] at h3
 cases hc:cs[j]? with
 | none=>simp [hc] at h3
 | some v=>
  simp only [hc,Option.map_some,Option.some.injEq] at h3
  have hv:=List.all_eq_true.1 hl v (List.mem_of_getElem? hc)
  cases v with
  | lit z=>rw [hU.encS,<- h3];rfl
  | _=>simp [Ic] at hv
theorem Zdq {E:Env} (hU:D7 U E) {H:BC U} {t:TypeId} {a y:SV U.Ty} (h:(loadT E H t a).AY y):MK E (BL U H) t (AU U a)=some (AU U y):=by
 unfold loadT at h
 split at h
 ·simp [Tr.AY] at h
 ·rename_i i hi
  unfold MK
  rw [hi]
  simp only
  split at h
  ·rename_i et xs j off
   simp only [Tr.AY,Nv] at h
   obtain⟨x,hx,hp⟩:=h
   simp only [AU,OM,List.getElem?_map,hx,Option.map_some]
   rw [hU.cells,Uo,hp]
   rfl
  ·rename_i id j off tot
   split at h
   ·rename_i e n x hb
    simp only [EY,Nv] at h
    obtain⟨⟨rfl,rfl,hok⟩,hp⟩:=h
    simp only [AU,Z2l hb,Bg,OM,List.getElem?_cons_zero]
    rw [Rf hok,Uo,hp]
    rfl
   ·rename_i et xs fl hb
    simp only [Tr.AY,Nv,beq_iff_eq] at h
    obtain⟨hl,x,hx,hp⟩:=h
    simp only [AU,Zco hb hl,CW,OM,List.getElem?_map,hx,Option.map_some]
    rw [hU.cells,Uo,hp]
    rfl
   ·simp [Tr.AY] at h
  ·rename_i e z
   simp only [Nv] at h
   simp only [AU,OM,List.getElem?_cons_zero]
   rw [show (V.lit z).cells=Ar U [SV.lit z] from rfl,Uo,h]
   rfl
  ·rename_i e cs off
   simp only [Nv] at h
   cases hp:partOf cs off i.size i.isAgg with
   | none=>simp [hp] at h
   | some v=>
    simp only [hp,Option.map_some,Option.some.injEq] at h
    subst h
    simp only [AU,OM,List.getElem?_cons_zero,V.cells,hp,Ut]
  ·rename_i d cs off
   split at h
   ·rename_i ys hys
    simp only [EY,Tr.AY] at h
    obtain⟨⟨h1,h2,h3⟩,x,hx,rfl⟩:=h
    simp only [AU,OM,List.getElem?_cons_zero,V.cells,partOf,h2,ZFd hU hys h3 hx,Bool.false_eq_true,if_false]
   ·simp [Tr.AY] at h
  ·simp [Tr.AY] at h
theorem ZxJ {E:Env} (hU:D7 U E) {H H' : BC U} {t:TypeId} {a v:SV U.Ty} (h:(storeT E H t a v).AY H'):Lu E (BL U H) t (AU U a) (AU U v)=some (BL U H'):=by
 unfold storeT at h
 split at h
 ·simp [Tr.AY] at h
 ·rename_i i hi
  unfold Lu
  rw [hi]
  simp only
  split at h
  ·rename_i id j off tot
   split at h
   ·rename_i e n x hb
    simp only [EY] at h
    obtain⟨⟨⟨rfl,rfl⟩,hl,hok,hokx⟩,h⟩:=h
    split at h
    ·rename_i x' hx'
     simp only [EY,Tr.AY] at h
     obtain⟨hok',rfl⟩:=h
     simp only [AU,Z2l hb,Bg,List.getElem?_cons_zero]
     rw [Rf hok,IU,hl,ZbJ hx',PE hok]
     simp [PE hok',PK,CW,Bg]
    ·simp [Tr.AY] at h
   ·rename_i et xs fl hb
    simp only [EY,Tr.AY,EH,Bool.and_eq_true,beq_iff_eq,decide_eq_true_eq] at h
    obtain⟨⟨hl,hok,hni⟩,⟨hlen,hfl⟩,x,hx,v',hv',h⟩:=h
    split at h
    ·rename_i x' hx'
     split at h
     ·rename_i y hy
      simp only [EY,Tr.AY] at h
      obtain⟨⟨hok1,hok2⟩,rfl⟩:=h
      simp only [AU,Zco hb hlen,CW,List.getElem?_map,hx,Option.map_some]
      rw [Rf hok,IU,hl,PE hok]
      have hc:(IB (BL U H) (AU U v))=some (AU U v'):=rJ hv'
      have hsp:=ZbJ hx'
      rw [hU.encS] at hsp
      have hdec:=hU.dec et x' y hy
      have hokr:okV (U.enc et y)=true:=by rw [<- hdec,qK];exact PE hok2
      rw [hc]
      simp only [Rf hok1,hsp,Option.map_some,hdec,hokr,PE hok1,ZdA,hni,beq_self_eq_true,Bool.and_self,Bool.and_true,decide_eq_true hfl,if_true,Bool.not_true,Bool.or_self,Bool.false_eq_true,if_false]
      rw [PK,Ul H _ (Zd2 hv')]
      simp [CW,List.map_set]
     ·simp [Tr.AY] at h
    ·simp [Tr.AY] at h
   ·simp [Tr.AY] at h
  ·simp [Tr.AY] at h
end
section
variable {U:CY}
theorem KJ {x:SV U.Ty} {k:IntKind} {a:Int} (h:asInt x=some (k,a)):AU U x = .lit (.int k a):=by
 unfold asInt at h
 split at h<;>simp_all [AU]
theorem Oo {x:SV U.Ty} {s:ByteArray} (h:JQ x=some s):AU U x = .lit (.string s):=by
 unfold JQ at h
 split at h<;>simp_all [AU]
theorem RV {x:SV U.Ty} {b:Bool} (h:asBool x=some b):AU U x = .lit (.bool b):=by
 unfold asBool at h
 split at h<;>simp_all [AU]
theorem Zcs {x:SV U.Ty} {n:Int} {l:Bool} (h:uD x=some (n,l)):∃k,AU U x = .lit (.int k n):=by
 unfold uD at h
 split at h<;>simp_all [AU]
theorem ZCs {op:BinOp} {k:IntKind} {a b:Int} {l:Bool} {y:SV U.Ty} (h:(intT op k a b l).AY y):(OW op k a b).map V.lit=some (AU U y):=by
 unfold intT at h
 cases op<;>simp only [Tr.AY] at h<;>(try (subst h;rfl))<;>(try (exact h.elim))
 ·split at h
  ·split at h
   ·simp [Tr.AY] at h
   ·rename_i hb
    simp only [Tr.AY] at h
    subst h
    simp [OW,hb,AU]
  ·simp only [Tr.AY,bne_iff_ne,ne_eq] at h
   obtain⟨hb,rfl⟩:=h
   simp [OW,hb,AU]
 ·split at h
  ·split at h
   ·simp [Tr.AY] at h
   ·rename_i hb
    simp only [Tr.AY] at h
    subst h
    simp [OW,hb,AU]
  ·simp only [Tr.AY,bne_iff_ne,ne_eq] at h
   obtain⟨hb,rfl⟩:=h
   simp [OW,hb,AU]
theorem Zd7 {op:BinOp} {k:IntKind} {a b:Int} {l:Bool} {y:SV U.Ty} (h:(sF op k a b l).AY y):(PH op k a b).map V.lit=some (AU U y):=by
 unfold sF at h
 split at h
 ·simp [Tr.AY] at h
 ·rename_i r hr
  have key:∀(hb:¬b<0) (hy:SV.si k r=y),(PH op k a b).map V.lit=some (AU U y):=by
   intro hb hy
   subst hy
   unfold PH
   unfold ZeP at hr
   split at hr<;>simp_all [AU]
  split at h
  ·split at h
   ·simp [Tr.AY] at h
   ·rename_i hb
    exact key hb h
  ·simp only [Tr.AY,decide_eq_true_eq] at h
   exact key (by omega) h.2
theorem ZCx {op:BinOp} {x y:ByteArray} {z:SV U.Ty} (h:(strT op x y).AY z):(VX op x y).map V.lit=some (AU U z):=by
 unfold strT at h
 cases op<;>simp only [Tr.AY] at h<;>(try (subst h;rfl))<;>(try (exact h.elim))
 obtain⟨hb,rfl⟩:=h
 simp only [decide_eq_true_eq] at hb
 simp [VX,hb,AU]
theorem Zr0:∀{ks:List FK} {xs ys:List (SV U.Ty)} {r:Bool},NI ks xs ys=some r->Iu ks (Ar U xs) (Ar U ys)=some r:=by
 intro ks
 induction ks with
 | nil=>
  intro xs ys r h
  unfold NI at h
  split at h<;>simp_all [Ar,Iu]
 | cons k ks ih=>
  intro xs ys r h
  cases xs with
  | nil=>cases k<;>simp [NI] at h
  | cons x xs=>
   cases ys with
   | nil=>cases k<;>simp [NI] at h
   | cons y ys=>
    cases k with
    | b=>
     simp only [NI] at h
     split at h
     ·rename_i a b r' h1 h2 h3
      simp only [Option.some.injEq] at h
      subst h
      simp only [Ar,RV h1,RV h2,Iu,ih h3]
     ·cases h
    | i k=>
     simp only [NI] at h
     split at h
     ·rename_i k1 a k2 b r' h1 h2 h3
      split at h
      ·rename_i hk
       simp only [Option.some.injEq] at h
       subst h
       simp only [Ar,KJ h1,KJ h2,Iu,ih h3,hk,and_self,if_true]
      ·cases h
     ·cases h
    | s=>
     simp only [NI] at h
     split at h
     ·rename_i a b r' h1 h2 h3
      simp only [Option.some.injEq] at h
      subst h
      simp only [Ar,Oo h1,Oo h2,Iu,ih h3]
     ·cases h
theorem ZC8 {E:Env} {op:BinOp} {t:TypeId} {x y z:SV U.Ty} (h:(binT E op t x y).AY z):MQ E op t (AU U x) (AU U y)=some (AU U z):=by
 unfold binT at h
 split at h
 ·rename_i xs ys
  split at h
  ·rename_i ks hks
   split at h
   ·rename_i b hb
    have:=Zr0 hb
    split at h
    ·simp only [Tr.AY] at h
     subst h
     simp only [AU,MQ,hks,this,Option.map_some]
    ·simp only [Tr.AY] at h
     subst h
     simp only [AU,MQ,hks,this,Option.map_some]
    ·simp [Tr.AY] at h
   ·simp [Tr.AY] at h
  ·simp [Tr.AY] at h
 ·split at h
  ·rename_i k a j b ha hb
   rw [KJ ha,KJ hb]
   split at h
   ·exact Zd7 h
   ·exact Zd7 h
   ·rename_i h1 h2
    split at h
    ·rename_i hk
     have hi:=ZCs h
     subst hk
     have hb:MQ E op t (.lit (.int k a)) (.lit (.int k b))=(OW op k a b).map V.lit:=by
      cases op<;>first|exact absurd rfl h1|exact absurd rfl h2|simp [MQ]
     rw [hb]
     exact hi
    ·simp [Tr.AY] at h
  ·split at h
   ·rename_i a b ha hb
    rw [Oo ha,Oo hb]
    have:=ZCx h
    unfold MQ
    split<;>simp_all
   ·split at h
    ·rename_i a b ha hb
     rw [RV ha,RV hb]
     split at h
     ·rename_i hE
      split at h
      ·simp only [Tr.AY] at h
       subst h
       simp [MQ,hE,AU]
      ·simp only [Tr.AY] at h
       subst h
       simp [MQ,hE,AU]
      ·simp [Tr.AY] at h
     ·simp [Tr.AY] at h
    ·simp [Tr.AY] at h
theorem ZE9 {op:UnOp} {x z:SV U.Ty} (h:(unT op x).AY z):iI op (AU U x)=some (AU U z):=by
 unfold unT at h
 split at h
 ·rename_i k n hk
  simp only [Tr.AY] at h
  subst h
  rw [KJ hk]
  rfl
 ·rename_i k n hk
  simp only [Tr.AY] at h
  subst h
  rw [KJ hk]
  rfl
 ·rename_i b _ hb
  simp only [Tr.AY] at h
  subst h
  rw [RV hb]
  rfl
 ·simp [Tr.AY] at h
theorem ZG4 {isMax:Bool} {k:IntKind}:∀{xs:List (SV U.Ty)} {a r:Int},iM isMax k a xs=some r->mm isMax k a (Ar U xs)=some (.lit (.int k r)):=by
 intro xs
 induction xs with
 | nil=>intro a r h;simp only [iM,Option.some.injEq] at h;subst h;rfl
 | cons x xs ih=>
  intro a r h
  simp only [iM] at h
  split at h
  ·rename_i j b hj
   split at h
   ·rename_i hk
    simp only [Ar,KJ hj,mm,hk,if_true]
    exact hk▸ih h
   ·cases h
  ·cases h
theorem ZbG {isMax:Bool} {xs:List (SV U.Ty)} {z:SV U.Ty} (h:(rV isMax xs).AY z):PS isMax (Ar U xs)=some (AU U z):=by
 unfold rV at h
 split at h
 ·rename_i x rest
  split at h
  ·rename_i k a hk
   split at h
   ·rename_i r hr
    simp only [Tr.AY] at h
    subst h
    simp only [Ar,KJ hk,PS,AU]
    exact ZG4 hr
   ·simp [Tr.AY] at h
  ·simp [Tr.AY] at h
 ·simp [Tr.AY] at h
def KZ (parts:List (Nat×SV U.Ty)):List (Nat×V):=parts.map fun(i,x)=>(i,AU U x)
theorem ZdJ {place:Nat->Option (Nat×Nat)}:∀{parts:List (Nat×SV U.Ty)} {cs cs' : List (SV U.Ty)},Qg cs parts place=some cs' -> OY (Ar U cs) (KZ parts) place=some (Ar U cs'):=by
 intro parts
 induction parts with
 | nil=>intro cs cs' h;simp only [Qg,Option.some.injEq] at h;subst h;rfl
 | cons p parts ih=>
  intro cs cs' h
  obtain⟨i,v⟩:=p
  simp only [Qg] at h
  split at h
  ·cases h
  ·rename_i off size hp
   split at h
   ·rename_i hc
    simp only [Bool.and_eq_true,beq_iff_eq,decide_eq_true_eq] at hc
    obtain⟨⟨h1,h2⟩,h3⟩:=hc
    have:=ih h
    simp only [KZ,List.map_cons,OY,hp]
    rw [Rf h3,IU,h1,IU,PE h3]
    simp only [beq_self_eq_true,h2,decide_true,Bool.and_self,if_true]
    rw [<- this]
    simp only [KZ,En,List.map_append,List.map_take,List.map_drop]
   ·cases h
theorem cells_toV' {x:SV U.Ty} (h:∀cs,x≠.raw (.agg cs)):(AU U x).cells=Ar U (cellsS x):=by
 cases x with
 | raw v=>
  cases v with
  | agg cs=>exact absurd rfl (h cs)
  | _=>rfl
 | _=>rfl
theorem Zd1 {z:V}:Ar U (cellsS (J8 U z))=z.cells:=by
 have hr:∀cs,J8 U z≠.raw (.agg cs):=by
  intro cs hcs
  unfold J8 at hcs
  split at hcs
  ·cases hcs
  ·rename_i hne
   unfold Qn at hcs
   split at hcs<;>(try cases hcs)
   simp at hne
 rw [<- cells_toV' hr,Ut]
theorem Zzq {E:Env} {t:TypeId} {parts:List (Nat×SV U.Ty)} {y:SV U.Ty} (h:Z3R E t parts=some y):VI E t (KZ parts)=some (AU U y):=by
 unfold Z3R at h
 unfold VI
 split at h
 ·rename_i i hi
  rw [hi]
  split at h
  ·rename_i z hz
   simp only [hz]
   split at h
   ·rename_i hok
    rw [if_pos hok]
    split at h
    ·rename_i fs hty
     simp only [hty]
     split at h
     ·rename_i hall
      rw [if_pos hall]
      cases hf:Qg (cellsS (J8 U z)) parts (placesOf E fs) with
      | none=>simp [hf] at h
      | some cs=>
       simp only [hf,Option.map_some,Option.some.injEq] at h
       subst h
       have:=ZdJ hf
       rw [Zd1] at this
       simp only [this,Option.map_some,AU]
     ·cases h
    ·rename_i len e hty
     simp only [hty]
     split at h
     ·rename_i ei hei
      simp only [hei]
      cases hf:Qg (cellsS (J8 U z)) parts (fun i=>some (i*ei.size,ei.size)) with
      | none=>simp [hf] at h
      | some cs=>
       simp only [hf,Option.map_some,Option.some.injEq] at h
       subst h
       have:=ZdJ hf
       rw [Zd1] at this
       simp only [this,Option.map_some,AU]
     ·cases h
    ·cases h
   ·cases h
  ·cases h
 ·cases h
theorem ZvN (sz:Nat):∀(vs pre post:List V),(∀v∈vs,v.cells.length=sz/\okV v=true)->vs.length<=post.length ->
  MF (pre++post) sz ((List.range' pre.length vs.length).zip vs)=some (pre++vs++post.drop vs.length):=by
 intro vs
 induction vs with
 | nil=>intro pre post _ _;simp [MF]
 | cons v vs ih=>
  intro pre post h hl
  cases post with
  | nil=>simp at hl
  | cons p post=>
   simp only [List.length_cons,List.range'_succ,List.zip_cons_cons,MF]
   obtain⟨h1,h2⟩:=h v (by simp)
   have hset:(pre++p::post).set pre.length v=(pre++[v])++post:=by simp
   have:=ih (pre++[v]) post (fun x hx=>h x (by simp [hx])) (by simpa using hl)
   rw [List.length_append,List.length_singleton] at this
   rw [h1,h2,hset,this]
   simp
theorem ZlW {E:Env} (hU:D7 U E) {k:Nat} {H H' : BC U} {t:TypeId} {n:Nat} {parts:List (Nat×SV U.Ty)} {y:SV U.Ty} (h:(Z1i E k H t n parts).AY (y,H')) :
  Oh E k (BL U H) t n (KZ parts)=some (AU U y,BL U H'):=by
 unfold Z1i at h
 unfold Oh
 split at h
 ·rename_i e sz by' z0 hti
  rw [hti]
  simp only
  split at h
  ·rename_i ei hei
   simp only [hei]
   split at h
   ·rename_i z hz
    simp only [EH] at h
    obtain⟨vs,hvs,h⟩:=h
    split at h
    ·rename_i ys hys
     simp only [EY,Tr.AY,Prod.mk.injEq] at h
     obtain⟨⟨⟨c1,c2,c3,c4⟩,c5,c6,c7⟩,rfl,rfl⟩:=h
     have hp2:(KZ parts).map (·.2)=Ar U (parts.map (·.2)):=by
      rw [En];simp [KZ]
     have hp1:(KZ parts).map (·.1)=List.range n:=by rw [<- c5];simp [KZ]
     obtain⟨d1,d2⟩:=Z2E hU hys
     have hf:=Z2d hvs
     have hlen:(Ar U vs).length=n:=by
      rw [<- ZnQ hf,IU,List.length_map,<- List.length_map (f:=(·.1)) (as:=parts),c5,List.length_range]
     have hlen' : (ys.map (U.enc e)).length=n:=by rw [<- d1,List.length_map,hlen]
     have hempty:(n==0 && !(KZ parts).isEmpty)=false:=by
      cases hn:n with
      | zero=>
       have:parts=[]:=by
        have:=congrArg List.length c5
        rw [hn] at this
        simpa using this
       simp [this,KZ]
      | succ m=>simp
     rw [hz,hp2,hf]
     simp only
     rw [if_pos ⟨c1,c2,c3,c4,hempty⟩,hp1,d1]
     have hfull:=ZvN ei.size (ys.map (U.enc e)) [] (List.replicate n (Du (E.rows e) z)) (by
      intro v hv
      rw [<- d1] at hv
      obtain⟨w,hw,rfl⟩:=List.mem_map.1 hv
      rw [En] at hw
      obtain⟨s,hs,rfl⟩:=List.mem_map.1 hw
      have hok:=d2 s hs
      rw [qK,Zue]
      refine⟨?_,PE hok⟩
      rw [Rf hok,IU]
      simpa using List.all_eq_true.1 c6 s hs) (by rw [hlen'];simp)
     rw [hlen'] at hfull
     simp only [List.length_nil,List.nil_append] at hfull
     rw [show List.range n=List.range' 0 n from List.range_eq_range' ..,hfull]
     have hdrop:List.drop n (List.replicate n (Du (E.rows e) z))=[]:=by simp
     rw [hdrop,List.append_nil,QR,Z2u,Ul H _ (Z8V hvs)]
     simp [AU,CW,Bg,c7]
    ·simp [Tr.AY] at h
   ·simp [Tr.AY] at h
  ·simp [Tr.AY] at h
 ·simp [Tr.AY] at h
theorem Znm {E:Env} {s:TypeId} {x y:SV U.Ty} {f:Nat} (h:Z2c E s x f=some y):U0 E s (AU U x) f=some (AU U y):=by
 unfold Z2c at h
 unfold U0
 split at h
 ·rename_i fs sz by' z0 hti
  rw [hti]
  simp only
  split at h
  ·rename_i o t ho
   rw [ho]
   simp only
   split at h
   ·rename_i n hn
    simp only [hn]
    split at h
    ·cases h
    ·rename_i hz
     rw [if_neg hz]
     split at h
     ·simp only [Option.some.injEq] at h;subst h;rfl
     ·simp only [Option.some.injEq] at h;subst h;rfl
     ·simp only [Option.some.injEq] at h;subst h;rfl
     ·cases h
   ·cases h
  ·cases h
 ·cases h
theorem ZxD {E:Env} {s:TypeId} {x y:SV U.Ty} {f:Nat} (h:Z3X E s x f=some y):VE E s (AU U x) f=some (AU U y):=by
 unfold Z3X at h
 unfold VE
 split at h
 ·rename_i fs sz by' z0 cs hti
  rw [hti]
  simp only [AU]
  split at h
  ·rename_i o t ho
   rw [ho]
   simp only
   split at h
   ·rename_i i hi
    simp only [hi,Uo,h,Option.map_some]
   ·cases h
  ·cases h
 ·cases h
theorem XR {L:Type} {n:Int} {lit:Bool} {len:Nat} {k:Nat->Tr U L} {y:L} (h:(Rn n lit len k).AY y):(0<=n/\n<len)/\(k n.toNat).AY y:=by
 unfold Rn at h
 split at h
 ·split at h
  ·rename_i hn;exact⟨hn,h⟩
  ·simp [Tr.AY] at h
 ·revert h
  suffices hh:∀l:List Nat,(∀i∈l,i<len)->(l.foldr (fun(i:Nat) rest=>Tr.br (n==(i:Int)) (k i) rest) .fail).AY y->(0<=n/\n<len)/\(k n.toNat).AY y from
   fun h=>hh _ (fun i hi=>by simpa using hi) h
  intro l
  induction l with
  | nil=>intro _ h;simp [Tr.AY] at h
  | cons i l ih=>
   intro hl h
   simp only [List.foldr_cons,Tr.AY,beq_iff_eq] at h
   rcases h with ⟨hn,hr⟩|⟨_,hr⟩
   ·have:=hl i (by simp)
    have hi:n.toNat=i:=by omega
    rw [hi]
    exact⟨by omega,hr⟩
   ·exact ih (fun j hj=>hl j (by simp [hj])) hr
theorem Zmp {E:Env} {H:BC U} {t:TypeId} {x i y:SV U.Ty} (h:(Z2a E H t x i).AY y):Oj E (BL U H) t (AU U x) (AU U i)=some (AU U y):=by
 unfold Z2a at h
 unfold Oj
 split at h
 ·rename_i kk n ti hn hti
  rw [KJ hn,hti]
  simp only
  split at h
  ·rename_i el hty
   simp only [hty]
   split at h
   ·rename_i et xs
    simp only [EY,Tr.AY,decide_eq_true_eq] at h
    obtain⟨h1,h2,rfl⟩:=h
    simp only [AU,List.length_map,h2,h1,and_self,if_true]
   ·rename_i et xs
    simp only [EY,Tr.AY,decide_eq_true_eq] at h
    obtain⟨h1,h2,rfl⟩:=h
    simp only [AU,List.length_map,h2,h1,and_self,if_true]
   ·rename_i id m
    obtain⟨et,xs,fl,r1,r2,r3,r4⟩:=Gy h
    simp only [EY,Tr.AY,decide_eq_true_eq] at r3
    obtain⟨h1,h2,rfl⟩:=r3
    simp only [AU,r4,CW,h2,h1,and_self,if_true,Nat.zero_add]
   ·rename_i id off len tot
    obtain⟨et,xs,fl,r1,r2,r3,r4⟩:=Gy h
    simp only [EY,Tr.AY,decide_eq_true_eq] at r3
    obtain⟨h1,h2,rfl⟩:=r3
    simp only [AU,r4,CW,h2,h1,and_self,if_true]
   ·simp [Tr.AY] at h
  ·rename_i len e hty
   simp only [hty]
   split at h
   ·simp [Tr.AY] at h
   ·rename_i sz hsz
    split at h
    ·obtain⟨hb,h⟩:=XR h
     simp only [Tr.AY] at h
     subst h
     simp only [AU,hsz,hb,and_self,if_true]
    ·obtain⟨hb,h⟩:=XR h
     simp only [Tr.AY] at h
     subst h
     simp only [AU,hsz,hb,and_self,if_true]
    ·split at h
     ·rename_i hc
      simp only [Bool.and_eq_true,decide_eq_true_eq] at hc
      simp only [Tr.AY,decide_eq_true_eq] at h
      obtain⟨hb,rfl⟩:=h
      simp only [AU,hsz,hb,and_self,if_true,hc.1,Nat.mul_one,Nat.zero_add]
     ·obtain⟨hb,h⟩:=XR h
      simp only [Tr.AY] at h
      subst h
      simp only [AU,hsz,hb,and_self,if_true]
    ·obtain⟨hb,h⟩:=XR h
     simp only [Tr.AY] at h
     subst h
     simp only [AU,hsz,hb,and_self,if_true]
    ·simp [Tr.AY] at h
  ·simp [Tr.AY] at h
 ·simp [Tr.AY] at h
theorem ZBD {s:ByteArray} {n:Nat} (h:n<s.size):s[n]? = some (s.get! n):=by
 rw [getElem?_pos s n h]
 cases s with
 | mk d=>
  have hd:n<d.size:=h
  show some d[n]=some d[n]!
  rw [getElem!_pos d n hd]
theorem Zzy {E:Env} {t:TypeId} {x i y:SV U.Ty} (h:(Z41 E t x i).AY y):Uu E t (AU U x) (AU U i)=some (AU U y):=by
 unfold Z41 at h
 unfold Uu
 split at h
 ·rename_i kk n hn
  rw [KJ hn]
  simp only
  split at h
  ·rename_i len e sz by' z0 cs hti
   rw [hti]
   simp only [AU]
   split at h
   ·rename_i ei hei
    obtain⟨hb,h⟩:=XR h
    rw [Nv] at h
    simp only [hei,hb,and_self,if_true,Uo,h,Option.map_some]
   ·simp [Tr.AY] at h
  ·rename_i sz by' z0 hti
   rw [hti]
   split at h
   ·rename_i s hs
    rw [Oo hs]
    split at h
    ·rename_i hE
     simp only [Tr.AY,decide_eq_true_eq] at h
     obtain⟨⟨h1,h2⟩,rfl⟩:=h
     have hlt:n.toNat<s.size:=by omega
     simp only [hE,h1,if_true,ZBD hlt,Option.map_some,AU]
    ·simp [Tr.AY] at h
   ·simp [Tr.AY] at h
  ·simp [Tr.AY] at h
 ·simp [Tr.AY] at h
theorem oV {t:Nat} {xs:List (U.Ty t)} {y:SV U.Ty} (h:(VL t xs).AY y) :
  U.Ap t=1/\∃bs,bytesOf (xs.map (U.enc t))=some bs/\bs.length<=maxLen/\y = .ss ⟨bs.toArray⟩:=by
 unfold VL at h
 simp only [EY,Tr.AY] at h
 obtain⟨h1,h2,h3⟩:=h
 refine⟨h1,?_⟩
 unfold Jd at h2
 unfold strOf at h3
 split at h2
 ·rename_i bs hbs
  refine⟨bs,hbs,by simpa using h2,?_⟩
  rw [<- h3,hbs]
  rfl
 ·cases h2
theorem ZxN {E:Env} {H:BC U} {src dst:TypeId} {x y:SV U.Ty} (h:(Z3W E H src dst x).AY y):IY E (BL U H) src dst (AU U x)=some (AU U y,BL U H):=by
 unfold Z3W at h
 simp only [EY] at h
 obtain⟨hb,h⟩:=h
 simp only [Bool.and_eq_true] at hb
 split at h
 ·simp only [Tr.AY] at h
  subst h
  simp [IY,AU,hb,E5,elemsOf,bytesOf]
 ·obtain⟨h1,bs,h2,h3,rfl⟩:=oV h
  simp [IY,AU,hb,E5,elemsOf,h1,h2,h3]
 ·obtain⟨h1,bs,h2,h3,rfl⟩:=oV h
  simp [IY,AU,hb,E5,elemsOf,h1,h2,h3]
 ·obtain⟨t,xs,fl,h1,h2,h3,h4⟩:=Gy h
  obtain⟨h5,bs,h6,h7,rfl⟩:=oV h3
  subst h2
  rename_i id
  have he:elemsOf (BL U H) (AU U (.all id xs.length))=some (xs.map (U.enc t)):=by
   simp only [AU,elemsOf,h4]
   simp only [CW,Nat.zero_add,Nat.le_refl,decide_true,Bool.and_self,if_true,List.drop_zero,Option.some.injEq]
   exact List.take_of_length_le (by simp)
  simp only [AU] at he
  simp only [IY,AU,hb,he,E5,h4,CW,h5,Bool.and_self,beq_self_eq_true,if_true,h6,if_pos h7]
 ·obtain⟨t,xs,fl,h1,h2,h3,h4⟩:=Gy h
  simp only [Tr.AY,decide_eq_true_eq] at h3
  obtain⟨hle,h3⟩:=h3
  obtain⟨h5,bs,h6,h7,rfl⟩:=oV h3
  rename_i id off len tot
  have he:elemsOf (BL U H) (AU U (.Ba id off len tot))=some ((((xs.drop off).take len)).map (U.enc t)):=by
   simp only [AU,elemsOf,h4]
   simp [CW,hle,List.map_take,List.map_drop]
  simp only [AU] at he
  simp only [IY,AU,hb,he,E5,h4,CW,h5,Bool.and_self,beq_self_eq_true,if_true,h6,if_pos h7]
 ·simp [Tr.AY] at h
theorem ZAj {E:Env} {H:BC U} {src dst:TypeId} {x y:SV U.Ty} (h:(Z4y E H src dst x).AY y):IY E (BL U H) src dst (AU U x)=some (AU U y,BL U H):=by
 unfold Z4y at h
 split at h
 ·rename_i k n hn
  rw [KJ hn]
  unfold IY
  split at h
  ·rename_i j hj
   simp only [hj]
   split at h
   ·rename_i hs
    simp only [Tr.AY] at h
    subst h
    simp [hs,AU]
   ·simp [Tr.AY] at h
  ·simp [Tr.AY] at h
 ·split at h
  ·rename_i s hs
   rw [Oo hs]
   unfold IY
   split at h
   ·rename_i hb
    simp only [Tr.AY] at h
    subst h
    simp only [Bool.and_eq_true] at hb
    simp [hb,AU]
   ·simp [Tr.AY] at h
  ·exact ZxN h
end
section
variable {U:CY}
theorem ZcD {H:BC U} {x:SV U.Ty} {e:Nat} {ys:List (U.Ty e)} (h:(sK H x e).AY ys) :
  elemsOf (BL U H) (AU U x)=some (ys.map (U.enc e))/\(E5 (BL U H) (AU U x) (U.Ap e)=true):=by
 have go:∀(t:Nat) (xs:List (U.Ty t)),(if h:t=e then Tr.leaf (h▸xs) else Tr.fail:Tr U (List (U.Ty e))).AY ys->∃he:t=e,(he▸xs:List (U.Ty e))=ys:=by
  intro t xs h
  split at h
  ·rename_i he;exact⟨he,h⟩
  ·simp [Tr.AY] at h
 unfold sK at h
 simp only at h
 split at h
 ·simp only [Tr.AY] at h;subst h;exact⟨rfl,rfl⟩
 ·obtain⟨rfl,rfl⟩:=go _ _ h
  exact⟨rfl,by simp [AU,E5]⟩
 ·obtain⟨rfl,rfl⟩:=go _ _ h
  exact⟨rfl,by simp [AU,E5]⟩
 ·obtain⟨t,xs,fl,h1,h2,h3,h4⟩:=Gy h
  obtain⟨rfl,rfl⟩:=go _ _ h3
  subst h2
  refine⟨?_,by simp [AU,E5,h4,CW]⟩
  simp only [AU,elemsOf,h4]
  simp only [CW,Nat.zero_add,Nat.le_refl,decide_true,Bool.and_self,if_true,List.drop_zero,Option.some.injEq]
  exact List.take_of_length_le (by simp)
 ·obtain⟨t,xs,fl,h1,h2,h3,h4⟩:=Gy h
  simp only [Tr.AY,decide_eq_true_eq] at h3
  obtain⟨hle,h3⟩:=h3
  obtain⟨rfl,rfl⟩:=go _ _ h3
  refine⟨?_,by simp [AU,E5,h4,CW]⟩
  simp only [AU,elemsOf,h4]
  simp [CW,hle,List.map_take,List.map_drop]
 ·simp [Tr.AY] at h
theorem ZdE {L:Type} {kd:IntKind} {n:Int} {lit:Bool} {z:Tr U L} {f:SV U.Ty->Tr U L} {y:L}:∀{kvs:List (SV U.Ty)},(P5 kd n lit z f kvs).AY y ->
  (MC kd n (Ar U kvs)=some none/\z.AY y)\/∃v,MC kd n (Ar U kvs)=some (some (AU U v))/\(f v).AY y
 | [],h=>.inl ⟨rfl,h⟩
 | [x],h=>by
  cases x with
  | lit v=>cases v<;>simp [P5,Tr.AY] at h
  | _=>simp [P5,Tr.AY] at h
 | x::v::r,h=>by
  have key:∀k a,x = .lit (.int k a)->(MC kd n (Ar U (x::v::r))=some none/\z.AY y)\/∃u,MC kd n (Ar U (x::v::r))=some (some (AU U u))/\(f u).AY y:=by
   intro k a hx
   subst hx
   simp only [P5,EY] at h
   obtain⟨rfl,h⟩:=h
   simp only [Ar,AU,MC,if_true]
   by_cases ha:n=a
   ·subst ha
    simp only [if_true]
    cases lit with
    | true=>
     simp only [if_true] at h
     exact .inr ⟨v,rfl,h⟩
    | false=>
     simp only [Bool.false_eq_true,if_false,Tr.AY,beq_self_eq_true,true_and] at h
     rcases h with h|⟨h0,_⟩
     ·exact .inr ⟨v,rfl,h⟩
     ·cases h0
   ·rw [if_neg ha]
    refine ZdE (lit:=lit) (z:=z) (f:=f) (kvs:=r) ?_
    cases lit with
    | true=>
     simp only [if_true] at h
     rw [if_neg ha] at h
     exact h
    | false=>
     have hb:(n==a)=false:=by simpa using ha
     simp only [Bool.false_eq_true,if_false,Tr.AY,hb] at h
     rcases h with ⟨h0,_⟩|⟨_,h⟩
     ·cases h0
     ·exact h
  cases x with
  | lit c=>
   cases c with
   | int k a=>exact key k a rfl
   | _=>simp [P5,Tr.AY] at h
  | _=>simp [P5,Tr.AY] at h
theorem ZBg {E:Env} {t:TypeId} {ok:Bool} {m x y:SV U.Ty} (h:(Z4p E t ok m x).AY y):VQ E t ok (AU U m) (AU U x)=some (AU U y):=by
 unfold Z4p at h
 split at h
 ·rename_i k e sz by' z0 kvs kd n hti hx
  simp only [EY] at h
  obtain⟨hk,h⟩:=h
  rw [KJ hx]
  simp only [AU,VQ,hti,hk,if_true]
  rcases ZdE h with ⟨h1,h2⟩|⟨v,h1,h2⟩
  ·rw [h1]
   simp only
   split at h2
   ·rename_i ei hei
    rw [hei]
    simp only
    split at h2
    ·rename_i z hz
     simp only [Tr.AY] at h2
     subst h2
     rw [hz]
     cases ok<;>simp [AU,Ar,Ut]
    ·simp [Tr.AY] at h2
   ·simp [Tr.AY] at h2
  ·rw [h1]
   simp only [Tr.AY] at h2
   subst h2
   cases ok<;>simp [AU,Ar]
 ·simp [Tr.AY] at h
theorem Zz5 (v:SV U.Ty):AU U (Z4u v)=AU U v:=by cases v<;>rfl
theorem ZvL {E:Env} {k:Nat} {H H' : BC U} {t u:TypeId} {s x y:SV U.Ty} (h:(Z3F E k H t u s x).AY (y,H')) :
  Lm E k (BL U H) t u (AU U s) (AU U x)=some (AU U y,BL U H'):=by
 unfold Z3F at h
 unfold Lm
 split at h
 ·rename_i e sz by' z0 hti
  rw [hti]
  simp only
  split at h
  ·rename_i ei hei
   simp only [EY,EH] at h
   obtain⟨⟨rfl,hpos,hz,hes⟩,ys,hys,h⟩:=h
   obtain⟨e1,e2⟩:=ZcD hys
   rw [hes] at e2
   simp only [hei,beq_self_eq_true,e1]
   rw [if_pos (by simp [hpos,e2,hz])]
   split at h
   ·rename_i id n
    obtain⟨t',xs,fl,h1,h2,h3,h4⟩:=Gy h
    split at h3
    ·rename_i he
     subst he
     simp only [Tr.AY,Bool.and_eq_true,decide_eq_true_eq,Prod.mk.injEq] at h3
     obtain⟨⟨l1,l2⟩,rfl,rfl⟩:=h3
     subst h2
     simp only [AU,h4,List.length_map]
     simp only [CW,hes,beq_self_eq_true,decide_true,Bool.and_self,if_true,l1,l2,Option.some.injEq,Prod.mk.injEq]
     refine⟨by simp [AU],?_⟩
     rw [PK]
     simp [CW,hes]
    ·simp [Tr.AY] at h3
   ·rename_i id off len tot
    obtain⟨t',xs,fl,h1,h2,h3,h4⟩:=Gy h
    split at h3
    ·rename_i he
     subst he
     simp only [Tr.AY,Bool.and_eq_true,decide_eq_true_eq,Prod.mk.injEq] at h3
     obtain⟨⟨l1,l2,l3,l4⟩,rfl,rfl⟩:=h3
     subst h2
     subst l1
     have hne:¬len=xs.length:=by omega
     simp only [AU,h4]
     simp only [CW,hes,beq_self_eq_true,decide_true,Bool.and_self,Bool.and_true,Bool.true_and,hne,decide_false,Bool.and_false,Bool.false_and,Bool.false_eq_true,if_false,l2,l3,l4,List.length_map,if_true,Option.some.injEq,Prod.mk.injEq,true_and]
     rw [PK]
     simp [CW,hes,List.map_take,List.map_drop]
    ·simp [Tr.AY] at h3
   ·simp only [Tr.AY,Bool.and_eq_true,decide_eq_true_eq,Prod.mk.injEq] at h
    obtain⟨⟨l1,l2⟩,rfl,rfl⟩:=h
    simp only [AU,List.length_map,l1,l2,decide_true,Bool.and_self,if_true,Option.some.injEq,Prod.mk.injEq,true_and]
    rw [QR]
    simp [CW,Bg,hes]
   ·rename_i t' xs
    split at h
    ·rename_i he
     subst he
     simp only [Tr.AY,Bool.and_eq_true,decide_eq_true_eq,Prod.mk.injEq] at h
     obtain⟨⟨l1,l2⟩,h⟩:=h
     simp only [AU,List.length_map,hes,beq_self_eq_true,l1,l2,decide_true,Bool.and_self,if_true]
     rcases h with ⟨hem,rfl,rfl⟩|⟨hem,rfl,rfl⟩
     ·simp [hem,AU,hes]
     ·simp only [List.isEmpty_map,hem,Bool.false_eq_true,if_false,Option.some.injEq,Prod.mk.injEq]
      refine⟨by simp [AU],?_⟩
      rw [QR]
      simp [CW,Bg,hes]
    ·simp [Tr.AY] at h
   ·simp [Tr.AY] at h
  ·simp [Tr.AY] at h
 ·simp [Tr.AY] at h
theorem Zz8 {E:Env} (hU:D7 U E) {k:Nat} {H H' : BC U} {dst:TypeId} {x y:SV U.Ty} (h:(Z49 E k H dst x).AY (y,H')):ML E k (BL U H) dst (AU U x)=some (AU U y,BL U H'):=by
 unfold Z49 at h
 split at h
 ·rename_i st e sz by' z0 hs hti
  simp only [EY,Tr.AY,Prod.mk.injEq] at h
  obtain⟨⟨h1,h2⟩,hok,rfl,rfl⟩:=h
  have key:∀l:List UInt8,(l.all fun b=>(U.Gq e (.si .u8 b.toNat)).isSome)=true->(l.filterMap fun b=>U.Gq e (.si .u8 b.toNat)).map (U.enc e)=l.map fun c=>V.lit (.int .u8 c.toNat):=by
   intro l
   induction l with
   | nil=>intro _;rfl
   | cons b l ih=>
    intro hl
    simp only [List.all_cons,Bool.and_eq_true] at hl
    cases hd:U.Gq e (.si .u8 b.toNat) with
    | none=>rw [hd] at hl;cases hl.1
    | some a=>
     have:=hU.dec _ _ _ hd
     simp only [AU,Du,GI] at this
     rw [List.filterMap_cons,hd]
     simp only [List.map_cons,ih hl.2,this]
  have hmap:(Ny U e st).map (U.enc e)=bytesV st:=key _ hok
  have hlen:(Ny U e st).length=st.size:=by
   have:=congrArg List.length hmap
   rw [List.length_map] at this
   rw [this]
   simp only [bytesV,List.length_map]
   exact Array.length_toList
  rw [Oo hs]
  simp only [ML,hti,h1,if_true,AU,hlen,Option.some.injEq,Prod.mk.injEq,true_and]
  rw [QR]
  simp [CW,Bg,h2,hmap]
 ·simp [Tr.AY] at h
theorem ZdG {x:SV U.Ty} {v:Value} (h:Vd x=some v):AU U x = .lit v:=by
 unfold Vd at h
 split at h<;>simp_all [AU]
theorem ZzZ {E:Env} {L:Type} (hU:D7 U E) {t:Nat} {xs:List (U.Ty t)} {r:L}:∀{n i:Nat} {k:List Value->Tr U L},(uF xs i n k).AY r->∃vs,((xs.drop i).take n).map (U.enc t)=vs.map V.lit/\vs.length=n/\(k vs).AY r:=by
 intro n
 induction n with
 | zero=>intro i k h;exact⟨[],by simp,rfl,h⟩
 | succ n ih=>
  intro i k h
  simp only [uF,Tr.AY] at h
  obtain⟨x,hx,h⟩:=h
  split at h
  ·rename_i v hv
   obtain⟨vs,h1,h2,h3⟩:=ih h
   obtain⟨hi,hx'⟩:=List.getElem?_eq_some_iff.1 hx
   refine⟨v::vs,?_,by simp [h2],h3⟩
   rw [List.drop_eq_getElem_cons hi,List.take_succ_cons,List.map_cons,List.map_cons,h1,hx',<- hU.encS,ZdG hv]
  ·simp [Tr.AY] at h
theorem ZCt {E:Env} (hU:D7 U E) {t:TypeId} {x y:SV U.Ty} (h:(arrT E t x).AY y):VZ E t (AU U x)=some (AU U y):=by
 unfold arrT at h
 split at h
 ·rename_i n e sz by' z0 t' xs hti
  simp only [EY] at h
  obtain⟨⟨c1,c2,c3⟩,h⟩:=h
  obtain⟨vs,h1,h2,h3⟩:=ZzZ hU h
  simp only [Tr.AY] at h3
  subst h3
  rw [List.drop_zero] at h1
  unfold VZ
  have hlen:n<=xs.length:=by
   have:=congrArg List.length h1
   simp only [List.length_map,List.length_take] at this
   omega
  have htk:(xs.map (U.enc t')).take n=vs.map V.lit:=by rw [<- List.map_take,h1]
  have hall:(vs.map V.lit).all Ic=true:=by simp [List.all_eq_true,Ic]
  simp only [hti,AU,c1,c2,c3,htk,List.length_map,hlen,hall,and_self,if_true]
 ·simp [Tr.AY] at h
theorem Zp8 {hi:Option (SV U.Ty)} {n m:Nat} (h:Z2x hi n=some m):IV (hi.map (AU U)) n n=some m:=by
 unfold Z2x at h
 split at h
 ·simpa [IV] using h
 ·simpa [IV,Ie,AU] using h
 ·cases h
theorem Zvs {E:Env} (hU:D7 U E) {H H' : BC U} {n e:Nat} {x y:SV U.Ty} {lo hi mx:Option (SV U.Ty)} (h:(Z3B E H n e x lo hi mx).AY (y,H')) :
  OI E (BL U H) n e (AU U x) (lo.map (AU U)) (hi.map (AU U)) (mx.map (AU U))=some (AU U y,BL U H'):=by
 unfold Z3B at h
 split at h
 ·rename_i id i off tot m hm
  split at h
  ·rename_i e' k cs hb
   split at h
   ·rename_i ys hys
    simp only [EY,Tr.AY,Prod.mk.injEq] at h
    obtain⟨⟨⟨rfl,rfl,rfl,c4,c5⟩,c6,c7,c8⟩,rfl,rfl⟩:=h
    obtain⟨d1,d2⟩:=Z2E hU hys
    have hsc:∀c∈cs,∃v,AU U c = .lit v:=fun c hc=>by
     have:=List.all_eq_true.1 c8 c hc
     obtain⟨v,hv⟩:=Option.isSome_iff_exists.1 this
     exact⟨v,ZdG hv⟩
    have hre:(Ar U cs).map (Du (E.rows e))=Ar U cs:=by
     rw [En,List.map_map]
     apply List.map_congr_left
     intro c hc
     obtain⟨v,hv⟩:=hsc c hc
     simp only [Function.comp,hv,Du,GI]
    rw [hre] at d1
    have hall:(Ar U cs).all Ic=true:=by
     rw [En,List.all_eq_true]
     intro y hy
     obtain⟨c,hc,rfl⟩:=List.mem_map.1 hy
     obtain⟨v,hv⟩:=hsc c hc
     rw [hv];rfl
    have hlen:(Ar U cs).length=n:=by rw [En,List.length_map,c4]
    have hbx:=Z2l hb
    unfold OI
    simp only [AU,Option.map_none,Zp8 hm,hbx,Bg]
    rw [if_pos ⟨trivial,trivial,hlen,c5,c6,hall⟩]
    simp only [Option.some.injEq,Prod.mk.injEq,c7,List.map_take,d1,true_and]
    rw [PK]
    simp only [bump]
    apply List.ext_getElem?
    intro j
    rw [List.getElem?_modify,List.getElem?_set]
    by_cases hj:id=j
    ·subst hj
     have hlt:id<H.length:=(List.getElem?_eq_some_iff.1 hb).1
     rw [Lp,hb]
     simp [CW,Bg,AU,RY,hlt]
    ·simp [hj]
   ·simp [Tr.AY] at h
  ·simp [Tr.AY] at h
 ·simp [Tr.AY] at h
theorem ZBB {E:Env} {H H' : BC U} {t u:TypeId} {d x y:SV U.Ty} (h:(Z4x E H t u d x).AY (y,H')) :
  gU E (BL U H) t u (AU U d) (AU U x)=some (AU U y,BL U H'):=by
 unfold Z4x at h
 unfold gU
 split at h
 ·rename_i e sz by' z0 hti
  rw [hti]
  simp only
  split at h
  ·rename_i ei hei
   simp only [EY,EH] at h
   obtain⟨hes,ys,hys,h⟩:=h
   obtain⟨e1,e2⟩:=ZcD hys
   rw [hes] at e2
   simp only [hei,e1]
   split at h
   ·rename_i id n
    obtain⟨t',xs,fl,h1,h2,h3,h4⟩:=Gy h
    split at h3
    ·rename_i he
     subst he
     simp only [EY,Tr.AY,Prod.mk.injEq] at h3
     obtain⟨hfl,rfl,rfl⟩:=h3
     subst h2
     simp only [AU,h4]
     simp only [CW,hes,hfl,beq_self_eq_true,decide_true,Bool.and_self,e2,if_true,Option.some.injEq,Prod.mk.injEq,List.length_map]
     refine⟨by simp [AU],?_⟩
     rw [PK]
     simp [CW,hes,hfl,List.map_take,List.map_drop]
    ·simp [Tr.AY] at h3
   ·simp [Tr.AY] at h
  ·simp [Tr.AY] at h
 ·simp [Tr.AY] at h
theorem Zdh {L:Type} {H:BC U} {x:SV U.Ty} {k:Nat->Tr U L} {y:L} (h:(NS H x k).AY y):∃n,lenOf (BL U H) (AU U x)=some n/\(k n).AY y:=by
 unfold NS at h
 split at h
 ·rename_i id n
  obtain⟨t,xs,fl,h1,h2,h3,h4⟩:=Gy h
  exact⟨n,by simp [AU,lenOf,h4],h3⟩
 ·rename_i id off len tot
  obtain⟨t,xs,fl,h1,h2,h3,h4⟩:=Gy h
  exact⟨len,by simp [AU,lenOf,h4],h3⟩
 ·split at h
  ·rename_i n hn
   refine⟨n,?_,h⟩
   unfold lenT at hn
   split at hn<;>simp_all [AU,lenOf]
  ·simp [Tr.AY] at h
theorem Z2I {L:Type} {H:BC U} {x:SV U.Ty} {k:Nat->Tr U L} {y:L} (h:(NS H x k).AY y):∀v,x≠.raw v:=by
 rintro v rfl
 simp [NS,lenT,Tr.AY] at h
theorem ZeA {x:SV U.Ty} (hx:∀v,x≠.raw v) (h:Rz x=false):∀s,AU U x≠.lit (.string s):=by
 intro s hs
 unfold Rz at h
 cases x with
 | raw v=>exact hx v rfl
 | lit v=>simp only [AU,V.lit.injEq] at hs;subst hs;simp [JQ] at h
 | ss b=>simp [JQ] at h
 | _=>simp [AU] at hs
theorem Ze8 {x:SV U.Ty} (h:Rz x=true):∃s,JQ x=some s/\AU U x = .lit (.string s):=by
 unfold Rz at h
 cases hs:JQ x with
 | none=>simp [hs] at h
 | some s=>exact⟨s,rfl,Oo hs⟩
theorem ZuO {E:Env} {t:TypeId} {x:SV U.Ty} (hx:∀v,x≠.raw v):rP E t (AU U x)=Z36 E t x:=by
 unfold rP Z36
 by_cases hs:Rz x=true
 ·obtain⟨s,_,h⟩:=Ze8 hs
  rw [h,if_pos hs]
 ·rw [if_neg hs]
  have:=ZeA hx (by simpa using hs)
  split
  ·rename_i s h;exact absurd h (this s)
  ·rfl
theorem Zzv {E:Env} {H:BC U} {x:SV U.Ty} {n:Nat} {L:Type} {k:Nat->Tr U L} {y:L} (hl:(NS H x k).AY y) (h:Z3S E H x n=true):E5 (BL U H) (AU U x) n=true:=by
 unfold Z3S at h
 split at h
 ·simp [AU,E5]
 ·simpa [AU,E5] using h
 ·simpa [AU,E5] using h
 ·rename_i id m
  unfold NS at hl
  obtain⟨t,xs,fl,h1,h2,h3,h4⟩:=Gy hl
  simp only [h1] at h
  simpa [AU,E5,h4,CW] using h
 ·rename_i id off len tot
  unfold NS at hl
  obtain⟨t,xs,fl,h1,h2,h3,h4⟩:=Gy hl
  simp only [h1] at h
  simpa [AU,E5,h4,CW] using h
 ·cases h
theorem Zod {E:Env} {H:BC U} {t:TypeId} {x:SV U.Ty} {L:Type} {k:Nat->Tr U L} {y:L} (hl:(NS H x k).AY y) (h:Z1U E H t x=true):Oq E (BL U H) t (AU U x)=true:=by
 have hx:=Z2I hl
 unfold Z1U at h
 unfold Oq
 split at h
 ·rename_i hs
  obtain⟨s,_,he⟩:=Ze8 hs
  rw [he]
  exact h
 ·rename_i hs
  have hno:=ZeA hx (by simpa using hs)
  split
  ·rename_i s he;exact absurd he (hno s)
  ·split at h
   ·rename_i e _ _ _ hti
    split at h
    ·rename_i ei hei
     simp only [hti,hei]
     exact Zzv hl h
    ·cases h
   ·cases h
theorem Z2U {L:Type} {x:Option (SV U.Ty)} {hi d:Nat} {k:Nat->Tr U L} {y:L} (h:(fO x hi d k).AY y):∃n,IV (x.map (AU U)) hi d=some n/\(k n).AY y:=by
 unfold fO at h
 split at h
 ·exact⟨d,rfl,h⟩
 ·rename_i v
  split at h
  ·rename_i kk n hn
   simp only [Tr.AY,decide_eq_true_eq] at h
   refine⟨n.toNat,?_,h.2⟩
   simp [IV,KJ hn,Ie,h.1]
  ·simp [Tr.AY] at h
theorem Zxx {E:Env} {H H' : BC U} {t:TypeId} {x y:SV U.Ty} {lo hi mx:Option (SV U.Ty)} (h:(sliceT E H t x lo hi mx).AY (y,H')) :
  JO E (BL U H) t (AU U x) (lo.map (AU U)) (hi.map (AU U)) (mx.map (AU U))=some (AU U y,BL U H'):=by
 unfold sliceT at h
 unfold JO
 split at h
 ·rename_i hfit
  have hl:=h
  have hraw:=Z2I hl
  rw [if_pos (Zod hl hfit)]
  obtain⟨n,hn,ha⟩:=Zdh hl
  rw [hn]
  obtain⟨hh,eh,hb⟩:=Z2U ha
  obtain⟨l,el,hc⟩:=Z2U hb
  simp only [eh,el]
  clear h ha hb
  revert hc
  intro h
  split at h
  ·rename_i m
   split at h
   ·simp [Tr.AY] at h
   ·rename_i xh
    obtain⟨kk,ek,hd⟩:=Z2U h
    clear h
    revert hd
    intro h
    simp only [Tr.AY,beq_iff_eq] at h
    obtain⟨rfl,h⟩:=h
    simp only [Option.map_some,IV] at ek
    simp only [Option.map_some,ek]
    split at h
    ·rename_i e xs
     simp only [Tr.AY,Prod.mk.injEq] at h
     obtain⟨rfl,rfl⟩:=h
     simp [AU,elemsOf,List.map_take,List.map_drop]
    ·rename_i e xs
     simp only [Tr.AY,Prod.mk.injEq] at h
     obtain⟨rfl,rfl⟩:=h
     simp [AU,elemsOf,List.map_take,List.map_drop]
    ·rename_i id n'
     obtain⟨e,xs,fl,h1,h2,h3,h4⟩:=Gy h
     simp only [Tr.AY,Prod.mk.injEq] at h3
     obtain⟨rfl,rfl⟩:=h3
     subst h2
     have hg:(BL U H).getD id default=CW U (.row e xs fl):=by simp [List.getD,Lp,h1]
     have hel:elemsOf (BL U H) (.Ba id 0 xs.length xs.length)=some (xs.map (U.enc e)):=by
      simp only [elemsOf,h4]
      simp only [CW,Nat.zero_add,Nat.le_refl,decide_true,Bool.and_self,if_true,List.drop_zero]
      rw [List.take_of_length_le (by simp)]
     simp only [AU,hel,if_true,hg]
     simp only [CW,Option.some.injEq,Prod.mk.injEq]
     refine⟨by simp [List.map_take,List.map_drop],?_⟩
     rw [Ul H [id] (by intro i hi;simp at hi;subst hi;exact⟨_,_,_,h1⟩)]
    ·simp [Tr.AY] at h
  ·simp only [Option.map_none]
   split at h
   ·simp only [Tr.AY,Prod.mk.injEq] at h
    obtain⟨rfl,rfl⟩:=h
    simp [AU]
   ·simp only [Tr.AY,Prod.mk.injEq] at h
    obtain⟨rfl,rfl⟩:=h
    simp [AU,List.map_take,List.map_drop]
   ·simp only [Tr.AY,Prod.mk.injEq] at h
    obtain⟨rfl,rfl⟩:=h
    simp [AU,List.map_take,List.map_drop]
   ·rename_i id n'
    have hnn:n=n' :=by
     unfold NS at hl
     obtain⟨e,xs,fl,h1,h2,h3,h4⟩:=Gy hl
     simpa [AU,lenOf,h4] using hn.symm
    subst hnn
    split at h
    ·simp only [Tr.AY,Prod.mk.injEq] at h
     obtain⟨rfl,rfl⟩:=h
     simp only [Option.map_none,IV,Option.some.injEq] at eh el
     subst eh
     subst el
     simp [AU]
    ·simp only [Tr.AY,Prod.mk.injEq] at h
     obtain⟨rfl,rfl⟩:=h
     simp [AU]
   ·simp only [Tr.AY,Prod.mk.injEq] at h
    obtain⟨rfl,rfl⟩:=h
    simp [AU]
   ·split at h
    ·rename_i s hs
     simp only [Tr.AY,Prod.mk.injEq] at h
     obtain⟨rfl,rfl⟩:=h
     simp [Oo hs,AU]
    ·simp [Tr.AY] at h
 ·simp [Tr.AY] at h
def NQ (U:CY) (M:IJ U) (call:Dl):Prop:=
 ∀g as H v H',(M g as H).AY (v,H')->call g (Ar U as) (BL U H)=some (AU U v,BL U H')
theorem Je {H H' : BC U} {T:Tr U (SV U.Ty)} {y:SV U.Ty} (h:(JE H T).AY (y,H')):T.AY y/\H' = H:=by
 simp only [JE,EH,Tr.AY,Prod.mk.injEq] at h
 obtain⟨x,h1,rfl,rfl⟩:=h
 exact⟨h1,rfl⟩
theorem ZA2 {E:Env} {M:IJ U} {call:Dl} (hU:D7 U E) (hM:NQ U M call) {k:Nat} {H H' : BC U} {s:List (SV U.Ty)} {c:Call} {o:Oper} {y:SV U.Ty} (hop:o.op = .call c) (h:(Z4n E M k H s c).AY (y,H')) :
  BO call E k (BL U H) (Ar U s) o=some (AU U y,BL U H'):=by
 unfold BO
 rw [hop]
 simp only
 unfold Z4n at h
 have hargs:evs E (Ar U s) c.args=Ar U (c.args.toList.map (Cm E s)):=Zet E s c.args.toList
 split at h
 ·rename_i b hb
  rw [hb]
  simp only
  rw [hargs]
  unfold Ox
  split at h
  ·rename_i x t he1 he2
   rw [he1,he2]
   split at h
   ·rename_i hf
    have hraw:=Z2I h
    obtain⟨n,hn,h⟩:=Zdh h
    simp only [Tr.AY,Prod.mk.injEq] at h
    obtain⟨rfl,rfl⟩:=h
    simp only [Ar,ZuO hraw,hf,if_true,hn,Option.map_some,AU]
    rfl
   ·simp [Tr.AY] at h
  ·rename_i a x t u he1 he2
   rw [he1,he2]
   simp only [Ar]
   exact ZvL h
  ·rename_i a x t u he1 he2
   rw [he1,he2]
   simp only [Ar]
   exact ZBB h
  ·obtain⟨h1,rfl⟩:=Je h
   simp only [ZbG h1,Option.map_some]
  ·obtain⟨h1,rfl⟩:=Je h
   simp only [ZbG h1,Option.map_some]
  ·simp [Tr.AY] at h
 ·rename_i f hf
  rw [hf]
  simp only
  rw [Fb]
  split at h
  ·rename_i g first caps hg
   rw [hg]
   simp only [AU]
   have hall:Ar U first++evs E (Ar U s) c.args++Ar U caps=Ar U (first++c.args.toList.map (Cm E s)++caps):=by
    rw [hargs];simp only [En,List.map_append]
   rw [hall]
   exact hM _ _ _ _ _ h
  ·simp [Tr.AY] at h
 ·simp [Tr.AY] at h
theorem Zct {E:Env} {s:List (SV U.Ty)} (ps:List (Nat×Operand)):(ps.map fun(i,x)=>(i,ev E (Ar U s) x))=KZ (ps.map fun(i,x)=>(i,Cm E s x)):=by
 simp [KZ,Fb]
theorem optEv {E:Env} {s:List (SV U.Ty)} (x:Option Operand):x.map (ev E (Ar U s))=(x.map (Cm E s)).map (AU U):=by
 cases x<;>simp [Fb]
theorem ZFs {E:Env} {M:IJ U} {call:Dl} (hU:D7 U E) (hM:NQ U M call) {k:Nat} {H H' : BC U} {s:List (SV U.Ty)} {o:Oper} {y:SV U.Ty} (h:(iK E M k H s o).AY (y,H')) :
  BO call E k (BL U H) (Ar U s) o=some (AU U y,BL U H'):=by
 unfold iK at h
 split at h
 ·rename_i x hop
  simp only [Tr.AY,Prod.mk.injEq] at h
  obtain⟨rfl,rfl⟩:=h
  unfold BO
  rw [hop]
  simp only [Fb]
 ·rename_i hop
  unfold BO
  rw [hop]
  simp only
  split at h
  ·rename_i e _ _ _ hti
   simp only [EY,Tr.AY,Prod.mk.injEq] at h
   obtain⟨hes,rfl,rfl⟩:=h
   simp only [hti,AU,QR,CW,Bg,hes]
   rfl
  ·simp [Tr.AY] at h
 ·rename_i x hne hop
  simp only [Tr.AY,Prod.mk.injEq] at h
  obtain⟨rfl,rfl⟩:=h
  unfold BO
  rw [hop]
  split<;>simp_all [Fb]
 ·rename_i c a b hop
  unfold BO
  rw [hop]
  simp only [Fb]
  split at h
  ·rename_i hc
   simp only [Tr.AY,Prod.mk.injEq] at h
   obtain⟨rfl,rfl⟩:=h
   rw [hc]
   simp [AU]
  ·rename_i hc
   simp only [Tr.AY,Prod.mk.injEq] at h
   obtain⟨rfl,rfl⟩:=h
   rw [hc]
   simp [AU]
  ·rename_i t hc
   rw [hc]
   simp only [AU]
   split at h
   ·rename_i x' y' hx hy
    simp only [Tr.AY,Prod.mk.injEq] at h
    obtain⟨rfl,rfl⟩:=h
    rw [RV hx,RV hy]
    cases t<;>simp [AU]
   ·simp only [Tr.AY,Prod.mk.injEq] at h
    rcases h with ⟨rfl,rfl,rfl⟩|⟨rfl,rfl,rfl⟩<;>simp
  ·simp [Tr.AY] at h
 ·rename_i t hop
  unfold BO
  rw [hop]
  simp only
  split at h
  ·rename_i i hi
   simp only [hi]
   split at h
   ·rename_i z hz
    simp only [EY,Tr.AY,Prod.mk.injEq] at h
    obtain⟨hc,rfl,rfl⟩:=h
    simp only [hz,hc,and_self,if_true,AU,QR,CW,Ut]
   ·simp [Tr.AY] at h
  ·simp [Tr.AY] at h
 ·rename_i t x hop
  unfold BO
  rw [hop]
  simp only [Fb]
  split at h
  ·rename_i i hi
   simp only [EY,Tr.AY,Prod.mk.injEq] at h
   obtain⟨⟨h1,h2⟩,rfl,rfl⟩:=h
   simp only [hi,Rf h2,IU,h1,PE h2,and_self,if_true,AU,QR,CW]
  ·simp [Tr.AY] at h
 ·rename_i t ps hop
  obtain⟨h1,rfl⟩:=Je h
  rw [Nv] at h1
  unfold BO
  rw [hop]
  simp only [Zct,Zzq h1,Option.map_some]
 ·rename_i t n ps hop
  unfold BO
  rw [hop]
  simp only [Zct]
  exact ZlW hU h
 ·rename_i t a hop
  obtain⟨h1,rfl⟩:=Je h
  unfold BO
  rw [hop]
  simp only [Fb,Zdq hU h1,Option.map_some]
 ·rename_i t a v hop
  simp only [EH,Tr.AY,Prod.mk.injEq] at h
  obtain⟨H1,h1,rfl,rfl⟩:=h
  unfold BO
  rw [hop]
  simp only [Fb,ZxJ hU h1,Option.map_some]
  rfl
 ·rename_i x hop
  unfold BO
  rw [hop]
  simp only [Fb]
  split at h
  ·rename_i hx
   simp only [Tr.AY,Prod.mk.injEq] at h
   obtain⟨rfl,rfl⟩:=h
   simp [hx,AU,Ry]
  ·rename_i hx
   simp only [Tr.AY,Prod.mk.injEq] at h
   obtain⟨rfl,rfl⟩:=h
   simp [hx,AU,Ry]
  ·rename_i hx
   simp only [Tr.AY,Prod.mk.injEq] at h
   obtain⟨rfl,rfl⟩:=h
   simp [hx,AU,Ry]
  ·rename_i hx
   simp only [Tr.AY,Prod.mk.injEq] at h
   obtain⟨rfl,rfl⟩:=h
   simp [hx,AU,Ry]
  ·simp [Tr.AY] at h
 ·rename_i op t x z _ hop
  obtain⟨h1,rfl⟩:=Je h
  rw [EH] at h1
  obtain⟨v,h1,h2⟩:=h1
  have hv:∀(c:Bool) y,(Tr.leaf (if c=true then Z4u v else v):Tr U (SV U.Ty)).AY y->AU U y=AU U v:=fun c y hy=>by
   simp only [Tr.AY] at hy
   subst hy
   split
   ·exact Zz5 v
   ·rfl
  unfold BO
  rw [hop]
  simp only [Fb,ZC8 h1,Option.map_some,hv _ _ h2]
 ·rename_i op _ x hop
  obtain⟨h1,rfl⟩:=Je h
  unfold BO
  rw [hop]
  simp only [Fb,ZE9 h1,Option.map_some]
 ·rename_i src dst x hop
  unfold BO
  rw [hop]
  simp only [Fb]
  split at h
  ·rename_i hb
   rw [if_pos hb]
   exact Zz8 hU h
  ·rename_i hb
   rw [if_neg hb]
   obtain⟨h1,rfl⟩:=Je h
   simp only [ZAj h1]
 ·rename_i t l c hop
  unfold BO
  rw [hop]
  simp only [Fb]
  split at h
  ·rename_i e _ _ _ hti
   simp only [hti]
   split at h
   ·rename_i n _ m _ ei hn hm hei
    obtain⟨k1,hn'⟩:=Zcs hn
    obtain⟨k2,hm'⟩:=Zcs hm
    simp only [hn',hm',hei]
    split at h
    ·rename_i z hz
     simp only [hz]
     split at h
     ·rename_i y0 hy0
      simp only [EY,Tr.AY,decide_eq_true_eq,Prod.mk.injEq] at h
      obtain⟨⟨c1,c2,c3,c4⟩,⟨c5,c6,c7,c8⟩,rfl,rfl⟩:=h
      have hd:=hU.dec _ _ _ hy0
      rw [Ut] at hd
      rw [if_pos ⟨c5,c6,c7,c8,c1,c2,c3⟩]
      simp only [AU,QR,CW,Bg,c4,hd,List.map_replicate,List.length_replicate]
      rfl
     ·simp [Tr.AY] at h
    ·simp [Tr.AY] at h
   ·simp [Tr.AY] at h
  ·simp [Tr.AY] at h
 ·rename_i t x lo hi mx hop
  unfold BO
  rw [hop]
  simp only [Fb,optEv]
  split at h
  ·rename_i n e sz by' z0 hti
   rw [hti]
   exact Zvs hU h
  ·rename_i hna
   split
   ·rename_i n e sz by' z0 hti
    exact absurd hti (hna n e sz by' z0)
   ·exact Zxx h
 ·rename_i t x hop
  obtain⟨h1,rfl⟩:=Je h
  unfold BO
  rw [hop]
  simp only [Fb,ZCt hU h1,Option.map_some]
 ·rename_i t x f hop
  obtain⟨h1,rfl⟩:=Je h
  rw [Nv] at h1
  unfold BO
  rw [hop]
  simp only [Fb,Znm h1,Option.map_some]
 ·rename_i t x f hop
  obtain⟨h1,rfl⟩:=Je h
  rw [Nv] at h1
  unfold BO
  rw [hop]
  simp only [Fb,ZxD h1,Option.map_some]
 ·rename_i t x i hop
  obtain⟨h1,rfl⟩:=Je h
  unfold BO
  rw [hop]
  simp only [Fb,Zmp h1,Option.map_some]
 ·rename_i t x i hop
  obtain⟨h1,rfl⟩:=Je h
  unfold BO
  rw [hop]
  simp only [Fb,Zzy h1,Option.map_some]
 ·rename_i x i hop
  unfold BO
  rw [hop]
  simp only [Fb]
  split at h
  ·rename_i vs hv
   obtain⟨h1,rfl⟩:=Je h
   rw [Nv] at h1
   simp [hv,AU,En,h1]
  ·simp [Tr.AY] at h
 ·rename_i t m x ok hop
  obtain⟨h1,rfl⟩:=Je h
  unfold BO
  rw [hop]
  simp only [Fb,ZBg h1,Option.map_some]
 ·rename_i f first caps hop
  simp only [Tr.AY,Prod.mk.injEq] at h
  obtain⟨rfl,rfl⟩:=h
  unfold BO
  rw [hop]
  simp only [AU,evs,Zet]
 ·rename_i c hop
  exact ZA2 hU hM hop h
 ·simp [Tr.AY] at h
theorem Z3i {E:Env} {M:IJ U} {call:Dl} (hU:D7 U E) (hM:NQ U M call) {ops:Array Oper} {k i:Nat} {st st' : D8 U} (h:(stepT E M ops k i st).AY st') :
  Jk call E ops k i (CX U st)=some (CX U st'):=by
 unfold stepT at h
 unfold Jk
 split at h
 ·rename_i ho
  simp only [Tr.AY] at h
  subst h
  rw [ho]
 ·rename_i o ho
  rw [ho]
  simp only at h ⊢
  have run:∀(q:D8 U),((iK E M k q.H q.s o).andThen fun r=>Tr.leaf (⟨Qp q.s o.dst r.1,r.2⟩:D8 U)).AY st' -> ∃v H1,BO call E k (BL U q.H) (Ar U q.s) o=some (v,H1)/\(⟨setSlot (Ar U q.s) o.dst v,H1⟩:St)=CX U st' :=by
   intro q hq
   simp only [EH,Tr.AY] at hq
   obtain⟨⟨v,H1⟩,h1,rfl⟩:=hq
   exact⟨_,_,ZFs hU hM h1,by simp only [CX,Zec]⟩
  have skip:∀(q:D8 U),(Tr.leaf (⟨Qp q.s o.dst .no,q.H⟩:D8 U):Tr U (D8 U)).AY st' -> (⟨setSlot (Ar U q.s) o.dst EE,BL U q.H⟩:St)=CX U st' :=by
   intro q hq
   simp only [Tr.AY] at hq
   subst hq
   simp only [CX,Zec]
   rfl
  unfold F5
  cases hg:o.guard with
  | none=>
   simp only [hg] at h
   obtain⟨v,H1,h1,h2⟩:=run st h
   simp only [CX,h1]
   rw [h2]
   rfl
  | some jw=>
   obtain⟨j,want⟩:=jw
   simp only [hg] at h
   split at h
   ·simp [Tr.AY] at h
   ·rename_i d hd
    simp only [hd]
    rw [show (CX U st).s.getD d .und=AU U (st.s.getD d .und) from Ub st.s d]
    have fin:∀(b:Bool) (q:D8 U),CX U q=CX U st->AU U (st.s.getD d .und) = .lit (.bool b) ->
      (if b==want then ((iK E M k q.H q.s o).andThen fun r=>Tr.leaf (⟨Qp q.s o.dst r.1,r.2⟩:D8 U)) else (Tr.leaf (⟨Qp q.s o.dst .no,q.H⟩:D8 U):Tr U (D8 U))).AY st' ->
      (match (match OJ (AU U (st.s.getD d .und)) want with
       | none=>none
       | some false=>some (EE,(CX U st).H)
       | some true=>BO call E k (CX U st).H (CX U st).s o) with
      | some (v,H)=>some (⟨setSlot (CX U st).s o.dst v,H⟩:St)
      | none=>none)=some (CX U st'):=by
     intro b q hq hv hr
     rw [hv,<- hq]
     simp only [OJ]
     split at hr
     ·rename_i hb
      obtain⟨v,H1,h1,h2⟩:=run q hr
      rw [hb]
      simp only [CX,h1]
      exact congrArg some h2
     ·rename_i hb
      have:=skip q hr
      rw [show (b==want)=false by simpa using hb]
      simp only [CX]
      exact congrArg some this
    split at h
    ·rename_i hs
     rw [hs]
     have:=skip st h
     simp only [AU,OJ,CX]
     exact congrArg some this
    ·rename_i hs
     refine fin true st rfl (by rw [hs];rfl) ?_
     cases want<;>exact h
    ·rename_i hs
     refine fin false st rfl (by rw [hs];rfl) ?_
     cases want<;>exact h
    ·rename_i b hs
     have hsame:∀b',b=b' -> CX U (⟨st.s.set d (.lit (.bool b')),st.H⟩:D8 U)=CX U st:=by
      rintro b' rfl
      simp only [CX,St.mk.injEq,and_true]
      rw [En,En,List.map_set]
      apply List.ext_getElem?
      intro n
      rw [List.getElem?_set]
      split
      ·rename_i hdn
       subst hdn
       split
       ·rename_i hlt
        simp only [List.length_map] at hlt
        have:st.s.getD d .und=st.s[d]:=by simp [List.getD,hlt]
        rw [this] at hs
        simp [hlt,hs,AU]
       ·rename_i hge
        rw [List.getElem?_eq_none (by simpa using hge)]
      ·rfl
     simp only [Tr.AY] at h
     rcases h with ⟨rfl,h⟩|⟨rfl,h⟩
     ·refine fin true _ (hsame true rfl) (by rw [hs];rfl) ?_
      cases want<;>exact h
     ·refine fin false _ (hsame false rfl) (by rw [hs];rfl) ?_
      cases want<;>exact h
    ·simp [Tr.AY] at h
theorem ZC6 {E:Env} {M:IJ U} {call:Dl} (hU:D7 U E) (hM:NQ U M call) {ops:Array Oper}:∀{is:List Nat} {st st' : D8 U},(opsT E M ops is st).AY st' -> MM call E ops is (CX U st)=some (CX U st'):=by
 intro is
 induction is with
 | nil=>intro st st' h;simp only [opsT,Tr.AY] at h;subst h;rfl
 | cons i is ih=>
  intro st st' h
  simp only [opsT,EH] at h
  obtain⟨st1,h1,h2⟩:=h
  have:=Z3i hU hM h1
  simp only [MM,stepD]
  rw [show (CX U st).H.length=st.H.length from RY st.H,this]
  exact ih h2
theorem ZcM {E:Env} {s:List (SV U.Ty)} {o:Oper}:Dy E (Ar U s) o=fM E s o:=by
 unfold Dy fM
 congr 1
 funext x
 rw [Fb,ZxT]
theorem Zwu {H:BC U} {a:SV U.Ty} {k:Nat} (h:Z3H H a k=true):OQ (BL U H) (AU U a) k=true:=by
 unfold Z3H at h
 split at h
 ·rename_i id i off tot
  simp only [Bool.and_eq_true,beq_iff_eq] at h
  obtain⟨h1,h2⟩:=h
  split at h2
  ·rename_i e n x hb
   simp only [beq_iff_eq] at h2
   simp only [AU,OQ,h1,beq_self_eq_true,Bool.true_and,DW,Lp]
   rw [<- h1,hb]
   simp [CW,Bg,h2]
  ·cases h2
 ·rename_i id n
  simp only [Bool.and_eq_true,beq_iff_eq] at h
  obtain⟨h1,h2⟩:=h
  split at h2
  ·rename_i t xs fl hb
   simp only [AU,OQ,h1,beq_self_eq_true,Bool.true_and,Lp]
   rw [<- h1,hb]
   simp [CW]
  ·cases h2
 ·cases h
theorem ZxB {base k:Nat} {s0:List (SV U.Ty)} {t:Nat⊕Nat} (h:uB base s0 t=some k):PZ base (Ar U s0) t=some k:=by
 cases t with
 | inl j=>exact h
 | inr d=>
  unfold uB at h
  unfold PZ
  have:(Ar U s0).getD d .und=AU U (s0.getD d .und):=by
   rw [En]
   simp only [List.getD,List.getElem?_map]
   cases s0[d]?<;>rfl
  simp only at h ⊢
  rw [this]
  split at h
  ·rename_i he
   rw [he]
   exact h
  ·rename_i he
   rw [he]
   exact h
  ·cases h
theorem ZAH {E:Env} {ms:List Nat} {lt:List (Nat×(Nat⊕Nat))} {s0:List (SV U.Ty)} {base i:Nat} {s:List (SV U.Ty)} {H:BC U} {o:Oper} (h:Z4k E ms lt s0 base i s H o=true):GU E ms lt (Ar U s0) base i (Ar U s) (BL U H) o=true:=by
 unfold Z4k at h
 unfold GU
 rw [List.all_eq_true] at h ⊢
 intro p hp
 have h:=h p hp
 cases ht:uB base s0 p.2 with
 | none=>rw [ht] at h;cases h
 | some k=>
  rw [ht] at h
  simp only at h
  rw [ZxB ht]
  simp only
  have:addrOf E (Ar U s) o=AU U (Z3y E s o):=by
   unfold addrOf Z3y
   cases Oy o<;>first|exact Fb ..|rfl
  rw [this,ZcM]
  split
  ·rename_i he
   rw [if_pos he] at h
   exact Zwu h
  ·rename_i he
   rw [if_neg he] at h
   exact h
theorem ZBx (v:SV U.Ty):uO (AU U v)=Zf1 v:=by cases v<;>rfl
theorem ZxA {E:Env} {s:List (SV U.Ty)} {o:Oper} (h:Z46 E s o=true):quietAt E (Ar U s) o=true:=by
 unfold Z46 at h
 unfold quietAt
 cases hop:o.op with
 | call c=>
  simp only [hop] at h
  simp only
  cases hcal:c.callee with
  | value f=>
   cases f with
   | tmp t=>
    simp only [hcal] at h
    simp only
    rw [Ub]
    cases hq:(E.quiet&&o.type != 0) with
    | false=>rfl
    | true=>
     simp only [hq,Bool.not_true,Bool.false_or] at h ⊢
     cases hv:s.getD t .und with
     | fn g a b=>
      rw [hv] at h
      simp only [Z4a,Bool.and_eq_true] at h
      simp only [AU,sZ,Bool.and_eq_true]
      refine⟨h.1,?_⟩
      rw [En,En,<- List.map_append,List.all_map]
      rw [List.all_eq_true] at h ⊢
      intro x hx
      simp only [Function.comp,ZBx]
      exact h.2 x hx
     | _=>rw [hv] at h;simp [Z4a] at h
   | _=>rfl
  | _=>rfl
 | _=>rfl
theorem ZzI {E:Env} {M:IJ U} {call:Dl} (hU:D7 U E) (hM:NQ U M call) {ops:Array Oper} {ms:List Nat} {lt:List (Nat×(Nat⊕Nat))} {s0:List (SV U.Ty)} {base m i:Nat} {st st' : D8 U} (h:(Z3K E M ops ms lt s0 base m i st).AY st') :
  Hz call E ops ms lt (Ar U s0) base m i (CX U st)=some (CX U st'):=by
 unfold Z3K at h
 unfold Hz
 split at h
 ·rename_i ho
  simp only [Tr.AY] at h
  subst h
  rw [ho]
 ·rename_i o ho
  rw [ho]
  simp only [EY] at h ⊢
  obtain⟨h1,h1',h⟩:=h
  rw [Bool.and_eq_true,Bool.and_eq_true] at h1'
  obtain⟨⟨h0,h1a⟩,h1b⟩:=h1'
  have h1' :=And.intro h1a h1b
  rw [show quietAt E (CX U st).s o=true from ZxA h0,Bool.and_true]
  rw [show Dy E (CX U st).s o=fM E st.s o from ZcM,show (CX U st).H.length=st.H.length from RY st.H,if_pos (by rw [h1,Bool.true_and,Bool.and_eq_true];exact⟨ZAH h1'.1,h1'.2⟩)]
  split at h
  ·rename_i hc
   rw [if_pos hc]
   rw [show (CX U st).H[base+i]? = (st.H[base+i]?).map (CW U) from Lp _ _]
   split at h
   ·rename_i b hb
    rw [hb]
    split at h
    ·rename_i hd
     have:b = .dead:=by cases b<;>simp_all [ZeK]
     subst this
     simp only [Option.map_some,CW,QX,Bool.false_eq_true,if_false]
     exact Z3i hU hM h
    ·simp [Tr.AY] at h
   ·simp [Tr.AY] at h
  ·rename_i hc
   rw [if_neg hc]
   exact Z3i hU hM h
theorem ZvU {E:Env} {M:IJ U} {call:Dl} (hU:D7 U E) (hM:NQ U M call) {ops:Array Oper} {ms:List Nat} {lt:List (Nat×(Nat⊕Nat))} {s0:List (SV U.Ty)} {base m:Nat}:∀{is:List Nat} {st st' : D8 U},(eY E M ops ms lt s0 base m is st).AY st' ->
  Lt call E ops ms lt (Ar U s0) base m is (CX U st)=some (CX U st'):=by
 intro is
 induction is with
 | nil=>intro st st' h;simp only [eY,Tr.AY] at h;subst h;rfl
 | cons i is ih=>
  intro st st' h
  simp only [eY,EH] at h
  obtain⟨st1,h1,h2⟩:=h
  simp only [Lt,ZzI hU hM h1]
  exact ih h2
theorem ZAR {E:Env} {M:IJ U} {call:Dl} (hU:D7 U E) (hM:NQ U M call) {ops:Array Oper} {st st' : D8 U} (h:(uH E M ops st).AY st'):SS call E ops (CX U st)=some (CX U st'):=by
 unfold uH at h
 unfold SS
 have:=ZvU hU hM h
 rw [show (CX U st).H.length=st.H.length from RY st.H]
 rw [<- this]
 congr 1
 simp [CX,BL,CW]
end
end Go.Proofs.YtjodhcdmhobmoaaGreatDoor.Le
