/-
  A part of the proof.
-/
import Derived.Test.YtjodhcdmhobmoaaGreatDoorL3
set_option linter.unusedVariables false
set_option linter.unusedSimpArgs false
namespace Go.Proofs.YtjodhcdmhobmoaaGreatDoor.Le
open Go.RowKit (Below)
def Sg.ren (σ:Sg) (ids:List Nat):Sg:=⟨fun j=>(ids[j]?).bind σ.box,σ.fz⟩
theorem Zva {ids:List Nat} {id:Nat} (h:id∈ids):ids[ids.idxOf id]? = some id:=by
 have hlt:=List.idxOf_lt_length_of_mem h
 rw [List.getElem?_eq_getElem hlt,List.getElem_idxOf]
theorem ZBG {σ:Sg} {ids:List Nat} {id:Nat} (h:id∈ids):(σ.ren ids).box (ids.idxOf id)=σ.box id:=by
 simp [Sg.ren,Zva h]
theorem Zkh {w w' : World} {B e sz n:Nat} {v:Value} {us:List Value} (h:ZlL w B e sz v n us) (hb:∀g,v.ownBlock=some g->w'.heap[g]? = w.heap[g]?):ZlL w' B e sz v n us:=by
 refine⟨h.1,?_⟩
 rcases h.2 with hn|⟨g,cap,cur,tg,rfl,h1,h2,rest⟩
 ·exact .inl hn
 ·exact .inr ⟨g,cap,cur,tg,rfl,h1,by rw [hb g (by simp [Value.ownBlock])];exact h2,rest⟩
theorem Z3v (ρ:Nat->Nat) (b:Box):(Z3h ρ b).live=b.live/\(Z3h ρ b).row=b.row/\(Z3h ρ b).ZdP=b.ZdP/\(Z3h ρ b).elem=b.elem/\(Z3h ρ b).esz=b.esz/\(Z3h ρ b).floor=b.floor/\(Z3h ρ b).xs.length=b.xs.length:=by
 unfold Z3h
 split
 ·exact⟨rfl,rfl,rfl,rfl,rfl,rfl,rfl⟩
 ·exact⟨rfl,rfl,rfl,rfl,rfl,rfl,Zfk _ _⟩
theorem Zjj.ren {σ σ' : Sg} {w w' : World} {B:Nat} {b:Box} {L:Loc} (ρ:Nat->Nat) (h:Zjj σ w B b L) (hfz:∀b c,σ.fz b c->σ'.fz b c/\w'.cell? ⟨b,c,none⟩=w.cell? ⟨b,c,none⟩) (hmp:Zcn w w')
  (hn:b.row=false->∀id∈Z0G b.xs,σ'.box (ρ id)=σ.box id) (hb:∀g,L.v.ownBlock=some g->w'.heap[g]? = w.heap[g]?):Zjj σ' w' B (Z3h ρ b) L:=by
 obtain⟨e1,e2,e3,e4,e5,e6,e7⟩:=Z3v ρ b
 obtain⟨us,r1,r2,r3,r4⟩:=h.Z8h
 have hr:Zx σ' w' (Z3h ρ b).xs us:=by
  unfold Z3h
  split
  ·rename_i hrow;exact r1.bare hfz hmp ((Z1Z _).2 (h.fzs hrow))
  ·rename_i hrow;exact ZlI r1 hfz hmp (hn (by simpa using hrow))
 refine⟨by rw [e7];exact h.tot,⟨us,hr,r2,r3,by rw [e4,e7];exact Zkh r4 hb⟩,by rw [e3];exact h.ZdP,by rw [e5];exact h.esz,?_,?_⟩
 ·intro x hx
  unfold Z3h at hx
  split at hx
  ·exact h.oks x hx
  ·simp only [Zr7,List.mem_map] at hx
   obtain⟨y,hy,rfl⟩:=hx
   rw [ZMp]
   exact h.oks y hy
 ·intro hrow x hx
  rw [e2] at hrow
  unfold Z3h at hx
  rw [if_pos hrow] at hx
  exact h.fzs hrow x hx
section
variable {B:Nat} {w0:Start} {σ:Sg} {H:Heap} {w:World} {ids:List Nat}
theorem ZF8 (H:Heap) (ids:List Nat) (j:Nat):(ZyL H ids)[j]? = (ids[j]?).map fun id=>Z3h (ids.idxOf ·) ((H[id]?).getD ZeX):=by
 simp [ZyL]
theorem Zro {l:List Nat} (h:l.Nodup) {i j x:Nat} (hi:l[i]? = some x) (hj:l[j]? = some x):i=j:=by
 obtain⟨h1,e1⟩:=List.getElem?_eq_some_iff.1 hi
 obtain⟨h2,e2⟩:=List.getElem?_eq_some_iff.1 hj
 exact(List.getElem_inj h).1 (e1.trans e2.symm)
theorem Zk2 {xs:List V} {vs:List Value} (hr:Zx σ w xs vs) (hm:∀id∈Z0G xs,id∈ids):Zx (σ.ren ids) w (Z9C (ids.idxOf ·) xs) vs:=
 ZlI hr (fun b c hh=>⟨hh,rfl⟩) (Zcn.refl _) fun id hid=>ZBG (hm id hid)
theorem ZK8 (h:Inv B w0 σ H w) (hs:ZNW ids H) (w1:Start) (hbelow:Below B w1.w w) (hold:∀b c,σ.fz b c->b<B->w1.fz b c)
  (hk:∀b,w1.keep b->b<w.heap.size/\w.heap[b]? = w1.w.heap[b]? /\ (∀id∈ids,∀L,σ.box id=some L->L.v.ownBlock≠some b)/\∀c,σ.fz b c->w1.fz b c):Inv B w1 (σ.ren ids) (ZyL H ids) w:=by
 have hbox:∀{j:Nat} {L:Loc},(σ.ren ids).box j=some L->∃id,ids[j]? = some id/\σ.box id=some L:=by
  intro j L hL
  simp only [Sg.ren] at hL
  cases hj:ids[j]? with
  | none=>simp [hj] at hL
  | some id=>simp only [hj,Option.bind_some] at hL;exact⟨id,rfl,hL⟩
 have hget:∀{j:Nat} {b' : Box},(ZyL H ids)[j]? = some b' -> ∃id b,ids[j]? = some id/\H[id]? = some b/\b.live=true/\(b.row=false->∀r∈Z0G b.xs,r∈ids)/\b' = Z3h (ids.idxOf ·) b:=by
  intro j b' hb
  rw [ZF8] at hb
  cases hj:ids[j]? with
  | none=>simp [hj] at hb
  | some id=>
   obtain⟨b,k1,k2,k3⟩:=hs.at_ id (List.mem_of_getElem? hj)
   simp only [hj,Option.map_some,k1,Option.getD_some,Option.some.injEq] at hb
   exact⟨id,b,rfl,k1,k2,k3,hb.symm⟩
 refine⟨hbelow,h.size,?_,?_,?_,h.cells,?_,?_,hold,fun b hb=>?_⟩
 ·intro j L hL
  obtain⟨id,h1,h2⟩:=hbox hL
  obtain⟨b,k1,k2,k3⟩:=hs.at_ id (List.mem_of_getElem? h1)
  refine⟨Z3h (ids.idxOf ·) b,by rw [ZF8,h1];simp [k1],?_⟩
  rw [(Z3v _ b).1];exact k2
 ·intro j b' hb hl
  obtain⟨id,b,h1,h2,h3,h4,rfl⟩:=hget hb
  obtain⟨L,hL,hok⟩:=h.boxes id b h2 h3
  refine⟨L,by simp [Sg.ren,h1,hL],hok.ren _ (fun b c hh=>⟨hh,rfl⟩) (Zcn.refl _) (fun hr r hh=>ZBG (h4 hr r hh)) (fun _ _=>rfl)⟩
 ·intro j j' b1 b2 L1 L2 g h1 h2 l1 l2 s1 s2 g1 g2
  obtain⟨i1,e1,t1⟩:=hbox s1
  obtain⟨i2,e2,t2⟩:=hbox s2
  obtain⟨i1',c1,f1,p1,p2,_⟩:=hget h1
  obtain⟨i2',c2,f2,q1,q2,_⟩:=hget h2
  rw [e1] at f1;cases f1
  rw [e2] at f2;cases f2
  have:=h.apart i1 i2 c1 c2 L1 L2 g p1 q1 p2 q2 t1 t2 g1 g2
  subst this
  exact Zro hs.nodup e1 e2
 ·intro b c hc j b' L hb hl hL hg
  obtain⟨id,hid,hL'⟩:=hbox hL
  obtain⟨id',b0,f1,p1,p2,_,rfl⟩:=hget hb
  rw [hid] at f1;cases f1
  rw [(Z3v _ b0).2.2.2.2.2.1]
  exact h.floor b c hc id b0 L p1 p2 hL' hg
 ·intro j b' hb hl
  obtain⟨id,b0,f1,p1,p2,_,rfl⟩:=hget hb
  obtain⟨_,_,_,_,_,e6,e7⟩:=Z3v (ids.idxOf ·) b0
  rw [e6,e7]
  exact h.low id b0 p1 p2
 ·obtain⟨k1,k2,k3,k4⟩:=hk b hb
  refine⟨k1,k2,fun j L hL hg=>?_,k4⟩
  obtain⟨id,hid,hL'⟩:=hbox hL
  exact k3 id (List.mem_of_getElem? hid) L hL' hg
def Zrw (ids:List Nat) (n i:Nat):Option Nat:=if i<n then (if i∈ids then some (ids.idxOf i) else none) else some (ids.length+(i - n))
theorem ZNg:∀{ids:List Nat} {H bs:Heap} (i:Nat),ids.Nodup->(∀id∈ids,id<H.length)->ids.length<=bs.length ->
  (ZO7 H ids bs)[i]? = match Zrw ids H.length i with|some j=>bs[j]? | none=>H[i]?:=by
 intro ids
 induction ids with
 | nil=>
  intro H bs i _ _ _
  unfold Zrw
  simp only [ZO7,List.getElem?_append,List.not_mem_nil,if_false,List.length_nil,Nat.zero_add]
  split<;>rfl
 | cons id ids ih=>
  intro H bs i hn hl hb
  cases bs with
  | nil=>simp at hb
  | cons b bs=>
   rw [List.nodup_cons] at hn
   rw [ZO7,ih i hn.2 (fun j hj=>by simpa using hl j (by simp [hj])) (by simpa using hb)]
   have hid:=hl id (by simp)
   unfold Zrw
   simp only [List.length_set,List.mem_cons,List.length_cons]
   by_cases hi:i<H.length
   ·simp only [hi,if_true]
    by_cases he:i=id
    ·subst he
     simp [hn.1,hid]
    ·by_cases hm:i∈ids
     ·simp only [hm,or_true,if_true]
      have hne:(id==i)=false:=by simp only [beq_eq_false_iff_ne];exact fun e=>he e.symm
      simp [List.idxOf_cons,hne]
     ·simp only [hm,he,or_self,if_false]
      rw [List.getElem?_set_ne (fun e=>he e.symm)]
   ·simp only [hi,if_false]
    rw [show ids.length+1+(i - H.length)=(ids.length+(i - H.length))+1 by omega]
    rfl
theorem ZDW {H3:Heap} (i:Nat) (hn:ids.Nodup) (hl:∀id∈ids,id<H.length) (hb:ids.length<=H3.length) :
  (ZaP H ids H3)[i]? = match Zrw ids H.length i with|some j=>(H3[j]?).map (Z3h (ZiA ids H.length))|none=>H[i]?:=by
 unfold ZaP
 rw [ZNg i hn hl (by simpa using hb)]
 split<;>simp
theorem ZPA {n i i' j:Nat} (hn:ids.Nodup) (h1:Zrw ids n i=some j) (h2:Zrw ids n i' = some j):i=i' :=by
 unfold Zrw at h1 h2
 have key:∀{x:Nat},x∈ids->ids.idxOf x<ids.length:=fun h=>List.idxOf_lt_length_of_mem h
 split at h1<;>split at h2
 ·split at h1<;>split at h2
  ·rename_i m1 m2
   simp only [Option.some.injEq] at h1 h2
   have e1:=Zva m1
   have e2:=Zva m2
   rw [h1] at e1;rw [h2] at e2
   rw [e1] at e2
   exact Option.some.inj e2
  ·cases h2
  ·cases h1
  ·cases h1
 ·split at h1
  ·rename_i m1
   simp only [Option.some.injEq] at h1 h2
   have:=key m1
   omega
  ·cases h1
 ·split at h2
  ·rename_i m2
   simp only [Option.some.injEq] at h1 h2
   have:=key m2
   omega
  ·cases h2
 ·simp only [Option.some.injEq] at h1 h2
  omega
theorem ZO9 {n:Nat} (hn:ids.Nodup) (hl:∀id∈ids,id<n) (j:Nat):Zrw ids n (ZiA ids n j)=some j:=by
 unfold ZiA Zrw
 by_cases hj:j<ids.length
 ·rw [if_pos hj]
  have hg:ids.getD j 0=ids[j]:=by simp [List.getD,hj]
  rw [hg]
  have hm:ids[j]∈ids:=List.getElem_mem hj
  rw [if_pos (hl _ hm),if_pos hm]
  congr 1
  exact Zro hn (Zva hm) (List.getElem?_eq_getElem hj)
 ·rw [if_neg hj,if_neg (by omega)]
  congr 1
  omega
def Sg.back (σ σ1:Sg) (ids:List Nat) (n:Nat):Sg:=⟨fun i=>match Zrw ids n i with|some j=>σ1.box j|none=>σ.box i,σ1.fz⟩
theorem ZFx {σ1:Sg} {n:Nat} (hn:ids.Nodup) (hl:∀id∈ids,id<n) (j:Nat):(σ.back σ1 ids n).box (ZiA ids n j)=σ1.box j:=by
 simp only [Sg.back,ZO9 hn hl]
def outer (σ:Sg) (ids:List Nat) (w0:Start) (b:Nat):Prop:=w0.keep b\/∃id L,id∉ids/\σ.box id=some L/\L.v.ownBlock=some b
theorem ZQr {σ1:Sg} {H3:Heap} {w' : World} (h:Inv B w0 σ H w) (hs:ZNW ids H) (h1:Inv B ⟨w,σ.fz,outer σ ids w0⟩ σ1 H3 w') (hE:Ext (σ.ren ids) w σ1 w') (hlen:ids.length<=H3.length) :
  Inv B w0 (σ.back σ1 ids H.length) (ZaP H ids H3) w' /\ Ext σ w (σ.back σ1 ids H.length) w' :=by
 have hlt:∀id∈ids,id<H.length:=fun id hid=>by
  obtain⟨b,k1,_⟩:=hs.at_ id hid
  exact(List.getElem?_eq_some_iff.1 k1).1
 have hfz:∀b c,σ.fz b c->σ1.fz b c/\w'.cell? ⟨b,c,none⟩=w.cell? ⟨b,c,none⟩:=hE.fz
 have e:Ext σ w (σ.back σ1 ids H.length) w' :=by
  refine⟨fun i L hL=>?_,hfz,hE.mp⟩
  have hi:=h.ZMn hL
  simp only [Sg.back]
  by_cases hm:i∈ids
  ·have ht:Zrw ids H.length i=some (ids.idxOf i):=by simp [Zrw,hi,hm]
   simp only [ht]
   exact hE.box _ L (by rw [ZBG hm];exact hL)
  ·have ht:Zrw ids H.length i=none:=by simp [Zrw,hi,hm]
   simp only [ht]
   exact⟨L,hL,rfl,.inl rfl⟩
 have hget:∀i,(ZaP H ids H3)[i]? = match Zrw ids H.length i with|some j=>(H3[j]?).map (Z3h (ZiA ids H.length))|none=>H[i]?:=fun i=>ZDW i hs.nodup hlt hlen
 have hout:∀{i:Nat} {L:Loc} {g:Nat},Zrw ids H.length i=none->σ.box i=some L->L.v.ownBlock=some g->outer σ ids w0 g:=by
  intro i L g ht hL hg
  refine .inr ⟨i,L,?_,hL,hg⟩
  intro hm
  simp [Zrw,hlt i hm,hm] at ht
 have hcase:∀{i:Nat} {b' : Box},(ZaP H ids H3)[i]? = some b' -> (∃j b,Zrw ids H.length i=some j/\H3[j]? = some b/\b' = Z3h (ZiA ids H.length) b)\/(Zrw ids H.length i=none/\H[i]? = some b'):=by
  intro i b' hb
  rw [hget] at hb
  cases ht:Zrw ids H.length i with
  | none=>rw [ht] at hb;exact .inr ⟨rfl,hb⟩
  | some j=>
   rw [ht] at hb
   simp only [Option.map_eq_some_iff] at hb
   obtain⟨b,h2,h3⟩:=hb
   exact .inl ⟨j,b,rfl,h2,h3.symm⟩
 refine⟨⟨h.below.trans h1.below,h1.size,?_,?_,?_,h1.cells,?_,?_,fun b c hc hlt' =>h.old b c (h1.old b c hc hlt') hlt',fun b hb=>?_⟩,e⟩
 ·intro i L hL
  simp only [Sg.back] at hL
  rw [hget]
  cases ht:Zrw ids H.length i with
  | none=>rw [ht] at hL;exact h.dom i L hL
  | some j=>
   rw [ht] at hL
   obtain⟨b,k1,k2⟩:=h1.dom j L hL
   exact⟨Z3h (ZiA ids H.length) b,by simp [k1],by rw [(Z3v _ b).1];exact k2⟩
 ·intro i b' hb hl
  rcases hcase hb with ⟨j,b,ht,hj,rfl⟩|⟨ht,hi⟩
  ·rw [(Z3v _ b).1] at hl
   obtain⟨L,hL,hok⟩:=h1.boxes j b hj hl
   refine⟨L,by simp only [Sg.back,ht];exact hL,hok.ren _ (fun b c hh=>⟨hh,rfl⟩) (Zcn.refl _) (fun _ r _=>ZFx hs.nodup hlt r) (fun _ _=>rfl)⟩
  ·obtain⟨L,hL,hok⟩:=h.boxes i b' hi hl
   obtain⟨us,r1,r2,r3,r4⟩:=hok.Z8h
   refine⟨L,by simp only [Sg.back,ht];exact hL,hok.tot,⟨us,r1.ext e,r2,r3,Zkh r4 fun g hg=>?_⟩,hok.ZdP,hok.esz,hok.oks,hok.fzs⟩
   exact(h1.kept g (hout ht hL hg)).2.1
 ·intro i i' b1 b2 L1 L2 g p1 p2 l1 l2 s1 s2 g1 g2
  simp only [Sg.back] at s1 s2
  rcases hcase p1 with ⟨j,c1,t1,q1,rfl⟩|⟨t1,q1⟩<;>rcases hcase p2 with ⟨j',c2,t2,q2,rfl⟩|⟨t2,q2⟩
  ·rw [t1] at s1;rw [t2] at s2
   rw [(Z3v _ _).1] at l1 l2
   have:=h1.apart j j' c1 c2 L1 L2 g q1 q2 l1 l2 s1 s2 g1 g2
   subst this
   exact ZPA hs.nodup t1 t2
  ·rw [t1] at s1;rw [t2] at s2
   exact absurd g1 ((h1.kept g (hout t2 s2 g2)).2.2.1 j L1 s1)
  ·rw [t1] at s1;rw [t2] at s2
   exact absurd g2 ((h1.kept g (hout t1 s1 g1)).2.2.1 j' L2 s2)
  ·rw [t1] at s1;rw [t2] at s2
   exact h.apart i i' b1 b2 L1 L2 g q1 q2 l1 l2 s1 s2 g1 g2
 ·intro b c hc i b' L hb hl hL hg
  simp only [Sg.back] at hL hc
  rcases hcase hb with ⟨j,b0,ht,hj,rfl⟩|⟨ht,hi⟩
  ·rw [ht] at hL
   rw [(Z3v _ b0).1] at hl
   rw [(Z3v _ b0).2.2.2.2.2.1]
   exact h1.floor b c hc j b0 L hj hl hL hg
  ·rw [ht] at hL
   exact h.floor b c ((h1.kept b (hout ht hL hg)).2.2.2 c hc) i b' L hi hl hL hg
 ·intro i b' hb hl
  rcases hcase hb with ⟨j,b0,ht,hj,rfl⟩|⟨ht,hi⟩
  ·obtain⟨e1,_,_,_,_,e6,e7⟩:=Z3v (ZiA ids H.length) b0
   rw [e6,e7]
   rw [e1] at hl
   exact h1.low j b0 hj hl
  ·exact h.low i b' hi hl
 ·obtain⟨k1,k2,k3,k4⟩:=h.kept b hb
  obtain⟨m1,m2,m3,m4⟩:=h1.kept b (.inl hb)
  refine⟨m1,m2.trans k2,fun i L hL hg=>?_,fun c hc=>k4 c (m4 c hc)⟩
  simp only [Sg.back] at hL
  cases ht:Zrw ids H.length i with
  | none=>rw [ht] at hL;exact k3 i L hL hg
  | some j=>rw [ht] at hL;exact m3 j L hL hg
end
def ZFF (P:Program) (E:Env) (f:FuncId) (as:List V) (H0:Heap) (r:V) (H1:Heap):Prop:=
 ∀(B:Nat) (w0:Start) (σ:Sg) (w:World) (vs:List Value),Inv B w0 σ H0 w->Z0Q E σ w->Zx σ w as vs ->
  Calls P f vs.toArray w fun e w' =>∃u σ',e = .returned u/\Inv B w0 σ' H1 w' /\ Ext σ w σ' w' /\ Zx σ' w' [r] [u]
theorem ZE7 {B:Nat} {w0:Start} {σ:Sg} {H H2:Heap} {w:World} {fa:List (List Fk)} {fb:List Bf} {k:Nat} {args as:List V} {vs:List Value} {ids:List Nat} (h:Inv B w0 σ H w) (hr:Zx σ w args vs)
  (hp:pack fa fb k args H=some (ids,as,H2)):ZNW ids H2/\(∀id∈Z0G as,id∈ids)/\H.length<=H2.length/\∃σ',Inv B w0 σ' H2 w/\Ext σ w σ' w/\Zx σ' w as vs:=by
 unfold pack at hp
 split at hp
 ·rename_i as' H1 ha
  split at hp
  ·rename_i H2' ids' hh
   simp only [Option.some.injEq,Prod.mk.injEq] at hp
   obtain⟨rfl,rfl,rfl⟩:=hp
   obtain⟨k1,σ1,i1,e1,r1⟩:=ZNr h hr ha
   obtain⟨q1,q2,q3,σ2,i2,e2⟩:=ZNp 1000 i1 hh (by simp) (by simp)
   exact⟨q3,fun id hid=>q2 id (by simp [hid]),Nat.le_trans k1.len q1,σ2,i2,e1.trans e2,r1.ext e2⟩
  ·cases hp
 ·cases hp
theorem ZN9 {P:Program} {E:Env} {B:Nat} {w0:Start} {σ:Sg} {H H' : Heap} {w:World} {f:FuncId} {hs:ZGd} {args:List V} {vs:List Value} {x:V} (hh:∀as H0 r H1,hs.run as H0=some (r,H1)->ZFF P E f as H0 r H1)
  (hc:ZsI hs args H=some (x,H')) (h:Inv B w0 σ H w) (hg:Z0Q E σ w) (hr:Zx σ w args vs) :
  Calls P f vs.toArray w fun e w' =>∃u σ',e = .returned u/\Inv B w0 σ' H' w' /\ Ext σ w σ' w' /\ Zx σ' w' [x] [u]:=by
 unfold ZsI at hc
 split at hc
 ·rename_i ids as H2 hp
  split at hc
  ·rename_i r H3 hrun
   split at hc
   ·rename_i hlen
    simp only [Option.some.injEq,Prod.mk.injEq] at hc
    obtain⟨rfl,rfl⟩:=hc
    obtain⟨hs',hm,_,σ1,hI1,hE1,hr1⟩:=ZE7 h hr hp
    have hlt:∀id∈ids,id<H2.length:=fun id hid=>by
     obtain⟨b,k1,_⟩:=hs'.at_ id hid
     exact(List.getElem?_eq_some_iff.1 k1).1
    have hsub:Inv B ⟨w,σ1.fz,outer σ1 ids w0⟩ (σ1.ren ids) (ZyL H2 ids) w:=by
     refine ZK8 hI1 hs' _ (Below.refl _ _) (fun b c hc _=>hc) (fun b hb=>?_)
     rcases hb with hb|⟨id,L,hid,hL,hgL⟩
     ·obtain⟨k1,k2,k3,k4⟩:=hI1.kept b hb
      exact⟨k1,rfl,fun id _ L hL=>k3 id L hL,fun c hc=>hc⟩
     ·obtain⟨bx,m1,m2⟩:=hI1.dom id L hL
      obtain⟨L',hL',hok⟩:=hI1.boxes id bx m1 m2
      rw [hL] at hL';cases hL'
      refine⟨(hok.block_lt hgL).2,rfl,fun i hi L' hL' hg' =>?_,fun c hc=>hc⟩
      obtain⟨bx',n1,n2⟩:=hI1.dom i L' hL'
      have:=hI1.apart id i bx bx' L L' b m1 n1 m2 n2 hL hL' hgL hg'
      subst this
      exact hid hi
    have hg1:Z0Q E (σ1.ren ids) w:=(hg.ext hE1).bare (fun b c hh=>⟨hh,rfl⟩) (Zcn.refl _)
    refine(hh _ _ _ _ hrun B _ (σ1.ren ids) w vs hsub hg1 (Zk2 hr1 hm)).mono ?_
    rintro e w' ⟨u,σ2,rfl,hI2,hE2,hr2⟩
    obtain⟨hI3,hE3⟩:=ZQr hI1 hs' hI2 hE2 hlen
    exact⟨u,_,rfl,hI3,hE1.trans hE3,ZJB hr2 (fun b c hh=>⟨hh,rfl⟩) (Zcn.refl _) (fun id _=>ZFx hs'.nodup hlt id)⟩
   ·cases hc
  ·cases hc
 ·cases hc
def ZgL (P:Program) (E:Env) (f:FuncId) (as:List V) (r:V):Prop:=
 ∀(fz:Nat->Nat->Prop) (w:World) (vs:List Value),(∀b c,fz b c->∃u,w.cell? ⟨b,c,none⟩=some u)->Z0Q E (bare fz) w->Zx (bare fz) w as vs ->
  Calls P f vs.toArray w fun e w' =>∃u fz',e = .returned u/\Below w.heap.size w w' /\ (∀b c,fz b c->fz' b c)/\(∀b c,fz' b c->b<w.heap.size->fz b c) /\
   (∀b c,fz' b c->∃u,w'.cell? ⟨b,c,none⟩=some u)/\Zx (bare fz') w' [r] [u]/\Z03 r=true
def Zu3 (P:Program) (E:Env) (f:FuncId) (as:List V) (e sz:Nat) (xs:List V):Prop:=
 ∀(fz:Nat->Nat->Prop) (w:World) (vs:List Value),(∀b c,fz b c->∃u,w.cell? ⟨b,c,none⟩=some u)->Z0Q E (bare fz) w->Zx (bare fz) w as vs ->
  Calls P f vs.toArray w fun en w' =>∃u us fz',en = .returned u/\Below w.heap.size w w' /\ (∀b c,fz b c->fz' b c)/\(∀b c,fz' b c->b<w.heap.size->fz b c) /\
   (∀b c,fz' b c->∃u,w'.cell? ⟨b,c,none⟩=some u)/\Zx (bare fz') w' xs us/\(∀x∈xs,fzV x=true)/\(∀u∈us,u.cells.size=sz)/\(∀u∈flat us,u.oneCell' = true) /\
   ZlL w' w.heap.size e sz u xs.length (flat us)/\(∀g c,u.ownBlock=some g->¬fz' g c)
def ZaK (P:Program) (f:FuncId):Prop:=∃fn,P.funcs[f]? = some fn/\fn.body.isNone=false/\(fn.name == "runtime.NumGoroutine")=false
structure Znv (P:Program) (E:Env):Prop where
 env:∀f F,E.env f=some F->ZaK P f/\∀as r,ZG as=true->F as=some r->match E.own f with|none=>ZgL P E f as r|some e=>∀sz xs,r = .sl false sz xs->Zu3 P E f as e sz xs
 hm:∀f key hs,E.hm f key=some hs->ZaK P f/\∀as H0 r H1,hs.run as H0=some (r,H1)->ZFF P E f as H0 r H1
theorem Below.grownBy {w w' : World} (h:Below w.heap.size w w'):w.grownBy w' none:=⟨h.os,h.tape,h.output,h.size,fun k hk _=>h.block k hk⟩
theorem ZmI {B w0 σ H w} (h:Inv B w0 σ H w) {x x' : V} {v:Value} (hr:Zx σ w [x] [v]) (hf:ZDF H x=some x'):Z03 x' = true:=by
 unfold ZDF at hf
 split at hf
 ·rename_i vs
  cases hr with
  | tup h1 _=>
   cases hl:Z2b H vs with
   | none=>simp [hl] at hf
   | some vs' =>
    simp only [hl,Option.map_some,Option.some.injEq] at hf
    subst hf
    exact Z6U h h1 hl
 ·exact Zkm h hr hf
section
variable {P:Program} {E:Env} {B:Nat} {w0:Start} {σ:Sg} {H:Heap} {w:World} {f:FuncId}
theorem Ztg {args as:List V} {r:V} {vs:List Value} (ts:List TypeId) (hp:ZgL P E f (Z0R E.rows ts as) r) (hf:Z2b H args=some as) (hI:Inv B w0 σ H w) (hg:Z0Q E σ w) (hr:Zx σ w args vs) :
  Calls P f vs.toArray w fun e w' =>∃u σ',e = .returned u/\Inv B w0 σ' (bump H (args.flatMap Z9g)) w' /\ Ext σ w σ' w' /\ Zx σ' w' [r] [u]:=by
 obtain⟨hI1,hEx1⟩:=hI.freeze (args.flatMap Z9g)
 have hr1:=ZaU E.rows ts (Zd4 hI hr hf (args.flatMap Z9g) (fun i hi=>hi))
 have hn:ZG (Z0R E.rows ts as)=true:=by rw [Z5s];exact Z6U hI hr hf
 generalize hσ1:σ.freeze H (args.flatMap Z9g)=σ1 at hI1 hEx1 hr1
 have hbox1:σ1.box=σ.box:=by rw [<- hσ1];rfl
 have hfz0:∀b c,σ1.fz b c->(bare σ1.fz).fz b c/\w.cell? ⟨b,c,none⟩=w.cell? ⟨b,c,none⟩:=fun b c h=>⟨h,rfl⟩
 refine(hp σ1.fz w vs hI1.cells ((hg.ext hEx1).bare hfz0 (Zcn.refl _)) (hr1.bare hfz0 (Zcn.refl _) hn)).mono ?_
 rintro e w' ⟨u,fz',rfl,hb,hmono,hold,hcells,hru,hnr⟩
 obtain⟨hI2,hEx2⟩:=hI1.grown (Below.grownBy hb)
 have hcell:∀b c,σ1.fz b c->w'.cell? ⟨b,c,none⟩=w.cell? ⟨b,c,none⟩:=fun b c h=>(hEx2.fz b c h).2
 have hex:Ext σ1 w' ⟨σ1.box,fz'⟩ w' :=⟨fun id L hL=>⟨L,hL,rfl,.inl rfl⟩,fun b c h=>⟨hmono b c h,rfl⟩,Zcn.refl _⟩
 refine⟨u,⟨σ1.box,fz'⟩,rfl,⟨hI2.below,hI2.size,hI2.dom,fun id bx hb hl=>?_,hI2.apart,hcells,fun b c hc id bx L hb hl hL hown=>?_,hI2.low,fun b c hc hlt=>?_,fun b hb=>?_⟩,hEx1.trans (hEx2.trans hex),?_⟩
 ·obtain⟨L,hL,hok⟩:=hI2.boxes id bx hb hl
  obtain⟨us,h1,h2,h3,h4⟩:=hok.Z8h
  exact⟨L,hL,⟨hok.tot,⟨us,h1.ext hex,h2,h3,h4⟩,hok.ZdP,hok.esz,hok.oks,hok.fzs⟩⟩
 ·obtain⟨L',hL',hok⟩:=hI1.boxes id bx hb hl
  rw [show σ1.box id=some L from hL] at hL'
  cases hL'
  exact hI1.floor b c (hold b c hc (hok.block_lt hown).2) id bx L hb hl hL hown
 ·exact hI1.old b c (hold b c hc (Nat.lt_of_lt_of_le hlt hI1.size)) hlt
 ·obtain⟨k1,k2,k3,k4⟩:=hI2.kept b hb
  exact⟨k1,k2,k3,fun c hc=>k4 c (hold b c hc (hI1.kept b hb).1)⟩
 ·exact hru.bare (fun b c h=>⟨h,rfl⟩) (Zcn.refl _) (by simp [ZG,hnr])
theorem ownsRow_base {w:World} {b b' e sz n:Nat} {v:Value} {us:List Value} (h:ZlL w b e sz v n us) (hb:b' <= b):ZlL w b' e sz v n us:=by
 refine⟨h.1,?_⟩
 rcases h.2 with h|⟨g,cap,cur,tg,h1,h2,h3⟩
 ·exact .inl h
 ·exact .inr ⟨g,cap,cur,tg,h1,by omega,h3⟩
theorem Zyn {args as:List V} {e sz:Nat} {xs:List V} {vs:List Value} (ts:List TypeId) (hp:Zu3 P E f (Z0R E.rows ts as) e sz xs) (hf:Z2b H args=some as) (hI:Inv B w0 σ H w) (hg:Z0Q E σ w) (hr:Zx σ w args vs) :
  Calls P f vs.toArray w fun en w' =>∃u σ',en = .returned u/\Inv B w0 σ' (place (bump H (args.flatMap Z9g)) H.length (ZW true false e sz xs)) w' /\ Ext σ w σ' w' /\ Zx σ' w' [.lsl H.length 0 xs.length xs.length] [u]:=by
 obtain⟨hI1,hEx1⟩:=hI.freeze (args.flatMap Z9g)
 have hr1:=ZaU E.rows ts (Zd4 hI hr hf (args.flatMap Z9g) (fun i hi=>hi))
 have hn:ZG (Z0R E.rows ts as)=true:=by rw [Z5s];exact Z6U hI hr hf
 generalize hσ1:σ.freeze H (args.flatMap Z9g)=σ1 at hI1 hEx1 hr1
 have hfz0:∀b c,σ1.fz b c->(bare σ1.fz).fz b c/\w.cell? ⟨b,c,none⟩=w.cell? ⟨b,c,none⟩:=fun b c h=>⟨h,rfl⟩
 refine(hp σ1.fz w vs hI1.cells ((hg.ext hEx1).bare hfz0 (Zcn.refl _)) (hr1.bare hfz0 (Zcn.refl _) hn)).mono ?_
 rintro en w' ⟨u,us,fz',rfl,hb,hmono,hold,hcells,hru,hfzv,hsz,hone,hown,hnfz⟩
 obtain⟨hI2,hEx2⟩:=hI1.grown (Below.grownBy hb)
 have hex:Ext σ1 w' ⟨σ1.box,fz'⟩ w' :=⟨fun id L hL=>⟨L,hL,rfl,.inl rfl⟩,fun b c h=>⟨hmono b c h,rfl⟩,Zcn.refl _⟩
 have hI3:Inv B w0 ⟨σ1.box,fz'⟩ (bump H (args.flatMap Z9g)) w' :=by
  refine⟨hI2.below,hI2.size,hI2.dom,fun id bx hb hl=>?_,hI2.apart,hcells,fun b c hc id bx L hb hl hL hown=>?_,hI2.low,fun b c hc hlt=>?_,fun b hb=>?_⟩
  ·obtain⟨L,hL,hok⟩:=hI2.boxes id bx hb hl
   obtain⟨us,h1,h2,h3,h4⟩:=hok.Z8h
   exact⟨L,hL,⟨hok.tot,⟨us,h1.ext hex,h2,h3,h4⟩,hok.ZdP,hok.esz,hok.oks,hok.fzs⟩⟩
  ·obtain⟨L',hL',hok⟩:=hI1.boxes id bx hb hl
   rw [show σ1.box id=some L from hL] at hL'
   cases hL'
   exact hI1.floor b c (hold b c hc (hok.block_lt hown).2) id bx L hb hl hL hown
  ·exact hI1.old b c (hold b c hc (Nat.lt_of_lt_of_le hlt hI1.size)) hlt
  ·obtain⟨k1,k2,k3,k4⟩:=hI2.kept b hb
   exact⟨k1,k2,k3,fun c hc=>k4 c (hold b c hc (hI1.kept b hb).1)⟩
 have hblk:∀g,u.ownBlock=some g->w.heap.size<=g:=by
  intro g hg'
  rcases hown.2 with ⟨hv,_⟩|⟨g',cap,cur,tg,hv,hle,_⟩
  ·rw [hv] at hg';cases hg'
  ·rw [hv] at hg'
   simp only [Value.ownBlock,Option.some.injEq] at hg'
   omega
 have hnr:ZG xs=true:=Z48 hfzv
 have hk:Z5g (bump H (args.flatMap Z9g)) H.length=true:=by
  have:=Ze3 (bump H (args.flatMap Z9g))
  rwa [bump_length] at this
 obtain⟨hI4,hEx4⟩:=hI3.ZPe hk (ZW true false e sz xs) rfl ⟨u,xs.length,sz⟩ (by simp [ZW])
  (fun id bx' L' g h1 h2 h3 h4 h5=>by
   obtain⟨L'',hL'',hok⟩:=hI1.boxes id bx' h1 h2
   rw [show σ1.box id=some L' from h3] at hL''
   cases hL''
   have:=(hok.block_lt h4).2
   have:=hblk g h5
   omega)
  (fun g c h=>hnfz g c h) (fun g h hk=>by have:=(hI1.kept g hk).1;have:=hblk g h;omega)
  ⟨rfl,⟨us,hru.bare (fun b c h=>⟨h,rfl⟩) (Zcn.refl _) hnr,hsz,hone,by simpa [ZW] using ownsRow_base hown hI1.size⟩,by simp [ZW],rfl,ZB9 hfzv,fun _ x hx=>Z7o (hfzv x hx)⟩
 have hval:∃a n c,u = .slice a n c/\n=xs.length/\n<=c:=by
  rcases hown.2 with ⟨hv,hn⟩|⟨g,cap,cur,tg,hv,_,_,_,hnc,_⟩
  ·exact⟨none,0,0,hv,hn.symm,Nat.le_refl _⟩
  ·exact⟨_,_,cap,hv,rfl,hnc⟩
 obtain⟨a,n,c,hv,hn',hnc⟩:=hval
 refine⟨u,_,rfl,hI4,hEx1.trans (hEx2.trans (hex.trans hEx4)),.lsl (L:=⟨u,xs.length,sz⟩) (by simp [Sg.put]) (Nat.le_refl _) (fun _=>⟨by omega,a,n,c,0,hv,?_,Nat.zero_le _,Nat.le_refl _,fun _=>rfl⟩) ⟨a,n,c,hv⟩ .nil⟩
 subst hn'
 rw [hv]
 cases a with
 | none=>simp
 | some a=>simp [Addr.add]
theorem ZK5 (hE:Z12 E) (hP:E.P=P) {call:Z24} (hcall:Z9R P E B w0 call) (hpure:ZaO E call) {fn:Func} (hfn:E.func f=some fn) {n:Nat} {args:List V} {H' : Heap} {r:V} {vs:List Value}
  (hb:Zuq call n E f fn args H=some (r,H')) (hI:Inv B w0 σ H w) (hg:Z0Q E σ w) (hr:Zx σ w args vs) :
  ZaK P f/\Calls P f vs.toArray w fun e w' =>∃u σ',e = .returned u/\Inv B w0 σ' H' w' /\ Ext σ w σ' w' /\ Zx σ' w' [r] [u]:=by
 unfold Zuq at hb
 cases hbody:fn.body with
 | none=>simp [hbody] at hb
 | some c=>
  simp only [hbody] at hb
  obtain⟨hf1,hf2⟩:=hE.func f fn hfn
  rw [hP] at hf1
  refine⟨⟨fn,hf1,by simp [hbody],hf2⟩,calls_of_wp hf1 hbody ?_⟩
  have hcm:=hE.calm f fn c hfn hbody
  have hslots:Zx σ w (args++List.replicate (fn.ntmps - args.length) Z17) (vs.toArray++Array.replicate (fn.ntmps - vs.toArray.size) undef).toList:=by
   simp only [Array.toList_append,Array.toList_replicate,List.size_toArray]
   rw [<- hr.length]
   exact hr.append (Zx.replicate _ (.no .nil))
  have hrel:Rel E B w0 σ ⟨args++List.replicate (fn.ntmps - args.length) Z17,H⟩ { tmps:=vs.toArray++Array.replicate (fn.ntmps - vs.toArray.size) undef,defers:=[] } w:=⟨hI,hg,hslots,rfl⟩
  have hfin:∀st,(Z45 E st.H st.s fn.results.toList).map (·,st.H)=some (r,H')->∀a' w' σ',Rel E B w0 σ' st a' w' -> Ext σ w σ' w' ->
    a'.defers=[]/\∃v,(results fn a'.tmps).run P w' = .ok v w' /\ (fun e w' =>∃u σ',e=Ending.returned u/\Inv B w0 σ' H' w' /\ Ext σ w σ' w' /\ Zx σ' w' [r] [u]) (.returned v) w' :=by
   intro st hres a' w' σ' hr' he'
   cases hx:Z45 E st.H st.s fn.results.toList with
   | none=>simp [hx] at hres
   | some x=>
    simp only [hx,Option.map_some,Option.some.injEq,Prod.mk.injEq] at hres
    obtain⟨rfl,rfl⟩:=hres
    obtain⟨u,hu,hur⟩:=ZfJ (P:=P) hE hP hr'.inv hr'.slots hx
    exact⟨hr'.calm,u,hu,u,σ',rfl,hr'.inv,he',hur⟩
  split at hb
  ·rename_i st hc
   exact ZiG hE hP hcall hpure (ZCl hE hP hcall hpure n) c _ .normal st hcm hc _ σ _ w hrel (hfin st hb)
  ·rename_i st hc
   exact ZiG hE hP hcall hpure (ZCl hE hP hcall hpure n) c _ .ret st hcm hc _ σ _ w hrel (hfin st hb)
  ·cases hb
theorem ZAe (hE:Z12 E) (hP:E.P=P) {call:Z24} (hcall:∀B w0,Z9R P E B w0 call) (hpure:ZaO E call) {fn:Func} (hfn:E.func f=some fn) {n:Nat} {as:List V} {H' : Heap} {r0 r:V}
  (hb:Zuq call n E f fn as []=some (r0,H')) (hfr:ZDF H' r0=some r):ZgL P E f as r:=by
 intro fz w vs hcells hg hr
 have hI:Inv w.heap.size (Start.of w fz) (bare fz) [] w:=⟨Below.refl _ w,Nat.le_refl _,fun id L hL=>(by cases hL),fun id bx hb=>by simp at hb,fun i j b1 b2 L1 L2 g h1=>by simp at h1,hcells,
  fun b c hc id bx L hb=>by simp at hb,fun id bx hb=>by simp at hb,fun b c hc _=>hc,fun b hb=>hb.elim⟩
 obtain⟨_,hc⟩:=ZK5 hE hP (hcall w.heap.size (Start.of w fz)) hpure hfn hb hI hg hr
 refine hc.mono ?_
 rintro e w' ⟨u,σ',rfl,hI',hEx',hr'⟩
 obtain⟨hI2,hEx2⟩:=hI'.freeze (ZMD r0)
 have hr2:=Zpk hI' hr' hfr (ZMD r0) (fun i hi=>hi)
 have hn:=ZmI hI' hr' hfr
 refine⟨u,(σ'.freeze H' (ZMD r0)).fz,rfl,hI2.below,fun b c h=>(hEx2.fz b c (hEx'.fz b c h).1).1,fun b c h hlt=>hI2.old b c h hlt,hI2.cells,?_,hn⟩
 exact hr2.bare (fun b c h=>⟨h,rfl⟩) (Zcn.refl _) (by simp [ZG,hn])
theorem ZwA {H:Heap}:∀{xs ys:List V},Z2b H xs=some ys->xs.length=ys.length:=by
 intro xs
 induction xs with
 | nil=>intro ys h;simp [Z2b] at h;subst h;rfl
 | cons x xs ih=>
  intro ys h
  simp only [Z2b] at h
  split at h
  ·rename_i a b ha hb
   simp only [Option.some.injEq] at h
   subst h
   simp [ih hb]
  ·cases h
theorem ZJF {H H' : Heap} {x:V} (h:Z1x (Z1e x) H H'):ZwG H' x=ZwG H x:=by
 unfold ZwG
 split
 ·rename_i id i off tot
  split
  ·cases hb:Z1H H id tot with
   | none=>rw [Z6t (h id (by simp [Z1e,ZdA])) hb]
   | some b=>
    obtain⟨b',h1,h2⟩:=Z5I (h id (by simp [Z1e,ZdA])) hb
    obtain⟨e1,e2,e3,e4,e5⟩:=Zha h2
    simp only [h1,e1,e4,e5]
  ·rfl
 ·exact ZKD h
theorem ZCR {H H' : Heap} {xs:List V} (h:Z1x (xs.flatMap Z1e) H H'):Z67 H' xs=Z67 H xs:=by
 induction xs with
 | nil=>rfl
 | cons x xs ih=>
  simp only [Z67]
  rw [ZJF (fun i hi=>h i (by simp [hi])),ih (fun i hi=>h i (by rw [List.flatMap_cons];exact List.mem_append_right _ hi))]
theorem ZHA (n:Nat):ZEX E (Z49 E n):=by
 intro f hp args H v H1 h
 cases n with
 | zero=>cases h
 | succ n=>
  unfold Z49 at h
  cases henv:E.env f with
  | some F=>
   simp only [henv] at h
   by_cases hq:args.any Zqi=true
   ·rw [if_pos hq] at h
    have ho:E.own f=none:=by simpa using (Bool.and_eq_true_iff.1 hp).2
    cases hf:Z67 H args with
    | none=>simp [hf,ho] at h
    | some as=>
     simp only [hf,ho] at h
     cases hF:F (Z0R E.rows (E.par f) as) with
     | none=>simp [hF] at h
     | some r=>
      simp only [hF] at h
      split at h
      ·rename_i hfl
       simp only [Option.some.injEq,Prod.mk.injEq] at h
       refine⟨h.2.symm,fun H' hs=>?_⟩
       unfold Z49
       simp only [henv]
       rw [if_pos hq,ZCR hs,hf]
       simp only [ho,hF]
       rw [if_pos hfl,h.1]
      ·cases h
   rw [if_neg hq] at h
   cases hf:Z2b H args with
   | none=>simp [hf] at h
   | some as=>
    have ho:E.own f=none:=by simpa using (Bool.and_eq_true_iff.1 hp).2
    simp only [hf,ho] at h
    cases hF:F (Z0R E.rows (E.par f) as) with
    | none=>simp [hF] at h
    | some r=>
     simp only [hF,Option.map_some,Option.some.injEq,Prod.mk.injEq] at h
     refine⟨h.2.symm,fun H' hs=>?_⟩
     unfold Z49
     simp only [henv]
     rw [if_neg hq,Zlh hs,hf]
     simp only [ho,hF,Option.map_some,h.1]
  | none=>
   have hpf:E.pure f=true:=by simpa [henv] using (Bool.and_eq_true_iff.1 hp).1
   simp only [henv,hpf,if_true] at h
   cases hfn:E.func f with
   | none=>simp [hfn] at h
   | some fn=>
    simp only [hfn] at h
    cases hf:Z2b H args with
    | none=>simp [hf] at h
    | some as=>
     simp only [hf] at h
     cases hbd:Zuq (Z49 E n) n E f fn as [] with
     | none=>simp [hbd] at h
     | some rr=>
      obtain⟨r0,H2⟩:=rr
      simp only [hbd] at h
      cases hft:ZDF H2 r0 with
      | none=>simp [hft] at h
      | some r=>
       simp only [hft,Option.map_some,Option.some.injEq,Prod.mk.injEq] at h
       refine⟨h.2.symm,fun H' hs=>?_⟩
       unfold Z49
       simp only [henv,hpf,if_true,hfn]
       rw [Zlh hs,hf]
       simp only [hbd,hft,Option.map_some,h.1]
theorem ZiT (H:Heap) (a b:List Nat):bump (bump H a) b=bump H (a++b):=by
 induction a generalizing H with
 | nil=>rfl
 | cons i a ih=>simp only [bump,List.cons_append,ih]
theorem Ztx {f:Fk} {H H1:Heap} {x y:V} (h:ZdR f H x=some (y,H1)) (hn:Z3k y=[]):∃ids,(∀i∈ids,i∈ZdA x)/\H1=bump H ids/\∀H',Z1x (ZdA x) H H' -> ZdR f H' x=some (y,bump H' ids):=by
 cases f with
 | s e sz=>
  simp only [ZdR] at h
  cases hf:ZtK H x with
  | none=>simp [hf] at h
  | some w=>
   simp only [hf,Option.map_some,Option.some.injEq,Prod.mk.injEq] at h
   obtain⟨rfl,rfl⟩:=h
   exact⟨ZgA x,fun i hi=>ZFa hi,rfl,fun H' hs=>by simp only [ZdR,Zvc hs,hf,Option.map_some]⟩
 | own e sz=>
  exfalso
  simp only [ZdR,ZMr] at h
  split at h
  ·simp only [Option.some.injEq,Prod.mk.injEq] at h
   rw [<- h.1] at hn
   simp [Z3k] at hn
  ·simp only [Option.some.injEq,Prod.mk.injEq] at h
   rw [<- h.1] at hn
   simp [Z3k] at hn
  ·split at h
   ·simp only [Option.some.injEq,Prod.mk.injEq] at h
    rw [<- h.1] at hn
    simp [Z3k] at hn
   ·cases h
  ·cases h
 | keep=>
  simp only [ZdR,Option.some.injEq,Prod.mk.injEq] at h
  obtain⟨rfl,rfl⟩:=h
  exact⟨[],by simp,rfl,fun H' _=>rfl⟩
theorem ZGf:∀{fl:List Fk} {H H1:Heap} {xs ys:List V},Zbu fl H xs=some (ys,H1)->Z0G ys=[]->∃ids,(∀i∈ids,i∈xs.flatMap ZdA)/\H1=bump H ids/\∀H',Z1x (xs.flatMap ZdA) H H' -> Zbu fl H' xs=some (ys,bump H' ids):=by
 intro fl
 induction fl with
 | nil=>
  intro H H1 xs ys h hn
  cases xs with
  | nil=>
   simp only [Zbu,Option.some.injEq,Prod.mk.injEq] at h
   obtain⟨rfl,rfl⟩:=h
   exact⟨[],by simp,rfl,fun H' _=>rfl⟩
  | cons=>simp [Zbu] at h
 | cons f fl ih=>
  intro H H1 xs ys h hn
  cases xs with
  | nil=>simp [Zbu] at h
  | cons x xs=>
   simp only [Zbu] at h
   cases h1:ZdR f H x with
   | none=>simp [h1] at h
   | some r=>
    obtain⟨y,Ha⟩:=r
    simp only [h1] at h
    cases h2:Zbu fl Ha xs with
    | none=>simp [h2] at h
    | some q=>
     obtain⟨zs,Hb⟩:=q
     simp only [h2,Option.some.injEq,Prod.mk.injEq] at h
     obtain⟨rfl,rfl⟩:=h
     simp only [Z0G,List.append_eq_nil_iff] at hn
     obtain⟨i1,a1,rfl,a3⟩:=Ztx h1 hn.1
     obtain⟨i2,b1,rfl,b3⟩:=ih h2 hn.2
     refine⟨i1++i2,fun i hi=>?_,ZiT H i1 i2,fun H' hs=>?_⟩
     ·rw [List.flatMap_cons]
      rcases List.mem_append.1 hi with hi|hi
      ·exact List.mem_append_left _ (a1 i hi)
      ·exact List.mem_append_right _ (b1 i hi)
     ·have hs1:Z1x (ZdA x) H H' :=fun i hi=>hs i (by rw [List.flatMap_cons];exact List.mem_append_left _ hi)
      have hs2:Z1x (xs.flatMap ZdA) (bump H i1) (bump H' i1):=(Zar _ i1 H).symm.trans (Z1x.trans (fun i hi=>hs i (by rw [List.flatMap_cons];exact List.mem_append_right _ hi)) (Zar _ i1 H'))
      simp only [Zbu,a3 H' hs1,b3 _ hs2,ZiT]
theorem ZHZ {fl:List Fk} {H H1:Heap} {x y:V} (h:Zjb fl H x=some (y,H1)) (hn:Z3k y=[]):∃ids,(∀i∈ids,i∈Z1e x)/\H1=bump H ids/\∀H',Z1x (Z1e x) H H' -> Zjb fl H' x=some (y,bump H' ids):=by
 unfold Zjb at h
 split at h
 ·rename_i cs
  cases h1:Zbu fl H cs with
  | none=>simp [h1] at h
  | some r=>
   obtain⟨ys,Ha⟩:=r
   simp only [h1,Option.map_some,Option.some.injEq,Prod.mk.injEq] at h
   obtain⟨rfl,rfl⟩:=h
   obtain⟨ids,a1,a2,a3⟩:=ZGf h1 (by simpa [Z3k] using hn)
   exact⟨ids,a1,a2,fun H' hs=>by simp only [Zjb,a3 H' hs,Option.map_some]⟩
 ·rename_i hne
  have hr:Z1e x=ZdA x:=by
   unfold Z1e
   split
   ·rename_i cs;exact absurd rfl (hne cs)
   ·rfl
  split at h
  ·rename_i f
   obtain⟨ids,a1,a2,a3⟩:=Ztx h hn
   refine⟨ids,by rw [hr];exact a1,a2,fun H' hs=>?_⟩
   unfold Zjb
   split
   ·rename_i cs;exact absurd rfl (hne cs)
   ·exact a3 H' (by rw [hr] at hs;exact hs)
  ·cases h
theorem ZH3:∀{fa:List (List Fk)} {H H1:Heap} {xs ys:List V},Zdj fa H xs=some (ys,H1)->Z0G ys=[]->∃ids,(∀i∈ids,i∈xs.flatMap Z1e)/\H1=bump H ids/\∀H',Z1x (xs.flatMap Z1e) H H' -> Zdj fa H' xs=some (ys,bump H' ids):=by
 intro fl
 induction fl with
 | nil=>
  intro H H1 xs ys h hn
  cases xs with
  | nil=>
   simp only [Zdj,Option.some.injEq,Prod.mk.injEq] at h
   obtain⟨rfl,rfl⟩:=h
   exact⟨[],by simp,rfl,fun H' _=>rfl⟩
  | cons=>simp [Zdj] at h
 | cons f fl ih=>
  intro H H1 xs ys h hn
  cases xs with
  | nil=>simp [Zdj] at h
  | cons x xs=>
   simp only [Zdj] at h
   cases h1:Zjb f H x with
   | none=>simp [h1] at h
   | some r=>
    obtain⟨y,Ha⟩:=r
    simp only [h1] at h
    cases h2:Zdj fl Ha xs with
    | none=>simp [h2] at h
    | some q=>
     obtain⟨zs,Hb⟩:=q
     simp only [h2,Option.some.injEq,Prod.mk.injEq] at h
     obtain⟨rfl,rfl⟩:=h
     simp only [Z0G,List.append_eq_nil_iff] at hn
     obtain⟨i1,a1,rfl,a3⟩:=ZHZ h1 hn.1
     obtain⟨i2,b1,rfl,b3⟩:=ih h2 hn.2
     refine⟨i1++i2,fun i hi=>?_,ZiT H i1 i2,fun H' hs=>?_⟩
     ·rw [List.flatMap_cons]
      rcases List.mem_append.1 hi with hi|hi
      ·exact List.mem_append_left _ (a1 i hi)
      ·exact List.mem_append_right _ (b1 i hi)
     ·have hs1:Z1x (Z1e x) H H' :=fun i hi=>hs i (by rw [List.flatMap_cons];exact List.mem_append_left _ hi)
      have hs2:Z1x (xs.flatMap Z1e) (bump H i1) (bump H' i1):=(Zar _ i1 H).symm.trans (Z1x.trans (fun i hi=>hs i (by rw [List.flatMap_cons];exact List.mem_append_right _ hi)) (Zar _ i1 H'))
      simp only [Zdj,a3 H' hs1,b3 _ hs2,ZiT]
theorem ZHb {n:Nat} {H H2:Heap} {todo ids:List Nat} (h:Zl2 n [] H todo []=some (H2,ids)):todo=[]/\H2=H/\ids=[]:=by
 cases n with
 | zero=>cases h
 | succ n=>
  cases todo with
  | nil=>
   simp only [Zl2,Option.some.injEq,Prod.mk.injEq] at h
   exact⟨rfl,h.1.symm,h.2.symm⟩
  | cons i todo=>
   exfalso
   unfold Zl2 at h
   simp only [List.contains_nil,Bool.false_eq_true,if_false] at h
   split at h<;>first|(cases h;done)|simp_all
theorem ZH2 {hs:ZGd} (hfb:hs.fb=[]) {args:List V} {H H1:Heap} {v:V} (h:ZsI hs args H=some (v,H1)) :
  ∃ids nbs,(∀i∈ids,i∈args.flatMap Z1e)/\H1=bump H ids++nbs/\∀H',H'.length=H.length->Z1x (args.flatMap Z1e) H H' -> ZsI hs args H' = some (v,bump H' ids++nbs):=by
 unfold ZsI at h
 unfold pack at h
 rw [hfb] at h
 cases hp:Zdj hs.fa H args with
 | none=>simp [hp] at h
 | some r=>
  obtain⟨as,Ha⟩:=r
  simp only [hp] at h
  cases hk:Zl2 1000 [] Ha (List.range 0++Z0G as) [] with
  | none=>rw [hk] at h;cases h
  | some q=>
   obtain⟨H2,ids0⟩:=q
   obtain⟨hr,rfl,rfl⟩:=ZHb hk
   simp only [List.range_zero,List.nil_append] at hr
   obtain⟨ids,a1,rfl,a3⟩:=ZH3 hp hr
   simp only [hk] at h
   cases hrun:hs.run (Z9C (([]:List Nat).idxOf ·) as) (ZyL (bump H ids) []) with
   | none=>rw [hrun] at h;cases h
   | some rr=>
    obtain⟨r,H3⟩:=rr
    simp only [hrun,List.length_nil,Nat.zero_le,if_true,Option.some.injEq,Prod.mk.injEq,bump_length] at h
    obtain⟨rfl,rfl⟩:=h
    refine⟨ids,H3.map (Z3h (ZiA [] H.length)),a1,by simp only [ZaP,ZO7,bump_length],fun H' hl hs' =>?_⟩
    unfold ZsI pack
    rw [hfb,a3 H' hs']
    simp only [List.range_zero,List.nil_append,hr,Zl2]
    have hsub:ZyL (bump H' ids) []=ZyL (bump H ids) []:=rfl
    simp only [hsub,hrun,List.length_nil,Nat.zero_le,if_true,bump_length,hl,ZaP,ZO7]
theorem ZIM (n:Nat):ZFc E (Z49 E n):=by
 intro f hf args H v H1 h
 cases n with
 | zero=>cases h
 | succ n=>
  have hf0:=hf
  unfold Zu5 at hf
  simp only [Bool.and_eq_true,Option.isNone_iff_eq_none,Bool.not_eq_true'] at hf
  obtain⟨⟨h1,h2⟩,h3⟩:=hf
  cases hh:E.hm f [] with
  | none=>rw [hh] at h3;cases h3
  | some hs=>
   rw [hh] at h3
   have hfb:hs.fb=[]:=by simpa using h3
   have he:∀H,Z49 E (n+1) f args H=ZsI hs args H:=fun H=>by
    unfold Z49
    simp only [h1,h2,Bool.false_eq_true,if_false,hf0,if_true,hh]
   rw [he] at h
   obtain⟨ids,nbs,a1,a2,a3⟩:=ZH2 hfb h
   exact⟨ids,nbs,a1,a2,fun H' hl hs' =>by rw [he];exact a3 H' hl hs'⟩
theorem Z6g (n:Nat):ZaO E (Z49 E n):=⟨ZHA n,ZIM n⟩
def ZSB (w:World) (b c:Nat):Prop:=∃u,w.cell? ⟨b,c,none⟩=some u
theorem ZLk {σ σ' : Sg} {w w' : World} {cs:List V} {ws:List Value} (h:Zx σ w cs ws):Zx σ' w' (cs.map ZFV) ws:=by
 induction cs generalizing ws with
 | nil=>cases h.Z0Y;exact .nil
 | cons c cs ih=>
  obtain⟨v,vs,rfl,h1,h2⟩:=h.ZX
  simp only [List.map_cons]
  refine Zx.Z0I.2 ⟨?_,ih h2⟩
  cases h1 with
  | lit hl _=>exact .lit hl .nil
  | _=>exact .und _ .nil
theorem Ztt (cs:List V):ZG (cs.map ZFV)=true:=by
 induction cs with
 | nil=>rfl
 | cons c cs ih=>cases c<;>simp [ZFV,ZG,Z03,ih]
theorem ZHN {B:Nat} {w0:Start} {σ:Sg} {H:Heap} {w:World} (h:Inv B w0 σ H w) {x y:V} {v:Value} (hr:Zx σ w [x] [v]) (hs:ZwG H x=some y):Zx (bare (ZSB w)) w [y] [v]/\Z03 y=true:=by
 unfold ZwG at hs
 split at hs
 ·rename_i id i off tot
  split at hs
  ·rename_i hz
   obtain⟨rfl,rfl⟩:=hz
   split at hs
   ·rename_i b hb
    obtain⟨b1,b2,b3⟩:=Z8s hb
    split at hs
    ·rename_i cs hrow hxs
     simp only [Option.some.injEq] at hs
     subst hs
     obtain⟨L,us,m⟩:=h.meet b1 b2
     cases hr with
     | ptr g k1 k2 k3 k4 k5=>
      rename_i L'
      have hL:L' = L:=by
       have:=m.box
       rw [k1] at this
       cases this
       rfl
      subst hL
      obtain⟨n,c,hv⟩:=k3 (m.tot.trans b3)
      have hrep:=m.Z8h
      rw [hxs] at hrep
      have hus:∃ws:List Value,us=[.agg ws.toArray]/\Zx σ w cs ws/\∀u∈ws,u.oneCell' = true:=by
       cases hrep with
       | agg q1 q2 q3=>cases q3;exact⟨_,rfl,q1,q2⟩
      obtain⟨ws,hus,hcs,hone⟩:=hus
      refine⟨?_,by simp [Z03,ZG,Ztt]⟩
      have key:Zx (bare (ZSB w)) w [.ept b.esz [.agg (cs.map ZFV)] 0 0] [.pointer (some ⟨g,0+0*b.esz+0,none⟩)]:=by
       refine .ept (us:=us) g 0 b.esz 0 0 ?_ ?_ (fun u hu=>by rw [m.esz];exact m.sizes u hu) m.ones ?_ .nil
       ·rw [hus];exact .agg (ZLk hcs) hone .nil
       ·intro x hx
        simp only [List.mem_singleton] at hx
        subst hx
        simp [fzV,okV,Z03,Ztt]
       ·intro j u hu
        have:=m.cell (g:=g) (by rw [hv];rfl) j u hu
        rw [Nat.zero_add]
        exact⟨⟨u,this⟩,this⟩
      rw [k4]
      simpa using key
    ·cases hs
   ·cases hs
  ·cases hs
 ·have hn:=Zkm h hr hs
  refine⟨?_,hn⟩
  obtain⟨hI1,hEx1⟩:=h.freeze (Z9g x)
  have:=Zom h hr hs (Z9g x) (fun i hi=>hi)
  exact this.bare (fun b c hh=>⟨hI1.cells b c hh,rfl⟩) (Zcn.refl _) (by simp [ZG,hn])
theorem Zzb {B:Nat} {w0:Start} {σ:Sg} {H:Heap} {w:World} (h:Inv B w0 σ H w):∀{xs ys:List V} {vs:List Value},Zx σ w xs vs->Z67 H xs=some ys->Zx (bare (ZSB w)) w ys vs/\ZG ys=true:=by
 intro xs
 induction xs with
 | nil=>
  intro ys vs hr hs
  cases hr.Z0Y
  simp only [Z67,Option.some.injEq] at hs
  subst hs
  exact⟨.nil,rfl⟩
 | cons x xs ih=>
  intro ys vs hr hs
  obtain⟨v,vs',rfl,h1,h2⟩:=hr.ZX
  simp only [Z67] at hs
  split at hs
  ·rename_i y ys' e1 e2
   simp only [Option.some.injEq] at hs
   subst hs
   obtain⟨r1,n1⟩:=ZHN h h1 e1
   obtain⟨r2,n2⟩:=ih h2 e2
   exact⟨Zx.Z0I.2 ⟨r1,r2⟩,by simp [ZG,n1,n2]⟩
  ·cases hs
theorem ZxO {σ σ' : Sg} {w w' : World} {cs:List V} {ws:List Value} (h:Zx σ w cs ws) (hl:cs.all ZbY=true):Zx σ' w' cs ws:=by
 induction cs generalizing ws with
 | nil=>cases h.Z0Y;exact .nil
 | cons c cs ih=>
  obtain⟨v,vs,rfl,h1,h2⟩:=h.ZX
  simp only [List.all_cons,Bool.and_eq_true] at hl
  refine Zx.Z0I.2 ⟨?_,ih h2 hl.2⟩
  cases h1 with
  | lit hl' _=>exact .lit hl' .nil
  | _=>simp [ZbY] at hl
theorem ZGE {σ σ' : Sg} {w w' : World} {x:V} {u:Value} (h:Zx σ w [x] [u]) (hl:ZiR x=true):Zx σ' w' [x] [u]:=by
 cases h with
 | lit hl' _=>exact .lit hl' .nil
 | agg h1 h2 _=>exact .agg (ZxO h1 (by simpa [ZiR] using hl)) h2 .nil
 | _=>simp [ZiR] at hl
theorem ZG0 {σ σ' : Sg} {w w' : World} {cs:List V} {ws:List Value} (h:Zx σ w cs ws) (hl:cs.all ZiR=true):Zx σ' w' cs ws:=by
 induction cs generalizing ws with
 | nil=>cases h.Z0Y;exact .nil
 | cons c cs ih=>
  obtain⟨v,vs,rfl,h1,h2⟩:=h.ZX
  simp only [List.all_cons,Bool.and_eq_true] at hl
  exact Zx.Z0I.2 ⟨ZGE h1 hl.1,ih h2 hl.2⟩
theorem ZKq {σ σ' : Sg} {w w' : World} {x:V} {u:Value} (h:Zx σ w [x] [u]) (hl:ZsH x=true):Zx σ' w' [x] [u]:=by
 cases h with
 | lit hl' _=>exact .lit hl' .nil
 | agg h1 h2 _=>exact .agg (ZxO h1 (by simpa [ZsH,ZiR] using hl)) h2 .nil
 | tup h1 _=>exact .tup (ZG0 h1 (by simpa [ZsH] using hl)) .nil
 | _=>simp [ZsH,ZiR] at hl
theorem ZDK {P:Program} {E:Env} {B:Nat} {w0:Start} {σ:Sg} {H:Heap} {w:World} {f:FuncId} {args as:List V} {r:V} {vs:List Value} (ts:List TypeId) (hp:ZG (Z0R E.rows ts as)=true->ZgL P E f (Z0R E.rows ts as) r) (hf:Z67 H args=some as) (hfl:ZsH r=true) (hI:Inv B w0 σ H w) (hg:Z0Q E σ w) (hr:Zx σ w args vs) :
  Calls P f vs.toArray w fun e w' =>∃u σ',e = .returned u/\Inv B w0 σ' (bump H (args.flatMap Z9g)) w' /\ Ext σ w σ' w' /\ Zx σ' w' [r] [u]:=by
 obtain⟨hI1,hEx1⟩:=hI.freeze (args.flatMap Z9g)
 obtain⟨r1,n1⟩:=Zzb hI hr hf
 have hr1:=ZaU E.rows ts r1
 refine(hp (by rw [Z5s];exact n1) (ZSB w) w vs (fun b c h=>h) (hg.bare (fun b c h=>⟨hI.cells b c h,rfl⟩) (Zcn.refl _)) hr1).mono ?_
 rintro e w' ⟨u,fz',rfl,hb,hmono,hold,hcells,hru,hnr⟩
 obtain⟨hI2,hEx2⟩:=hI1.grown (Below.grownBy hb)
 exact⟨u,_,rfl,hI2,hEx1.trans hEx2,ZKq hru hfl⟩
theorem Zwu (hE:Z12 E) (hP:E.P=P) (hF:Znv P E):∀(n:Nat) (B:Nat) (w0:Start),Z9R P E B w0 (Z49 E n):=by
 intro n
 induction n with
 | zero=>intro B w0 f args H x H' σ w vs h;cases h
 | succ n ih=>
  intro B w0 f args H x H' σ w vs h hI hg hr
  unfold Z49 at h
  cases henv:E.env f with
  | some F=>
   simp only [henv] at h
   by_cases hq:args.any Zqi=true
   ·rw [if_pos hq] at h
    cases ho:E.own f with
    | some e=>simp [ho] at h
    | none=>
     cases hf:Z67 H args with
     | none=>simp [ho,hf] at h
     | some as=>
      simp only [ho,hf] at h
      cases hFa:F (Z0R E.rows (E.par f) as) with
      | none=>simp [hFa] at h
      | some r=>
       simp only [hFa] at h
       split at h
       ·rename_i hfl
        simp only [Option.some.injEq,Prod.mk.injEq] at h
        obtain⟨rfl,rfl⟩:=h
        obtain⟨h1,h2⟩:=hF.env f F henv
        refine⟨h1,ZDK (E.par f) (fun hn=>?_) hf hfl hI hg hr⟩
        have h3:=h2 _ r hn hFa
        rw [ho] at h3
        exact h3
       ·cases h
   rw [if_neg hq] at h
   cases hf:Z2b H args with
   | none=>simp [hf] at h
   | some as=>
    simp only [hf] at h
    cases hFa:F (Z0R E.rows (E.par f) as) with
    | none=>
     cases ho:E.own f<;>simp [ho,hFa] at h
    | some r=>
     obtain⟨h1,h2⟩:=hF.env f F henv
     have h3:=h2 _ r (by rw [Z5s];exact Z6U hI hr hf) hFa
     cases ho:E.own f with
     | none=>
      simp only [ho,hFa,Option.map_some,Option.some.injEq,Prod.mk.injEq] at h
      obtain⟨rfl,rfl⟩:=h
      rw [ho] at h3
      exact⟨h1,Ztg (E.par f) h3 hf hI hg hr⟩
     | some e=>
      simp only [ho,hFa] at h
      rw [ho] at h3
      split at h
      ·rename_i sz xs hr0
       simp only [Option.some.injEq,Prod.mk.injEq] at h hr0
       obtain⟨rfl,rfl⟩:=h
       exact⟨h1,Zyn (E.par f) (h3 sz xs hr0) hf hI hg hr⟩
      ·cases h
  | none=>
   simp only [henv] at h
   split at h
   ·cases hfn:E.func f with
    | none=>simp [hfn] at h
    | some fn=>
     simp only [hfn] at h
     cases hf:Z2b H args with
     | none=>simp [hf] at h
     | some as=>
      simp only [hf] at h
      cases hbd:Zuq (Z49 E n) n E f fn as [] with
      | none=>simp [hbd] at h
      | some rr=>
       obtain⟨r0,H2⟩:=rr
       simp only [hbd] at h
       cases hft:ZDF H2 r0 with
       | none=>simp [hft] at h
       | some r=>
        simp only [hft,Option.map_some,Option.some.injEq,Prod.mk.injEq] at h
        obtain⟨rfl,rfl⟩:=h
        have hent:ZaK P f:=by
         obtain⟨hf1,hf2⟩:=hE.func f fn hfn
         rw [hP] at hf1
         refine⟨fn,hf1,?_,hf2⟩
         unfold Zuq at hbd
         cases hb:fn.body with
         | none=>simp [hb] at hbd
         | some c=>rfl
        exact⟨hent,Ztg [] (by simpa [Z0R] using ZAe hE hP ih (Z6g n) hfn hbd hft) hf hI hg hr⟩
   ·cases hhm:E.hm f (if Zu5 E f then [] else Zok args) with
    | some hs=>
     simp only [hhm] at h
     obtain⟨h1,h2⟩:=hF.hm f _ hs hhm
     exact⟨h1,ZN9 h2 h hI hg hr⟩
    | none=>
     simp only [hhm] at h
     cases hfn:E.func f with
     | none=>simp [hfn] at h
     | some fn=>
      simp only [hfn] at h
      exact ZK5 hE hP (ih B w0) (Z6g n) hfn h hI hg hr
theorem ZKh {n:Nat} {as:List V} {r:V} {H' : Heap} (hE:Z12 E) (hP:E.P=P) (hF:Znv P E) (hp:E.pure f=true) (hne:E.env f=none) (hn:Z2b [] as=some as) (h:Z49 E (n+1) f as []=some (r,H')):ZgL P E f as r:=by
 unfold Z49 at h
 simp only [hne,hp,if_true] at h
 cases hfn:E.func f with
 | none=>simp [hfn] at h
 | some fn=>
  simp only [hfn,hn] at h
  cases hbd:Zuq (Z49 E n) n E f fn as [] with
  | none=>simp [hbd] at h
  | some rr=>
   obtain⟨r0,H2⟩:=rr
   simp only [hbd] at h
   cases hft:ZDF H2 r0 with
   | none=>simp [hft] at h
   | some r' =>
    simp only [hft,Option.map_some,Option.some.injEq,Prod.mk.injEq] at h
    obtain⟨rfl,_⟩:=h
    exact ZAe hE hP (Zwu hE hP hF n) (Z6g n) hfn hbd hft
end
inductive SV (Ty:Nat->Type) where
 | lit (v:Value)
 | si (k:IntKind) (a:Int)
 | sb (b:Bool)
 | ss (s:ByteArray)
 | agg (cs:List (SV Ty))
 | tup (vs:List (SV Ty))
 | nil (e:Nat)
 | sl (t:Nat) (xs:List (Ty t))
 | slt (t:Nat) (xs:List (Ty t))
 | all (id n:Nat)
 | lsl (id off len tot:Nat)
 | ptr (id i off tot:Nat)
 | ept (t:Nat) (xs:List (Ty t)) (i off:Nat)
 | fn (f:FuncId) (first caps:List (SV Ty))
 | raw (v:V)
 | mps (kvs:List (SV Ty))
 | no
 | und
instance (Ty:Nat->Type):Inhabited (SV Ty):=⟨.und⟩
structure Z5V where
 Ty:Nat->Type
 esz:Nat->Nat
 enc:(t:Nat)->Ty t->V
 encS:(t:Nat)->Ty t->SV Ty
 ZwQ:(t:Nat)->SV Ty->Option (Ty t)
 keys:List Nat
section
variable (U:Z5V)
mutual
def toV:SV U.Ty->V
 | .lit v=>.lit v
 | .si k a=>.lit (.int k a)
 | .sb b=>.lit (.bool b)
 | .ss s=>.lit (.string s)
 | .agg cs=>.agg (Z02 cs)
 | .tup cs=>.tup (Z02 cs)
 | .nil e=>.sl true e []
 | .sl t xs=>.sl false (U.esz t) (xs.map (U.enc t))
 | .slt t xs=>.slt false (U.esz t) (xs.map (U.enc t))
 | .all id n=>.lsl id 0 n n
 | .lsl id off len tot=>.lsl id off len tot
 | .ptr id i off tot=>.ptr id i off tot
 | .ept t xs i off=>.ept (U.esz t) (xs.map (U.enc t)) i off
 | .fn f a b=>.fn f (Z02 a) (Z02 b)
 | .raw v=>v
 | .mps cs=>.mpl (Z02 cs)
 | .no=>.no
 | .und=>.und
def Z02:List (SV U.Ty)->List V
 | []=>[]
 | x::xs=>toV x::Z02 xs
end
inductive ZJ2 (Ty:Nat->Type) where
 | var (elem:TypeId) (esz:Nat) (x:SV Ty)
 | row (t:Nat) (xs:List (Ty t)) (fl:Option Nat)
 | dead
 | fvar (elem:TypeId) (esz:Nat) (x:SV Ty)
def ZJ2.floor {Ty:Nat->Type} (fl:Option Nat):Nat:=fl.getD 0
def Z0W:ZJ2 U.Ty->Box
 | .var e n x=>ZW false false e n [toV U x]
 | .row t xs fl=>{ live:=true,row:=true,ZdP:=false,elem:=t,esz:=U.esz t,xs:=xs.map (U.enc t),floor:=fl.getD 0 }
 | .dead=>ZeX
 | .fvar e n x=>{ ZW false false e n [toV U x] with floor:=1 }
abbrev ZP:=List (ZJ2 U.Ty)
def toH (H:ZP U):Heap:=H.map (Z0W U)
structure SSt where
 s:List (SV U.Ty)
 H:ZP U
def Z44 (st:SSt U):St:=⟨Z02 U st.s,toH U st.H⟩
inductive Tr (L:Type) where
 | leaf (l:L)
 | br (c:Bool) (a b:Tr L)
 | bind (t:Nat) (o:Option (U.Ty t)) (k:U.Ty t->Tr L)
 | chk (c:Bool) (a:Tr L)
 | fail
variable {U}
def Tr.andThen {L M:Type}:Tr U L->(L->Tr U M)->Tr U M
 | .leaf l,f=>f l
 | .br c a b,f=>.br c (a.andThen f) (b.andThen f)
 | .bind t o k,f=>.bind t o fun x=>(k x).andThen f
 | .chk c a,f=>.chk c (a.andThen f)
 | .fail,_=>.fail
def Tr.map {L M:Type} (g:L->M):Tr U L->Tr U M
 | .leaf l=>.leaf (g l)
 | .br c a b=>.br c (a.map g) (b.map g)
 | .bind t o k=>.bind t o fun x=>(k x).map g
 | .chk c a=>.chk c (a.map g)
 | .fail=>.fail
def Tr.den {L R:Type} (J:L->Option R):Tr U L->Option R
 | .leaf l=>J l
 | .br c a b=>cond c (a.den J) (b.den J)
 | .bind t o k=>o.bind fun x=>(k x).den J
 | .chk c a=>cond c (a.den J) none
 | .fail=>none
def Tr.ZA {L:Type}:Tr U L->L->Prop
 | .leaf l,x=>l=x
 | .br c a b,x=>(c=true/\a.ZA x)\/(c=false/\b.ZA x)
 | .bind t o k,x=>∃a,o=some a/\(k a).ZA x
 | .chk c a,x=>c=true/\a.ZA x
 | .fail,_=>False
def Tr.opt {L:Type}:Option L->Tr U L
 | some l=>.leaf l
 | none=>.fail
def Tr.when {L:Type} (p:Prop) [Decidable p] (a:Tr U L):Tr U L:=if p then a else .fail
variable (U)
def ZQV:V->SV U.Ty
 | .lit v=>.lit v
 | .sl true e []=>.nil e
 | .no=>.no
 | .und=>.und
 | v=>.raw v
def ofV:V->SV U.Ty
 | .agg cs=>.agg (cs.map (ZQV U))
 | v=>ZQV U v
variable {U}
def cellsS:SV U.Ty->List (SV U.Ty)
 | .agg cs=>cs
 | v=>[v]
def okS:SV U.Ty->Bool
 | .und | .no | .tup _ | .mps _=>false
 | .raw (.agg _)=>false
 | .raw v=>okV v
 | _=>true
def ZSA:SV U.Ty->Option Value
 | .lit v=>some v
 | .si k a=>some (.int k a)
 | .sb b=>some (.bool b)
 | .ss s=>some (.string s)
 | _=>none
def asInt:SV U.Ty->Option (IntKind×Int)
 | .lit (.int k a)=>some (k,a)
 | .si k a=>some (k,a)
 | _=>none
def Zhi:SV U.Ty->Option ByteArray
 | .lit (.string s)=>some s
 | .ss s=>some s
 | _=>none
def asBool:SV U.Ty->Option Bool
 | .lit (.bool b)=>some b
 | .sb b=>some b
 | _=>none
def evS (E:Env) (s:List (SV U.Ty)):Operand->SV U.Ty
 | .tmp t=>s.getD t .und
 | .const v=>ofV U (Zcp v)
 | .func f=>.fn f [] []
 | .global g=>match E.ZdT g with|some r=>.raw (.ept r.length [.agg r] 0 0)|none=>.und
def ZOS (s:List (SV U.Ty)) (d:Option Tmp) (v:SV U.Ty):List (SV U.Ty):=match d with|some t=>s.set t v|none=>s
def ZgC (H:ZP U) (k:Nat) (b:ZJ2 U.Ty):ZP U:=if k<H.length then H.set k b else H++[b]
def rowAt {L:Type} (H:ZP U) (id tot:Nat) (k:(t:Nat)->List (U.Ty t)->Option Nat->Tr U L):Tr U L:=
 match H[id]? with
 | some (.row t xs fl)=>.chk (xs.length==tot) (k t xs fl)
 | _=>.fail
def Zps (H:ZP U):SV U.Ty->Tr U (SV U.Ty)
 | .lit v=>.leaf (.lit v)
 | .si k a=>.leaf (.si k a)
 | .sb b=>.leaf (.sb b)
 | .ss s=>.leaf (.ss s)
 | .nil e=>.leaf (.nil e)
 | .sl t xs=>.leaf (.sl t xs)
 | .slt t xs=>.leaf (.sl t xs)
 | .all id n=>rowAt H id n fun t xs _=>.leaf (.sl t xs)
 | .lsl id off len tot=>rowAt H id tot fun t xs _=>.chk (decide (off+len<=tot)) (.leaf (.sl t ((xs.drop off).take len)))
 | .fn f [] []=>.leaf (.fn f [] [])
 | _=>.fail
def ZE2 (H:ZP U):List (SV U.Ty)->Tr U (List (SV U.Ty))
 | []=>.leaf []
 | v::vs=>(Zps H v).andThen fun w=>(ZE2 H vs).andThen fun ws=>.leaf (w::ws)
def ZP0 (H:ZP U):SV U.Ty->Tr U (SV U.Ty)
 | .agg cs=>(ZE2 H cs).andThen fun ws=>.leaf (.agg ws)
 | v=>Zps H v
def Zcl (H:ZP U):List (SV U.Ty)->Tr U (List (SV U.Ty))
 | []=>.leaf []
 | v::vs=>(ZP0 H v).andThen fun w=>(Zcl H vs).andThen fun ws=>.leaf (w::ws)
def Zsc:SV U.Ty->List Nat
 | .lsl id _ _ _=>[id]
 | .all id _=>[id]
 | .raw v=>ZgA v
 | _=>[]
def Zqk:SV U.Ty->List Nat
 | .agg cs=>cs.flatMap Zsc
 | .raw v=>Z9g v
 | v=>Zsc v
def ZuC:ZJ2 U.Ty->ZJ2 U.Ty
 | .row t xs _=>.row t xs (some xs.length)
 | b=>b
def ZvN (H:ZP U):List Nat->ZP U
 | []=>H
 | i::is=>ZvN (H.modify i ZuC) is
def ZDg (cs:List (SV U.Ty)) (off n:Nat) (isAgg:Bool):Option (SV U.Ty):=
 if isAgg then (if off+n<=cs.length then some (.agg ((cs.drop off).take n)) else none) else cs[off]?
def loadT (E:Env) (H:ZP U) (t:TypeId) (a:SV U.Ty):Tr U (SV U.Ty):=
 match E.ti t with
 | none=>.fail
 | some i=>
  match a with
  | .ept et xs j off=>.bind et xs[j]? fun x=>.opt (ZDg (cellsS (U.encS et x)) off i.size i.isAgg)
  | .ptr id j off tot=>match H[id]? with
   | some (.var _ _ x)=>.when (j=0/\tot=1/\okS x=true) (.opt (ZDg (cellsS x) off i.size i.isAgg))
   | some (.row et xs _)=>.chk (xs.length==tot) (.bind et xs[j]? fun x=>.opt (ZDg (cellsS (U.encS et x)) off i.size i.isAgg))
   | _=>.fail
  | .raw (.ept _ [.agg cs] 0 off)=>.opt ((partOf cs off i.size i.isAgg).map (ofV U))
  | _=>.fail
def Zvo (x:SV U.Ty) (off:Nat) (cs:List (SV U.Ty)):Option (SV U.Ty):=
 match x with
 | .agg ds=>if off+cs.length<=ds.length then some (.agg (ds.take off++cs++ds.drop (off+cs.length))) else none
 | .raw _=>none
 | _=>match off,cs with|0,[c]=>some c|_,_=>none
def storeT (E:Env) (H:ZP U) (t:TypeId) (a v:SV U.Ty):Tr U (ZP U):=
 match E.ti t with
 | none=>.fail
 | some i=>
  match a with
  | .ptr id j off tot=>match H[id]? with
   | some (.var e n x)=>.when ((j=0/\tot=1)/\(cellsS v).length=i.size/\okS v=true/\okS x=true)
     (match Zvo x off (cellsS v) with
      | some x' =>.when (okS x' = true) (.leaf (H.set id (.var e n x')))
      | none=>.fail)
   | some (.row et xs fl)=>.when ((cellsS v).length=i.size/\okS v=true/\(Zqk v).contains id=false)
     (.chk (xs.length==tot&&decide (fl.getD 0<=j)) (.bind et xs[j]? fun x=>(ZP0 H v).andThen fun v' =>
      match Zvo (U.encS et x) off (cellsS v') with
      | some x' =>match U.ZwQ et x' with
       | some y=>.when (okS v' = true/\okS x' = true) (.leaf ((ZvN H (Zqk v)).set id (.row et (xs.set j y) fl)))
       | none=>.fail
      | none=>.fail))
   | _=>.fail
  | _=>.fail
end
section
variable {U:Z5V}
def intT (op:BinOp) (k:IntKind) (a b:Int) (lit:Bool):Tr U (SV U.Ty):=
 match op with
 | .add=>.leaf (.si k (k.wrap (a+b)))
 | .sub=>.leaf (.si k (k.wrap (a - b)))
 | .mul=>.leaf (.si k (k.wrap (a*b)))
 | .quo=>if lit then (if b=0 then .fail else .leaf (.si k (k.wrap (a.tdiv b)))) else .chk (b != 0) (.leaf (.si k (k.wrap (a.tdiv b))))
 | .rem=>if lit then (if b=0 then .fail else .leaf (.si k (a.tmod b))) else .chk (b != 0) (.leaf (.si k (a.tmod b)))
 | .and | .or | .xor | .andNot=>.leaf (.si k (bits op k a b))
 | .eql=>.leaf (.sb (a==b))
 | .neq=>.leaf (.sb (a != b))
 | .lss=>.leaf (.sb (decide (a<b)))
 | .leq=>.leaf (.sb (decide (a<=b)))
 | .gtr=>.leaf (.sb (decide (a>b)))
 | .geq=>.leaf (.sb (decide (a>=b)))
 | _=>.fail
def ZOi (op:BinOp) (k:IntKind) (a b:Int):Option Int:=
 match op with
 | .shl=>some (k.wrap (a*2 ^ min b.toNat k.bits))
 | .shr=>some (a.fdiv (2 ^ min b.toNat k.bits))
 | _=>none
def ZFB (op:BinOp) (k:IntKind) (a b:Int) (lit:Bool):Tr U (SV U.Ty):=
 match ZOi op k a b with
 | none=>.fail
 | some r=>if lit then (if b<0 then .fail else .leaf (.si k r)) else .chk (decide (0<=b)) (.leaf (.si k r))
def strT (op:BinOp) (x y:ByteArray):Tr U (SV U.Ty):=
 match op with
 | .add=>.chk (decide (x.size+y.size<=maxLen)) (.leaf (.ss (x++y)))
 | .eql=>.leaf (.sb (x.toList==y.toList))
 | .neq=>.leaf (.sb !(x.toList==y.toList))
 | .lss=>.leaf (.sb (Op.bytesLess x.toList y.toList))
 | .leq=>.leaf (.sb (Op.bytesLess x.toList y.toList||x.toList==y.toList))
 | .gtr=>.leaf (.sb !(Op.bytesLess x.toList y.toList||x.toList==y.toList))
 | .geq=>.leaf (.sb !(Op.bytesLess x.toList y.toList))
 | _=>.fail
def Z5m:List FK->List (SV U.Ty)->List (SV U.Ty)->Option Bool
 | [],[],[]=>some true
 | .b::ks,x::xs,y::ys=>match asBool x,asBool y,Z5m ks xs ys with|some a,some b,some r=>some (a==b&&r)|_,_,_=>none
 | .i k::ks,x::xs,y::ys=>match asInt x,asInt y,Z5m ks xs ys with
  | some (k1,a),some (k2,b),some r=>if k1=k/\k2=k then some (a==b&&r) else none
  | _,_,_=>none
 | .s::ks,x::xs,y::ys=>match Zhi x,Zhi y,Z5m ks xs ys with|some a,some b,some r=>some (a==b&&r)|_,_,_=>none
 | _,_,_=>none
def isLit:SV U.Ty->Bool | .lit _=>true|_=>false
def ZQy:SV U.Ty->SV U.Ty | .si k a=>.lit (.int k a) | .sb b=>.lit (.bool b)|v=>v
def binT (E:Env) (op:BinOp) (t:TypeId) (x y:SV U.Ty):Tr U (SV U.Ty):=
 match x,y with
 | .agg xs,.agg ys=>match E.flat t with
  | some ks=>match Z5m ks xs ys with
   | some b=>(match op with | .eql=>.leaf (.sb b) | .neq=>.leaf (.sb !b)|_=>.fail)
   | none=>.fail
  | none=>.fail
 | x,y=>match asInt x,asInt y with
  | some (k,a),some (j,b)=>(match op with
   | .shl=>ZFB .shl k a b (isLit y)
   | .shr=>ZFB .shr k a b (isLit y)
   | op=>if k=j then intT op k a b (isLit y) else .fail)
  | _,_=>match Zhi x,Zhi y with
   | some a,some b=>strT op a b
   | _,_=>match asBool x,asBool y with
    | some a,some b=>if E.isBool t then (match op with | .eql=>.leaf (.sb (a==b)) | .neq=>.leaf (.sb (!(a==b)))|_=>.fail) else .fail
    | _,_=>.fail
def unT (op:UnOp) (x:SV U.Ty):Tr U (SV U.Ty):=
 match op,asInt x,asBool x with
 | .neg,some (k,n),_=>.leaf (.si k (k.wrap (0 - n)))
 | .xor,some (k,n),_=>.leaf (.si k (bits .xor k (if k.signed then -1 else k.max) n))
 | .not,_,some b=>.leaf (.sb !b)
 | _,_,_=>.fail
def mmT (isMax:Bool) (k:IntKind):Int->List (SV U.Ty)->Option Int
 | a,[]=>some a
 | a,x::rest=>match asInt x with
  | some (j,b)=>if k=j then mmT isMax k (if isMax then (if b>a then b else a) else (if b<a then b else a)) rest else none
  | none=>none
def Zv4 (isMax:Bool):List (SV U.Ty)->Tr U (SV U.Ty)
 | x::rest=>match asInt x with
  | some (k,a)=>(match mmT isMax k a rest with|some r=>.leaf (.si k r)|none=>.fail)
  | none=>.fail
 | []=>.fail
def ZyM (cs:List (SV U.Ty)):List (Nat×SV U.Ty)->(Nat->Option (Nat×Nat))->Option (List (SV U.Ty))
 | [],_=>some cs
 | (i,v)::rest,place=>
  match place i with
  | none=>none
  | some (off,size)=>if (cellsS v).length==size&&decide (off+size<=cs.length)&&okS v then ZyM (cs.take off++cellsS v++cs.drop (off+size)) rest place else none
def ZL4 (E:Env) (t:TypeId) (parts:List (Nat×SV U.Ty)):Option (SV U.Ty):=
 match E.ti t with
 | some i=>match i.zero with
  | some z=>
   if okV z then
    match i.ty with
    | .struct fs=>if fs.all fun x=>(E.ti x.2).isSome then (ZyM (cellsS (ofV U z)) parts (placesOf E fs)).map .agg else none
    | .array _ e=>match E.ti e with
     | some ei=>(ZyM (cellsS (ofV U z)) parts (fun i=>some (i*ei.size,ei.size))).map .agg
     | none=>none
    | _=>none
   else none
  | none=>none
 | none=>none
def Ztk (e:Nat):List (SV U.Ty)->Option (List (U.Ty e))
 | []=>some []
 | v::vs=>match okS v,U.ZwQ e v,Ztk e vs with|true,some a,some as=>some (a::as)|_,_,_=>none
def Zij (E:Env) (k:Nat) (H:ZP U) (t:TypeId) (n:Nat) (parts:List (Nat×SV U.Ty)):Tr U (SV U.Ty×ZP U):=
 match E.ti t with
 | some ⟨.slice e,_,_,_⟩=>match E.ti e with
  | some ei=>match ei.zero with
   | some z=>(Zcl H (parts.map (·.2))).andThen fun vs=>match Ztk e vs with
    | some ys=>.when ((n*ei.size<=16777216/\0<ei.size/\z.cells.length=ei.size/\okV z=true)/\parts.map (·.1)=List.range n/\vs.all (fun v=>(cellsS v).length==ei.size)=true/\U.esz e=ei.size)
      (.leaf (.all k n,ZgC (ZvN H ((parts.map (·.2)).flatMap Zqk)) k (.row e ys none)))
    | none=>.fail
   | none=>.fail
  | none=>.fail
 | _=>.fail
def ZlV (E:Env) (s:TypeId) (x:SV U.Ty) (f:Nat):Option (SV U.Ty):=
 match E.ti s with
 | some ⟨.struct fs,_,_,_⟩=>match fs[f]? with
  | some (o,t)=>match E.size t with
   | some sz=>if sz=0 then none else match x with
    | .ptr id j off tot=>some (.ptr id j (off+o) tot)
    | .ept d xs j off=>some (.ept d xs j (off+o))
    | .raw (.ept d xs j off)=>some (.raw (.ept d xs j (off+o)))
    | _=>none
   | none=>none
  | none=>none
 | _=>none
def ZJG (E:Env) (s:TypeId) (x:SV U.Ty) (f:Nat):Option (SV U.Ty):=
 match E.ti s,x with
 | some ⟨.struct fs,_,_,_⟩,.agg cs=>match fs[f]? with
  | some (o,t)=>match E.ti t with|some i=>ZDg cs o i.size i.isAgg|none=>none
  | none=>none
 | _,_=>none
def ZFu (H:ZP U) (x:SV U.Ty) (e:Nat):Tr U (List (U.Ty e)):=
 let go (t:Nat) (xs:List (U.Ty t)):Tr U (List (U.Ty e)):=if h:t=e then .leaf (h▸xs) else .fail
 match x with
 | .nil _=>.leaf []
 | .sl t xs=>go t xs
 | .slt t xs=>go t xs
 | .all id n=>rowAt H id n fun t xs _=>go t xs
 | .lsl id off len tot=>rowAt H id tot fun t xs _=>.chk (decide (off+len<=tot)) (go t ((xs.drop off).take len))
 | _=>.fail
def ZCt (E:Env) (k:Nat) (H:ZP U) (t u:TypeId) (s x:SV U.Ty):Tr U (SV U.Ty×ZP U):=
 match E.ti t with
 | some ⟨.slice e,_,_,_⟩=>match E.ti e with
  | some ei=>.when (u=t/\0<ei.size/\ei.zok=true/\U.esz e=ei.size) ((ZFu H x e).andThen fun ys=>
    match s with
    | .all id n=>rowAt H id n fun t' xs fl=>if h:t' = e then
      .chk (decide ((n+ys.length)*ei.bytes<=lim)&&decide (n+ys.length<=maxLen))
       (.leaf (.all id ((h▸xs:List (U.Ty e))++ys).length,H.set id (.row e ((h▸xs:List (U.Ty e))++ys) fl)))
     else .fail
    | .lsl id off len tot=>rowAt H id tot fun t' xs fl=>if h:t' = e then
      .chk (decide (off=0)&&(decide (fl.getD 0<=len)&&(decide (len<tot)&&decide (len+ys.length<=tot))))
       (.leaf (.lsl id 0 (len+ys.length) tot,H.set id (.row e ((h▸xs:List (U.Ty e)).take len++ys++(h▸xs:List (U.Ty e)).drop (len+ys.length)) fl)))
     else .fail
    | .nil _=>.chk (decide (ys.length*ei.bytes<=lim)&&decide (ys.length<=maxLen)) (.leaf (.all k ys.length,ZgC H k (.row e ys none)))
    | .slt t' xs=>if h:t' = e then
      .chk (decide ((xs.length+ys.length)*ei.bytes<=lim)&&decide (xs.length+ys.length<=maxLen))
       (.br ys.isEmpty (.leaf (.slt t' xs,H)) (.leaf (.all k ((h▸xs:List (U.Ty e))++ys).length,ZgC H k (.row e ((h▸xs:List (U.Ty e))++ys) none))))
     else .fail
    | _=>.fail)
  | none=>.fail
 | _=>.fail
def ZPQ (E:Env) (H:ZP U) (t u:TypeId) (d x:SV U.Ty):Tr U (SV U.Ty×ZP U):=
 match E.ti t with
 | some ⟨.slice e,_,_,_⟩=>match E.ti e with
  | some ei=>.when (U.esz e=ei.size) ((ZFu H x e).andThen fun ys=>
    match d with
    | .all id n=>rowAt H id n fun t' xs fl=>if h:t' = e then
      .when (fl.getD 0=0) (.leaf (.si .i64 (min ys.length xs.length:Nat),H.set id (.row e (ys.take xs.length++(h▸xs:List (U.Ty e)).drop ys.length) fl)))
     else .fail
    | _=>.fail)
  | none=>.fail
 | _=>.fail
def lenT (x:SV U.Ty):Option Nat:=
 match x with
 | .nil _=>some 0
 | .sl _ xs=>some xs.length
 | .slt _ xs=>some xs.length
 | .lit (.string s)=>some s.size
 | .ss s=>some s.size
 | _=>none
def Zr1 {L:Type} (H:ZP U) (x:SV U.Ty) (k:Nat->Tr U L):Tr U L:=
 match x with
 | .all id n=>rowAt H id n fun _ _ _=>k n
 | .lsl id _ len tot=>rowAt H id tot fun _ _ _=>k len
 | x=>match lenT x with|some n=>k n|none=>.fail
def ZoW (x:SV U.Ty):Bool:=(Zhi x).isSome
def Zub (E:Env) (t:TypeId) (x:SV U.Ty):Bool:=
 if ZoW x then E.isStr t else match E.ti t with|some ⟨.slice _,_,_,_⟩=>true|_=>false
def Zxv {L:Type} (x:Option (SV U.Ty)) (hi dflt:Nat) (k:Nat->Tr U L):Tr U L:=
 match x with
 | none=>k dflt
 | some v=>match asInt v with
  | some (_,n)=>.chk (decide (0<=n/\n<=hi)) (k n.toNat)
  | none=>.fail
def ZLv (E:Env) (H:ZP U) (x:SV U.Ty) (n:Nat):Bool:=
 match x with
 | .nil _=>true
 | .sl t _=>U.esz t==n
 | .slt t _=>U.esz t==n
 | .all id _ | .lsl id _ _ _=>match H[id]? with|some (.row t _ _)=>U.esz t==n|_=>false
 | _=>false
def ZmG (E:Env) (H:ZP U) (t:TypeId) (x:SV U.Ty):Bool:=
 if ZoW x then E.isStr t else match E.ti t with
  | some ⟨.slice e,_,_,_⟩=>match E.ti e with|some ei=>ZLv E H x ei.size|none=>false
  | _=>false
def sliceT (E:Env) (H:ZP U) (t:TypeId) (x:SV U.Ty) (lo hi mx:Option (SV U.Ty)):Tr U (SV U.Ty×ZP U):=
 if ZmG E H t x then
  Zr1 H x fun n=>Zxv hi n n fun h=>Zxv lo h 0 fun l=>
   match mx with
   | some m=>(match hi with
    | none=>.fail
    | some _=>Zxv (some m) n n fun k=>.chk (k==h)
     (match x with
      | .sl e xs=>.leaf (.slt e ((xs.drop l).take (h - l)),H)
      | .slt e xs=>.leaf (.slt e ((xs.drop l).take (h - l)),H)
      | .all id n=>rowAt H id n fun e xs _=>.leaf (.slt e ((xs.drop l).take (h - l)),ZvN H [id])
      | _=>.fail))
   | none=>match x with
    | .nil e=>.leaf (.nil e,H)
    | .sl e xs=>.leaf (.sl e ((xs.drop l).take (h - l)),H)
    | .slt e xs=>.leaf (.sl e ((xs.drop l).take (h - l)),H)
    | .all id n=>(match lo,hi with
     | none,none=>.leaf (.all id n,H)
     | _,_=>.leaf (.lsl id l (h - l) n,H))
    | .lsl id off _ tot=>.leaf (.lsl id (off+l) (h - l) tot,H)
    | x=>match Zhi x with
     | some s=>.leaf (.ss (s.extract l h),H)
     | none=>.fail
 else .fail
def Zqc (x:Option (SV U.Ty)) (n:Nat):Option Nat:=match x with
 | none=>some n
 | some (.lit (.int _ h))=>if 0<=h/\h<=n then some h.toNat else none
 | _=>none
def ZDI (E:Env) (H:ZP U) (n e:Nat) (x:SV U.Ty) (lo hi mx:Option (SV U.Ty)):Tr U (SV U.Ty×ZP U):=
 match x,lo,Zqc hi n,mx with
 | .ptr id i off tot,none,some m,none=>match H[id]? with
  | some (.var e' k (.agg cs))=>match Ztk e cs with
   | some ys=>.when ((i=0/\off=0/\tot=1/\cs.length=n/\n<=maxLen)/\E.size e=some 1/\U.esz e=1/\cs.all (fun c=>(ZSA c).isSome)=true) (.leaf (.sl e (ys.take m),H.set id (.fvar e' k (.agg cs))))
   | none=>.fail
  | _=>.fail
 | _,_,_,_=>.fail
def ZMS {L:Type} {t:Nat} (xs:List (U.Ty t)):Nat->Nat->(List Value->Tr U L)->Tr U L
 | _,0,k=>k []
 | i,n+1,k=>.bind t xs[i]? fun x=>match ZSA (U.encS t x) with|some v=>ZMS xs (i+1) n fun vs=>k (v::vs)|none=>.fail
def arrT (E:Env) (t:TypeId) (x:SV U.Ty):Tr U (SV U.Ty):=
 match E.ti t,x with
 | some ⟨.array n e,_,_,_⟩,.sl t' xs=>.when (E.size e=some 1/\U.esz t' = 1/\0<n) (ZMS xs 0 n fun vs=>.leaf (.raw (.ept n [.agg (vs.map .lit)] 0 0)))
 | _,_=>.fail
def Zmp {L:Type} (n:Int) (lit:Bool) (len:Nat) (k:Nat->Tr U L):Tr U L:=
 if lit then (if 0<=n/\n<len then k n.toNat else .fail)
 else (List.range len).foldr (fun(i:Nat) rest=>.br (n==(i:Int)) (k i) rest) .fail
def Zmj (E:Env) (H:ZP U) (t:TypeId) (x i:SV U.Ty):Tr U (SV U.Ty):=
 match asInt i,E.ti t with
 | some (_,n),some ti=>
  match ti.ty with
  | .slice el=>(match x with
   | .sl et xs=>.when (E.size el=some (U.esz et)) (.chk (decide (0<=n/\n<xs.length)) (.leaf (.ept et xs n.toNat 0)))
   | .slt et xs=>.when (E.size el=some (U.esz et)) (.chk (decide (0<=n/\n<xs.length)) (.leaf (.ept et xs n.toNat 0)))
   | .all id m=>rowAt H id m fun et xs _=>.when (E.size el=some (U.esz et)) (.chk (decide (0<=n/\n<m)) (.leaf (.ptr id n.toNat 0 m)))
   | .lsl id off len tot=>rowAt H id tot fun et xs _=>.when (E.size el=some (U.esz et)) (.chk (decide (0<=n/\n<len)) (.leaf (.ptr id (off+n.toNat) 0 tot)))
   | _=>.fail)
  | .array len e=>(match E.size e with
   | none=>.fail
   | some sz=>match x with
    | .ptr id j off tot=>Zmp n (isLit i) len fun m=>.leaf (.ptr id j (off+m*sz) tot)
    | .ept d xs j off=>Zmp n (isLit i) len fun m=>.leaf (.ept d xs j (off+m*sz))
    | .raw (.ept d xs j off)=>Zmp n (isLit i) len fun m=>.leaf (.raw (.ept d xs j (off+m*sz)))
    | _=>.fail)
  | _=>.fail
 | _,_=>.fail
def ZLM (E:Env) (t:TypeId) (x i:SV U.Ty):Tr U (SV U.Ty):=
 match asInt i with
 | some (_,n)=>
  match E.ti t,x with
  | some ⟨.array len e,_,_,_⟩,.agg cs=>match E.ti e with
   | some ei=>Zmp n (isLit i) len fun m=>.opt (ZDg cs (m*ei.size) ei.size ei.isAgg)
   | none=>.fail
  | some ⟨.scalar,_,_,_⟩,x=>match Zhi x with
   | some s=>if E.isStr t then .chk (decide (0<=n/\n<s.size)) (.leaf (.si .u8 (s.get! n.toNat).toNat)) else .fail
   | none=>.fail
  | _,_=>.fail
 | none=>.fail
def Z7z (U:Z5V) (t:Nat) (xs:List (U.Ty t)):Bool:=match bytesOf (xs.map (U.enc t)) with|some bs=>decide (bs.length<=maxLen)|none=>false
def strOf (U:Z5V) (t:Nat) (xs:List (U.Ty t)):ByteArray:=⟨((bytesOf (xs.map (U.enc t))).getD []).toArray⟩
def ZHG (t:Nat) (xs:List (U.Ty t)):Tr U (SV U.Ty):=.when (U.esz t=1) (.chk (Z7z U t xs) (.leaf (.ss (strOf U t xs))))
def ZMk (E:Env) (H:ZP U) (src dst:TypeId) (x:SV U.Ty):Tr U (SV U.Ty):=
 .when ((E.isStr dst&&E.isBytes src)=true) (match x with
  | .nil _=>.leaf (.ss ⟨#[]⟩)
  | .sl t xs=>ZHG t xs
  | .slt t xs=>ZHG t xs
  | .all id n=>rowAt H id n fun t xs _=>ZHG t xs
  | .lsl id off len tot=>rowAt H id tot fun t xs _=>.chk (decide (off+len<=tot)) (ZHG t ((xs.drop off).take len))
  | _=>.fail)
def ZPo (E:Env) (H:ZP U) (src dst:TypeId) (x:SV U.Ty):Tr U (SV U.Ty):=
 match asInt x with
 | some (_,n)=>(match E.kind dst with
  | some k=>if (E.ti src).isSome then .leaf (.si k (k.wrap n)) else .fail
  | none=>.fail)
 | none=>match Zhi x with
  | some s=>if E.isStr src&&E.isStr dst then .leaf (.ss s) else .fail
  | none=>ZMk E H src dst x
def ZO3 (U:Z5V) (e:Nat) (st:ByteArray):Bool:=st.data.toList.all fun b=>(U.ZwQ e (.si .u8 b.toNat)).isSome
def Z4e (U:Z5V) (e:Nat) (st:ByteArray):List (U.Ty e):=st.data.toList.filterMap fun b=>U.ZwQ e (.si .u8 b.toNat)
def ZKt (E:Env) (k:Nat) (H:ZP U) (dst:TypeId) (x:SV U.Ty):Tr U (SV U.Ty×ZP U):=
 match Zhi x,E.ti dst with
 | some st,some ⟨.slice e,_,_,_⟩=>.when (E.size e=some 1/\U.esz e=1) (.chk (ZO3 U e st) (.leaf (.all k (Z4e U e st).length,ZgC H k (.row e (Z4e U e st) none))))
 | _,_=>.fail
abbrev Mdl (U:Z5V):=FuncId->List (SV U.Ty)->ZP U->Tr U (SV U.Ty×ZP U)
def ZNN (x:SV U.Ty):Option (Int×Bool):=match x with | .lit (.int _ n)=>some (n,true) | .si _ n=>some (n,false)|_=>none
def ZB6 (H:ZP U) (T:Tr U (SV U.Ty)):Tr U (SV U.Ty×ZP U):=T.andThen fun v=>.leaf (v,H)
def ZPr (E:Env) (M:Mdl U) (k:Nat) (H:ZP U) (s:List (SV U.Ty)) (c:Call):Tr U (SV U.Ty×ZP U):=
 match c.callee with
 | .builtin b=>(match b,c.args.toList.map (evS E s),c.argTypes.toList with
  | .len,[x],[t]=>if Zub E t x then Zr1 H x fun n=>.leaf (.si .i64 n,H) else .fail
  | .append,[a,x],[t,u]=>ZCt E k H t u a x
  | .copy,[d,x],[t,u]=>ZPQ E H t u d x
  | .min,args,_=>ZB6 H (Zv4 false args)
  | .max,args,_=>ZB6 H (Zv4 true args)
  | _,_,_=>.fail)
 | .value f=>(match evS E s f with
  | .fn g first caps=>M g (first++c.args.toList.map (evS E s)++caps) H
  | _=>.fail)
 | _=>.fail
def Zwt {L:Type} (kd:IntKind) (n:Int) (lit:Bool) (z:Tr U L) (f:SV U.Ty->Tr U L):List (SV U.Ty)->Tr U L
 | []=>z
 | .lit (.int k a)::v::r=>.when (k=kd) (if lit then (if n=a then f v else Zwt kd n lit z f r) else .br (n==a) (f v) (Zwt kd n lit z f r))
 | _=>.fail
def ZPW (E:Env) (t:TypeId) (ok:Bool) (m x:SV U.Ty):Tr U (SV U.Ty):=
 match E.ti t,m,asInt x with
 | some ⟨.map k e,_,_,_⟩,.mps kvs,some (kd,n)=>.when (E.kind k=some kd)
  (Zwt kd n (isLit x) (match E.ti e with|some ei=>(match ei.zero with|some z=>.leaf (if ok then .tup [ofV U z,.sb false] else ofV U z)|none=>.fail)|none=>.fail)
   (fun v=>.leaf (if ok then .tup [v,.sb true] else v)) kvs)
 | _,_,_=>.fail
def opT (E:Env) (M:Mdl U) (k:Nat) (H:ZP U) (s:List (SV U.Ty)) (o:Oper):Tr U (SV U.Ty×ZP U):=
 match o.op with
 | .move x=>.leaf (evS E s x,H)
 | .assign (.const (.slice none 0 0))=>match E.ti o.type with
  | some ⟨.slice e,_,_,_⟩=>.when (U.esz e=(E.size e).getD 0) (.leaf (.all k 0,ZgC H k (.row e [] none)))
  | _=>.fail
 | .assign x=>.leaf (evS E s x,H)
 | .pick c a b=>(match evS E s c with
  | .lit (.bool true)=>.leaf (evS E s a,H)
  | .lit (.bool false)=>.leaf (evS E s b,H)
  | .sb t=>(match asBool (evS E s a),asBool (evS E s b) with
   | some x,some y=>.leaf (.sb (cond t x y),H)
   | _,_=>.br t (.leaf (evS E s a,H)) (.leaf (evS E s b,H)))
  | _=>.fail)
 | .alloc t=>match E.ti t with
  | some i=>match i.zero with|some z=>.when (z.cells.length=i.size/\okV z=true) (.leaf (.ptr k 0 0 1,ZgC H k (.var t i.size (ofV U z))))|none=>.fail
  | none=>.fail
 | .box t x=>match E.ti t with
  | some i=>.when ((cellsS (evS E s x)).length=i.size/\okS (evS E s x)=true) (.leaf (.ptr k 0 0 1,ZgC H k (.var t i.size (evS E s x))))
  | none=>.fail
 | .build t parts=>ZB6 H (.opt (ZL4 E t (parts.toList.map fun(i,x)=>(i,evS E s x))))
 | .buildSlice t n parts=>Zij E k H t n (parts.toList.map fun(i,x)=>(i,evS E s x))
 | .load t a=>ZB6 H (loadT E H t (evS E s a))
 | .store t a v=>(storeT E H t (evS E s a) (evS E s v)).andThen fun H' =>.leaf (.no,H')
 | .nilCheck x=>(match evS E s x with
  | .ptr a b c d=>.leaf (.ptr a b c d,H)
  | .ept a b c d=>.leaf (.ept a b c d,H)
  | .raw (.ept a b c d)=>.leaf (.raw (.ept a b c d),H)
  | .fn a b c=>.leaf (.fn a b c,H)
  | _=>.fail)
 | .binOp op t x y _=>ZB6 H ((binT E op t (evS E s x) (evS E s y)).andThen fun v=>.leaf (if isLit (evS E s x)&&isLit (evS E s y) then ZQy v else v))
 | .unOp op _ x=>ZB6 H (unT op (evS E s x))
 | .convert src dst x=>if E.isStr src&&E.isBytes dst then ZKt E k H dst (evS E s x) else ZB6 H (ZPo E H src dst (evS E s x))
 | .makeSlice t l c=>match E.ti t with
  | some ⟨.slice e,_,_,_⟩=>(match ZNN (evS E s l),ZNN (evS E s c),E.ti e with
   | some (n,_),some (m,_),some ei=>(match ei.zero with
    | some z=>(match U.ZwQ e (ofV U z) with
     | some y=>.when (0<ei.size/\z.cells.length=ei.size/\okV z=true/\U.esz e=ei.size)
       (.chk (decide (0<=n/\n<=m/\m.toNat*ei.bytes<=lim/\m<=maxLen)) (.leaf (.all k (List.replicate n.toNat y).length,ZgC H k (.row e (List.replicate n.toNat y) none))))
     | none=>.fail)
    | none=>.fail)
   | _,_,_=>.fail)
  | _=>.fail
 | .slice t x lo hi mx=>match E.ti t with
  | some ⟨.array n e,_,_,_⟩=>ZDI E H n e (evS E s x) (lo.map (evS E s)) (hi.map (evS E s)) (mx.map (evS E s))
  | _=>sliceT E H t (evS E s x) (lo.map (evS E s)) (hi.map (evS E s)) (mx.map (evS E s))
 | .sliceToArrayPointer t x=>ZB6 H (arrT E t (evS E s x))
 | .fieldAddr t x f=>ZB6 H (.opt (ZlV E t (evS E s x) f))
 | .field t x f=>ZB6 H (.opt (ZJG E t (evS E s x) f))
 | .indexAddr t x i=>ZB6 H (Zmj E H t (evS E s x) (evS E s i))
 | .index t x i=>ZB6 H (ZLM E t (evS E s x) (evS E s i))
 | .extract x i=>(match evS E s x with | .tup vs=>ZB6 H (.opt vs[i]?)|_=>.fail)
 | .lookup t m x ok=>ZB6 H (ZPW E t ok (evS E s m) (evS E s x))
 | .makeFunc (.func f) first caps=>.leaf (.fn f (first.toList.map (evS E s)) (caps.toList.map (evS E s)),H)
 | .call c=>ZPr E M k H s c
 | _=>.fail
def stepT (E:Env) (M:Mdl U) (ops:Array Oper) (k i:Nat) (st:SSt U):Tr U (SSt U):=
 match ops[i]? with
 | none=>.leaf st
 | some o=>
  let run (st:SSt U):Tr U (SSt U):=(opT E M k st.H st.s o).andThen fun r=>.leaf ⟨ZOS st.s o.dst r.1,r.2⟩
  let skip (st:SSt U):Tr U (SSt U):=.leaf ⟨ZOS st.s o.dst .no,st.H⟩
  match o.guard with
  | none=>run st
  | some (j,want)=>
   match (ops[j]?).bind (·.dst) with
   | none=>.fail
   | some d=>(match st.s.getD d .und with
    | .no=>skip st
    | .lit (.bool true)=>if want then run st else skip st
    | .lit (.bool false)=>if want then skip st else run st
    | .sb b=>.br b (if want then run ⟨st.s.set d (.lit (.bool true)),st.H⟩ else skip ⟨st.s.set d (.lit (.bool true)),st.H⟩)
      (if want then skip ⟨st.s.set d (.lit (.bool false)),st.H⟩ else run ⟨st.s.set d (.lit (.bool false)),st.H⟩)
    | _=>.fail)
def opsT (E:Env) (M:Mdl U) (ops:Array Oper):List Nat->SSt U->Tr U (SSt U)
 | [],st=>.leaf st
 | i::rest,st=>(stepT E M ops st.H.length i st).andThen (opsT E M ops rest)
def ZJ8:SV U.Ty->List Nat
 | .lsl id _ _ _=>[id]
 | .all id _=>[id]
 | .ptr id _ _ _=>[id]
 | .raw v=>ZdA v
 | _=>[]
def ZPS:SV U.Ty->List Nat
 | .agg cs=>cs.flatMap ZJ8
 | .raw v=>Z1e v
 | v=>ZJ8 v
def ZAE (E:Env) (s:List (SV U.Ty)) (o:Oper):List Nat:=o.op.operands.toList.flatMap fun x=>ZPS (evS E s x)
def ZOJ:ZJ2 U.Ty->Bool | .dead=>true|_=>false
def ZDi (E:Env) (s:List (SV U.Ty)) (o:Oper):SV U.Ty:=match Z8m o with|some a=>evS E s a|_=>.no
def ZBl (H:ZP U) (a:SV U.Ty) (k:Nat):Bool:=match a with
 | .ptr id _ _ tot=>id==k&&(match H[id]? with|some (.var _ _ _)=>tot==1|_=>false)
 | .all id _=>id==k&&(match H[id]? with|some (.row _ _ _)=>true|_=>false)
 | _=>false
def ZF9 (base:Nat) (s0:List (SV U.Ty)):Nat⊕Nat->Option Nat
 | .inl j=>some (base+j)
 | .inr d=>match s0.getD d .und with | .ptr id _ _ _=>some id | .all id _=>some id|_=>none
def ZP8 (E:Env) (ms:List Nat) (lt:List (Nat×(Nat⊕Nat))) (s0:List (SV U.Ty)) (base i:Nat) (s:List (SV U.Ty)) (H:ZP U) (o:Oper):Bool:=
 lt.all fun p=>match ZF9 base s0 p.2 with
  | none=>false
  | some k=>if p.1=i then ZBl H (ZDi E s o) k else !needs E o||(linked ms p.1 i || !(ZAE E s o).contains k)
def ZMu (E:Env) (M:Mdl U) (ops:Array Oper) (ms:List Nat) (lt:List (Nat×(Nat⊕Nat))) (s0:List (SV U.Ty)) (base m i:Nat) (st:SSt U):Tr U (SSt U):=
 match ops[i]? with
 | none=>.leaf st
 | some o=>
  .when ((ZAE E st.s o).all (fun id=>decide (id<base)||(decide (base+m<=id)&&ZtY E ops ms i)||(decide (id<base+m)&&(ms.getD i 0).testBit (id - base)))=true) (.when ((ZP8 E ms lt s0 base i st.s st.H o&&(!decide (Z0t E o = .c)||decide (base+m<=st.H.length)))=true)
   (if Z0t E o = .a then
    match st.H[base+i]? with
    | some b=>if ZOJ b then stepT E M ops (base+i) i st else .fail
    | none=>.fail
    else stepT E M ops st.H.length i st))
def Zqm (E:Env) (M:Mdl U) (ops:Array Oper) (ms:List Nat) (lt:List (Nat×(Nat⊕Nat))) (s0:List (SV U.Ty)) (base m:Nat):List Nat->SSt U->Tr U (SSt U)
 | [],st=>.leaf st
 | i::rest,st=>(ZMu E M ops ms lt s0 base m i st).andThen (Zqm E M ops ms lt s0 base m rest)
def ZNz (E:Env) (M:Mdl U) (ops:Array Oper) (st:SSt U):Tr U (SSt U):=
 let m:=if ops.any (fun o=>decide (Z0t E o = .a)) then ops.size else 0
 Zqm E M ops (Z2X [] ops.toList) (ZwD E ops) st.s st.H.length m (List.range ops.size) ⟨st.s,st.H++List.replicate m .dead⟩
end
structure Z0L (U:Z5V) (E:Env):Prop where
 encS:∀t a,toV U (U.encS t a)=U.enc t a
 dec:∀t v a,U.ZwQ t v=some a->Z18 (E.rows t) (toV U v)=U.enc t a
 cells:∀t a,(U.enc t a).cells=Z02 U (cellsS (U.encS t a))
 nr:∀t a,Z03 (U.enc t a)=true
 inj:∀t∈U.keys,∀a b,U.enc t a=U.enc t b->a=b
section
variable {U:Z5V}
theorem Z0X (xs:List (SV U.Ty)):Z02 U xs=xs.map (toV U):=by
 induction xs with
 | nil=>rfl
 | cons x xs ih=>simp [Z02,ih]
theorem ZeD (s:List (SV U.Ty)) (t:Nat):(Z02 U s).getD t .und=toV U (s.getD t .und):=by
 rw [Z0X]
 simp only [List.getD,List.getElem?_map]
 cases s[t]?<;>rfl
theorem ZFw (v:V):toV U (ZQV U v)=v:=by
 unfold ZQV
 split<;>rfl
theorem Zmx (v:V):toV U (ofV U v)=v:=by
 unfold ofV
 split
 ·rename_i cs
  simp only [toV,Z0X,List.map_map,V.agg.injEq]
  conv=>rhs;rw [<- List.map_id cs]
  apply List.map_congr_left
  intro x _
  exact ZFw x
 ·exact ZFw _
theorem Z2Z (E:Env) (s:List (SV U.Ty)) (x:Operand):ev E (Z02 U s) x=toV U (evS E s x):=by
 cases x with
 | tmp t=>exact ZeD s t
 | const v=>simp only [ev,evS,Zmx]
 | func f=>rfl
 | global g=>simp only [ev,evS];cases E.ZdT g<;>rfl
theorem ZKw (E:Env) (s:List (SV U.Ty)) (xs:List Operand):xs.map (ev E (Z02 U s))=Z02 U (xs.map (evS E s)):=by
 rw [Z0X (xs.map (evS E s)),List.map_map]
 apply List.map_congr_left
 intro x _
 exact Z2Z E s x
theorem ZMB (s:List (SV U.Ty)) (d:Option Tmp) (v:SV U.Ty):Z02 U (ZOS s d v)=setSlot (Z02 U s) d (toV U v):=by
 unfold ZOS setSlot
 cases d with
 | none=>rfl
 | some t=>simp only [Z0X,List.map_set]
theorem Z6i (H:ZP U):(toH U H).length=H.length:=by simp [toH]
theorem Z9E (H:ZP U) (i:Nat):(toH U H)[i]? = (H[i]?).map (Z0W U):=by simp [toH]
theorem Zdn (H:ZP U) (i:Nat) (b:ZJ2 U.Ty):toH U (H.set i b)=(toH U H).set i (Z0W U b):=by simp [toH,List.map_set]
theorem Z7k (H:ZP U) (k:Nat) (b:ZJ2 U.Ty):toH U (ZgC H k b)=place (toH U H) k (Z0W U b):=by
 unfold ZgC place
 rw [Z6i]
 split
 ·exact Zdn H k b
 ·simp [toH]
theorem Zd9 {x:SV U.Ty} (h:okS x=true):okV (toV U x)=true:=by
 cases x<;>simp_all [okS,toV,okV]
 rename_i v
 cases v<;>simp_all [okS]
theorem Z9f {x:SV U.Ty} (h:okS x=true):(toV U x).cells=Z02 U (cellsS x):=by
 cases x<;>simp_all [okS,toV,V.cells,cellsS,Z02]
 rename_i v
 cases v<;>simp_all [okS,V.cells]
theorem ZB {L M:Type} (T:Tr U L) (f:L->Tr U M) (y:M):(T.andThen f).ZA y↔∃x,T.ZA x/\(f x).ZA y:=by
 induction T with
 | leaf l=>simp [Tr.andThen,Tr.ZA]
 | br c a b iha ihb=>
  simp only [Tr.andThen,Tr.ZA,iha,ihb]
  constructor
  ·rintro (⟨h,x,h1,h2⟩|⟨h,x,h1,h2⟩)
   ·exact⟨x,.inl ⟨h,h1⟩,h2⟩
   ·exact⟨x,.inr ⟨h,h1⟩,h2⟩
  ·rintro ⟨x,(⟨h,h1⟩|⟨h,h1⟩),h2⟩
   ·exact .inl ⟨h,x,h1,h2⟩
   ·exact .inr ⟨h,x,h1,h2⟩
 | bind t o k ih=>
  simp only [Tr.andThen,Tr.ZA,ih]
  constructor
  ·rintro ⟨a,h,x,h1,h2⟩;exact⟨x,⟨a,h,h1⟩,h2⟩
  ·rintro ⟨x,⟨a,h,h1⟩,h2⟩;exact⟨a,h,x,h1,h2⟩
 | chk c a ih=>
  simp only [Tr.andThen,Tr.ZA,ih]
  constructor
  ·rintro ⟨h,x,h1,h2⟩;exact⟨x,⟨h,h1⟩,h2⟩
  ·rintro ⟨x,⟨h,h1⟩,h2⟩;exact⟨h,x,h1,h2⟩
 | fail=>simp [Tr.andThen,Tr.ZA]
theorem Z86 {L:Type} {o:Option L} {x:L}:(Tr.opt (U:=U) o).ZA x↔o=some x:=by
 cases o<;>simp [Tr.opt,Tr.ZA]
theorem Z09 {L:Type} {p:Prop} [Decidable p] {a:Tr U L} {x:L}:(Tr.when p a).ZA x↔p/\a.ZA x:=by
 unfold Tr.when
 split<;>simp_all [Tr.ZA]
theorem Z0J {L:Type} {H:ZP U} {id tot:Nat} {k:(t:Nat)->List (U.Ty t)->Option Nat->Tr U L} {y:L} (h:(rowAt H id tot k).ZA y) :
  ∃t xs fl,H[id]? = some (.row t xs fl)/\xs.length=tot/\(k t xs fl).ZA y/\Z1H (toH U H) id tot=some (Z0W U (.row t xs fl)):=by
 unfold rowAt at h
 split at h
 ·rename_i t xs fl hb
  simp only [Tr.ZA,beq_iff_eq] at h
  refine⟨t,xs,fl,hb,h.1,h.2,?_⟩
  unfold Z1H
  rw [Z9E,hb]
  simp [Z0W,h.1]
 ·simp [Tr.ZA] at h
theorem Zur {H:ZP U} {x y:SV U.Ty} (h:(Zps H x).ZA y):ZtK (toH U H) (toV U x)=some (toV U y):=by
 unfold Zps at h
 split at h<;>(try (simp only [Tr.ZA] at h;subst h;rfl))
 ·obtain⟨t,xs,fl,h1,h2,h3,h4⟩:=Z0J h
  simp only [Tr.ZA] at h3
  subst h3
  subst h2
  simp only [toV,ZtK,h4]
  simp only [Z0W,Nat.zero_add,Nat.le_refl,decide_true,Bool.and_self,if_true,List.drop_zero,Option.some.injEq,V.sl.injEq,true_and]
  exact List.take_of_length_le (by simp)
 ·obtain⟨t,xs,fl,h1,h2,h3,h4⟩:=Z0J h
  simp only [Tr.ZA,decide_eq_true_eq] at h3
  obtain⟨h3,rfl⟩:=h3
  simp only [toV,ZtK,h4]
  simp [Z0W,h3,List.map_take,List.map_drop]
 ·simp [Tr.ZA] at h
theorem ZN8 {H:ZP U}:∀{xs ys:List (SV U.Ty)},(ZE2 H xs).ZA ys->ZB7 (toH U H) (Z02 U xs)=some (Z02 U ys):=by
 intro xs
 induction xs with
 | nil=>intro ys h;simp only [ZE2,Tr.ZA] at h;subst h;rfl
 | cons x xs ih=>
  intro ys h
  simp only [ZE2,ZB,Tr.ZA] at h
  obtain⟨w,h1,ws,h2,rfl⟩:=h
  simp only [Z02,ZB7,Zur h1,ih h2]
theorem Zul {H:ZP U} {x y:SV U.Ty} (h:(ZP0 H x).ZA y):frz (toH U H) (toV U x)=some (toV U y):=by
 unfold ZP0 at h
 split at h
 ·rename_i cs
  simp only [ZB,Tr.ZA] at h
  obtain⟨ws,h1,rfl⟩:=h
  simp only [toV,frz,ZN8 h1,Option.map_some]
 ·rename_i hne
  have:=Zur h
  unfold frz
  split
  ·rename_i cs hcs
   exfalso
   cases x<;>simp_all [toV,Zps,Tr.ZA]
  ·exact this
theorem ZlT {H:ZP U}:∀{xs ys:List (SV U.Ty)},(Zcl H xs).ZA ys->Z2b (toH U H) (Z02 U xs)=some (Z02 U ys):=by
 intro xs
 induction xs with
 | nil=>intro ys h;simp only [Zcl,Tr.ZA] at h;subst h;rfl
 | cons x xs ih=>
  intro ys h
  simp only [Zcl,ZB,Tr.ZA] at h
  obtain⟨w,h1,ws,h2,rfl⟩:=h
  simp only [Z02,Z2b,Zul h1,ih h2]
theorem ZFm (x:SV U.Ty):ZgA (toV U x)=Zsc x:=by
 cases x<;>simp [toV,ZgA,Zsc]
theorem ZFE (x:SV U.Ty):Z9g (toV U x)=Zqk x:=by
 cases x<;>simp [toV,Z9g,Zqk,Zsc,ZgA]
 rename_i cs
 rw [Z0X,List.flatMap_map]
 simp [ZFm]
theorem ZqY (xs:List (SV U.Ty)):(Z02 U xs).flatMap Z9g=xs.flatMap Zqk:=by
 rw [Z0X,List.flatMap_map]
 simp [ZFE]
theorem ZNJ (x:SV U.Ty):ZdA (toV U x)=ZJ8 x:=by
 cases x<;>simp [toV,ZdA,ZJ8]
theorem ZKT (x:SV U.Ty):Z1e (toV U x)=ZPS x:=by
 cases x<;>simp [toV,Z1e,ZPS,ZJ8,ZdA]
 rename_i cs
 rw [Z0X,List.flatMap_map]
 simp [ZNJ]
theorem ZfM (H:ZP U):∀(ids:List Nat),(∀i∈ids,∃t xs fl,H[i]? = some (.row t xs fl))->toH U (ZvN H ids)=bump (toH U H) ids:=by
 intro ids
 induction ids generalizing H with
 | nil=>intro _;rfl
 | cons i is ih=>
  intro h
  simp only [ZvN,bump]
  have hmod:toH U (H.modify i ZuC)=(toH U H).modify i fun b=>{ b with floor:=b.xs.length }:=by
   apply List.ext_getElem?
   intro j
   simp only [toH,List.getElem?_map,List.getElem?_modify]
   by_cases hij:i=j
   ·subst hij
    obtain⟨t,xs,fl,hb⟩:=h i (by simp)
    simp [hb,ZuC,Z0W]
   ·simp [hij]
  rw [ih,hmod]
  intro j hj
  obtain⟨t,xs,fl,hb⟩:=h j (by simp [hj])
  by_cases hij:i=j
  ·subst hij
   exact⟨t,xs,some xs.length,by simp [List.getElem?_modify,hb,ZuC]⟩
  ·exact⟨t,xs,fl,by simp [List.getElem?_modify,hij,hb]⟩
theorem Zlt {H:ZP U} {x y:SV U.Ty} (h:(Zps H x).ZA y):∀i∈Zsc x,∃t xs fl,H[i]? = some (.row t xs fl):=by
 intro i hi
 unfold Zps at h
 split at h<;>(try (simp [Zsc] at hi))
 ·obtain⟨t,xs,fl,h1,_⟩:=Z0J h
  subst hi
  exact⟨t,xs,fl,h1⟩
 ·obtain⟨t,xs,fl,h1,_⟩:=Z0J h
  subst hi
  exact⟨t,xs,fl,h1⟩
 ·simp [Tr.ZA] at h
theorem ZIs {H:ZP U}:∀{xs ys:List (SV U.Ty)},(ZE2 H xs).ZA ys->∀i∈xs.flatMap Zsc,∃t xs fl,H[i]? = some (.row t xs fl):=by
 intro xs
 induction xs with
 | nil=>intro ys h i hi;simp at hi
 | cons x xs ih=>
  intro ys h i hi
  simp only [ZE2,ZB,Tr.ZA] at h
  obtain⟨w,h1,ws,h2,rfl⟩:=h
  simp only [List.flatMap_cons,List.mem_append] at hi
  rcases hi with hi|hi
  ·exact Zlt h1 i hi
  ·exact ih h2 i hi
theorem Zyh {H:ZP U} {x y:SV U.Ty} (h:(ZP0 H x).ZA y):∀i∈Zqk x,∃t xs fl,H[i]? = some (.row t xs fl):=by
 unfold ZP0 at h
 split at h
 ·simp only [ZB,Tr.ZA] at h
  obtain⟨ws,h1,rfl⟩:=h
  exact ZIs h1
 ·rename_i hne
  intro i hi
  refine Zlt h i ?_
  cases x<;>simp_all [Zqk,Zsc]
  simp [Zps,Tr.ZA] at h
theorem Znk {H:ZP U}:∀{xs ys:List (SV U.Ty)},(Zcl H xs).ZA ys->∀i∈xs.flatMap Zqk,∃t xs fl,H[i]? = some (.row t xs fl):=by
 intro xs
 induction xs with
 | nil=>intro ys h i hi;simp at hi
 | cons x xs ih=>
  intro ys h i hi
  simp only [Zcl,ZB,Tr.ZA] at h
  obtain⟨w,h1,ws,h2,rfl⟩:=h
  simp only [List.flatMap_cons,List.mem_append] at hi
  rcases hi with hi|hi
  ·exact Zyh h1 i hi
  ·exact ih h2 i hi
theorem ZiX (cs:List (SV U.Ty)) (off n:Nat) (b:Bool):partOf (Z02 U cs) off n b=(ZDg cs off n b).map (toV U):=by
 unfold partOf ZDg
 simp only [Z0X,List.length_map]
 split
 ·split
  ·simp [toV,Z0X,List.map_take,List.map_drop]
  ·rfl
 ·simp
theorem Z0M (cs:List (SV U.Ty)):(Z02 U cs).length=cs.length:=by simp [Z0X]
theorem ZtB {x:SV U.Ty} {off:Nat} {cs:List (SV U.Ty)} {y:SV U.Ty} (h:Zvo x off cs=some y):Z6v (toV U x) off (Z02 U cs)=some (toV U y):=by
 unfold Zvo at h
 split at h
 ·rename_i ds
  split at h
  ·rename_i hle
   simp only [Option.some.injEq] at h
   subst h
   simp only [toV,Z6v,Z0M,hle,if_true]
   simp [Z0X,List.map_take,List.map_drop]
  ·cases h
 ·cases h
 ·rename_i h1 h2
  split at h
  ·rename_i c
   simp only [Option.some.injEq] at h
   subst h
   have:∀ds,toV U x≠.agg ds:=by
    intro ds hds
    cases x<;>simp_all [toV]
   unfold Z6v
   split
   ·rename_i ds hds;exact absurd hds (this ds)
   ·simp [Z02]
  ·cases h
theorem Zpf {H:ZP U} {id:Nat} {e n:Nat} {x:SV U.Ty} (h:H[id]? = some (.var e n x)):Z1H (toH U H) id 1=some (ZW false false e n [toV U x]):=by
 unfold Z1H
 rw [Z9E,h]
 simp [Z0W,ZW]
theorem Zye {H:ZP U} {id tot:Nat} {t:Nat} {xs:List (U.Ty t)} {fl:Option Nat} (h:H[id]? = some (.row t xs fl)) (hl:xs.length=tot):Z1H (toH U H) id tot=some (Z0W U (.row t xs fl)):=by
 unfold Z1H
 rw [Z9E,h]
 simp [Z0W,hl]
theorem ZFi {E:Env} (hU:Z0L U E) {H:ZP U} {t:TypeId} {a y:SV U.Ty} (h:(loadT E H t a).ZA y):ZnW E (toH U H) t (toV U a)=some (toV U y):=by
 unfold loadT at h
 split at h
 ·simp [Tr.ZA] at h
 ·rename_i i hi
  unfold ZnW
  rw [hi]
  simp only
  split at h
  ·rename_i et xs j off
   simp only [Tr.ZA,Z86] at h
   obtain⟨x,hx,hp⟩:=h
   simp only [toV,Znc,List.getElem?_map,hx,Option.map_some]
   rw [hU.cells,ZiX,hp]
   rfl
  ·rename_i id j off tot
   split at h
   ·rename_i e n x hb
    simp only [Z09,Z86] at h
    obtain⟨⟨rfl,rfl,hok⟩,hp⟩:=h
    simp only [toV,Zpf hb,ZW,Znc,List.getElem?_cons_zero]
    rw [Z9f hok,ZiX,hp]
    rfl
   ·rename_i et xs fl hb
    simp only [Tr.ZA,Z86,beq_iff_eq] at h
    obtain⟨hl,x,hx,hp⟩:=h
    simp only [toV,Zye hb hl,Z0W,Znc,List.getElem?_map,hx,Option.map_some]
    rw [hU.cells,ZiX,hp]
    rfl
   ·simp [Tr.ZA] at h
  ·rename_i e cs off
   simp only [Z86] at h
   cases hp:partOf cs off i.size i.isAgg with
   | none=>simp [hp] at h
   | some v=>
    simp only [hp,Option.map_some,Option.some.injEq] at h
    subst h
    simp only [toV,Znc,List.getElem?_cons_zero,V.cells,hp,Zmx]
  ·simp [Tr.ZA] at h
theorem ZLA {E:Env} (hU:Z0L U E) {H H' : ZP U} {t:TypeId} {a v:SV U.Ty} (h:(storeT E H t a v).ZA H'):Zds E (toH U H) t (toV U a) (toV U v)=some (toH U H'):=by
 unfold storeT at h
 split at h
 ·simp [Tr.ZA] at h
 ·rename_i i hi
  unfold Zds
  rw [hi]
  simp only
  split at h
  ·rename_i id j off tot
   split at h
   ·rename_i e n x hb
    simp only [Z09] at h
    obtain⟨⟨⟨rfl,rfl⟩,hl,hok,hokx⟩,h⟩:=h
    split at h
    ·rename_i x' hx'
     simp only [Z09,Tr.ZA] at h
     obtain⟨hok',rfl⟩:=h
     simp only [toV,Zpf hb,ZW,List.getElem?_cons_zero]
     rw [Z9f hok,Z0M,hl,ZtB hx',Zd9 hok]
     simp [Zd9 hok',Zdn,Z0W,ZW]
    ·simp [Tr.ZA] at h
   ·rename_i et xs fl hb
    simp only [Z09,Tr.ZA,ZB,Bool.and_eq_true,beq_iff_eq,decide_eq_true_eq] at h
    obtain⟨⟨hl,hok,hni⟩,⟨hlen,hfl⟩,x,hx,v',hv',h⟩:=h
    split at h
    ·rename_i x' hx'
     split at h
     ·rename_i y hy
      simp only [Z09,Tr.ZA] at h
      obtain⟨⟨hok1,hok2⟩,rfl⟩:=h
      simp only [toV,Zye hb hlen,Z0W,List.getElem?_map,hx,Option.map_some]
      rw [Z9f hok,Z0M,hl,Zd9 hok]
      have hc:(frz (toH U H) (toV U v))=some (toV U v'):=Zul hv'
      have hsp:=ZtB hx'
      rw [hU.encS] at hsp
      have hdec:=hU.dec et x' y hy
      have hokr:okV (U.enc et y)=true:=by rw [<- hdec,ZjC];exact Zd9 hok2
      rw [hc]
      simp only [Z9f hok1,hsp,Option.map_some,hdec,hokr,Zd9 hok1,ZFE,hni,beq_self_eq_true,Bool.and_self,Bool.and_true,decide_eq_true hfl,if_true,Bool.not_true,Bool.or_self,Bool.false_eq_true,if_false]
      rw [Zdn,ZfM H _ (Zyh hv')]
      simp [Z0W,List.map_set]
     ·simp [Tr.ZA] at h
    ·simp [Tr.ZA] at h
   ·simp [Tr.ZA] at h
  ·simp [Tr.ZA] at h
end
section
variable {U:Z5V}
theorem Z2J {x:SV U.Ty} {k:IntKind} {a:Int} (h:asInt x=some (k,a)):toV U x = .lit (.int k a):=by
 unfold asInt at h
 split at h<;>simp_all [toV]
theorem Z5M {x:SV U.Ty} {s:ByteArray} (h:Zhi x=some s):toV U x = .lit (.string s):=by
 unfold Zhi at h
 split at h<;>simp_all [toV]
theorem Z6H {x:SV U.Ty} {b:Bool} (h:asBool x=some b):toV U x = .lit (.bool b):=by
 unfold asBool at h
 split at h<;>simp_all [toV]
theorem Zx0 {x:SV U.Ty} {n:Int} {l:Bool} (h:ZNN x=some (n,l)):∃k,toV U x = .lit (.int k n):=by
 unfold ZNN at h
 split at h<;>simp_all [toV]
theorem ZQ1 {op:BinOp} {k:IntKind} {a b:Int} {l:Bool} {y:SV U.Ty} (h:(intT op k a b l).ZA y):(Zsd op k a b).map V.lit=some (toV U y):=by
 unfold intT at h
 cases op<;>simp only [Tr.ZA] at h<;>(try (subst h;rfl))<;>(try (exact h.elim))
 ·split at h
  ·split at h
   ·simp [Tr.ZA] at h
   ·rename_i hb
    simp only [Tr.ZA] at h
    subst h
    simp [Zsd,hb,toV]
  ·simp only [Tr.ZA,bne_iff_ne,ne_eq] at h
   obtain⟨hb,rfl⟩:=h
   simp [Zsd,hb,toV]
 ·split at h
  ·split at h
   ·simp [Tr.ZA] at h
   ·rename_i hb
    simp only [Tr.ZA] at h
    subst h
    simp [Zsd,hb,toV]
  ·simp only [Tr.ZA,bne_iff_ne,ne_eq] at h
   obtain⟨hb,rfl⟩:=h
   simp [Zsd,hb,toV]
theorem ZAJ {op:BinOp} {k:IntKind} {a b:Int} {l:Bool} {y:SV U.Ty} (h:(ZFB op k a b l).ZA y):(ZcI op k a b).map V.lit=some (toV U y):=by
 unfold ZFB at h
 split at h
 ·simp [Tr.ZA] at h
 ·rename_i r hr
  have key:∀(hb:¬b<0) (hy:SV.si k r=y),(ZcI op k a b).map V.lit=some (toV U y):=by
   intro hb hy
   subst hy
   unfold ZcI
   unfold ZOi at hr
   split at hr<;>simp_all [toV]
  split at h
  ·split at h
   ·simp [Tr.ZA] at h
   ·rename_i hb
    exact key hb h
  ·simp only [Tr.ZA,decide_eq_true_eq] at h
   exact key (by omega) h.2
theorem ZPC {op:BinOp} {x y:ByteArray} {z:SV U.Ty} (h:(strT op x y).ZA z):(ZI4 op x y).map V.lit=some (toV U z):=by
 unfold strT at h
 cases op<;>simp only [Tr.ZA] at h<;>(try (subst h;rfl))<;>(try (exact h.elim))
 obtain⟨hb,rfl⟩:=h
 simp only [decide_eq_true_eq] at hb
 simp [ZI4,hb,toV]
theorem ZDV:∀{ks:List FK} {xs ys:List (SV U.Ty)} {r:Bool},Z5m ks xs ys=some r->Z4o ks (Z02 U xs) (Z02 U ys)=some r:=by
 intro ks
 induction ks with
 | nil=>
  intro xs ys r h
  unfold Z5m at h
  split at h<;>simp_all [Z02,Z4o]
 | cons k ks ih=>
  intro xs ys r h
  cases xs with
  | nil=>cases k<;>simp [Z5m] at h
  | cons x xs=>
   cases ys with
   | nil=>cases k<;>simp [Z5m] at h
   | cons y ys=>
    cases k with
    | b=>
     simp only [Z5m] at h
     split at h
     ·rename_i a b r' h1 h2 h3
      simp only [Option.some.injEq] at h
      subst h
      simp only [Z02,Z6H h1,Z6H h2,Z4o,ih h3]
     ·cases h
    | i k=>
     simp only [Z5m] at h
     split at h
     ·rename_i k1 a k2 b r' h1 h2 h3
      split at h
      ·rename_i hk
       simp only [Option.some.injEq] at h
       subst h
       simp only [Z02,Z2J h1,Z2J h2,Z4o,ih h3,hk,and_self,if_true]
      ·cases h
     ·cases h
    | s=>
     simp only [Z5m] at h
     split at h
     ·rename_i a b r' h1 h2 h3
      simp only [Option.some.injEq] at h
      subst h
      simp only [Z02,Z5M h1,Z5M h2,Z4o,ih h3]
     ·cases h
theorem ZPx {E:Env} {op:BinOp} {t:TypeId} {x y z:SV U.Ty} (h:(binT E op t x y).ZA z):ZIZ E op t (toV U x) (toV U y)=some (toV U z):=by
 unfold binT at h
 split at h
 ·rename_i xs ys
  split at h
  ·rename_i ks hks
   split at h
   ·rename_i b hb
    have:=ZDV hb
    split at h
    ·simp only [Tr.ZA] at h
     subst h
     simp only [toV,ZIZ,hks,this,Option.map_some]
    ·simp only [Tr.ZA] at h
     subst h
     simp only [toV,ZIZ,hks,this,Option.map_some]
    ·simp [Tr.ZA] at h
   ·simp [Tr.ZA] at h
  ·simp [Tr.ZA] at h
 ·split at h
  ·rename_i k a j b ha hb
   rw [Z2J ha,Z2J hb]
   split at h
   ·exact ZAJ h
   ·exact ZAJ h
   ·rename_i h1 h2
    split at h
    ·rename_i hk
     have hi:=ZQ1 h
     subst hk
     have hb:ZIZ E op t (.lit (.int k a)) (.lit (.int k b))=(Zsd op k a b).map V.lit:=by
      cases op<;>first|exact absurd rfl h1|exact absurd rfl h2|simp [ZIZ]
     rw [hb]
     exact hi
    ·simp [Tr.ZA] at h
  ·split at h
   ·rename_i a b ha hb
    rw [Z5M ha,Z5M hb]
    have:=ZPC h
    unfold ZIZ
    split<;>simp_all
   ·split at h
    ·rename_i a b ha hb
     rw [Z6H ha,Z6H hb]
     split at h
     ·rename_i hE
      split at h
      ·simp only [Tr.ZA] at h
       subst h
       simp [ZIZ,hE,toV]
      ·simp only [Tr.ZA] at h
       subst h
       simp [ZIZ,hE,toV]
      ·simp [Tr.ZA] at h
     ·simp [Tr.ZA] at h
    ·simp [Tr.ZA] at h
theorem ZQT {op:UnOp} {x z:SV U.Ty} (h:(unT op x).ZA z):unD op (toV U x)=some (toV U z):=by
 unfold unT at h
 split at h
 ·rename_i k n hk
  simp only [Tr.ZA] at h
  subst h
  rw [Z2J hk]
  rfl
 ·rename_i k n hk
  simp only [Tr.ZA] at h
  subst h
  rw [Z2J hk]
  rfl
 ·rename_i b _ hb
  simp only [Tr.ZA] at h
  subst h
  rw [Z6H hb]
  rfl
 ·simp [Tr.ZA] at h
theorem ZS9 {isMax:Bool} {k:IntKind}:∀{xs:List (SV U.Ty)} {a r:Int},mmT isMax k a xs=some r->mm isMax k a (Z02 U xs)=some (.lit (.int k r)):=by
 intro xs
 induction xs with
 | nil=>intro a r h;simp only [mmT,Option.some.injEq] at h;subst h;rfl
 | cons x xs ih=>
  intro a r h
  simp only [mmT] at h
  split at h
  ·rename_i j b hj
   split at h
   ·rename_i hk
    simp only [Z02,Z2J hj,mm,hk,if_true]
    exact hk▸ih h
   ·cases h
  ·cases h
theorem Ztf {isMax:Bool} {xs:List (SV U.Ty)} {z:SV U.Ty} (h:(Zv4 isMax xs).ZA z):Zjk isMax (Z02 U xs)=some (toV U z):=by
 unfold Zv4 at h
 split at h
 ·rename_i x rest
  split at h
  ·rename_i k a hk
   split at h
   ·rename_i r hr
    simp only [Tr.ZA] at h
    subst h
    simp only [Z02,Z2J hk,Zjk,toV]
    exact ZS9 hr
   ·simp [Tr.ZA] at h
  ·simp [Tr.ZA] at h
 ·simp [Tr.ZA] at h
def ZbB (parts:List (Nat×SV U.Ty)):List (Nat×V):=parts.map fun(i,x)=>(i,toV U x)
theorem ZFy {place:Nat->Option (Nat×Nat)}:∀{parts:List (Nat×SV U.Ty)} {cs cs' : List (SV U.Ty)},ZyM cs parts place=some cs' -> Zsw (Z02 U cs) (ZbB parts) place=some (Z02 U cs'):=by
 intro parts
 induction parts with
 | nil=>intro cs cs' h;simp only [ZyM,Option.some.injEq] at h;subst h;rfl
 | cons p parts ih=>
  intro cs cs' h
  obtain⟨i,v⟩:=p
  simp only [ZyM] at h
  split at h
  ·cases h
  ·rename_i off size hp
   split at h
   ·rename_i hc
    simp only [Bool.and_eq_true,beq_iff_eq,decide_eq_true_eq] at hc
    obtain⟨⟨h1,h2⟩,h3⟩:=hc
    have:=ih h
    simp only [ZbB,List.map_cons,Zsw,hp]
    rw [Z9f h3,Z0M,h1,Z0M,Zd9 h3]
    simp only [beq_self_eq_true,h2,decide_true,Bool.and_self,if_true]
    rw [<- this]
    simp only [ZbB,Z0X,List.map_append,List.map_take,List.map_drop]
   ·cases h
theorem cells_toV' {x:SV U.Ty} (h:∀cs,x≠.raw (.agg cs)):(toV U x).cells=Z02 U (cellsS x):=by
 cases x with
 | raw v=>
  cases v with
  | agg cs=>exact absurd rfl (h cs)
  | _=>rfl
 | _=>rfl
theorem ZAm {z:V}:Z02 U (cellsS (ofV U z))=z.cells:=by
 have hr:∀cs,ofV U z≠.raw (.agg cs):=by
  intro cs hcs
  unfold ofV at hcs
  split at hcs
  ·cases hcs
  ·rename_i hne
   unfold ZQV at hcs
   split at hcs<;>(try cases hcs)
   simp at hne
 rw [<- cells_toV' hr,Zmx]
theorem ZLZ {E:Env} {t:TypeId} {parts:List (Nat×SV U.Ty)} {y:SV U.Ty} (h:ZL4 E t parts=some y):ZtT E t (ZbB parts)=some (toV U y):=by
 unfold ZL4 at h
 unfold ZtT
 split at h
 ·rename_i i hi
  rw [hi]
  split at h
  ·rename_i z hz
   simp only [hz]
   split at h
   ·rename_i hok
    rw [if_pos hok]
    split at h
    ·rename_i fs hty
     simp only [hty]
     split at h
     ·rename_i hall
      rw [if_pos hall]
      cases hf:ZyM (cellsS (ofV U z)) parts (placesOf E fs) with
      | none=>simp [hf] at h
      | some cs=>
       simp only [hf,Option.map_some,Option.some.injEq] at h
       subst h
       have:=ZFy hf
       rw [ZAm] at this
       simp only [this,Option.map_some,toV]
     ·cases h
    ·rename_i len e hty
     simp only [hty]
     split at h
     ·rename_i ei hei
      simp only [hei]
      cases hf:ZyM (cellsS (ofV U z)) parts (fun i=>some (i*ei.size,ei.size)) with
      | none=>simp [hf] at h
      | some cs=>
       simp only [hf,Option.map_some,Option.some.injEq] at h
       subst h
       have:=ZFy hf
       rw [ZAm] at this
       simp only [this,Option.map_some,toV]
     ·cases h
    ·cases h
   ·cases h
  ·cases h
 ·cases h
theorem Zyl {E:Env} (hU:Z0L U E) {e:Nat}:∀{vs:List (SV U.Ty)} {ys:List (U.Ty e)},Ztk e vs=some ys->(Z02 U vs).map (Z18 (E.rows e))=ys.map (U.enc e)/\∀v∈vs,okS v=true:=by
 intro vs
 induction vs with
 | nil=>intro ys h;simp only [Ztk,Option.some.injEq] at h;subst h;simp [Z02]
 | cons v vs ih=>
  intro ys h
  simp only [Ztk] at h
  split at h
  ·rename_i a as h1 h2 h3
   simp only [Option.some.injEq] at h
   subst h
   obtain⟨i1,i2⟩:=ih h3
   refine⟨by simp only [Z02,List.map_cons,i1,hU.dec _ _ _ h2],?_⟩
   intro x hx
   rcases List.mem_cons.1 hx with hx|hx
   ·rw [hx];exact h1
   ·exact i2 x hx
  ·cases h
theorem ZHR (sz:Nat):∀(vs pre post:List V),(∀v∈vs,v.cells.length=sz/\okV v=true)->vs.length<=post.length ->
  ZnG (pre++post) sz ((List.range' pre.length vs.length).zip vs)=some (pre++vs++post.drop vs.length):=by
 intro vs
 induction vs with
 | nil=>intro pre post _ _;simp [ZnG]
 | cons v vs ih=>
  intro pre post h hl
  cases post with
  | nil=>simp at hl
  | cons p post=>
   simp only [List.length_cons,List.range'_succ,List.zip_cons_cons,ZnG]
   obtain⟨h1,h2⟩:=h v (by simp)
   have hset:(pre++p::post).set pre.length v=(pre++[v])++post:=by simp
   have:=ih (pre++[v]) post (fun x hx=>h x (by simp [hx])) (by simpa using hl)
   rw [List.length_append,List.length_singleton] at this
   rw [h1,h2,hset,this]
   simp
theorem ZsE {E:Env} (hU:Z0L U E) {k:Nat} {H H' : ZP U} {t:TypeId} {n:Nat} {parts:List (Nat×SV U.Ty)} {y:SV U.Ty} (h:(Zij E k H t n parts).ZA (y,H')) :
  Z3a E k (toH U H) t n (ZbB parts)=some (toV U y,toH U H'):=by
 unfold Zij at h
 unfold Z3a
 split at h
 ·rename_i e sz by' z0 hti
  rw [hti]
  simp only
  split at h
  ·rename_i ei hei
   simp only [hei]
   split at h
   ·rename_i z hz
    simp only [ZB] at h
    obtain⟨vs,hvs,h⟩:=h
    split at h
    ·rename_i ys hys
     simp only [Z09,Tr.ZA,Prod.mk.injEq] at h
     obtain⟨⟨⟨c1,c2,c3,c4⟩,c5,c6,c7⟩,rfl,rfl⟩:=h
     have hp2:(ZbB parts).map (·.2)=Z02 U (parts.map (·.2)):=by
      rw [Z0X];simp [ZbB]
     have hp1:(ZbB parts).map (·.1)=List.range n:=by rw [<- c5];simp [ZbB]
     obtain⟨d1,d2⟩:=Zyl hU hys
     have hf:=ZlT hvs
     have hlen:(Z02 U vs).length=n:=by
      rw [<- ZwA hf,Z0M,List.length_map,<- List.length_map (f:=(·.1)) (as:=parts),c5,List.length_range]
     have hlen' : (ys.map (U.enc e)).length=n:=by rw [<- d1,List.length_map,hlen]
     have hempty:(n==0 && !(ZbB parts).isEmpty)=false:=by
      cases hn:n with
      | zero=>
       have:parts=[]:=by
        have:=congrArg List.length c5
        rw [hn] at this
        simpa using this
       simp [this,ZbB]
      | succ m=>simp
     rw [hz,hp2,hf]
     simp only
     rw [if_pos ⟨c1,c2,c3,c4,hempty⟩,hp1,d1]
     have hfull:=ZHR ei.size (ys.map (U.enc e)) [] (List.replicate n (Z18 (E.rows e) z)) (by
      intro v hv
      rw [<- d1] at hv
      obtain⟨w,hw,rfl⟩:=List.mem_map.1 hv
      rw [Z0X] at hw
      obtain⟨s,hs,rfl⟩:=List.mem_map.1 hw
      have hok:=d2 s hs
      rw [ZjC,ZIo]
      refine⟨?_,Zd9 hok⟩
      rw [Z9f hok,Z0M]
      simpa using List.all_eq_true.1 c6 s hs) (by rw [hlen'];simp)
     rw [hlen'] at hfull
     simp only [List.length_nil,List.nil_append] at hfull
     rw [show List.range n=List.range' 0 n from List.range_eq_range' ..,hfull]
     have hdrop:List.drop n (List.replicate n (Z18 (E.rows e) z))=[]:=by simp
     rw [hdrop,List.append_nil,Z7k,ZqY,ZfM H _ (Znk hvs)]
     simp [toV,Z0W,ZW,c7]
    ·simp [Tr.ZA] at h
   ·simp [Tr.ZA] at h
  ·simp [Tr.ZA] at h
 ·simp [Tr.ZA] at h
theorem ZuV {E:Env} {s:TypeId} {x y:SV U.Ty} {f:Nat} (h:ZlV E s x f=some y):Z8t E s (toV U x) f=some (toV U y):=by
 unfold ZlV at h
 unfold Z8t
 split at h
 ·rename_i fs sz by' z0 hti
  rw [hti]
  simp only
  split at h
  ·rename_i o t ho
   rw [ho]
   simp only
   split at h
   ·rename_i n hn
    simp only [hn]
    split at h
    ·cases h
    ·rename_i hz
     rw [if_neg hz]
     split at h
     ·simp only [Option.some.injEq] at h;subst h;rfl
     ·simp only [Option.some.injEq] at h;subst h;rfl
     ·simp only [Option.some.injEq] at h;subst h;rfl
     ·cases h
   ·cases h
  ·cases h
 ·cases h
theorem ZKO {E:Env} {s:TypeId} {x y:SV U.Ty} {f:Nat} (h:ZJG E s x f=some y):ZtO E s (toV U x) f=some (toV U y):=by
 unfold ZJG at h
 unfold ZtO
 split at h
 ·rename_i fs sz by' z0 cs hti
  rw [hti]
  simp only [toV]
  split at h
  ·rename_i o t ho
   rw [ho]
   simp only
   split at h
   ·rename_i i hi
    simp only [hi,ZiX,h,Option.map_some]
   ·cases h
  ·cases h
 ·cases h
theorem Zaa {L:Type} {n:Int} {lit:Bool} {len:Nat} {k:Nat->Tr U L} {y:L} (h:(Zmp n lit len k).ZA y):(0<=n/\n<len)/\(k n.toNat).ZA y:=by
 unfold Zmp at h
 split at h
 ·split at h
  ·rename_i hn;exact⟨hn,h⟩
  ·simp [Tr.ZA] at h
 ·revert h
  suffices hh:∀l:List Nat,(∀i∈l,i<len)->(l.foldr (fun(i:Nat) rest=>Tr.br (n==(i:Int)) (k i) rest) .fail).ZA y->(0<=n/\n<len)/\(k n.toNat).ZA y from
   fun h=>hh _ (fun i hi=>by simpa using hi) h
  intro l
  induction l with
  | nil=>intro _ h;simp [Tr.ZA] at h
  | cons i l ih=>
   intro hl h
   simp only [List.foldr_cons,Tr.ZA,beq_iff_eq] at h
   rcases h with ⟨hn,hr⟩|⟨_,hr⟩
   ·have:=hl i (by simp)
    have hi:n.toNat=i:=by omega
    rw [hi]
    exact⟨by omega,hr⟩
   ·exact ih (fun j hj=>hl j (by simp [hj])) hr
theorem ZuS {E:Env} {H:ZP U} {t:TypeId} {x i y:SV U.Ty} (h:(Zmj E H t x i).ZA y):Z47 E (toH U H) t (toV U x) (toV U i)=some (toV U y):=by
 unfold Zmj at h
 unfold Z47
 split at h
 ·rename_i kk n ti hn hti
  rw [Z2J hn,hti]
  simp only
  split at h
  ·rename_i el hty
   simp only [hty]
   split at h
   ·rename_i et xs
    simp only [Z09,Tr.ZA,decide_eq_true_eq] at h
    obtain⟨h1,h2,rfl⟩:=h
    simp only [toV,List.length_map,h2,h1,and_self,if_true]
   ·rename_i et xs
    simp only [Z09,Tr.ZA,decide_eq_true_eq] at h
    obtain⟨h1,h2,rfl⟩:=h
    simp only [toV,List.length_map,h2,h1,and_self,if_true]
   ·rename_i id m
    obtain⟨et,xs,fl,r1,r2,r3,r4⟩:=Z0J h
    simp only [Z09,Tr.ZA,decide_eq_true_eq] at r3
    obtain⟨h1,h2,rfl⟩:=r3
    simp only [toV,r4,Z0W,h2,h1,and_self,if_true,Nat.zero_add]
   ·rename_i id off len tot
    obtain⟨et,xs,fl,r1,r2,r3,r4⟩:=Z0J h
    simp only [Z09,Tr.ZA,decide_eq_true_eq] at r3
    obtain⟨h1,h2,rfl⟩:=r3
    simp only [toV,r4,Z0W,h2,h1,and_self,if_true]
   ·simp [Tr.ZA] at h
  ·rename_i len e hty
   simp only [hty]
   split at h
   ·simp [Tr.ZA] at h
   ·rename_i sz hsz
    split at h
    ·obtain⟨hb,h⟩:=Zaa h
     simp only [Tr.ZA] at h
     subst h
     simp only [toV,hsz,hb,and_self,if_true]
    ·obtain⟨hb,h⟩:=Zaa h
     simp only [Tr.ZA] at h
     subst h
     simp only [toV,hsz,hb,and_self,if_true]
    ·obtain⟨hb,h⟩:=Zaa h
     simp only [Tr.ZA] at h
     subst h
     simp only [toV,hsz,hb,and_self,if_true]
    ·simp [Tr.ZA] at h
  ·simp [Tr.ZA] at h
 ·simp [Tr.ZA] at h
theorem ZNV {s:ByteArray} {n:Nat} (h:n<s.size):s[n]? = some (s.get! n):=by
 rw [getElem?_pos s n h]
 cases s with
 | mk d=>
  have hd:n<d.size:=h
  show some d[n]=some d[n]!
  rw [getElem!_pos d n hd]
theorem ZJW {E:Env} {t:TypeId} {x i y:SV U.Ty} (h:(ZLM E t x i).ZA y):ZtP E t (toV U x) (toV U i)=some (toV U y):=by
 unfold ZLM at h
 unfold ZtP
 split at h
 ·rename_i kk n hn
  rw [Z2J hn]
  simp only
  split at h
  ·rename_i len e sz by' z0 cs hti
   rw [hti]
   simp only [toV]
   split at h
   ·rename_i ei hei
    obtain⟨hb,h⟩:=Zaa h
    rw [Z86] at h
    simp only [hei,hb,and_self,if_true,ZiX,h,Option.map_some]
   ·simp [Tr.ZA] at h
  ·rename_i sz by' z0 hti
   rw [hti]
   split at h
   ·rename_i s hs
    rw [Z5M hs]
    split at h
    ·rename_i hE
     simp only [Tr.ZA,decide_eq_true_eq] at h
     obtain⟨⟨h1,h2⟩,rfl⟩:=h
     have hlt:n.toNat<s.size:=by omega
     simp only [hE,h1,if_true,ZNV hlt,Option.map_some,toV]
    ·simp [Tr.ZA] at h
   ·simp [Tr.ZA] at h
  ·simp [Tr.ZA] at h
 ·simp [Tr.ZA] at h
theorem ZfQ {t:Nat} {xs:List (U.Ty t)} {y:SV U.Ty} (h:(ZHG t xs).ZA y) :
  U.esz t=1/\∃bs,bytesOf (xs.map (U.enc t))=some bs/\bs.length<=maxLen/\y = .ss ⟨bs.toArray⟩:=by
 unfold ZHG at h
 simp only [Z09,Tr.ZA] at h
 obtain⟨h1,h2,h3⟩:=h
 refine⟨h1,?_⟩
 unfold Z7z at h2
 unfold strOf at h3
 split at h2
 ·rename_i bs hbs
  refine⟨bs,hbs,by simpa using h2,?_⟩
  rw [<- h3,hbs]
  rfl
 ·cases h2
theorem ZLg {E:Env} {H:ZP U} {src dst:TypeId} {x y:SV U.Ty} (h:(ZMk E H src dst x).ZA y):ZdG E (toH U H) src dst (toV U x)=some (toV U y,toH U H):=by
 unfold ZMk at h
 simp only [Z09] at h
 obtain⟨hb,h⟩:=h
 simp only [Bool.and_eq_true] at hb
 split at h
 ·simp only [Tr.ZA] at h
  subst h
  simp [ZdG,toV,hb,Z3K,elemsOf,bytesOf]
 ·obtain⟨h1,bs,h2,h3,rfl⟩:=ZfQ h
  simp [ZdG,toV,hb,Z3K,elemsOf,h1,h2,h3]
 ·obtain⟨h1,bs,h2,h3,rfl⟩:=ZfQ h
  simp [ZdG,toV,hb,Z3K,elemsOf,h1,h2,h3]
 ·obtain⟨t,xs,fl,h1,h2,h3,h4⟩:=Z0J h
  obtain⟨h5,bs,h6,h7,rfl⟩:=ZfQ h3
  subst h2
  rename_i id
  have he:elemsOf (toH U H) (toV U (.all id xs.length))=some (xs.map (U.enc t)):=by
   simp only [toV,elemsOf,h4]
   simp only [Z0W,Nat.zero_add,Nat.le_refl,decide_true,Bool.and_self,if_true,List.drop_zero,Option.some.injEq]
   exact List.take_of_length_le (by simp)
  simp only [toV] at he
  simp only [ZdG,toV,hb,he,Z3K,h4,Z0W,h5,Bool.and_self,beq_self_eq_true,if_true,h6,if_pos h7]
 ·obtain⟨t,xs,fl,h1,h2,h3,h4⟩:=Z0J h
  simp only [Tr.ZA,decide_eq_true_eq] at h3
  obtain⟨hle,h3⟩:=h3
  obtain⟨h5,bs,h6,h7,rfl⟩:=ZfQ h3
  rename_i id off len tot
  have he:elemsOf (toH U H) (toV U (.lsl id off len tot))=some ((((xs.drop off).take len)).map (U.enc t)):=by
   simp only [toV,elemsOf,h4]
   simp [Z0W,hle,List.map_take,List.map_drop]
  simp only [toV] at he
  simp only [ZdG,toV,hb,he,Z3K,h4,Z0W,h5,Bool.and_self,beq_self_eq_true,if_true,h6,if_pos h7]
 ·simp [Tr.ZA] at h
theorem ZMU {E:Env} {H:ZP U} {src dst:TypeId} {x y:SV U.Ty} (h:(ZPo E H src dst x).ZA y):ZdG E (toH U H) src dst (toV U x)=some (toV U y,toH U H):=by
 unfold ZPo at h
 split at h
 ·rename_i k n hn
  rw [Z2J hn]
  unfold ZdG
  split at h
  ·rename_i j hj
   simp only [hj]
   split at h
   ·rename_i hs
    simp only [Tr.ZA] at h
    subst h
    simp [hs,toV]
   ·simp [Tr.ZA] at h
  ·simp [Tr.ZA] at h
 ·split at h
  ·rename_i s hs
   rw [Z5M hs]
   unfold ZdG
   split at h
   ·rename_i hb
    simp only [Tr.ZA] at h
    subst h
    simp only [Bool.and_eq_true] at hb
    simp [hb,toV]
   ·simp [Tr.ZA] at h
  ·exact ZLg h
end
section
variable {U:Z5V}
theorem ZyI {H:ZP U} {x:SV U.Ty} {e:Nat} {ys:List (U.Ty e)} (h:(ZFu H x e).ZA ys) :
  elemsOf (toH U H) (toV U x)=some (ys.map (U.enc e))/\(Z3K (toH U H) (toV U x) (U.esz e)=true):=by
 have go:∀(t:Nat) (xs:List (U.Ty t)),(if h:t=e then Tr.leaf (h▸xs) else Tr.fail:Tr U (List (U.Ty e))).ZA ys->∃he:t=e,(he▸xs:List (U.Ty e))=ys:=by
  intro t xs h
  split at h
  ·rename_i he;exact⟨he,h⟩
  ·simp [Tr.ZA] at h
 unfold ZFu at h
 simp only at h
 split at h
 ·simp only [Tr.ZA] at h;subst h;exact⟨rfl,rfl⟩
 ·obtain⟨rfl,rfl⟩:=go _ _ h
  exact⟨rfl,by simp [toV,Z3K]⟩
 ·obtain⟨rfl,rfl⟩:=go _ _ h
  exact⟨rfl,by simp [toV,Z3K]⟩
 ·obtain⟨t,xs,fl,h1,h2,h3,h4⟩:=Z0J h
  obtain⟨rfl,rfl⟩:=go _ _ h3
  subst h2
  refine⟨?_,by simp [toV,Z3K,h4,Z0W]⟩
  simp only [toV,elemsOf,h4]
  simp only [Z0W,Nat.zero_add,Nat.le_refl,decide_true,Bool.and_self,if_true,List.drop_zero,Option.some.injEq]
  exact List.take_of_length_le (by simp)
 ·obtain⟨t,xs,fl,h1,h2,h3,h4⟩:=Z0J h
  simp only [Tr.ZA,decide_eq_true_eq] at h3
  obtain⟨hle,h3⟩:=h3
  obtain⟨rfl,rfl⟩:=go _ _ h3
  refine⟨?_,by simp [toV,Z3K,h4,Z0W]⟩
  simp only [toV,elemsOf,h4]
  simp [Z0W,hle,List.map_take,List.map_drop]
 ·simp [Tr.ZA] at h
theorem ZFG {L:Type} {kd:IntKind} {n:Int} {lit:Bool} {z:Tr U L} {f:SV U.Ty->Tr U L} {y:L}:∀{kvs:List (SV U.Ty)},(Zwt kd n lit z f kvs).ZA y ->
  (ZnT kd n (Z02 U kvs)=some none/\z.ZA y)\/∃v,ZnT kd n (Z02 U kvs)=some (some (toV U v))/\(f v).ZA y
 | [],h=>.inl ⟨rfl,h⟩
 | [x],h=>by
  cases x with
  | lit v=>cases v<;>simp [Zwt,Tr.ZA] at h
  | _=>simp [Zwt,Tr.ZA] at h
 | x::v::r,h=>by
  have key:∀k a,x = .lit (.int k a)->(ZnT kd n (Z02 U (x::v::r))=some none/\z.ZA y)\/∃u,ZnT kd n (Z02 U (x::v::r))=some (some (toV U u))/\(f u).ZA y:=by
   intro k a hx
   subst hx
   simp only [Zwt,Z09] at h
   obtain⟨rfl,h⟩:=h
   simp only [Z02,toV,ZnT,if_true]
   by_cases ha:n=a
   ·subst ha
    simp only [if_true]
    cases lit with
    | true=>
     simp only [if_true] at h
     exact .inr ⟨v,rfl,h⟩
    | false=>
     simp only [Bool.false_eq_true,if_false,Tr.ZA,beq_self_eq_true,true_and] at h
     rcases h with h|⟨h0,_⟩
     ·exact .inr ⟨v,rfl,h⟩
     ·cases h0
   ·rw [if_neg ha]
    refine ZFG (lit:=lit) (z:=z) (f:=f) (kvs:=r) ?_
    cases lit with
    | true=>
     simp only [if_true] at h
     rw [if_neg ha] at h
     exact h
    | false=>
     have hb:(n==a)=false:=by simpa using ha
     simp only [Bool.false_eq_true,if_false,Tr.ZA,hb] at h
     rcases h with ⟨h0,_⟩|⟨_,h⟩
     ·cases h0
     ·exact h
  cases x with
  | lit c=>
   cases c with
   | int k a=>exact key k a rfl
   | _=>simp [Zwt,Tr.ZA] at h
  | _=>simp [Zwt,Tr.ZA] at h
theorem ZNP {E:Env} {t:TypeId} {ok:Bool} {m x y:SV U.Ty} (h:(ZPW E t ok m x).ZA y):ZIm E t ok (toV U m) (toV U x)=some (toV U y):=by
 unfold ZPW at h
 split at h
 ·rename_i k e sz by' z0 kvs kd n hti hx
  simp only [Z09] at h
  obtain⟨hk,h⟩:=h
  rw [Z2J hx]
  simp only [toV,ZIm,hti,hk,if_true]
  rcases ZFG h with ⟨h1,h2⟩|⟨v,h1,h2⟩
  ·rw [h1]
   simp only
   split at h2
   ·rename_i ei hei
    rw [hei]
    simp only
    split at h2
    ·rename_i z hz
     simp only [Tr.ZA] at h2
     subst h2
     rw [hz]
     cases ok<;>simp [toV,Z02,Zmx]
    ·simp [Tr.ZA] at h2
   ·simp [Tr.ZA] at h2
  ·rw [h1]
   simp only [Tr.ZA] at h2
   subst h2
   cases ok<;>simp [toV,Z02]
 ·simp [Tr.ZA] at h
theorem ZM5 (v:SV U.Ty):toV U (ZQy v)=toV U v:=by cases v<;>rfl
theorem ZIH {E:Env} {k:Nat} {H H' : ZP U} {t u:TypeId} {s x y:SV U.Ty} (h:(ZCt E k H t u s x).ZA (y,H')) :
  Z7H E k (toH U H) t u (toV U s) (toV U x)=some (toV U y,toH U H'):=by
 unfold ZCt at h
 unfold Z7H
 split at h
 ·rename_i e sz by' z0 hti
  rw [hti]
  simp only
  split at h
  ·rename_i ei hei
   simp only [Z09,ZB] at h
   obtain⟨⟨rfl,hpos,hz,hes⟩,ys,hys,h⟩:=h
   obtain⟨e1,e2⟩:=ZyI hys
   rw [hes] at e2
   simp only [hei,beq_self_eq_true,e1]
   rw [if_pos (by simp [hpos,e2,hz])]
   split at h
   ·rename_i id n
    obtain⟨t',xs,fl,h1,h2,h3,h4⟩:=Z0J h
    split at h3
    ·rename_i he
     subst he
     simp only [Tr.ZA,Bool.and_eq_true,decide_eq_true_eq,Prod.mk.injEq] at h3
     obtain⟨⟨l1,l2⟩,rfl,rfl⟩:=h3
     subst h2
     simp only [toV,h4,List.length_map]
     simp only [Z0W,hes,beq_self_eq_true,decide_true,Bool.and_self,if_true,l1,l2,Option.some.injEq,Prod.mk.injEq]
     refine⟨by simp [toV],?_⟩
     rw [Zdn]
     simp [Z0W,hes]
    ·simp [Tr.ZA] at h3
   ·rename_i id off len tot
    obtain⟨t',xs,fl,h1,h2,h3,h4⟩:=Z0J h
    split at h3
    ·rename_i he
     subst he
     simp only [Tr.ZA,Bool.and_eq_true,decide_eq_true_eq,Prod.mk.injEq] at h3
     obtain⟨⟨l1,l2,l3,l4⟩,rfl,rfl⟩:=h3
     subst h2
     subst l1
     have hne:¬len=xs.length:=by omega
     simp only [toV,h4]
     simp only [Z0W,hes,beq_self_eq_true,decide_true,Bool.and_self,Bool.and_true,Bool.true_and,hne,decide_false,Bool.and_false,Bool.false_and,Bool.false_eq_true,if_false,l2,l3,l4,List.length_map,if_true,Option.some.injEq,Prod.mk.injEq,true_and]
     rw [Zdn]
     simp [Z0W,hes,List.map_take,List.map_drop]
    ·simp [Tr.ZA] at h3
   ·simp only [Tr.ZA,Bool.and_eq_true,decide_eq_true_eq,Prod.mk.injEq] at h
    obtain⟨⟨l1,l2⟩,rfl,rfl⟩:=h
    simp only [toV,List.length_map,l1,l2,decide_true,Bool.and_self,if_true,Option.some.injEq,Prod.mk.injEq,true_and]
    rw [Z7k]
    simp [Z0W,ZW,hes]
   ·rename_i t' xs
    split at h
    ·rename_i he
     subst he
     simp only [Tr.ZA,Bool.and_eq_true,decide_eq_true_eq,Prod.mk.injEq] at h
     obtain⟨⟨l1,l2⟩,h⟩:=h
     simp only [toV,List.length_map,hes,beq_self_eq_true,l1,l2,decide_true,Bool.and_self,if_true]
     rcases h with ⟨hem,rfl,rfl⟩|⟨hem,rfl,rfl⟩
     ·simp [hem,toV,hes]
     ·simp only [List.isEmpty_map,hem,Bool.false_eq_true,if_false,Option.some.injEq,Prod.mk.injEq]
      refine⟨by simp [toV],?_⟩
      rw [Z7k]
      simp [Z0W,ZW,hes]
    ·simp [Tr.ZA] at h
   ·simp [Tr.ZA] at h
  ·simp [Tr.ZA] at h
 ·simp [Tr.ZA] at h
theorem ZJh {E:Env} (hU:Z0L U E) {k:Nat} {H H' : ZP U} {dst:TypeId} {x y:SV U.Ty} (h:(ZKt E k H dst x).ZA (y,H')):Zoe E k (toH U H) dst (toV U x)=some (toV U y,toH U H'):=by
 unfold ZKt at h
 split at h
 ·rename_i st e sz by' z0 hs hti
  simp only [Z09,Tr.ZA,Prod.mk.injEq] at h
  obtain⟨⟨h1,h2⟩,hok,rfl,rfl⟩:=h
  have key:∀l:List UInt8,(l.all fun b=>(U.ZwQ e (.si .u8 b.toNat)).isSome)=true->(l.filterMap fun b=>U.ZwQ e (.si .u8 b.toNat)).map (U.enc e)=l.map fun c=>V.lit (.int .u8 c.toNat):=by
   intro l
   induction l with
   | nil=>intro _;rfl
   | cons b l ih=>
    intro hl
    simp only [List.all_cons,Bool.and_eq_true] at hl
    cases hd:U.ZwQ e (.si .u8 b.toNat) with
    | none=>rw [hd] at hl;cases hl.1
    | some a=>
     have:=hU.dec _ _ _ hd
     simp only [toV,Z18,Z2d] at this
     rw [List.filterMap_cons,hd]
     simp only [List.map_cons,ih hl.2,this]
  have hmap:(Z4e U e st).map (U.enc e)=bytesV st:=key _ hok
  have hlen:(Z4e U e st).length=st.size:=by
   have:=congrArg List.length hmap
   rw [List.length_map] at this
   rw [this]
   simp only [bytesV,List.length_map]
   exact Array.length_toList
  rw [Z5M hs]
  simp only [Zoe,hti,h1,if_true,toV,hlen,Option.some.injEq,Prod.mk.injEq,true_and]
  rw [Z7k]
  simp [Z0W,ZW,h2,hmap]
 ·simp [Tr.ZA] at h
theorem ZF7 {x:SV U.Ty} {v:Value} (h:ZSA x=some v):toV U x = .lit v:=by
 unfold ZSA at h
 split at h<;>simp_all [toV]
theorem ZNO {E:Env} {L:Type} (hU:Z0L U E) {t:Nat} {xs:List (U.Ty t)} {r:L}:∀{n i:Nat} {k:List Value->Tr U L},(ZMS xs i n k).ZA r->∃vs,((xs.drop i).take n).map (U.enc t)=vs.map V.lit/\vs.length=n/\(k vs).ZA r:=by
 intro n
 induction n with
 | zero=>intro i k h;exact⟨[],by simp,rfl,h⟩
 | succ n ih=>
  intro i k h
  simp only [ZMS,Tr.ZA] at h
  obtain⟨x,hx,h⟩:=h
  split at h
  ·rename_i v hv
   obtain⟨vs,h1,h2,h3⟩:=ih h
   obtain⟨hi,hx'⟩:=List.getElem?_eq_some_iff.1 hx
   refine⟨v::vs,?_,by simp [h2],h3⟩
   rw [List.drop_eq_getElem_cons hi,List.take_succ_cons,List.map_cons,List.map_cons,h1,hx',<- hU.encS,ZF7 hv]
  ·simp [Tr.ZA] at h
theorem ZPw {E:Env} (hU:Z0L U E) {t:TypeId} {x y:SV U.Ty} (h:(arrT E t x).ZA y):ZQH E t (toV U x)=some (toV U y):=by
 unfold arrT at h
 split at h
 ·rename_i n e sz by' z0 t' xs hti
  simp only [Z09] at h
  obtain⟨⟨c1,c2,c3⟩,h⟩:=h
  obtain⟨vs,h1,h2,h3⟩:=ZNO hU h
  simp only [Tr.ZA] at h3
  subst h3
  rw [List.drop_zero] at h1
  unfold ZQH
  have hlen:n<=xs.length:=by
   have:=congrArg List.length h1
   simp only [List.length_map,List.length_take] at this
   omega
  have htk:(xs.map (U.enc t')).take n=vs.map V.lit:=by rw [<- List.map_take,h1]
  have hall:(vs.map V.lit).all ZbY=true:=by simp [List.all_eq_true,ZbY]
  simp only [hti,toV,c1,c2,c3,htk,List.length_map,hlen,hall,and_self,if_true]
 ·simp [Tr.ZA] at h
theorem ZAy {hi:Option (SV U.Ty)} {n m:Nat} (h:Zqc hi n=some m):Z28 (hi.map (toV U)) n n=some m:=by
 unfold Zqc at h
 split at h
 ·simpa [Z28] using h
 ·simpa [Z28,Z7l,toV] using h
 ·cases h
theorem ZH8 {E:Env} (hU:Z0L U E) {H H' : ZP U} {n e:Nat} {x y:SV U.Ty} {lo hi mx:Option (SV U.Ty)} (h:(ZDI E H n e x lo hi mx).ZA (y,H')) :
  Zh0 E (toH U H) n e (toV U x) (lo.map (toV U)) (hi.map (toV U)) (mx.map (toV U))=some (toV U y,toH U H'):=by
 unfold ZDI at h
 split at h
 ·rename_i id i off tot m hm
  split at h
  ·rename_i e' k cs hb
   split at h
   ·rename_i ys hys
    simp only [Z09,Tr.ZA,Prod.mk.injEq] at h
    obtain⟨⟨⟨rfl,rfl,rfl,c4,c5⟩,c6,c7,c8⟩,rfl,rfl⟩:=h
    obtain⟨d1,d2⟩:=Zyl hU hys
    have hsc:∀c∈cs,∃v,toV U c = .lit v:=fun c hc=>by
     have:=List.all_eq_true.1 c8 c hc
     obtain⟨v,hv⟩:=Option.isSome_iff_exists.1 this
     exact⟨v,ZF7 hv⟩
    have hre:(Z02 U cs).map (Z18 (E.rows e))=Z02 U cs:=by
     rw [Z0X,List.map_map]
     apply List.map_congr_left
     intro c hc
     obtain⟨v,hv⟩:=hsc c hc
     simp only [Function.comp,hv,Z18,Z2d]
    rw [hre] at d1
    have hall:(Z02 U cs).all ZbY=true:=by
     rw [Z0X,List.all_eq_true]
     intro y hy
     obtain⟨c,hc,rfl⟩:=List.mem_map.1 hy
     obtain⟨v,hv⟩:=hsc c hc
     rw [hv];rfl
    have hlen:(Z02 U cs).length=n:=by rw [Z0X,List.length_map,c4]
    have hbx:=Zpf hb
    unfold Zh0
    simp only [toV,Option.map_none,ZAy hm,hbx,ZW]
    rw [if_pos ⟨trivial,trivial,hlen,c5,c6,hall⟩]
    simp only [Option.some.injEq,Prod.mk.injEq,c7,List.map_take,d1,true_and]
    rw [Zdn]
    simp only [bump]
    apply List.ext_getElem?
    intro j
    rw [List.getElem?_modify,List.getElem?_set]
    by_cases hj:id=j
    ·subst hj
     have hlt:id<H.length:=(List.getElem?_eq_some_iff.1 hb).1
     rw [Z9E,hb]
     simp [Z0W,ZW,toV,Z6i,hlt]
    ·simp [hj]
   ·simp [Tr.ZA] at h
  ·simp [Tr.ZA] at h
 ·simp [Tr.ZA] at h
theorem ZNd {E:Env} {H H' : ZP U} {t u:TypeId} {d x y:SV U.Ty} (h:(ZPQ E H t u d x).ZA (y,H')) :
  ZMd E (toH U H) t u (toV U d) (toV U x)=some (toV U y,toH U H'):=by
 unfold ZPQ at h
 unfold ZMd
 split at h
 ·rename_i e sz by' z0 hti
  rw [hti]
  simp only
  split at h
  ·rename_i ei hei
   simp only [Z09,ZB] at h
   obtain⟨hes,ys,hys,h⟩:=h
   obtain⟨e1,e2⟩:=ZyI hys
   rw [hes] at e2
   simp only [hei,e1]
   split at h
   ·rename_i id n
    obtain⟨t',xs,fl,h1,h2,h3,h4⟩:=Z0J h
    split at h3
    ·rename_i he
     subst he
     simp only [Z09,Tr.ZA,Prod.mk.injEq] at h3
     obtain⟨hfl,rfl,rfl⟩:=h3
     subst h2
     simp only [toV,h4]
     simp only [Z0W,hes,hfl,beq_self_eq_true,decide_true,Bool.and_self,e2,if_true,Option.some.injEq,Prod.mk.injEq,List.length_map]
     refine⟨by simp [toV],?_⟩
     rw [Zdn]
     simp [Z0W,hes,hfl,List.map_take,List.map_drop]
    ·simp [Tr.ZA] at h3
   ·simp [Tr.ZA] at h
  ·simp [Tr.ZA] at h
 ·simp [Tr.ZA] at h
theorem ZFh {L:Type} {H:ZP U} {x:SV U.Ty} {k:Nat->Tr U L} {y:L} (h:(Zr1 H x k).ZA y):∃n,lenOf (toH U H) (toV U x)=some n/\(k n).ZA y:=by
 unfold Zr1 at h
 split at h
 ·rename_i id n
  obtain⟨t,xs,fl,h1,h2,h3,h4⟩:=Z0J h
  exact⟨n,by simp [toV,lenOf,h4],h3⟩
 ·rename_i id off len tot
  obtain⟨t,xs,fl,h1,h2,h3,h4⟩:=Z0J h
  exact⟨len,by simp [toV,lenOf,h4],h3⟩
 ·split at h
  ·rename_i n hn
   refine⟨n,?_,h⟩
   unfold lenT at hn
   split at hn<;>simp_all [toV,lenOf]
  ·simp [Tr.ZA] at h
theorem ZpY {L:Type} {H:ZP U} {x:SV U.Ty} {k:Nat->Tr U L} {y:L} (h:(Zr1 H x k).ZA y):∀v,x≠.raw v:=by
 rintro v rfl
 simp [Zr1,lenT,Tr.ZA] at h
theorem ZOZ {x:SV U.Ty} (hx:∀v,x≠.raw v) (h:ZoW x=false):∀s,toV U x≠.lit (.string s):=by
 intro s hs
 unfold ZoW at h
 cases x with
 | raw v=>exact hx v rfl
 | lit v=>simp only [toV,V.lit.injEq] at hs;subst hs;simp [Zhi] at h
 | ss b=>simp [Zhi] at h
 | _=>simp [toV] at hs
theorem ZKH {x:SV U.Ty} (h:ZoW x=true):∃s,Zhi x=some s/\toV U x = .lit (.string s):=by
 unfold ZoW at h
 cases hs:Zhi x with
 | none=>simp [hs] at h
 | some s=>exact⟨s,rfl,Z5M hs⟩
theorem ZGu {E:Env} {t:TypeId} {x:SV U.Ty} (hx:∀v,x≠.raw v):ZvA E t (toV U x)=Zub E t x:=by
 unfold ZvA Zub
 by_cases hs:ZoW x=true
 ·obtain⟨s,_,h⟩:=ZKH hs
  rw [h,if_pos hs]
 ·rw [if_neg hs]
  have:=ZOZ hx (by simpa using hs)
  split
  ·rename_i s h;exact absurd h (this s)
  ·rfl
theorem ZLJ {E:Env} {H:ZP U} {x:SV U.Ty} {n:Nat} {L:Type} {k:Nat->Tr U L} {y:L} (hl:(Zr1 H x k).ZA y) (h:ZLv E H x n=true):Z3K (toH U H) (toV U x) n=true:=by
 unfold ZLv at h
 split at h
 ·simp [toV,Z3K]
 ·simpa [toV,Z3K] using h
 ·simpa [toV,Z3K] using h
 ·rename_i id m
  unfold Zr1 at hl
  obtain⟨t,xs,fl,h1,h2,h3,h4⟩:=Z0J hl
  simp only [h1] at h
  simpa [toV,Z3K,h4,Z0W] using h
 ·rename_i id off len tot
  unfold Zr1 at hl
  obtain⟨t,xs,fl,h1,h2,h3,h4⟩:=Z0J hl
  simp only [h1] at h
  simpa [toV,Z3K,h4,Z0W] using h
 ·cases h
theorem Zzw {E:Env} {H:ZP U} {t:TypeId} {x:SV U.Ty} {L:Type} {k:Nat->Tr U L} {y:L} (hl:(Zr1 H x k).ZA y) (h:ZmG E H t x=true):Z5K E (toH U H) t (toV U x)=true:=by
 have hx:=ZpY hl
 unfold ZmG at h
 unfold Z5K
 split at h
 ·rename_i hs
  obtain⟨s,_,he⟩:=ZKH hs
  rw [he]
  exact h
 ·rename_i hs
  have hno:=ZOZ hx (by simpa using hs)
  split
  ·rename_i s he;exact absurd he (hno s)
  ·split at h
   ·rename_i e _ _ _ hti
    split at h
    ·rename_i ei hei
     simp only [hti,hei]
     exact ZLJ hl h
    ·cases h
   ·cases h
theorem Zpe {L:Type} {x:Option (SV U.Ty)} {hi d:Nat} {k:Nat->Tr U L} {y:L} (h:(Zxv x hi d k).ZA y):∃n,Z28 (x.map (toV U)) hi d=some n/\(k n).ZA y:=by
 unfold Zxv at h
 split at h
 ·exact⟨d,rfl,h⟩
 ·rename_i v
  split at h
  ·rename_i kk n hn
   simp only [Tr.ZA,decide_eq_true_eq] at h
   refine⟨n.toNat,?_,h.2⟩
   simp [Z28,Z2J hn,Z7l,h.1]
  ·simp [Tr.ZA] at h
theorem ZK6 {E:Env} {H H' : ZP U} {t:TypeId} {x y:SV U.Ty} {lo hi mx:Option (SV U.Ty)} (h:(sliceT E H t x lo hi mx).ZA (y,H')) :
  Z9w E (toH U H) t (toV U x) (lo.map (toV U)) (hi.map (toV U)) (mx.map (toV U))=some (toV U y,toH U H'):=by
 unfold sliceT at h
 unfold Z9w
 split at h
 ·rename_i hfit
  have hl:=h
  have hraw:=ZpY hl
  rw [if_pos (Zzw hl hfit)]
  obtain⟨n,hn,ha⟩:=ZFh hl
  rw [hn]
  obtain⟨hh,eh,hb⟩:=Zpe ha
  obtain⟨l,el,hc⟩:=Zpe hb
  simp only [eh,el]
  clear h ha hb
  revert hc
  intro h
  split at h
  ·rename_i m
   split at h
   ·simp [Tr.ZA] at h
   ·rename_i xh
    obtain⟨kk,ek,hd⟩:=Zpe h
    clear h
    revert hd
    intro h
    simp only [Tr.ZA,beq_iff_eq] at h
    obtain⟨rfl,h⟩:=h
    simp only [Option.map_some,Z28] at ek
    simp only [Option.map_some,ek]
    split at h
    ·rename_i e xs
     simp only [Tr.ZA,Prod.mk.injEq] at h
     obtain⟨rfl,rfl⟩:=h
     simp [toV,elemsOf,List.map_take,List.map_drop]
    ·rename_i e xs
     simp only [Tr.ZA,Prod.mk.injEq] at h
     obtain⟨rfl,rfl⟩:=h
     simp [toV,elemsOf,List.map_take,List.map_drop]
    ·rename_i id n'
     obtain⟨e,xs,fl,h1,h2,h3,h4⟩:=Z0J h
     simp only [Tr.ZA,Prod.mk.injEq] at h3
     obtain⟨rfl,rfl⟩:=h3
     subst h2
     have hg:(toH U H).getD id default=Z0W U (.row e xs fl):=by simp [List.getD,Z9E,h1]
     have hel:elemsOf (toH U H) (.lsl id 0 xs.length xs.length)=some (xs.map (U.enc e)):=by
      simp only [elemsOf,h4]
      simp only [Z0W,Nat.zero_add,Nat.le_refl,decide_true,Bool.and_self,if_true,List.drop_zero]
      rw [List.take_of_length_le (by simp)]
     simp only [toV,hel,if_true,hg]
     simp only [Z0W,Option.some.injEq,Prod.mk.injEq]
     refine⟨by simp [List.map_take,List.map_drop],?_⟩
     rw [ZfM H [id] (by intro i hi;simp at hi;subst hi;exact⟨_,_,_,h1⟩)]
    ·simp [Tr.ZA] at h
  ·simp only [Option.map_none]
   split at h
   ·simp only [Tr.ZA,Prod.mk.injEq] at h
    obtain⟨rfl,rfl⟩:=h
    simp [toV]
   ·simp only [Tr.ZA,Prod.mk.injEq] at h
    obtain⟨rfl,rfl⟩:=h
    simp [toV,List.map_take,List.map_drop]
   ·simp only [Tr.ZA,Prod.mk.injEq] at h
    obtain⟨rfl,rfl⟩:=h
    simp [toV,List.map_take,List.map_drop]
   ·rename_i id n'
    have hnn:n=n' :=by
     unfold Zr1 at hl
     obtain⟨e,xs,fl,h1,h2,h3,h4⟩:=Z0J hl
     simpa [toV,lenOf,h4] using hn.symm
    subst hnn
    split at h
    ·simp only [Tr.ZA,Prod.mk.injEq] at h
     obtain⟨rfl,rfl⟩:=h
     simp only [Option.map_none,Z28,Option.some.injEq] at eh el
     subst eh
     subst el
     simp [toV]
    ·simp only [Tr.ZA,Prod.mk.injEq] at h
     obtain⟨rfl,rfl⟩:=h
     simp [toV]
   ·simp only [Tr.ZA,Prod.mk.injEq] at h
    obtain⟨rfl,rfl⟩:=h
    simp [toV]
   ·split at h
    ·rename_i s hs
     simp only [Tr.ZA,Prod.mk.injEq] at h
     obtain⟨rfl,rfl⟩:=h
     simp [Z5M hs,toV]
    ·simp [Tr.ZA] at h
 ·simp [Tr.ZA] at h
def Zqe (U:Z5V) (M:Mdl U) (call:Z24):Prop:=
 ∀g as H v H',(M g as H).ZA (v,H')->call g (Z02 U as) (toH U H)=some (toV U v,toH U H')
theorem Z59 {H H' : ZP U} {T:Tr U (SV U.Ty)} {y:SV U.Ty} (h:(ZB6 H T).ZA (y,H')):T.ZA y/\H' = H:=by
 simp only [ZB6,ZB,Tr.ZA,Prod.mk.injEq] at h
 obtain⟨x,h1,rfl,rfl⟩:=h
 exact⟨h1,rfl⟩
theorem ZMM {E:Env} {M:Mdl U} {call:Z24} (hU:Z0L U E) (hM:Zqe U M call) {k:Nat} {H H' : ZP U} {s:List (SV U.Ty)} {c:Call} {o:Oper} {y:SV U.Ty} (hop:o.op = .call c) (h:(ZPr E M k H s c).ZA (y,H')) :
  opD call E k (toH U H) (Z02 U s) o=some (toV U y,toH U H'):=by
 unfold opD
 rw [hop]
 simp only
 unfold ZPr at h
 have hargs:evs E (Z02 U s) c.args=Z02 U (c.args.toList.map (evS E s)):=ZKw E s c.args.toList
 split at h
 ·rename_i b hb
  rw [hb]
  simp only
  rw [hargs]
  unfold Z84
  split at h
  ·rename_i x t he1 he2
   rw [he1,he2]
   split at h
   ·rename_i hf
    have hraw:=ZpY h
    obtain⟨n,hn,h⟩:=ZFh h
    simp only [Tr.ZA,Prod.mk.injEq] at h
    obtain⟨rfl,rfl⟩:=h
    simp only [Z02,ZGu hraw,hf,if_true,hn,Option.map_some,toV]
    rfl
   ·simp [Tr.ZA] at h
  ·rename_i a x t u he1 he2
   rw [he1,he2]
   simp only [Z02]
   exact ZIH h
  ·rename_i a x t u he1 he2
   rw [he1,he2]
   simp only [Z02]
   exact ZNd h
  ·obtain⟨h1,rfl⟩:=Z59 h
   simp only [Ztf h1,Option.map_some]
  ·obtain⟨h1,rfl⟩:=Z59 h
   simp only [Ztf h1,Option.map_some]
  ·simp [Tr.ZA] at h
 ·rename_i f hf
  rw [hf]
  simp only
  rw [Z2Z]
  split at h
  ·rename_i g first caps hg
   rw [hg]
   simp only [toV]
   have hall:Z02 U first++evs E (Z02 U s) c.args++Z02 U caps=Z02 U (first++c.args.toList.map (evS E s)++caps):=by
    rw [hargs];simp only [Z0X,List.map_append]
   rw [hall]
   exact hM _ _ _ _ _ h
  ·simp [Tr.ZA] at h
 ·simp [Tr.ZA] at h
theorem Zzn {E:Env} {s:List (SV U.Ty)} (ps:List (Nat×Operand)):(ps.map fun(i,x)=>(i,ev E (Z02 U s) x))=ZbB (ps.map fun(i,x)=>(i,evS E s x)):=by
 simp [ZbB,Z2Z]
theorem optEv {E:Env} {s:List (SV U.Ty)} (x:Option Operand):x.map (ev E (Z02 U s))=(x.map (evS E s)).map (toV U):=by
 cases x<;>simp [Z2Z]
theorem ZSu {E:Env} {M:Mdl U} {call:Z24} (hU:Z0L U E) (hM:Zqe U M call) {k:Nat} {H H' : ZP U} {s:List (SV U.Ty)} {o:Oper} {y:SV U.Ty} (h:(opT E M k H s o).ZA (y,H')) :
  opD call E k (toH U H) (Z02 U s) o=some (toV U y,toH U H'):=by
 unfold opT at h
 split at h
 ·rename_i x hop
  simp only [Tr.ZA,Prod.mk.injEq] at h
  obtain⟨rfl,rfl⟩:=h
  unfold opD
  rw [hop]
  simp only [Z2Z]
 ·rename_i hop
  unfold opD
  rw [hop]
  simp only
  split at h
  ·rename_i e _ _ _ hti
   simp only [Z09,Tr.ZA,Prod.mk.injEq] at h
   obtain⟨hes,rfl,rfl⟩:=h
   simp only [hti,toV,Z7k,Z0W,ZW,hes]
   rfl
  ·simp [Tr.ZA] at h
 ·rename_i x hne hop
  simp only [Tr.ZA,Prod.mk.injEq] at h
  obtain⟨rfl,rfl⟩:=h
  unfold opD
  rw [hop]
  split<;>simp_all [Z2Z]
 ·rename_i c a b hop
  unfold opD
  rw [hop]
  simp only [Z2Z]
  split at h
  ·rename_i hc
   simp only [Tr.ZA,Prod.mk.injEq] at h
   obtain⟨rfl,rfl⟩:=h
   rw [hc]
   simp [toV]
  ·rename_i hc
   simp only [Tr.ZA,Prod.mk.injEq] at h
   obtain⟨rfl,rfl⟩:=h
   rw [hc]
   simp [toV]
  ·rename_i t hc
   rw [hc]
   simp only [toV]
   split at h
   ·rename_i x' y' hx hy
    simp only [Tr.ZA,Prod.mk.injEq] at h
    obtain⟨rfl,rfl⟩:=h
    rw [Z6H hx,Z6H hy]
    cases t<;>simp [toV]
   ·simp only [Tr.ZA,Prod.mk.injEq] at h
    rcases h with ⟨rfl,rfl,rfl⟩|⟨rfl,rfl,rfl⟩<;>simp
  ·simp [Tr.ZA] at h
 ·rename_i t hop
  unfold opD
  rw [hop]
  simp only
  split at h
  ·rename_i i hi
   simp only [hi]
   split at h
   ·rename_i z hz
    simp only [Z09,Tr.ZA,Prod.mk.injEq] at h
    obtain⟨hc,rfl,rfl⟩:=h
    simp only [hz,hc,and_self,if_true,toV,Z7k,Z0W,Zmx]
   ·simp [Tr.ZA] at h
  ·simp [Tr.ZA] at h
 ·rename_i t x hop
  unfold opD
  rw [hop]
  simp only [Z2Z]
  split at h
  ·rename_i i hi
   simp only [Z09,Tr.ZA,Prod.mk.injEq] at h
   obtain⟨⟨h1,h2⟩,rfl,rfl⟩:=h
   simp only [hi,Z9f h2,Z0M,h1,Zd9 h2,and_self,if_true,toV,Z7k,Z0W]
  ·simp [Tr.ZA] at h
 ·rename_i t ps hop
  obtain⟨h1,rfl⟩:=Z59 h
  rw [Z86] at h1
  unfold opD
  rw [hop]
  simp only [Zzn,ZLZ h1,Option.map_some]
 ·rename_i t n ps hop
  unfold opD
  rw [hop]
  simp only [Zzn]
  exact ZsE hU h
 ·rename_i t a hop
  obtain⟨h1,rfl⟩:=Z59 h
  unfold opD
  rw [hop]
  simp only [Z2Z,ZFi hU h1,Option.map_some]
 ·rename_i t a v hop
  simp only [ZB,Tr.ZA,Prod.mk.injEq] at h
  obtain⟨H1,h1,rfl,rfl⟩:=h
  unfold opD
  rw [hop]
  simp only [Z2Z,ZLA hU h1,Option.map_some]
  rfl
 ·rename_i x hop
  unfold opD
  rw [hop]
  simp only [Z2Z]
  split at h
  ·rename_i hx
   simp only [Tr.ZA,Prod.mk.injEq] at h
   obtain⟨rfl,rfl⟩:=h
   simp [hx,toV,Zpm]
  ·rename_i hx
   simp only [Tr.ZA,Prod.mk.injEq] at h
   obtain⟨rfl,rfl⟩:=h
   simp [hx,toV,Zpm]
  ·rename_i hx
   simp only [Tr.ZA,Prod.mk.injEq] at h
   obtain⟨rfl,rfl⟩:=h
   simp [hx,toV,Zpm]
  ·rename_i hx
   simp only [Tr.ZA,Prod.mk.injEq] at h
   obtain⟨rfl,rfl⟩:=h
   simp [hx,toV,Zpm]
  ·simp [Tr.ZA] at h
 ·rename_i op t x z _ hop
  obtain⟨h1,rfl⟩:=Z59 h
  rw [ZB] at h1
  obtain⟨v,h1,h2⟩:=h1
  have hv:∀(c:Bool) y,(Tr.leaf (if c=true then ZQy v else v):Tr U (SV U.Ty)).ZA y->toV U y=toV U v:=fun c y hy=>by
   simp only [Tr.ZA] at hy
   subst hy
   split
   ·exact ZM5 v
   ·rfl
  unfold opD
  rw [hop]
  simp only [Z2Z,ZPx h1,Option.map_some,hv _ _ h2]
 ·rename_i op _ x hop
  obtain⟨h1,rfl⟩:=Z59 h
  unfold opD
  rw [hop]
  simp only [Z2Z,ZQT h1,Option.map_some]
 ·rename_i src dst x hop
  unfold opD
  rw [hop]
  simp only [Z2Z]
  split at h
  ·rename_i hb
   rw [if_pos hb]
   exact ZJh hU h
  ·rename_i hb
   rw [if_neg hb]
   obtain⟨h1,rfl⟩:=Z59 h
   simp only [ZMU h1]
 ·rename_i t l c hop
  unfold opD
  rw [hop]
  simp only [Z2Z]
  split at h
  ·rename_i e _ _ _ hti
   simp only [hti]
   split at h
   ·rename_i n _ m _ ei hn hm hei
    obtain⟨k1,hn'⟩:=Zx0 hn
    obtain⟨k2,hm'⟩:=Zx0 hm
    simp only [hn',hm',hei]
    split at h
    ·rename_i z hz
     simp only [hz]
     split at h
     ·rename_i y0 hy0
      simp only [Z09,Tr.ZA,decide_eq_true_eq,Prod.mk.injEq] at h
      obtain⟨⟨c1,c2,c3,c4⟩,⟨c5,c6,c7,c8⟩,rfl,rfl⟩:=h
      have hd:=hU.dec _ _ _ hy0
      rw [Zmx] at hd
      rw [if_pos ⟨c5,c6,c7,c8,c1,c2,c3⟩]
      simp only [toV,Z7k,Z0W,ZW,c4,hd,List.map_replicate,List.length_replicate]
      rfl
     ·simp [Tr.ZA] at h
    ·simp [Tr.ZA] at h
   ·simp [Tr.ZA] at h
  ·simp [Tr.ZA] at h
 ·rename_i t x lo hi mx hop
  unfold opD
  rw [hop]
  simp only [Z2Z,optEv]
  split at h
  ·rename_i n e sz by' z0 hti
   rw [hti]
   exact ZH8 hU h
  ·rename_i hna
   split
   ·rename_i n e sz by' z0 hti
    exact absurd hti (hna n e sz by' z0)
   ·exact ZK6 h
 ·rename_i t x hop
  obtain⟨h1,rfl⟩:=Z59 h
  unfold opD
  rw [hop]
  simp only [Z2Z,ZPw hU h1,Option.map_some]
 ·rename_i t x f hop
  obtain⟨h1,rfl⟩:=Z59 h
  rw [Z86] at h1
  unfold opD
  rw [hop]
  simp only [Z2Z,ZuV h1,Option.map_some]
 ·rename_i t x f hop
  obtain⟨h1,rfl⟩:=Z59 h
  rw [Z86] at h1
  unfold opD
  rw [hop]
  simp only [Z2Z,ZKO h1,Option.map_some]
 ·rename_i t x i hop
  obtain⟨h1,rfl⟩:=Z59 h
  unfold opD
  rw [hop]
  simp only [Z2Z,ZuS h1,Option.map_some]
 ·rename_i t x i hop
  obtain⟨h1,rfl⟩:=Z59 h
  unfold opD
  rw [hop]
  simp only [Z2Z,ZJW h1,Option.map_some]
 ·rename_i x i hop
  unfold opD
  rw [hop]
  simp only [Z2Z]
  split at h
  ·rename_i vs hv
   obtain⟨h1,rfl⟩:=Z59 h
   rw [Z86] at h1
   simp [hv,toV,Z0X,h1]
  ·simp [Tr.ZA] at h
 ·rename_i t m x ok hop
  obtain⟨h1,rfl⟩:=Z59 h
  unfold opD
  rw [hop]
  simp only [Z2Z,ZNP h1,Option.map_some]
 ·rename_i f first caps hop
  simp only [Tr.ZA,Prod.mk.injEq] at h
  obtain⟨rfl,rfl⟩:=h
  unfold opD
  rw [hop]
  simp only [toV,evs,ZKw]
 ·rename_i c hop
  exact ZMM hU hM hop h
 ·simp [Tr.ZA] at h
theorem Zwd {E:Env} {M:Mdl U} {call:Z24} (hU:Z0L U E) (hM:Zqe U M call) {ops:Array Oper} {k i:Nat} {st st' : SSt U} (h:(stepT E M ops k i st).ZA st') :
  Zam call E ops k i (Z44 U st)=some (Z44 U st'):=by
 unfold stepT at h
 unfold Zam
 split at h
 ·rename_i ho
  simp only [Tr.ZA] at h
  subst h
  rw [ho]
 ·rename_i o ho
  rw [ho]
  simp only at h ⊢
  have run:∀(q:SSt U),((opT E M k q.H q.s o).andThen fun r=>Tr.leaf (⟨ZOS q.s o.dst r.1,r.2⟩:SSt U)).ZA st' -> ∃v H1,opD call E k (toH U q.H) (Z02 U q.s) o=some (v,H1)/\(⟨setSlot (Z02 U q.s) o.dst v,H1⟩:St)=Z44 U st' :=by
   intro q hq
   simp only [ZB,Tr.ZA] at hq
   obtain⟨⟨v,H1⟩,h1,rfl⟩:=hq
   exact⟨_,_,ZSu hU hM h1,by simp only [Z44,ZMB]⟩
  have skip:∀(q:SSt U),(Tr.leaf (⟨ZOS q.s o.dst .no,q.H⟩:SSt U):Tr U (SSt U)).ZA st' -> (⟨setSlot (Z02 U q.s) o.dst Z17,toH U q.H⟩:St)=Z44 U st' :=by
   intro q hq
   simp only [Tr.ZA] at hq
   subst hq
   simp only [Z44,ZMB]
   rfl
  unfold ZmD
  cases hg:o.guard with
  | none=>
   simp only [hg] at h
   obtain⟨v,H1,h1,h2⟩:=run st h
   simp only [Z44,h1]
   rw [h2]
   rfl
  | some jw=>
   obtain⟨j,want⟩:=jw
   simp only [hg] at h
   split at h
   ·simp [Tr.ZA] at h
   ·rename_i d hd
    simp only [hd]
    rw [show (Z44 U st).s.getD d .und=toV U (st.s.getD d .und) from ZeD st.s d]
    have fin:∀(b:Bool) (q:SSt U),Z44 U q=Z44 U st->toV U (st.s.getD d .und) = .lit (.bool b) ->
      (if b==want then ((opT E M k q.H q.s o).andThen fun r=>Tr.leaf (⟨ZOS q.s o.dst r.1,r.2⟩:SSt U)) else (Tr.leaf (⟨ZOS q.s o.dst .no,q.H⟩:SSt U):Tr U (SSt U))).ZA st' ->
      (match (match Zgv (toV U (st.s.getD d .und)) want with
       | none=>none
       | some false=>some (Z17,(Z44 U st).H)
       | some true=>opD call E k (Z44 U st).H (Z44 U st).s o) with
      | some (v,H)=>some (⟨setSlot (Z44 U st).s o.dst v,H⟩:St)
      | none=>none)=some (Z44 U st'):=by
     intro b q hq hv hr
     rw [hv,<- hq]
     simp only [Zgv]
     split at hr
     ·rename_i hb
      obtain⟨v,H1,h1,h2⟩:=run q hr
      rw [hb]
      simp only [Z44,h1]
      exact congrArg some h2
     ·rename_i hb
      have:=skip q hr
      rw [show (b==want)=false by simpa using hb]
      simp only [Z44]
      exact congrArg some this
    split at h
    ·rename_i hs
     rw [hs]
     have:=skip st h
     simp only [toV,Zgv,Z44]
     exact congrArg some this
    ·rename_i hs
     refine fin true st rfl (by rw [hs];rfl) ?_
     cases want<;>exact h
    ·rename_i hs
     refine fin false st rfl (by rw [hs];rfl) ?_
     cases want<;>exact h
    ·rename_i b hs
     have hsame:∀b',b=b' -> Z44 U (⟨st.s.set d (.lit (.bool b')),st.H⟩:SSt U)=Z44 U st:=by
      rintro b' rfl
      simp only [Z44,St.mk.injEq,and_true]
      rw [Z0X,Z0X,List.map_set]
      apply List.ext_getElem?
      intro n
      rw [List.getElem?_set]
      split
      ·rename_i hdn
       subst hdn
       split
       ·rename_i hlt
        simp only [List.length_map] at hlt
        have:st.s.getD d .und=st.s[d]:=by simp [List.getD,hlt]
        rw [this] at hs
        simp [hlt,hs,toV]
       ·rename_i hge
        rw [List.getElem?_eq_none (by simpa using hge)]
      ·rfl
     simp only [Tr.ZA] at h
     rcases h with ⟨rfl,h⟩|⟨rfl,h⟩
     ·refine fin true _ (hsame true rfl) (by rw [hs];rfl) ?_
      cases want<;>exact h
     ·refine fin false _ (hsame false rfl) (by rw [hs];rfl) ?_
      cases want<;>exact h
    ·simp [Tr.ZA] at h
theorem ZQn {E:Env} {M:Mdl U} {call:Z24} (hU:Z0L U E) (hM:Zqe U M call) {ops:Array Oper}:∀{is:List Nat} {st st' : SSt U},(opsT E M ops is st).ZA st' -> ZIY call E ops is (Z44 U st)=some (Z44 U st'):=by
 intro is
 induction is with
 | nil=>intro st st' h;simp only [opsT,Tr.ZA] at h;subst h;rfl
 | cons i is ih=>
  intro st st' h
  simp only [opsT,ZB] at h
  obtain⟨st1,h1,h2⟩:=h
  have:=Zwd hU hM h1
  simp only [ZIY,stepD]
  rw [show (Z44 U st).H.length=st.H.length from Z6i st.H,this]
  exact ih h2
theorem Zxf {E:Env} {s:List (SV U.Ty)} {o:Oper}:Z2N E (Z02 U s) o=ZAE E s o:=by
 unfold Z2N ZAE
 congr 1
 funext x
 rw [Z2Z,ZKT]
theorem ZHO {H:ZP U} {a:SV U.Ty} {k:Nat} (h:ZBl H a k=true):ZgQ (toH U H) (toV U a) k=true:=by
 unfold ZBl at h
 split at h
 ·rename_i id i off tot
  simp only [Bool.and_eq_true,beq_iff_eq] at h
  obtain⟨h1,h2⟩:=h
  split at h2
  ·rename_i e n x hb
   simp only [beq_iff_eq] at h2
   simp only [toV,ZgQ,h1,beq_self_eq_true,Bool.true_and,Z1H,Z9E]
   rw [<- h1,hb]
   simp [Z0W,ZW,h2]
  ·cases h2
 ·rename_i id n
  simp only [Bool.and_eq_true,beq_iff_eq] at h
  obtain⟨h1,h2⟩:=h
  split at h2
  ·rename_i t xs fl hb
   simp only [toV,ZgQ,h1,beq_self_eq_true,Bool.true_and,Z9E]
   rw [<- h1,hb]
   simp [Z0W]
  ·cases h2
 ·cases h
theorem ZMg {base k:Nat} {s0:List (SV U.Ty)} {t:Nat⊕Nat} (h:ZF9 base s0 t=some k):ZuU base (Z02 U s0) t=some k:=by
 cases t with
 | inl j=>exact h
 | inr d=>
  unfold ZF9 at h
  unfold ZuU
  have:(Z02 U s0).getD d .und=toV U (s0.getD d .und):=by
   rw [Z0X]
   simp only [List.getD,List.getElem?_map]
   cases s0[d]?<;>rfl
  simp only at h ⊢
  rw [this]
  split at h
  ·rename_i he
   rw [he]
   exact h
  ·rename_i he
   rw [he]
   exact h
  ·cases h
theorem ZMV {E:Env} {ms:List Nat} {lt:List (Nat×(Nat⊕Nat))} {s0:List (SV U.Ty)} {base i:Nat} {s:List (SV U.Ty)} {H:ZP U} {o:Oper} (h:ZP8 E ms lt s0 base i s H o=true):Z8e E ms lt (Z02 U s0) base i (Z02 U s) (toH U H) o=true:=by
 unfold ZP8 at h
 unfold Z8e
 rw [List.all_eq_true] at h ⊢
 intro p hp
 have h:=h p hp
 cases ht:ZF9 base s0 p.2 with
 | none=>rw [ht] at h;cases h
 | some k=>
  rw [ht] at h
  simp only at h
  rw [ZMg ht]
  simp only
  have:addrOf E (Z02 U s) o=toV U (ZDi E s o):=by
   unfold addrOf ZDi
   cases Z8m o<;>first|exact Z2Z ..|rfl
  rw [this,Zxf]
  split
  ·rename_i he
   rw [if_pos he] at h
   exact ZHO h
  ·rename_i he
   rw [if_neg he] at h
   exact h
theorem ZKr {E:Env} {M:Mdl U} {call:Z24} (hU:Z0L U E) (hM:Zqe U M call) {ops:Array Oper} {ms:List Nat} {lt:List (Nat×(Nat⊕Nat))} {s0:List (SV U.Ty)} {base m i:Nat} {st st' : SSt U} (h:(ZMu E M ops ms lt s0 base m i st).ZA st') :
  Zcd call E ops ms lt (Z02 U s0) base m i (Z44 U st)=some (Z44 U st'):=by
 unfold ZMu at h
 unfold Zcd
 split at h
 ·rename_i ho
  simp only [Tr.ZA] at h
  subst h
  rw [ho]
 ·rename_i o ho
  rw [ho]
  simp only [Z09] at h ⊢
  obtain⟨h1,h1',h⟩:=h
  rw [Bool.and_eq_true] at h1'
  rw [show Z2N E (Z44 U st).s o=ZAE E st.s o from Zxf,show (Z44 U st).H.length=st.H.length from Z6i st.H,if_pos (by rw [h1,Bool.true_and,Bool.and_eq_true];exact⟨ZMV h1'.1,h1'.2⟩)]
  split at h
  ·rename_i hc
   rw [if_pos hc]
   rw [show (Z44 U st).H[base+i]? = (st.H[base+i]?).map (Z0W U) from Z9E _ _]
   split at h
   ·rename_i b hb
    rw [hb]
    split at h
    ·rename_i hd
     have:b = .dead:=by cases b<;>simp_all [ZOJ]
     subst this
     simp only [Option.map_some,Z0W,ZeX,Bool.false_eq_true,if_false]
     exact Zwd hU hM h
    ·simp [Tr.ZA] at h
   ·simp [Tr.ZA] at h
  ·rename_i hc
   rw [if_neg hc]
   exact Zwd hU hM h
theorem ZGy {E:Env} {M:Mdl U} {call:Z24} (hU:Z0L U E) (hM:Zqe U M call) {ops:Array Oper} {ms:List Nat} {lt:List (Nat×(Nat⊕Nat))} {s0:List (SV U.Ty)} {base m:Nat}:∀{is:List Nat} {st st' : SSt U},(Zqm E M ops ms lt s0 base m is st).ZA st' ->
  ZdF call E ops ms lt (Z02 U s0) base m is (Z44 U st)=some (Z44 U st'):=by
 intro is
 induction is with
 | nil=>intro st st' h;simp only [Zqm,Tr.ZA] at h;subst h;rfl
 | cons i is ih=>
  intro st st' h
  simp only [Zqm,ZB] at h
  obtain⟨st1,h1,h2⟩:=h
  simp only [ZdF,ZKr hU hM h1]
  exact ih h2
theorem ZO6 {E:Env} {M:Mdl U} {call:Z24} (hU:Z0L U E) (hM:Zqe U M call) {ops:Array Oper} {st st' : SSt U} (h:(ZNz E M ops st).ZA st'):ZBB call E ops (Z44 U st)=some (Z44 U st'):=by
 unfold ZNz at h
 unfold ZBB
 have:=ZGy hU hM h
 rw [show (Z44 U st).H.length=st.H.length from Z6i st.H]
 rw [<- this]
 congr 1
 simp [Z44,toH,Z0W]
end
end Go.Proofs.YtjodhcdmhobmoaaGreatDoor.Le
