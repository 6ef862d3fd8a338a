/-
  A part of the proof.
-/
import Derived.Test.YtjodhcdmhobmoaaGreatDoorL3
set_option linter.unusedVariables false
set_option linter.unusedSimpArgs false
namespace Go.Proofs.YtjodhcdmhobmoaaGreatDoor.Le
open Go.RowKit (Below)
def Sg.ren (σ:Sg) (ids:List Nat):Sg:=⟨fun j=>(ids[j]?).bind σ.box,σ.fz⟩
theorem Zqh {ids:List Nat} {id:Nat} (h:id∈ids):ids[ids.idxOf id]? = some id:=by
 have hlt:=List.idxOf_lt_length_of_mem h
 rw [List.getElem?_eq_getElem hlt,List.getElem_idxOf]
theorem ZyC {σ:Sg} {ids:List Nat} {id:Nat} (h:id∈ids):(σ.ren ids).box (ids.idxOf id)=σ.box id:=by
 simp [Sg.ren,Zqh h]
theorem Zhg {w w' : World} {B e sz n:Nat} {v:Value} {us:List Value} (h:Zi4 w B e sz v n us) (hb:∀g,v.ownBlock=some g->w'.heap[g]? = w.heap[g]?):Zi4 w' B e sz v n us:=by
 refine⟨h.1,?_⟩
 rcases h.2 with hn|⟨g,cap,cur,tg,rfl,h1,h2,rest⟩
 ·exact .inl hn
 ·exact .inr ⟨g,cap,cur,tg,rfl,h1,by rw [hb g (by simp [Value.ownBlock])];exact h2,rest⟩
theorem Z2i (ρ:Nat->Nat) (b:Box):(Z2e ρ b).live=b.live/\(Z2e ρ b).row=b.row/\(Z2e ρ b).Z9Q=b.Z9Q/\(Z2e ρ b).elem=b.elem/\(Z2e ρ b).esz=b.esz/\(Z2e ρ b).floor=b.floor/\(Z2e ρ b).xs.length=b.xs.length:=by
 unfold Z2e
 split
 ·exact⟨rfl,rfl,rfl,rfl,rfl,rfl,rfl⟩
 ·exact⟨rfl,rfl,rfl,rfl,rfl,rfl,Zbg _ _⟩
theorem Zft.ren {σ σ' : Sg} {w w' : World} {B:Nat} {b:Box} {L:Loc} (ρ:Nat->Nat) (h:Zft σ w B b L) (hfz:∀b c,σ.fz b c->σ'.fz b c/\w'.cell? ⟨b,c,none⟩=w.cell? ⟨b,c,none⟩) (hmp:Z9v w w')
  (hn:b.row=false->∀id∈Z0h b.xs,σ'.box (ρ id)=σ.box id) (hb:∀g,L.v.ownBlock=some g->w'.heap[g]? = w.heap[g]?):Zft σ' w' B (Z2e ρ b) L:=by
 obtain⟨e1,e2,e3,e4,e5,e6,e7⟩:=Z2i ρ b
 obtain⟨us,r1,r2,r3,r4⟩:=h.Z5G
 have hr:Zw σ' w' (Z2e ρ b).xs us:=by
  unfold Z2e
  split
  ·rename_i hrow;exact r1.bare hfz hmp ((Z1d _).2 (h.fzs hrow))
  ·rename_i hrow;exact ZhN r1 hfz hmp (hn (by simpa using hrow))
 refine⟨by rw [e7];exact h.tot,⟨us,hr,r2,r3,by rw [e4,e7];exact Zhg r4 hb⟩,by rw [e3];exact h.Z9Q,by rw [e5];exact h.esz,?_,?_⟩
 ·intro x hx
  unfold Z2e at hx
  split at hx
  ·exact h.oks x hx
  ·simp only [Zn3,List.mem_map] at hx
   obtain⟨y,hy,rfl⟩:=hx
   rw [ZEX]
   exact h.oks y hy
 ·intro hrow x hx
  rw [e2] at hrow
  unfold Z2e at hx
  rw [if_pos hrow] at hx
  exact h.fzs hrow x hx
section
variable {B:Nat} {w0:Start} {σ:Sg} {H:Heap} {w:World} {ids:List Nat}
theorem ZAt (H:Heap) (ids:List Nat) (j:Nat):(Zsy H ids)[j]? = (ids[j]?).map fun id=>Z2e (ids.idxOf ·) ((H[id]?).getD Zb3):=by
 simp [Zsy]
theorem Zmp {l:List Nat} (h:l.Nodup) {i j x:Nat} (hi:l[i]? = some x) (hj:l[j]? = some x):i=j:=by
 obtain⟨h1,e1⟩:=List.getElem?_eq_some_iff.1 hi
 obtain⟨h2,e2⟩:=List.getElem?_eq_some_iff.1 hj
 exact(List.getElem_inj h).1 (e1.trans e2.symm)
theorem Zgu {xs:List V} {vs:List Value} (hr:Zw σ w xs vs) (hm:∀id∈Z0h xs,id∈ids):Zw (σ.ren ids) w (Z6s (ids.idxOf ·) xs) vs:=
 ZhN hr (fun b c hh=>⟨hh,rfl⟩) (Z9v.refl _) fun id hid=>ZyC (hm id hid)
theorem ZFR (h:Inv B w0 σ H w) (hs:ZHL ids H) (w1:Start) (hbelow:Below B w1.w w) (hold:∀b c,σ.fz b c->b<B->w1.fz b c)
  (hk:∀b,w1.keep b->b<w.heap.size/\w.heap[b]? = w1.w.heap[b]? /\ (∀id∈ids,∀L,σ.box id=some L->L.v.ownBlock≠some b)/\∀c,σ.fz b c->w1.fz b c):Inv B w1 (σ.ren ids) (Zsy H ids) w:=by
 have hbox:∀{j:Nat} {L:Loc},(σ.ren ids).box j=some L->∃id,ids[j]? = some id/\σ.box id=some L:=by
  intro j L hL
  simp only [Sg.ren] at hL
  cases hj:ids[j]? with
  | none=>simp [hj] at hL
  | some id=>simp only [hj,Option.bind_some] at hL;exact⟨id,rfl,hL⟩
 have hget:∀{j:Nat} {b' : Box},(Zsy H ids)[j]? = some b' -> ∃id b,ids[j]? = some id/\H[id]? = some b/\b.live=true/\(b.row=false->∀r∈Z0h b.xs,r∈ids)/\b' = Z2e (ids.idxOf ·) b:=by
  intro j b' hb
  rw [ZAt] at hb
  cases hj:ids[j]? with
  | none=>simp [hj] at hb
  | some id=>
   obtain⟨b,k1,k2,k3⟩:=hs.at_ id (List.mem_of_getElem? hj)
   simp only [hj,Option.map_some,k1,Option.getD_some,Option.some.injEq] at hb
   exact⟨id,b,rfl,k1,k2,k3,hb.symm⟩
 refine⟨hbelow,h.size,?_,?_,?_,h.cells,?_,?_,hold,fun b hb=>?_⟩
 ·intro j L hL
  obtain⟨id,h1,h2⟩:=hbox hL
  obtain⟨b,k1,k2,k3⟩:=hs.at_ id (List.mem_of_getElem? h1)
  refine⟨Z2e (ids.idxOf ·) b,by rw [ZAt,h1];simp [k1],?_⟩
  rw [(Z2i _ b).1];exact k2
 ·intro j b' hb hl
  obtain⟨id,b,h1,h2,h3,h4,rfl⟩:=hget hb
  obtain⟨L,hL,hok⟩:=h.boxes id b h2 h3
  refine⟨L,by simp [Sg.ren,h1,hL],hok.ren _ (fun b c hh=>⟨hh,rfl⟩) (Z9v.refl _) (fun hr r hh=>ZyC (h4 hr r hh)) (fun _ _=>rfl)⟩
 ·intro j j' b1 b2 L1 L2 g h1 h2 l1 l2 s1 s2 g1 g2
  obtain⟨i1,e1,t1⟩:=hbox s1
  obtain⟨i2,e2,t2⟩:=hbox s2
  obtain⟨i1',c1,f1,p1,p2,_⟩:=hget h1
  obtain⟨i2',c2,f2,q1,q2,_⟩:=hget h2
  rw [e1] at f1;cases f1
  rw [e2] at f2;cases f2
  have:=h.apart i1 i2 c1 c2 L1 L2 g p1 q1 p2 q2 t1 t2 g1 g2
  subst this
  exact Zmp hs.nodup e1 e2
 ·intro b c hc j b' L hb hl hL hg
  obtain⟨id,hid,hL'⟩:=hbox hL
  obtain⟨id',b0,f1,p1,p2,_,rfl⟩:=hget hb
  rw [hid] at f1;cases f1
  rw [(Z2i _ b0).2.2.2.2.2.1]
  exact h.floor b c hc id b0 L p1 p2 hL' hg
 ·intro j b' hb hl
  obtain⟨id,b0,f1,p1,p2,_,rfl⟩:=hget hb
  obtain⟨_,_,_,_,_,e6,e7⟩:=Z2i (ids.idxOf ·) b0
  rw [e6,e7]
  exact h.low id b0 p1 p2
 ·obtain⟨k1,k2,k3,k4⟩:=hk b hb
  refine⟨k1,k2,fun j L hL hg=>?_,k4⟩
  obtain⟨id,hid,hL'⟩:=hbox hL
  exact k3 id (List.mem_of_getElem? hid) L hL' hg
def ZnD (ids:List Nat) (n i:Nat):Option Nat:=if i<n then (if i∈ids then some (ids.idxOf i) else none) else some (ids.length+(i - n))
theorem ZIl:∀{ids:List Nat} {H bs:Heap} (i:Nat),ids.Nodup->(∀id∈ids,id<H.length)->ids.length<=bs.length ->
  (ZHz H ids bs)[i]? = match ZnD ids H.length i with|some j=>bs[j]? | none=>H[i]?:=by
 intro ids
 induction ids with
 | nil=>
  intro H bs i _ _ _
  unfold ZnD
  simp only [ZHz,List.getElem?_append,List.not_mem_nil,if_false,List.length_nil,Nat.zero_add]
  split<;>rfl
 | cons id ids ih=>
  intro H bs i hn hl hb
  cases bs with
  | nil=>simp at hb
  | cons b bs=>
   rw [List.nodup_cons] at hn
   rw [ZHz,ih i hn.2 (fun j hj=>by simpa using hl j (by simp [hj])) (by simpa using hb)]
   have hid:=hl id (by simp)
   unfold ZnD
   simp only [List.length_set,List.mem_cons,List.length_cons]
   by_cases hi:i<H.length
   ·simp only [hi,if_true]
    by_cases he:i=id
    ·subst he
     simp [hn.1,hid]
    ·by_cases hm:i∈ids
     ·simp only [hm,or_true,if_true]
      have hne:(id==i)=false:=by simp only [beq_eq_false_iff_ne];exact fun e=>he e.symm
      simp [List.idxOf_cons,hne]
     ·simp only [hm,he,or_self,if_false]
      rw [List.getElem?_set_ne (fun e=>he e.symm)]
   ·simp only [hi,if_false]
    rw [show ids.length+1+(i - H.length)=(ids.length+(i - H.length))+1 by omega]
    rfl
theorem Zxk {H3:Heap} (i:Nat) (hn:ids.Nodup) (hl:∀id∈ids,id<H.length) (hb:ids.length<=H3.length) :
  (Z7J H ids H3)[i]? = match ZnD ids H.length i with|some j=>(H3[j]?).map (Z2e (Zdn ids H.length))|none=>H[i]?:=by
 unfold Z7J
 rw [ZIl i hn hl (by simpa using hb)]
 split<;>simp
theorem ZKk {n i i' j:Nat} (hn:ids.Nodup) (h1:ZnD ids n i=some j) (h2:ZnD ids n i' = some j):i=i' :=by
 unfold ZnD at h1 h2
 have key:∀{x:Nat},x∈ids->ids.idxOf x<ids.length:=fun h=>List.idxOf_lt_length_of_mem h
 split at h1<;>split at h2
 ·split at h1<;>split at h2
  ·rename_i m1 m2
   simp only [Option.some.injEq] at h1 h2
   have e1:=Zqh m1
   have e2:=Zqh m2
   rw [h1] at e1;rw [h2] at e2
   rw [e1] at e2
   exact Option.some.inj e2
  ·cases h2
  ·cases h1
  ·cases h1
 ·split at h1
  ·rename_i m1
   simp only [Option.some.injEq] at h1 h2
   have:=key m1
   omega
  ·cases h1
 ·split at h2
  ·rename_i m2
   simp only [Option.some.injEq] at h1 h2
   have:=key m2
   omega
  ·cases h2
 ·simp only [Option.some.injEq] at h1 h2
  omega
theorem ZHK {n:Nat} (hn:ids.Nodup) (hl:∀id∈ids,id<n) (j:Nat):ZnD ids n (Zdn ids n j)=some j:=by
 unfold Zdn ZnD
 by_cases hj:j<ids.length
 ·rw [if_pos hj]
  have hg:ids.getD j 0=ids[j]:=by simp [List.getD,hj]
  rw [hg]
  have hm:ids[j]∈ids:=List.getElem_mem hj
  rw [if_pos (hl _ hm),if_pos hm]
  congr 1
  exact Zmp hn (Zqh hm) (List.getElem?_eq_getElem hj)
 ·rw [if_neg hj,if_neg (by omega)]
  congr 1
  omega
def Sg.back (σ σ1:Sg) (ids:List Nat) (n:Nat):Sg:=⟨fun i=>match ZnD ids n i with|some j=>σ1.box j|none=>σ.box i,σ1.fz⟩
theorem ZA7 {σ1:Sg} {n:Nat} (hn:ids.Nodup) (hl:∀id∈ids,id<n) (j:Nat):(σ.back σ1 ids n).box (Zdn ids n j)=σ1.box j:=by
 simp only [Sg.back,ZHK hn hl]
def outer (σ:Sg) (ids:List Nat) (w0:Start) (b:Nat):Prop:=w0.keep b\/∃id L,id∉ids/\σ.box id=some L/\L.v.ownBlock=some b
theorem ZJR {σ1:Sg} {H3:Heap} {w' : World} (h:Inv B w0 σ H w) (hs:ZHL ids H) (h1:Inv B ⟨w,σ.fz,outer σ ids w0⟩ σ1 H3 w') (hE:Ext (σ.ren ids) w σ1 w') (hlen:ids.length<=H3.length) :
  Inv B w0 (σ.back σ1 ids H.length) (Z7J H ids H3) w' /\ Ext σ w (σ.back σ1 ids H.length) w' :=by
 have hlt:∀id∈ids,id<H.length:=fun id hid=>by
  obtain⟨b,k1,_⟩:=hs.at_ id hid
  exact(List.getElem?_eq_some_iff.1 k1).1
 have hfz:∀b c,σ.fz b c->σ1.fz b c/\w'.cell? ⟨b,c,none⟩=w.cell? ⟨b,c,none⟩:=hE.fz
 have e:Ext σ w (σ.back σ1 ids H.length) w' :=by
  refine⟨fun i L hL=>?_,hfz,hE.mp⟩
  have hi:=h.ZEp hL
  simp only [Sg.back]
  by_cases hm:i∈ids
  ·have ht:ZnD ids H.length i=some (ids.idxOf i):=by simp [ZnD,hi,hm]
   simp only [ht]
   exact hE.box _ L (by rw [ZyC hm];exact hL)
  ·have ht:ZnD ids H.length i=none:=by simp [ZnD,hi,hm]
   simp only [ht]
   exact⟨L,hL,rfl,.inl rfl⟩
 have hget:∀i,(Z7J H ids H3)[i]? = match ZnD ids H.length i with|some j=>(H3[j]?).map (Z2e (Zdn ids H.length))|none=>H[i]?:=fun i=>Zxk i hs.nodup hlt hlen
 have hout:∀{i:Nat} {L:Loc} {g:Nat},ZnD ids H.length i=none->σ.box i=some L->L.v.ownBlock=some g->outer σ ids w0 g:=by
  intro i L g ht hL hg
  refine .inr ⟨i,L,?_,hL,hg⟩
  intro hm
  simp [ZnD,hlt i hm,hm] at ht
 have hcase:∀{i:Nat} {b' : Box},(Z7J H ids H3)[i]? = some b' -> (∃j b,ZnD ids H.length i=some j/\H3[j]? = some b/\b' = Z2e (Zdn ids H.length) b)\/(ZnD ids H.length i=none/\H[i]? = some b'):=by
  intro i b' hb
  rw [hget] at hb
  cases ht:ZnD ids H.length i with
  | none=>rw [ht] at hb;exact .inr ⟨rfl,hb⟩
  | some j=>
   rw [ht] at hb
   simp only [Option.map_eq_some_iff] at hb
   obtain⟨b,h2,h3⟩:=hb
   exact .inl ⟨j,b,rfl,h2,h3.symm⟩
 refine⟨⟨h.below.trans h1.below,h1.size,?_,?_,?_,h1.cells,?_,?_,fun b c hc hlt' =>h.old b c (h1.old b c hc hlt') hlt',fun b hb=>?_⟩,e⟩
 ·intro i L hL
  simp only [Sg.back] at hL
  rw [hget]
  cases ht:ZnD ids H.length i with
  | none=>rw [ht] at hL;exact h.dom i L hL
  | some j=>
   rw [ht] at hL
   obtain⟨b,k1,k2⟩:=h1.dom j L hL
   exact⟨Z2e (Zdn ids H.length) b,by simp [k1],by rw [(Z2i _ b).1];exact k2⟩
 ·intro i b' hb hl
  rcases hcase hb with ⟨j,b,ht,hj,rfl⟩|⟨ht,hi⟩
  ·rw [(Z2i _ b).1] at hl
   obtain⟨L,hL,hok⟩:=h1.boxes j b hj hl
   refine⟨L,by simp only [Sg.back,ht];exact hL,hok.ren _ (fun b c hh=>⟨hh,rfl⟩) (Z9v.refl _) (fun _ r _=>ZA7 hs.nodup hlt r) (fun _ _=>rfl)⟩
  ·obtain⟨L,hL,hok⟩:=h.boxes i b' hi hl
   obtain⟨us,r1,r2,r3,r4⟩:=hok.Z5G
   refine⟨L,by simp only [Sg.back,ht];exact hL,hok.tot,⟨us,r1.ext e,r2,r3,Zhg r4 fun g hg=>?_⟩,hok.Z9Q,hok.esz,hok.oks,hok.fzs⟩
   exact(h1.kept g (hout ht hL hg)).2.1
 ·intro i i' b1 b2 L1 L2 g p1 p2 l1 l2 s1 s2 g1 g2
  simp only [Sg.back] at s1 s2
  rcases hcase p1 with ⟨j,c1,t1,q1,rfl⟩|⟨t1,q1⟩<;>rcases hcase p2 with ⟨j',c2,t2,q2,rfl⟩|⟨t2,q2⟩
  ·rw [t1] at s1;rw [t2] at s2
   rw [(Z2i _ _).1] at l1 l2
   have:=h1.apart j j' c1 c2 L1 L2 g q1 q2 l1 l2 s1 s2 g1 g2
   subst this
   exact ZKk hs.nodup t1 t2
  ·rw [t1] at s1;rw [t2] at s2
   exact absurd g1 ((h1.kept g (hout t2 s2 g2)).2.2.1 j L1 s1)
  ·rw [t1] at s1;rw [t2] at s2
   exact absurd g2 ((h1.kept g (hout t1 s1 g1)).2.2.1 j' L2 s2)
  ·rw [t1] at s1;rw [t2] at s2
   exact h.apart i i' b1 b2 L1 L2 g q1 q2 l1 l2 s1 s2 g1 g2
 ·intro b c hc i b' L hb hl hL hg
  simp only [Sg.back] at hL hc
  rcases hcase hb with ⟨j,b0,ht,hj,rfl⟩|⟨ht,hi⟩
  ·rw [ht] at hL
   rw [(Z2i _ b0).1] at hl
   rw [(Z2i _ b0).2.2.2.2.2.1]
   exact h1.floor b c hc j b0 L hj hl hL hg
  ·rw [ht] at hL
   exact h.floor b c ((h1.kept b (hout ht hL hg)).2.2.2 c hc) i b' L hi hl hL hg
 ·intro i b' hb hl
  rcases hcase hb with ⟨j,b0,ht,hj,rfl⟩|⟨ht,hi⟩
  ·obtain⟨e1,_,_,_,_,e6,e7⟩:=Z2i (Zdn ids H.length) b0
   rw [e6,e7]
   rw [e1] at hl
   exact h1.low j b0 hj hl
  ·exact h.low i b' hi hl
 ·obtain⟨k1,k2,k3,k4⟩:=h.kept b hb
  obtain⟨m1,m2,m3,m4⟩:=h1.kept b (.inl hb)
  refine⟨m1,m2.trans k2,fun i L hL hg=>?_,fun c hc=>k4 c (m4 c hc)⟩
  simp only [Sg.back] at hL
  cases ht:ZnD ids H.length i with
  | none=>rw [ht] at hL;exact k3 i L hL hg
  | some j=>rw [ht] at hL;exact m3 j L hL hg
end
def ZAz (P:Program) (E:Env) (f:FuncId) (as:List V) (H0:Heap) (r:V) (H1:Heap):Prop:=
 ∀(B:Nat) (w0:Start) (σ:Sg) (w:World) (vs:List Value),Inv B w0 σ H0 w->Z0r E σ w->Zw σ w as vs ->
  Calls P f vs.toArray w fun e w' =>∃u σ',e = .returned u/\Inv B w0 σ' H1 w' /\ Ext σ w σ' w' /\ Zw σ' w' [r] [u]
theorem Zy8 {B:Nat} {w0:Start} {σ:Sg} {H H2:Heap} {w:World} {fa:List (List Fk)} {fb:List Bf} {k:Nat} {args as:List V} {vs:List Value} {ids:List Nat} (h:Inv B w0 σ H w) (hr:Zw σ w args vs)
  (hp:pack fa fb k args H=some (ids,as,H2)):ZHL ids H2/\(∀id∈Z0h as,id∈ids)/\H.length<=H2.length/\∃σ',Inv B w0 σ' H2 w/\Ext σ w σ' w/\Zw σ' w as vs:=by
 unfold pack at hp
 split at hp
 ·rename_i as' H1 ha
  split at hp
  ·rename_i H2' ids' hh
   simp only [Option.some.injEq,Prod.mk.injEq] at hp
   obtain⟨rfl,rfl,rfl⟩:=hp
   obtain⟨k1,σ1,i1,e1,r1⟩:=ZIm h hr ha
   obtain⟨q1,q2,q3,σ2,i2,e2⟩:=ZI6 1000 i1 hh (by simp) (by simp)
   exact⟨q3,fun id hid=>q2 id (by simp [hid]),Nat.le_trans k1.len q1,σ2,i2,e1.trans e2,r1.ext e2⟩
  ·cases hp
 ·cases hp
theorem ZIs {P:Program} {E:Env} {B:Nat} {w0:Start} {σ:Sg} {H H' : Heap} {w:World} {f:FuncId} {hs:ZD8} {args:List V} {vs:List Value} {x:V} (hh:∀as H0 r H1,hs.run as H0=some (r,H1)->ZAz P E f as H0 r H1)
  (hc:Zo0 hs args H=some (x,H')) (h:Inv B w0 σ H w) (hg:Z0r E σ w) (hr:Zw σ w args vs) :
  Calls P f vs.toArray w fun e w' =>∃u σ',e = .returned u/\Inv B w0 σ' H' w' /\ Ext σ w σ' w' /\ Zw σ' w' [x] [u]:=by
 unfold Zo0 at hc
 split at hc
 ·rename_i ids as H2 hp
  split at hc
  ·rename_i r H3 hrun
   split at hc
   ·rename_i hlen
    simp only [Option.some.injEq,Prod.mk.injEq] at hc
    obtain⟨rfl,rfl⟩:=hc
    obtain⟨hs',hm,_,σ1,hI1,hE1,hr1⟩:=Zy8 h hr hp
    have hlt:∀id∈ids,id<H2.length:=fun id hid=>by
     obtain⟨b,k1,_⟩:=hs'.at_ id hid
     exact(List.getElem?_eq_some_iff.1 k1).1
    have hsub:Inv B ⟨w,σ1.fz,outer σ1 ids w0⟩ (σ1.ren ids) (Zsy H2 ids) w:=by
     refine ZFR hI1 hs' _ (Below.refl _ _) (fun b c hc _=>hc) (fun b hb=>?_)
     rcases hb with hb|⟨id,L,hid,hL,hgL⟩
     ·obtain⟨k1,k2,k3,k4⟩:=hI1.kept b hb
      exact⟨k1,rfl,fun id _ L hL=>k3 id L hL,fun c hc=>hc⟩
     ·obtain⟨bx,m1,m2⟩:=hI1.dom id L hL
      obtain⟨L',hL',hok⟩:=hI1.boxes id bx m1 m2
      rw [hL] at hL';cases hL'
      refine⟨(hok.block_lt hgL).2,rfl,fun i hi L' hL' hg' =>?_,fun c hc=>hc⟩
      obtain⟨bx',n1,n2⟩:=hI1.dom i L' hL'
      have:=hI1.apart id i bx bx' L L' b m1 n1 m2 n2 hL hL' hgL hg'
      subst this
      exact hid hi
    have hg1:Z0r E (σ1.ren ids) w:=(hg.ext hE1).bare (fun b c hh=>⟨hh,rfl⟩) (Z9v.refl _)
    refine(hh _ _ _ _ hrun B _ (σ1.ren ids) w vs hsub hg1 (Zgu hr1 hm)).mono ?_
    rintro e w' ⟨u,σ2,rfl,hI2,hE2,hr2⟩
    obtain⟨hI3,hE3⟩:=ZJR hI1 hs' hI2 hE2 hlen
    exact⟨u,_,rfl,hI3,hE1.trans hE3,ZG8 hr2 (fun b c hh=>⟨hh,rfl⟩) (Z9v.refl _) (fun id _=>ZA7 hs'.nodup hlt id)⟩
   ·cases hc
  ·cases hc
 ·cases hc
end Go.Proofs.YtjodhcdmhobmoaaGreatDoor.Le
namespace Go.Proofs.YtjodhcdmhobmoaaGreatDoor.Le
open Go.RowKit (Below)
def Zdb (P:Program) (E:Env) (f:FuncId) (as:List V) (r:V):Prop:=
 ∀(fz:Nat->Nat->Prop) (w:World) (vs:List Value),(∀b c,fz b c->∃u,w.cell? ⟨b,c,none⟩=some u)->Z0r E (bare fz) w->Zw (bare fz) w as vs ->
  Calls P f vs.toArray w fun e w' =>∃u fz',e = .returned u/\Below w.heap.size w w' /\ (∀b c,fz b c->fz' b c)/\(∀b c,fz' b c->b<w.heap.size->fz b c) /\
   (∀b c,fz' b c->∃u,w'.cell? ⟨b,c,none⟩=some u)/\Zw (bare fz') w' [r] [u]/\ZV r=true
def Zr8 (P:Program) (E:Env) (f:FuncId) (as:List V) (e sz:Nat) (xs:List V):Prop:=
 ∀(fz:Nat->Nat->Prop) (w:World) (vs:List Value),(∀b c,fz b c->∃u,w.cell? ⟨b,c,none⟩=some u)->Z0r E (bare fz) w->Zw (bare fz) w as vs ->
  Calls P f vs.toArray w fun en w' =>∃u us fz',en = .returned u/\Below w.heap.size w w' /\ (∀b c,fz b c->fz' b c)/\(∀b c,fz' b c->b<w.heap.size->fz b c) /\
   (∀b c,fz' b c->∃u,w'.cell? ⟨b,c,none⟩=some u)/\Zw (bare fz') w' xs us/\(∀x∈xs,fzV x=true)/\(∀u∈us,u.cells.size=sz)/\(∀u∈flat us,u.oneCell' = true) /\
   Zi4 w' w.heap.size e sz u xs.length (flat us)/\(∀g c,u.ownBlock=some g->¬fz' g c)
def Z7U (P:Program) (f:FuncId):Prop:=∃fn,P.funcs[f]? = some fn/\fn.body.isNone=false/\(fn.name == "runtime.NumGoroutine")=false
structure Zjb (P:Program) (E:Env):Prop where
 env:∀f F,E.env f=some F->Z7U P f/\∀as r,ZB as=true->F as=some r->match E.own f with|none=>Zdb P E f as r|some e=>∀sz xs,r = .sl false sz xs->Zr8 P E f as e sz xs
 hm:∀f key hs,E.hm f key=some hs->Z7U P f/\∀as H0 r H1,hs.run as H0=some (r,H1)->ZAz P E f as H0 r H1
theorem Below.grownBy {w w' : World} (h:Below w.heap.size w w'):w.grownBy w' none:=⟨h.os,h.tape,h.output,h.size,fun k hk _=>h.block k hk⟩
theorem ZiA {B w0 σ H w} (h:Inv B w0 σ H w) {x x' : V} {v:Value} (hr:Zw σ w [x] [v]) (hf:Zzx H x=some x'):ZV x' = true:=by
 unfold Zzx at hf
 split at hf
 ·rename_i vs
  cases hr with
  | tup h1 _=>
   cases hl:Z1n H vs with
   | none=>simp [hl] at hf
   | some vs' =>
    simp only [hl,Option.map_some,Option.some.injEq] at hf
    subst hf
    exact Z4U h h1 hl
 ·exact Zh8 h hr hf
section
variable {P:Program} {E:Env} {B:Nat} {w0:Start} {σ:Sg} {H:Heap} {w:World} {f:FuncId}
theorem Zpt {args as:List V} {r:V} {vs:List Value} (ts:List TypeId) (hp:Zdb P E f (Z0p E.rows ts as) r) (hf:Z1n H args=some as) (hI:Inv B w0 σ H w) (hg:Z0r E σ w) (hr:Zw σ w args vs) :
  Calls P f vs.toArray w fun e w' =>∃u σ',e = .returned u/\Inv B w0 σ' (bump H (args.flatMap Z6N)) w' /\ Ext σ w σ' w' /\ Zw σ' w' [r] [u]:=by
 obtain⟨hI1,hEx1⟩:=hI.freeze (args.flatMap Z6N)
 have hr1:=Z7M E.rows ts (Z9i hI hr hf (args.flatMap Z6N) (fun i hi=>hi))
 have hn:ZB (Z0p E.rows ts as)=true:=by rw [Z3F];exact Z4U hI hr hf
 generalize hσ1:σ.freeze H (args.flatMap Z6N)=σ1 at hI1 hEx1 hr1
 have hbox1:σ1.box=σ.box:=by rw [<- hσ1];rfl
 have hfz0:∀b c,σ1.fz b c->(bare σ1.fz).fz b c/\w.cell? ⟨b,c,none⟩=w.cell? ⟨b,c,none⟩:=fun b c h=>⟨h,rfl⟩
 refine(hp σ1.fz w vs hI1.cells ((hg.ext hEx1).bare hfz0 (Z9v.refl _)) (hr1.bare hfz0 (Z9v.refl _) hn)).mono ?_
 rintro e w' ⟨u,fz',rfl,hb,hmono,hold,hcells,hru,hnr⟩
 obtain⟨hI2,hEx2⟩:=hI1.grown (Below.grownBy hb)
 have hcell:∀b c,σ1.fz b c->w'.cell? ⟨b,c,none⟩=w.cell? ⟨b,c,none⟩:=fun b c h=>(hEx2.fz b c h).2
 have hex:Ext σ1 w' ⟨σ1.box,fz'⟩ w' :=⟨fun id L hL=>⟨L,hL,rfl,.inl rfl⟩,fun b c h=>⟨hmono b c h,rfl⟩,Z9v.refl _⟩
 refine⟨u,⟨σ1.box,fz'⟩,rfl,⟨hI2.below,hI2.size,hI2.dom,fun id bx hb hl=>?_,hI2.apart,hcells,fun b c hc id bx L hb hl hL hown=>?_,hI2.low,fun b c hc hlt=>?_,fun b hb=>?_⟩,hEx1.trans (hEx2.trans hex),?_⟩
 ·obtain⟨L,hL,hok⟩:=hI2.boxes id bx hb hl
  obtain⟨us,h1,h2,h3,h4⟩:=hok.Z5G
  exact⟨L,hL,⟨hok.tot,⟨us,h1.ext hex,h2,h3,h4⟩,hok.Z9Q,hok.esz,hok.oks,hok.fzs⟩⟩
 ·obtain⟨L',hL',hok⟩:=hI1.boxes id bx hb hl
  rw [show σ1.box id=some L from hL] at hL'
  cases hL'
  exact hI1.floor b c (hold b c hc (hok.block_lt hown).2) id bx L hb hl hL hown
 ·exact hI1.old b c (hold b c hc (Nat.lt_of_lt_of_le hlt hI1.size)) hlt
 ·obtain⟨k1,k2,k3,k4⟩:=hI2.kept b hb
  exact⟨k1,k2,k3,fun c hc=>k4 c (hold b c hc (hI1.kept b hb).1)⟩
 ·exact hru.bare (fun b c h=>⟨h,rfl⟩) (Z9v.refl _) (by simp [ZB,hnr])
theorem ownsRow_base {w:World} {b b' e sz n:Nat} {v:Value} {us:List Value} (h:Zi4 w b e sz v n us) (hb:b' <= b):Zi4 w b' e sz v n us:=by
 refine⟨h.1,?_⟩
 rcases h.2 with h|⟨g,cap,cur,tg,h1,h2,h3⟩
 ·exact .inl h
 ·exact .inr ⟨g,cap,cur,tg,h1,by omega,h3⟩
theorem ZtE {args as:List V} {e sz:Nat} {xs:List V} {vs:List Value} (ts:List TypeId) (hp:Zr8 P E f (Z0p E.rows ts as) e sz xs) (hf:Z1n H args=some as) (hI:Inv B w0 σ H w) (hg:Z0r E σ w) (hr:Zw σ w args vs) :
  Calls P f vs.toArray w fun en w' =>∃u σ',en = .returned u/\Inv B w0 σ' (place (bump H (args.flatMap Z6N)) H.length (ZN true false e sz xs)) w' /\ Ext σ w σ' w' /\ Zw σ' w' [.lsl H.length 0 xs.length xs.length] [u]:=by
 obtain⟨hI1,hEx1⟩:=hI.freeze (args.flatMap Z6N)
 have hr1:=Z7M E.rows ts (Z9i hI hr hf (args.flatMap Z6N) (fun i hi=>hi))
 have hn:ZB (Z0p E.rows ts as)=true:=by rw [Z3F];exact Z4U hI hr hf
 generalize hσ1:σ.freeze H (args.flatMap Z6N)=σ1 at hI1 hEx1 hr1
 have hfz0:∀b c,σ1.fz b c->(bare σ1.fz).fz b c/\w.cell? ⟨b,c,none⟩=w.cell? ⟨b,c,none⟩:=fun b c h=>⟨h,rfl⟩
 refine(hp σ1.fz w vs hI1.cells ((hg.ext hEx1).bare hfz0 (Z9v.refl _)) (hr1.bare hfz0 (Z9v.refl _) hn)).mono ?_
 rintro en w' ⟨u,us,fz',rfl,hb,hmono,hold,hcells,hru,hfzv,hsz,hone,hown,hnfz⟩
 obtain⟨hI2,hEx2⟩:=hI1.grown (Below.grownBy hb)
 have hex:Ext σ1 w' ⟨σ1.box,fz'⟩ w' :=⟨fun id L hL=>⟨L,hL,rfl,.inl rfl⟩,fun b c h=>⟨hmono b c h,rfl⟩,Z9v.refl _⟩
 have hI3:Inv B w0 ⟨σ1.box,fz'⟩ (bump H (args.flatMap Z6N)) w' :=by
  refine⟨hI2.below,hI2.size,hI2.dom,fun id bx hb hl=>?_,hI2.apart,hcells,fun b c hc id bx L hb hl hL hown=>?_,hI2.low,fun b c hc hlt=>?_,fun b hb=>?_⟩
  ·obtain⟨L,hL,hok⟩:=hI2.boxes id bx hb hl
   obtain⟨us,h1,h2,h3,h4⟩:=hok.Z5G
   exact⟨L,hL,⟨hok.tot,⟨us,h1.ext hex,h2,h3,h4⟩,hok.Z9Q,hok.esz,hok.oks,hok.fzs⟩⟩
  ·obtain⟨L',hL',hok⟩:=hI1.boxes id bx hb hl
   rw [show σ1.box id=some L from hL] at hL'
   cases hL'
   exact hI1.floor b c (hold b c hc (hok.block_lt hown).2) id bx L hb hl hL hown
  ·exact hI1.old b c (hold b c hc (Nat.lt_of_lt_of_le hlt hI1.size)) hlt
  ·obtain⟨k1,k2,k3,k4⟩:=hI2.kept b hb
   exact⟨k1,k2,k3,fun c hc=>k4 c (hold b c hc (hI1.kept b hb).1)⟩
 have hblk:∀g,u.ownBlock=some g->w.heap.size<=g:=by
  intro g hg'
  rcases hown.2 with ⟨hv,_⟩|⟨g',cap,cur,tg,hv,hle,_⟩
  ·rw [hv] at hg';cases hg'
  ·rw [hv] at hg'
   simp only [Value.ownBlock,Option.some.injEq] at hg'
   omega
 have hnr:ZB xs=true:=Z2F hfzv
 have hk:Z3p (bump H (args.flatMap Z6N)) H.length=true:=by
  have:=Zbn (bump H (args.flatMap Z6N))
  rwa [bump_length] at this
 obtain⟨hI4,hEx4⟩:=hI3.ZJG hk (ZN true false e sz xs) rfl ⟨u,xs.length,sz⟩ (by simp [ZN])
  (fun id bx' L' g h1 h2 h3 h4 h5=>by
   obtain⟨L'',hL'',hok⟩:=hI1.boxes id bx' h1 h2
   rw [show σ1.box id=some L' from h3] at hL''
   cases hL''
   have:=(hok.block_lt h4).2
   have:=hblk g h5
   omega)
  (fun g c h=>hnfz g c h) (fun g h hk=>by have:=(hI1.kept g hk).1;have:=hblk g h;omega)
  ⟨rfl,⟨us,hru.bare (fun b c h=>⟨h,rfl⟩) (Z9v.refl _) hnr,hsz,hone,by simpa [ZN] using ownsRow_base hown hI1.size⟩,by simp [ZN],rfl,ZwI hfzv,fun _ x hx=>Z4Q (hfzv x hx)⟩
 have hval:∃a n c,u = .slice a n c/\n=xs.length/\n<=c:=by
  rcases hown.2 with ⟨hv,hn⟩|⟨g,cap,cur,tg,hv,_,_,_,hnc,_⟩
  ·exact⟨none,0,0,hv,hn.symm,Nat.le_refl _⟩
  ·exact⟨_,_,cap,hv,rfl,hnc⟩
 obtain⟨a,n,c,hv,hn',hnc⟩:=hval
 refine⟨u,_,rfl,hI4,hEx1.trans (hEx2.trans (hex.trans hEx4)),.lsl (L:=⟨u,xs.length,sz⟩) (by simp [Sg.put]) (Nat.le_refl _) (fun _=>⟨by omega,a,n,c,0,hv,?_,Nat.zero_le _,Nat.le_refl _,fun _=>rfl⟩) ⟨a,n,c,hv⟩ .nil⟩
 subst hn'
 rw [hv]
 cases a with
 | none=>simp
 | some a=>simp [Addr.add]
theorem ZEF (hE:Z0A E) (hP:E.P=P) {call:Z1f} (hcall:Z64 P E B w0 call) (hpure:Z7L E call) {fn:Func} (hfn:E.func f=some fn) {n:Nat} {args:List V} {H' : Heap} {r:V} {vs:List Value}
  (hb:ZqP call n E f fn args H=some (r,H')) (hI:Inv B w0 σ H w) (hg:Z0r E σ w) (hr:Zw σ w args vs) :
  Z7U P f/\Calls P f vs.toArray w fun e w' =>∃u σ',e = .returned u/\Inv B w0 σ' H' w' /\ Ext σ w σ' w' /\ Zw σ' w' [r] [u]:=by
 unfold ZqP at hb
 cases hbody:fn.body with
 | none=>simp [hbody] at hb
 | some c=>
  simp only [hbody] at hb
  obtain⟨hf1,hf2⟩:=hE.func f fn hfn
  rw [hP] at hf1
  refine⟨⟨fn,hf1,by simp [hbody],hf2⟩,calls_of_wp hf1 hbody ?_⟩
  have hcm:=hE.calm f fn c hfn hbody
  have hslots:Zw σ w (args++List.replicate (fn.ntmps - args.length) Z0F) (vs.toArray++Array.replicate (fn.ntmps - vs.toArray.size) undef).toList:=by
   simp only [Array.toList_append,Array.toList_replicate,List.size_toArray]
   rw [<- hr.length]
   exact hr.append (Zw.replicate _ (.no .nil))
  have hrel:Rel E B w0 σ ⟨args++List.replicate (fn.ntmps - args.length) Z0F,H⟩ { tmps:=vs.toArray++Array.replicate (fn.ntmps - vs.toArray.size) undef,defers:=[] } w:=⟨hI,hg,hslots,rfl⟩
  have hfin:∀st,(Z2K E st.H st.s fn.results.toList).map (·,st.H)=some (r,H')->∀a' w' σ',Rel E B w0 σ' st a' w' -> Ext σ w σ' w' ->
    a'.defers=[]/\∃v,(results fn a'.tmps).run P w' = .ok v w' /\ (fun e w' =>∃u σ',e=Ending.returned u/\Inv B w0 σ' H' w' /\ Ext σ w σ' w' /\ Zw σ' w' [r] [u]) (.returned v) w' :=by
   intro st hres a' w' σ' hr' he'
   cases hx:Z2K E st.H st.s fn.results.toList with
   | none=>simp [hx] at hres
   | some x=>
    simp only [hx,Option.map_some,Option.some.injEq,Prod.mk.injEq] at hres
    obtain⟨rfl,rfl⟩:=hres
    obtain⟨u,hu,hur⟩:=Zc2 (P:=P) hE hP hr'.inv hr'.slots hx
    exact⟨hr'.calm,u,hu,u,σ',rfl,hr'.inv,he',hur⟩
  split at hb
  ·rename_i st hc
   exact ZdB hE hP hcall hpure (Zxr hE hP hcall hpure n) c _ .normal st hcm hc _ σ _ w hrel (hfin st hb)
  ·rename_i st hc
   exact ZdB hE hP hcall hpure (Zxr hE hP hcall hpure n) c _ .ret st hcm hc _ σ _ w hrel (hfin st hb)
  ·cases hb
theorem Zuy (hE:Z0A E) (hP:E.P=P) {call:Z1f} (hcall:∀B w0,Z64 P E B w0 call) (hpure:Z7L E call) {fn:Func} (hfn:E.func f=some fn) {n:Nat} {as:List V} {H' : Heap} {r0 r:V}
  (hb:ZqP call n E f fn as []=some (r0,H')) (hfr:Zzx H' r0=some r):Zdb P E f as r:=by
 intro fz w vs hcells hg hr
 have hI:Inv w.heap.size (Start.of w fz) (bare fz) [] w:=⟨Below.refl _ w,Nat.le_refl _,fun id L hL=>(by cases hL),fun id bx hb=>by simp at hb,fun i j b1 b2 L1 L2 g h1=>by simp at h1,hcells,
  fun b c hc id bx L hb=>by simp at hb,fun id bx hb=>by simp at hb,fun b c hc _=>hc,fun b hb=>hb.elim⟩
 obtain⟨_,hc⟩:=ZEF hE hP (hcall w.heap.size (Start.of w fz)) hpure hfn hb hI hg hr
 refine hc.mono ?_
 rintro e w' ⟨u,σ',rfl,hI',hEx',hr'⟩
 obtain⟨hI2,hEx2⟩:=hI'.freeze (ZHc r0)
 have hr2:=Zlk hI' hr' hfr (ZHc r0) (fun i hi=>hi)
 have hn:=ZiA hI' hr' hfr
 refine⟨u,(σ'.freeze H' (ZHc r0)).fz,rfl,hI2.below,fun b c h=>(hEx2.fz b c (hEx'.fz b c h).1).1,fun b c h hlt=>hI2.old b c h hlt,hI2.cells,?_,hn⟩
 exact hr2.bare (fun b c h=>⟨h,rfl⟩) (Z9v.refl _) (by simp [ZB,hn])
theorem ZqQ {H:Heap}:∀{xs ys:List V},Z1n H xs=some ys->xs.length=ys.length:=by
 intro xs
 induction xs with
 | nil=>intro ys h;simp [Z1n] at h;subst h;rfl
 | cons x xs ih=>
  intro ys h
  simp only [Z1n] at h
  split at h
  ·rename_i a b ha hb
   simp only [Option.some.injEq] at h
   subst h
   simp [ih hb]
  ·cases h
theorem ZFq {H H' : Heap} {x:V} (h:Z0Y (Z0Q x) H H'):ZqM H' x=ZqM H x:=by
 unfold ZqM
 split
 ·rename_i id i off tot
  split
  ·cases hb:Z10 H id tot with
   | none=>rw [Z47 (h id (by simp [Z0Q,Z9X])) hb]
   | some b=>
    obtain⟨b',h1,h2⟩:=Z3J (h id (by simp [Z0Q,Z9X])) hb
    obtain⟨e1,e2,e3,e4,e5⟩:=ZdL h2
    simp only [h1,e1,e4,e5]
  ·rfl
 ·exact ZE8 h
theorem Zx0 {H H' : Heap} {xs:List V} (h:Z0Y (xs.flatMap Z0Q) H H'):Z3W H' xs=Z3W H xs:=by
 induction xs with
 | nil=>rfl
 | cons x xs ih=>
  simp only [Z3W]
  rw [ZFq (fun i hi=>h i (by simp [hi])),ih (fun i hi=>h i (by rw [List.flatMap_cons];exact List.mem_append_right _ hi))]
theorem ZCV (n:Nat):ZAQ E (Z2D E n):=by
 intro f hp args H v H1 h
 cases n with
 | zero=>cases h
 | succ n=>
  unfold Z2D at h
  cases henv:E.env f with
  | some F=>
   simp only [henv] at h
   by_cases hq:args.any Zl4=true
   ·rw [if_pos hq] at h
    have ho:E.own f=none:=by simpa using (Bool.and_eq_true_iff.1 hp).2
    cases hf:Z3W H args with
    | none=>simp [hf,ho] at h
    | some as=>
     simp only [hf,ho] at h
     cases hF:F (Z0p E.rows (E.par f) as) with
     | none=>simp [hF] at h
     | some r=>
      simp only [hF] at h
      split at h
      ·rename_i hfl
       simp only [Option.some.injEq,Prod.mk.injEq] at h
       refine⟨h.2.symm,fun H' hs=>?_⟩
       unfold Z2D
       simp only [henv]
       rw [if_pos hq,Zx0 hs,hf]
       simp only [ho,hF]
       rw [if_pos hfl,h.1]
      ·cases h
   rw [if_neg hq] at h
   cases hf:Z1n H args with
   | none=>simp [hf] at h
   | some as=>
    have ho:E.own f=none:=by simpa using (Bool.and_eq_true_iff.1 hp).2
    simp only [hf,ho] at h
    cases hF:F (Z0p E.rows (E.par f) as) with
    | none=>simp [hF] at h
    | some r=>
     simp only [hF,Option.map_some,Option.some.injEq,Prod.mk.injEq] at h
     refine⟨h.2.symm,fun H' hs=>?_⟩
     unfold Z2D
     simp only [henv]
     rw [if_neg hq,Zie hs,hf]
     simp only [ho,hF,Option.map_some,h.1]
  | none=>
   have hpf:E.pure f=true:=by simpa [henv] using (Bool.and_eq_true_iff.1 hp).1
   simp only [henv,hpf,if_true] at h
   cases hfn:E.func f with
   | none=>simp [hfn] at h
   | some fn=>
    simp only [hfn] at h
    cases hf:Z1n H args with
    | none=>simp [hf] at h
    | some as=>
     simp only [hf] at h
     cases hbd:ZqP (Z2D E n) n E f fn as [] with
     | none=>simp [hbd] at h
     | some rr=>
      obtain⟨r0,H2⟩:=rr
      simp only [hbd] at h
      cases hft:Zzx H2 r0 with
      | none=>simp [hft] at h
      | some r=>
       simp only [hft,Option.map_some,Option.some.injEq,Prod.mk.injEq] at h
       refine⟨h.2.symm,fun H' hs=>?_⟩
       unfold Z2D
       simp only [henv,hpf,if_true,hfn]
       rw [Zie hs,hf]
       simp only [hbd,hft,Option.map_some,h.1]
theorem ZgJ (H:Heap) (a b:List Nat):bump (bump H a) b=bump H (a++b):=by
 induction a generalizing H with
 | nil=>rfl
 | cons i a ih=>simp only [bump,List.cons_append,ih]
theorem Zp0 {f:Fk} {H H1:Heap} {x y:V} (h:Z9N f H x=some (y,H1)) (hn:Z2c y=[]):∃ids,(∀i∈ids,i∈Z9X x)/\H1=bump H ids/\∀H',Z0Y (Z9X x) H H' -> Z9N f H' x=some (y,bump H' ids):=by
 cases f with
 | s e sz=>
  simp only [Z9N] at h
  cases hf:ZpL H x with
  | none=>simp [hf] at h
  | some w=>
   simp only [hf,Option.map_some,Option.some.injEq,Prod.mk.injEq] at h
   obtain⟨rfl,rfl⟩:=h
   exact⟨ZcZ x,fun i hi=>ZAp hi,rfl,fun H' hs=>by simp only [Z9N,Zrl hs,hf,Option.map_some]⟩
 | own e sz=>
  exfalso
  simp only [Z9N,ZGJ] at h
  split at h
  ·simp only [Option.some.injEq,Prod.mk.injEq] at h
   rw [<- h.1] at hn
   simp [Z2c] at hn
  ·simp only [Option.some.injEq,Prod.mk.injEq] at h
   rw [<- h.1] at hn
   simp [Z2c] at hn
  ·split at h
   ·simp only [Option.some.injEq,Prod.mk.injEq] at h
    rw [<- h.1] at hn
    simp [Z2c] at hn
   ·cases h
  ·cases h
 | keep=>
  simp only [Z9N,Option.some.injEq,Prod.mk.injEq] at h
  obtain⟨rfl,rfl⟩:=h
  exact⟨[],by simp,rfl,fun H' _=>rfl⟩
theorem ZCI:∀{fl:List Fk} {H H1:Heap} {xs ys:List V},Z8L fl H xs=some (ys,H1)->Z0h ys=[]->∃ids,(∀i∈ids,i∈xs.flatMap Z9X)/\H1=bump H ids/\∀H',Z0Y (xs.flatMap Z9X) H H' -> Z8L fl H' xs=some (ys,bump H' ids):=by
 intro fl
 induction fl with
 | nil=>
  intro H H1 xs ys h hn
  cases xs with
  | nil=>
   simp only [Z8L,Option.some.injEq,Prod.mk.injEq] at h
   obtain⟨rfl,rfl⟩:=h
   exact⟨[],by simp,rfl,fun H' _=>rfl⟩
  | cons=>simp [Z8L] at h
 | cons f fl ih=>
  intro H H1 xs ys h hn
  cases xs with
  | nil=>simp [Z8L] at h
  | cons x xs=>
   simp only [Z8L] at h
   cases h1:Z9N f H x with
   | none=>simp [h1] at h
   | some r=>
    obtain⟨y,Ha⟩:=r
    simp only [h1] at h
    cases h2:Z8L fl Ha xs with
    | none=>simp [h2] at h
    | some q=>
     obtain⟨zs,Hb⟩:=q
     simp only [h2,Option.some.injEq,Prod.mk.injEq] at h
     obtain⟨rfl,rfl⟩:=h
     simp only [Z0h,List.append_eq_nil_iff] at hn
     obtain⟨i1,a1,rfl,a3⟩:=Zp0 h1 hn.1
     obtain⟨i2,b1,rfl,b3⟩:=ih h2 hn.2
     refine⟨i1++i2,fun i hi=>?_,ZgJ H i1 i2,fun H' hs=>?_⟩
     ·rw [List.flatMap_cons]
      rcases List.mem_append.1 hi with hi|hi
      ·exact List.mem_append_left _ (a1 i hi)
      ·exact List.mem_append_right _ (b1 i hi)
     ·have hs1:Z0Y (Z9X x) H H' :=fun i hi=>hs i (by rw [List.flatMap_cons];exact List.mem_append_left _ hi)
      have hs2:Z0Y (xs.flatMap Z9X) (bump H i1) (bump H' i1):=(Z7C _ i1 H).symm.trans (Z0Y.trans (fun i hi=>hs i (by rw [List.flatMap_cons];exact List.mem_append_right _ hi)) (Z7C _ i1 H'))
      simp only [Z8L,a3 H' hs1,b3 _ hs2,ZgJ]
theorem ZBt {fl:List Fk} {H H1:Heap} {x y:V} (h:Zhm fl H x=some (y,H1)) (hn:Z2c y=[]):∃ids,(∀i∈ids,i∈Z0Q x)/\H1=bump H ids/\∀H',Z0Y (Z0Q x) H H' -> Zhm fl H' x=some (y,bump H' ids):=by
 unfold Zhm at h
 split at h
 ·rename_i cs
  cases h1:Z8L fl H cs with
  | none=>simp [h1] at h
  | some r=>
   obtain⟨ys,Ha⟩:=r
   simp only [h1,Option.map_some,Option.some.injEq,Prod.mk.injEq] at h
   obtain⟨rfl,rfl⟩:=h
   obtain⟨ids,a1,a2,a3⟩:=ZCI h1 (by simpa [Z2c] using hn)
   exact⟨ids,a1,a2,fun H' hs=>by simp only [Zhm,a3 H' hs,Option.map_some]⟩
 ·rename_i hne
  have hr:Z0Q x=Z9X x:=by
   unfold Z0Q
   split
   ·rename_i cs;exact absurd rfl (hne cs)
   ·rfl
  split at h
  ·rename_i f
   obtain⟨ids,a1,a2,a3⟩:=Zp0 h hn
   refine⟨ids,by rw [hr];exact a1,a2,fun H' hs=>?_⟩
   unfold Zhm
   split
   ·rename_i cs;exact absurd rfl (hne cs)
   ·exact a3 H' (by rw [hr] at hs;exact hs)
  ·cases h
theorem ZCg:∀{fa:List (List Fk)} {H H1:Heap} {xs ys:List V},Z9x fa H xs=some (ys,H1)->Z0h ys=[]->∃ids,(∀i∈ids,i∈xs.flatMap Z0Q)/\H1=bump H ids/\∀H',Z0Y (xs.flatMap Z0Q) H H' -> Z9x fa H' xs=some (ys,bump H' ids):=by
 intro fl
 induction fl with
 | nil=>
  intro H H1 xs ys h hn
  cases xs with
  | nil=>
   simp only [Z9x,Option.some.injEq,Prod.mk.injEq] at h
   obtain⟨rfl,rfl⟩:=h
   exact⟨[],by simp,rfl,fun H' _=>rfl⟩
  | cons=>simp [Z9x] at h
 | cons f fl ih=>
  intro H H1 xs ys h hn
  cases xs with
  | nil=>simp [Z9x] at h
  | cons x xs=>
   simp only [Z9x] at h
   cases h1:Zhm f H x with
   | none=>simp [h1] at h
   | some r=>
    obtain⟨y,Ha⟩:=r
    simp only [h1] at h
    cases h2:Z9x fl Ha xs with
    | none=>simp [h2] at h
    | some q=>
     obtain⟨zs,Hb⟩:=q
     simp only [h2,Option.some.injEq,Prod.mk.injEq] at h
     obtain⟨rfl,rfl⟩:=h
     simp only [Z0h,List.append_eq_nil_iff] at hn
     obtain⟨i1,a1,rfl,a3⟩:=ZBt h1 hn.1
     obtain⟨i2,b1,rfl,b3⟩:=ih h2 hn.2
     refine⟨i1++i2,fun i hi=>?_,ZgJ H i1 i2,fun H' hs=>?_⟩
     ·rw [List.flatMap_cons]
      rcases List.mem_append.1 hi with hi|hi
      ·exact List.mem_append_left _ (a1 i hi)
      ·exact List.mem_append_right _ (b1 i hi)
     ·have hs1:Z0Y (Z0Q x) H H' :=fun i hi=>hs i (by rw [List.flatMap_cons];exact List.mem_append_left _ hi)
      have hs2:Z0Y (xs.flatMap Z0Q) (bump H i1) (bump H' i1):=(Z7C _ i1 H).symm.trans (Z0Y.trans (fun i hi=>hs i (by rw [List.flatMap_cons];exact List.mem_append_right _ hi)) (Z7C _ i1 H'))
      simp only [Z9x,a3 H' hs1,b3 _ hs2,ZgJ]
theorem ZDd {n:Nat} {H H2:Heap} {todo ids:List Nat} (h:Zg8 n [] H todo []=some (H2,ids)):todo=[]/\H2=H/\ids=[]:=by
 cases n with
 | zero=>cases h
 | succ n=>
  cases todo with
  | nil=>
   simp only [Zg8,Option.some.injEq,Prod.mk.injEq] at h
   exact⟨rfl,h.1.symm,h.2.symm⟩
  | cons i todo=>
   exfalso
   unfold Zg8 at h
   simp only [List.contains_nil,Bool.false_eq_true,if_false] at h
   split at h<;>first|(cases h;done)|simp_all
theorem ZBM {hs:ZD8} (hfb:hs.fb=[]) {args:List V} {H H1:Heap} {v:V} (h:Zo0 hs args H=some (v,H1)) :
  ∃ids nbs,(∀i∈ids,i∈args.flatMap Z0Q)/\H1=bump H ids++nbs/\∀H',H'.length=H.length->Z0Y (args.flatMap Z0Q) H H' -> Zo0 hs args H' = some (v,bump H' ids++nbs):=by
 unfold Zo0 at h
 unfold pack at h
 rw [hfb] at h
 cases hp:Z9x hs.fa H args with
 | none=>simp [hp] at h
 | some r=>
  obtain⟨as,Ha⟩:=r
  simp only [hp] at h
  cases hk:Zg8 1000 [] Ha (List.range 0++Z0h as) [] with
  | none=>rw [hk] at h;cases h
  | some q=>
   obtain⟨H2,ids0⟩:=q
   obtain⟨hr,rfl,rfl⟩:=ZDd hk
   simp only [List.range_zero,List.nil_append] at hr
   obtain⟨ids,a1,rfl,a3⟩:=ZCg hp hr
   simp only [hk] at h
   cases hrun:hs.run (Z6s (([]:List Nat).idxOf ·) as) (Zsy (bump H ids) []) with
   | none=>rw [hrun] at h;cases h
   | some rr=>
    obtain⟨r,H3⟩:=rr
    simp only [hrun,List.length_nil,Nat.zero_le,if_true,Option.some.injEq,Prod.mk.injEq,bump_length] at h
    obtain⟨rfl,rfl⟩:=h
    refine⟨ids,H3.map (Z2e (Zdn [] H.length)),a1,by simp only [Z7J,ZHz,bump_length],fun H' hl hs' =>?_⟩
    unfold Zo0 pack
    rw [hfb,a3 H' hs']
    simp only [List.range_zero,List.nil_append,hr,Zg8]
    have hsub:Zsy (bump H' ids) []=Zsy (bump H ids) []:=rfl
    simp only [hsub,hrun,List.length_nil,Nat.zero_le,if_true,bump_length,hl,Z7J,ZHz]
theorem ZBc (n:Nat):ZAr E (Z2D E n):=by
 intro f hf args H v H1 h
 cases n with
 | zero=>cases h
 | succ n=>
  have hf0:=hf
  unfold ZqO at hf
  simp only [Bool.and_eq_true,Option.isNone_iff_eq_none,Bool.not_eq_true'] at hf
  obtain⟨⟨h1,h2⟩,h3⟩:=hf
  cases hh:E.hm f [] with
  | none=>rw [hh] at h3;cases h3
  | some hs=>
   rw [hh] at h3
   have hfb:hs.fb=[]:=by simpa using h3
   have he:∀H,Z2D E (n+1) f args H=Zo0 hs args H:=fun H=>by
    unfold Z2D
    simp only [h1,h2,Bool.false_eq_true,if_false,hf0,if_true,hh]
   rw [he] at h
   obtain⟨ids,nbs,a1,a2,a3⟩:=ZBM hfb h
   exact⟨ids,nbs,a1,a2,fun H' hl hs' =>by rw [he];exact a3 H' hl hs'⟩
theorem Z4d (n:Nat):Z7L E (Z2D E n):=⟨ZCV n,ZBc n⟩
def ZMk (w:World) (b c:Nat):Prop:=∃u,w.cell? ⟨b,c,none⟩=some u
theorem ZFr {σ σ' : Sg} {w w' : World} {cs:List V} {ws:List Value} (h:Zw σ w cs ws):Zw σ' w' (cs.map ZBm) ws:=by
 induction cs generalizing ws with
 | nil=>cases h.Z0y;exact .nil
 | cons c cs ih=>
  obtain⟨v,vs,rfl,h1,h2⟩:=h.ZR
  simp only [List.map_cons]
  refine Zw.Z0j.2 ⟨?_,ih h2⟩
  cases h1 with
  | lit hl _=>exact .lit hl .nil
  | _=>exact .und _ .nil
theorem Zpx (cs:List V):ZB (cs.map ZBm)=true:=by
 induction cs with
 | nil=>rfl
 | cons c cs ih=>cases c<;>simp [ZBm,ZB,ZV,ih]
theorem ZDD {B:Nat} {w0:Start} {σ:Sg} {H:Heap} {w:World} (h:Inv B w0 σ H w) {x y:V} {v:Value} (hr:Zw σ w [x] [v]) (hs:ZqM H x=some y):Zw (bare (ZMk w)) w [y] [v]/\ZV y=true:=by
 unfold ZqM at hs
 split at hs
 ·rename_i id i off tot
  split at hs
  ·rename_i hz
   obtain⟨rfl,rfl⟩:=hz
   split at hs
   ·rename_i b hb
    obtain⟨b1,b2,b3⟩:=Z5R hb
    split at hs
    ·rename_i cs hrow hxs
     simp only [Option.some.injEq] at hs
     subst hs
     obtain⟨L,us,m⟩:=h.meet b1 b2
     cases hr with
     | ptr g k1 k2 k3 k4 k5=>
      rename_i L'
      have hL:L' = L:=by
       have:=m.box
       rw [k1] at this
       cases this
       rfl
      subst hL
      obtain⟨n,c,hv⟩:=k3 (m.tot.trans b3)
      have hrep:=m.Z5G
      rw [hxs] at hrep
      have hus:∃ws:List Value,us=[.agg ws.toArray]/\Zw σ w cs ws/\∀u∈ws,u.oneCell' = true:=by
       cases hrep with
       | agg q1 q2 q3=>cases q3;exact⟨_,rfl,q1,q2⟩
      obtain⟨ws,hus,hcs,hone⟩:=hus
      refine⟨?_,by simp [ZV,ZB,Zpx]⟩
      have key:Zw (bare (ZMk w)) w [.ept b.esz [.agg (cs.map ZBm)] 0 0] [.pointer (some ⟨g,0+0*b.esz+0,none⟩)]:=by
       refine .ept (us:=us) g 0 b.esz 0 0 ?_ ?_ (fun u hu=>by rw [m.esz];exact m.sizes u hu) m.ones ?_ .nil
       ·rw [hus];exact .agg (ZFr hcs) hone .nil
       ·intro x hx
        simp only [List.mem_singleton] at hx
        subst hx
        simp [fzV,okV,ZV,Zpx]
       ·intro j u hu
        have:=m.cell (g:=g) (by rw [hv];rfl) j u hu
        rw [Nat.zero_add]
        exact⟨⟨u,this⟩,this⟩
      rw [k4]
      simpa using key
    ·cases hs
   ·cases hs
  ·cases hs
 ·have hn:=Zh8 h hr hs
  refine⟨?_,hn⟩
  obtain⟨hI1,hEx1⟩:=h.freeze (Z6N x)
  have:=ZkL h hr hs (Z6N x) (fun i hi=>hi)
  exact this.bare (fun b c hh=>⟨hI1.cells b c hh,rfl⟩) (Z9v.refl _) (by simp [ZB,hn])
theorem ZsA {B:Nat} {w0:Start} {σ:Sg} {H:Heap} {w:World} (h:Inv B w0 σ H w):∀{xs ys:List V} {vs:List Value},Zw σ w xs vs->Z3W H xs=some ys->Zw (bare (ZMk w)) w ys vs/\ZB ys=true:=by
 intro xs
 induction xs with
 | nil=>
  intro ys vs hr hs
  cases hr.Z0y
  simp only [Z3W,Option.some.injEq] at hs
  subst hs
  exact⟨.nil,rfl⟩
 | cons x xs ih=>
  intro ys vs hr hs
  obtain⟨v,vs',rfl,h1,h2⟩:=hr.ZR
  simp only [Z3W] at hs
  split at hs
  ·rename_i y ys' e1 e2
   simp only [Option.some.injEq] at hs
   subst hs
   obtain⟨r1,n1⟩:=ZDD h h1 e1
   obtain⟨r2,n2⟩:=ih h2 e2
   exact⟨Zw.Z0j.2 ⟨r1,r2⟩,by simp [ZB,n1,n2]⟩
  ·cases hs
theorem ZuK {σ σ' : Sg} {w w' : World} {cs:List V} {ws:List Value} (h:Zw σ w cs ws) (hl:cs.all Z8p=true):Zw σ' w' cs ws:=by
 induction cs generalizing ws with
 | nil=>cases h.Z0y;exact .nil
 | cons c cs ih=>
  obtain⟨v,vs,rfl,h1,h2⟩:=h.ZR
  simp only [List.all_cons,Bool.and_eq_true] at hl
  refine Zw.Z0j.2 ⟨?_,ih h2 hl.2⟩
  cases h1 with
  | lit hl' _=>exact .lit hl' .nil
  | _=>simp [Z8p] at hl
theorem ZBP {σ σ' : Sg} {w w' : World} {x:V} {u:Value} (h:Zw σ w [x] [u]) (hl:Zh2 x=true):Zw σ' w' [x] [u]:=by
 cases h with
 | lit hl' _=>exact .lit hl' .nil
 | agg h1 h2 _=>exact .agg (ZuK h1 (by simpa [Zh2] using hl)) h2 .nil
 | _=>simp [Zh2] at hl
theorem ZCD {σ σ' : Sg} {w w' : World} {cs:List V} {ws:List Value} (h:Zw σ w cs ws) (hl:cs.all Zh2=true):Zw σ' w' cs ws:=by
 induction cs generalizing ws with
 | nil=>cases h.Z0y;exact .nil
 | cons c cs ih=>
  obtain⟨v,vs,rfl,h1,h2⟩:=h.ZR
  simp only [List.all_cons,Bool.and_eq_true] at hl
  exact Zw.Z0j.2 ⟨ZBP h1 hl.1,ih h2 hl.2⟩
theorem ZGA {σ σ' : Sg} {w w' : World} {x:V} {u:Value} (h:Zw σ w [x] [u]) (hl:ZoJ x=true):Zw σ' w' [x] [u]:=by
 cases h with
 | lit hl' _=>exact .lit hl' .nil
 | agg h1 h2 _=>exact .agg (ZuK h1 (by simpa [ZoJ,Zh2] using hl)) h2 .nil
 | tup h1 _=>exact .tup (ZCD h1 (by simpa [ZoJ] using hl)) .nil
 | _=>simp [ZoJ,Zh2] at hl
theorem ZzB {P:Program} {E:Env} {B:Nat} {w0:Start} {σ:Sg} {H:Heap} {w:World} {f:FuncId} {args as:List V} {r:V} {vs:List Value} (ts:List TypeId) (hp:ZB (Z0p E.rows ts as)=true->Zdb P E f (Z0p E.rows ts as) r) (hf:Z3W H args=some as) (hfl:ZoJ r=true) (hI:Inv B w0 σ H w) (hg:Z0r E σ w) (hr:Zw σ w args vs) :
  Calls P f vs.toArray w fun e w' =>∃u σ',e = .returned u/\Inv B w0 σ' (bump H (args.flatMap Z6N)) w' /\ Ext σ w σ' w' /\ Zw σ' w' [r] [u]:=by
 obtain⟨hI1,hEx1⟩:=hI.freeze (args.flatMap Z6N)
 obtain⟨r1,n1⟩:=ZsA hI hr hf
 have hr1:=Z7M E.rows ts r1
 refine(hp (by rw [Z3F];exact n1) (ZMk w) w vs (fun b c h=>h) (hg.bare (fun b c h=>⟨hI.cells b c h,rfl⟩) (Z9v.refl _)) hr1).mono ?_
 rintro e w' ⟨u,fz',rfl,hb,hmono,hold,hcells,hru,hnr⟩
 obtain⟨hI2,hEx2⟩:=hI1.grown (Below.grownBy hb)
 exact⟨u,_,rfl,hI2,hEx1.trans hEx2,ZGA hru hfl⟩
theorem ZpZ (hE:Z0A E) (hP:E.P=P) (hF:Zjb P E):∀(n:Nat) (B:Nat) (w0:Start),Z64 P E B w0 (Z2D E n):=by
 intro n
 induction n with
 | zero=>intro B w0 f args H x H' σ w vs h;cases h
 | succ n ih=>
  intro B w0 f args H x H' σ w vs h hI hg hr
  unfold Z2D at h
  cases henv:E.env f with
  | some F=>
   simp only [henv] at h
   by_cases hq:args.any Zl4=true
   ·rw [if_pos hq] at h
    cases ho:E.own f with
    | some e=>simp [ho] at h
    | none=>
     cases hf:Z3W H args with
     | none=>simp [ho,hf] at h
     | some as=>
      simp only [ho,hf] at h
      cases hFa:F (Z0p E.rows (E.par f) as) with
      | none=>simp [hFa] at h
      | some r=>
       simp only [hFa] at h
       split at h
       ·rename_i hfl
        simp only [Option.some.injEq,Prod.mk.injEq] at h
        obtain⟨rfl,rfl⟩:=h
        obtain⟨h1,h2⟩:=hF.env f F henv
        refine⟨h1,ZzB (E.par f) (fun hn=>?_) hf hfl hI hg hr⟩
        have h3:=h2 _ r hn hFa
        rw [ho] at h3
        exact h3
       ·cases h
   rw [if_neg hq] at h
   cases hf:Z1n H args with
   | none=>simp [hf] at h
   | some as=>
    simp only [hf] at h
    cases hFa:F (Z0p E.rows (E.par f) as) with
    | none=>
     cases ho:E.own f<;>simp [ho,hFa] at h
    | some r=>
     obtain⟨h1,h2⟩:=hF.env f F henv
     have h3:=h2 _ r (by rw [Z3F];exact Z4U hI hr hf) hFa
     cases ho:E.own f with
     | none=>
      simp only [ho,hFa,Option.map_some,Option.some.injEq,Prod.mk.injEq] at h
      obtain⟨rfl,rfl⟩:=h
      rw [ho] at h3
      exact⟨h1,Zpt (E.par f) h3 hf hI hg hr⟩
     | some e=>
      simp only [ho,hFa] at h
      rw [ho] at h3
      split at h
      ·rename_i sz xs hr0
       simp only [Option.some.injEq,Prod.mk.injEq] at h hr0
       obtain⟨rfl,rfl⟩:=h
       exact⟨h1,ZtE (E.par f) (h3 sz xs hr0) hf hI hg hr⟩
      ·cases h
  | none=>
   simp only [henv] at h
   split at h
   ·cases hfn:E.func f with
    | none=>simp [hfn] at h
    | some fn=>
     simp only [hfn] at h
     cases hf:Z1n H args with
     | none=>simp [hf] at h
     | some as=>
      simp only [hf] at h
      cases hbd:ZqP (Z2D E n) n E f fn as [] with
      | none=>simp [hbd] at h
      | some rr=>
       obtain⟨r0,H2⟩:=rr
       simp only [hbd] at h
       cases hft:Zzx H2 r0 with
       | none=>simp [hft] at h
       | some r=>
        simp only [hft,Option.map_some,Option.some.injEq,Prod.mk.injEq] at h
        obtain⟨rfl,rfl⟩:=h
        have hent:Z7U P f:=by
         obtain⟨hf1,hf2⟩:=hE.func f fn hfn
         rw [hP] at hf1
         refine⟨fn,hf1,?_,hf2⟩
         unfold ZqP at hbd
         cases hb:fn.body with
         | none=>simp [hb] at hbd
         | some c=>rfl
        exact⟨hent,Zpt [] (by simpa [Z0p] using Zuy hE hP ih (Z4d n) hfn hbd hft) hf hI hg hr⟩
   ·cases hhm:E.hm f (if ZqO E f then [] else Zku args) with
    | some hs=>
     simp only [hhm] at h
     obtain⟨h1,h2⟩:=hF.hm f _ hs hhm
     exact⟨h1,ZIs h2 h hI hg hr⟩
    | none=>
     simp only [hhm] at h
     cases hfn:E.func f with
     | none=>simp [hfn] at h
     | some fn=>
      simp only [hfn] at h
      exact ZEF hE hP (ih B w0) (Z4d n) hfn h hI hg hr
theorem ZFL {n:Nat} {as:List V} {r:V} {H' : Heap} (hE:Z0A E) (hP:E.P=P) (hF:Zjb P E) (hp:E.pure f=true) (hne:E.env f=none) (hn:Z1n [] as=some as) (h:Z2D E (n+1) f as []=some (r,H')):Zdb P E f as r:=by
 unfold Z2D at h
 simp only [hne,hp,if_true] at h
 cases hfn:E.func f with
 | none=>simp [hfn] at h
 | some fn=>
  simp only [hfn,hn] at h
  cases hbd:ZqP (Z2D E n) n E f fn as [] with
  | none=>simp [hbd] at h
  | some rr=>
   obtain⟨r0,H2⟩:=rr
   simp only [hbd] at h
   cases hft:Zzx H2 r0 with
   | none=>simp [hft] at h
   | some r' =>
    simp only [hft,Option.map_some,Option.some.injEq,Prod.mk.injEq] at h
    obtain⟨rfl,_⟩:=h
    exact Zuy hE hP (ZpZ hE hP hF n) (Z4d n) hfn hbd hft
end
end Go.Proofs.YtjodhcdmhobmoaaGreatDoor.Le
namespace Go.Proofs.YtjodhcdmhobmoaaGreatDoor.Le
inductive SV (Ty:Nat->Type) where
 | lit (v:Value)
 | si (k:IntKind) (a:Int)
 | sb (b:Bool)
 | ss (s:ByteArray)
 | agg (cs:List (SV Ty))
 | tup (vs:List (SV Ty))
 | nil (e:Nat)
 | sl (t:Nat) (xs:List (Ty t))
 | slt (t:Nat) (xs:List (Ty t))
 | all (id n:Nat)
 | lsl (id off len tot:Nat)
 | ptr (id i off tot:Nat)
 | ept (t:Nat) (xs:List (Ty t)) (i off:Nat)
 | fn (f:FuncId) (first caps:List (SV Ty))
 | raw (v:V)
 | mps (kvs:List (SV Ty))
 | no
 | und
instance (Ty:Nat->Type):Inhabited (SV Ty):=⟨.und⟩
structure Z3Q where
 Ty:Nat->Type
 esz:Nat->Nat
 enc:(t:Nat)->Ty t->V
 encS:(t:Nat)->Ty t->SV Ty
 Zsr:(t:Nat)->SV Ty->Option (Ty t)
 keys:List Nat
section
variable (U:Z3Q)
mutual
def toV:SV U.Ty->V
 | .lit v=>.lit v
 | .si k a=>.lit (.int k a)
 | .sb b=>.lit (.bool b)
 | .ss s=>.lit (.string s)
 | .agg cs=>.agg (ZU cs)
 | .tup cs=>.tup (ZU cs)
 | .nil e=>.sl true e []
 | .sl t xs=>.sl false (U.esz t) (xs.map (U.enc t))
 | .slt t xs=>.slt false (U.esz t) (xs.map (U.enc t))
 | .all id n=>.lsl id 0 n n
 | .lsl id off len tot=>.lsl id off len tot
 | .ptr id i off tot=>.ptr id i off tot
 | .ept t xs i off=>.ept (U.esz t) (xs.map (U.enc t)) i off
 | .fn f a b=>.fn f (ZU a) (ZU b)
 | .raw v=>v
 | .mps cs=>.mpl (ZU cs)
 | .no=>.no
 | .und=>.und
def ZU:List (SV U.Ty)->List V
 | []=>[]
 | x::xs=>toV x::ZU xs
end
inductive ZDY (Ty:Nat->Type) where
 | var (elem:TypeId) (esz:Nat) (x:SV Ty)
 | row (t:Nat) (xs:List (Ty t)) (fl:Option Nat)
 | dead
 | fvar (elem:TypeId) (esz:Nat) (x:SV Ty)
def ZDY.floor {Ty:Nat->Type} (fl:Option Nat):Nat:=fl.getD 0
def Z0w:ZDY U.Ty->Box
 | .var e n x=>ZN false false e n [toV U x]
 | .row t xs fl=>{ live:=true,row:=true,Z9Q:=false,elem:=t,esz:=U.esz t,xs:=xs.map (U.enc t),floor:=fl.getD 0 }
 | .dead=>Zb3
 | .fvar e n x=>{ ZN false false e n [toV U x] with floor:=1 }
abbrev ZF:=List (ZDY U.Ty)
def toH (H:ZF U):Heap:=H.map (Z0w U)
structure SSt where
 s:List (SV U.Ty)
 H:ZF U
def Z2L (st:SSt U):St:=⟨ZU U st.s,toH U st.H⟩
inductive Tr (L:Type) where
 | leaf (l:L)
 | br (c:Bool) (a b:Tr L)
 | bind (t:Nat) (o:Option (U.Ty t)) (k:U.Ty t->Tr L)
 | chk (c:Bool) (a:Tr L)
 | fail
variable {U}
def Tr.andThen {L M:Type}:Tr U L->(L->Tr U M)->Tr U M
 | .leaf l,f=>f l
 | .br c a b,f=>.br c (a.andThen f) (b.andThen f)
 | .bind t o k,f=>.bind t o fun x=>(k x).andThen f
 | .chk c a,f=>.chk c (a.andThen f)
 | .fail,_=>.fail
def Tr.map {L M:Type} (g:L->M):Tr U L->Tr U M
 | .leaf l=>.leaf (g l)
 | .br c a b=>.br c (a.map g) (b.map g)
 | .bind t o k=>.bind t o fun x=>(k x).map g
 | .chk c a=>.chk c (a.map g)
 | .fail=>.fail
def Tr.den {L R:Type} (J:L->Option R):Tr U L->Option R
 | .leaf l=>J l
 | .br c a b=>cond c (a.den J) (b.den J)
 | .bind t o k=>o.bind fun x=>(k x).den J
 | .chk c a=>cond c (a.den J) none
 | .fail=>none
def Tr.Zz {L:Type}:Tr U L->L->Prop
 | .leaf l,x=>l=x
 | .br c a b,x=>(c=true/\a.Zz x)\/(c=false/\b.Zz x)
 | .bind t o k,x=>∃a,o=some a/\(k a).Zz x
 | .chk c a,x=>c=true/\a.Zz x
 | .fail,_=>False
def Tr.opt {L:Type}:Option L->Tr U L
 | some l=>.leaf l
 | none=>.fail
def Tr.when {L:Type} (p:Prop) [Decidable p] (a:Tr U L):Tr U L:=if p then a else .fail
variable (U)
def ZLq:V->SV U.Ty
 | .lit v=>.lit v
 | .sl true e []=>.nil e
 | .no=>.no
 | .und=>.und
 | v=>.raw v
def ofV:V->SV U.Ty
 | .agg cs=>.agg (cs.map (ZLq U))
 | v=>ZLq U v
variable {U}
def cellsS:SV U.Ty->List (SV U.Ty)
 | .agg cs=>cs
 | v=>[v]
def okS:SV U.Ty->Bool
 | .und | .no | .tup _ | .mps _=>false
 | .raw (.agg _)=>false
 | .raw v=>okV v
 | _=>true
def ZMl:SV U.Ty->Option Value
 | .lit v=>some v
 | .si k a=>some (.int k a)
 | .sb b=>some (.bool b)
 | .ss s=>some (.string s)
 | _=>none
def asInt:SV U.Ty->Option (IntKind×Int)
 | .lit (.int k a)=>some (k,a)
 | .si k a=>some (k,a)
 | _=>none
def ZeM:SV U.Ty->Option ByteArray
 | .lit (.string s)=>some s
 | .ss s=>some s
 | _=>none
def asBool:SV U.Ty->Option Bool
 | .lit (.bool b)=>some b
 | .sb b=>some b
 | _=>none
def evS (E:Env) (s:List (SV U.Ty)):Operand->SV U.Ty
 | .tmp t=>s.getD t .und
 | .const v=>ofV U (Z8U v)
 | .func f=>.fn f [] []
 | .global g=>match E.Z9Y g with|some r=>.raw (.ept r.length [.agg r] 0 0)|none=>.und
def ZIQ (s:List (SV U.Ty)) (d:Option Tmp) (v:SV U.Ty):List (SV U.Ty):=match d with|some t=>s.set t v|none=>s
def ZcI (H:ZF U) (k:Nat) (b:ZDY U.Ty):ZF U:=if k<H.length then H.set k b else H++[b]
def rowAt {L:Type} (H:ZF U) (id tot:Nat) (k:(t:Nat)->List (U.Ty t)->Option Nat->Tr U L):Tr U L:=
 match H[id]? with
 | some (.row t xs fl)=>.chk (xs.length==tot) (k t xs fl)
 | _=>.fail
def ZnB (H:ZF U):SV U.Ty->Tr U (SV U.Ty)
 | .lit v=>.leaf (.lit v)
 | .si k a=>.leaf (.si k a)
 | .sb b=>.leaf (.sb b)
 | .ss s=>.leaf (.ss s)
 | .nil e=>.leaf (.nil e)
 | .sl t xs=>.leaf (.sl t xs)
 | .slt t xs=>.leaf (.sl t xs)
 | .all id n=>rowAt H id n fun t xs _=>.leaf (.sl t xs)
 | .lsl id off len tot=>rowAt H id tot fun t xs _=>.chk (decide (off+len<=tot)) (.leaf (.sl t ((xs.drop off).take len)))
 | .fn f [] []=>.leaf (.fn f [] [])
 | _=>.fail
def ZxU (H:ZF U):List (SV U.Ty)->Tr U (List (SV U.Ty))
 | []=>.leaf []
 | v::vs=>(ZnB H v).andThen fun w=>(ZxU H vs).andThen fun ws=>.leaf (w::ws)
def ZJ5 (H:ZF U):SV U.Ty->Tr U (SV U.Ty)
 | .agg cs=>(ZxU H cs).andThen fun ws=>.leaf (.agg ws)
 | v=>ZnB H v
def Z9e (H:ZF U):List (SV U.Ty)->Tr U (List (SV U.Ty))
 | []=>.leaf []
 | v::vs=>(ZJ5 H v).andThen fun w=>(Z9e H vs).andThen fun ws=>.leaf (w::ws)
def Zor:SV U.Ty->List Nat
 | .lsl id _ _ _=>[id]
 | .all id _=>[id]
 | .raw v=>ZcZ v
 | _=>[]
def Zno:SV U.Ty->List Nat
 | .agg cs=>cs.flatMap Zor
 | .raw v=>Z6N v
 | v=>Zor v
def ZqT:ZDY U.Ty->ZDY U.Ty
 | .row t xs _=>.row t xs (some xs.length)
 | b=>b
def Zqz (H:ZF U):List Nat->ZF U
 | []=>H
 | i::is=>Zqz (H.modify i ZqT) is
def ZwK (cs:List (SV U.Ty)) (off n:Nat) (isAgg:Bool):Option (SV U.Ty):=
 if isAgg then (if off+n<=cs.length then some (.agg ((cs.drop off).take n)) else none) else cs[off]?
def loadT (E:Env) (H:ZF U) (t:TypeId) (a:SV U.Ty):Tr U (SV U.Ty):=
 match E.ti t with
 | none=>.fail
 | some i=>
  match a with
  | .ept et xs j off=>.bind et xs[j]? fun x=>.opt (ZwK (cellsS (U.encS et x)) off i.size i.isAgg)
  | .ptr id j off tot=>match H[id]? with
   | some (.var _ _ x)=>.when (j=0/\tot=1/\okS x=true) (.opt (ZwK (cellsS x) off i.size i.isAgg))
   | some (.row et xs _)=>.chk (xs.length==tot) (.bind et xs[j]? fun x=>.opt (ZwK (cellsS (U.encS et x)) off i.size i.isAgg))
   | _=>.fail
  | .raw (.ept _ [.agg cs] 0 off)=>.opt ((partOf cs off i.size i.isAgg).map (ofV U))
  | _=>.fail
def ZrH (x:SV U.Ty) (off:Nat) (cs:List (SV U.Ty)):Option (SV U.Ty):=
 match x with
 | .agg ds=>if off+cs.length<=ds.length then some (.agg (ds.take off++cs++ds.drop (off+cs.length))) else none
 | .raw _=>none
 | _=>match off,cs with|0,[c]=>some c|_,_=>none
def storeT (E:Env) (H:ZF U) (t:TypeId) (a v:SV U.Ty):Tr U (ZF U):=
 match E.ti t with
 | none=>.fail
 | some i=>
  match a with
  | .ptr id j off tot=>match H[id]? with
   | some (.var e n x)=>.when ((j=0/\tot=1)/\(cellsS v).length=i.size/\okS v=true/\okS x=true)
     (match ZrH x off (cellsS v) with
      | some x' =>.when (okS x' = true) (.leaf (H.set id (.var e n x')))
      | none=>.fail)
   | some (.row et xs fl)=>.when ((cellsS v).length=i.size/\okS v=true/\(Zno v).contains id=false)
     (.chk (xs.length==tot&&decide (fl.getD 0<=j)) (.bind et xs[j]? fun x=>(ZJ5 H v).andThen fun v' =>
      match ZrH (U.encS et x) off (cellsS v') with
      | some x' =>match U.Zsr et x' with
       | some y=>.when (okS v' = true/\okS x' = true) (.leaf ((Zqz H (Zno v)).set id (.row et (xs.set j y) fl)))
       | none=>.fail
      | none=>.fail))
   | _=>.fail
  | _=>.fail
end
end Go.Proofs.YtjodhcdmhobmoaaGreatDoor.Le
namespace Go.Proofs.YtjodhcdmhobmoaaGreatDoor.Le
section
variable {U:Z3Q}
def intT (op:BinOp) (k:IntKind) (a b:Int) (lit:Bool):Tr U (SV U.Ty):=
 match op with
 | .add=>.leaf (.si k (k.wrap (a+b)))
 | .sub=>.leaf (.si k (k.wrap (a - b)))
 | .mul=>.leaf (.si k (k.wrap (a*b)))
 | .quo=>if lit then (if b=0 then .fail else .leaf (.si k (k.wrap (a.tdiv b)))) else .chk (b != 0) (.leaf (.si k (k.wrap (a.tdiv b))))
 | .rem=>if lit then (if b=0 then .fail else .leaf (.si k (a.tmod b))) else .chk (b != 0) (.leaf (.si k (a.tmod b)))
 | .and | .or | .xor | .andNot=>.leaf (.si k (bits op k a b))
 | .eql=>.leaf (.sb (a==b))
 | .neq=>.leaf (.sb (a != b))
 | .lss=>.leaf (.sb (decide (a<b)))
 | .leq=>.leaf (.sb (decide (a<=b)))
 | .gtr=>.leaf (.sb (decide (a>b)))
 | .geq=>.leaf (.sb (decide (a>=b)))
 | _=>.fail
def ZIT (op:BinOp) (k:IntKind) (a b:Int):Option Int:=
 match op with
 | .shl=>some (k.wrap (a*2 ^ min b.toNat k.bits))
 | .shr=>some (a.fdiv (2 ^ min b.toNat k.bits))
 | _=>none
def ZAM (op:BinOp) (k:IntKind) (a b:Int) (lit:Bool):Tr U (SV U.Ty):=
 match ZIT op k a b with
 | none=>.fail
 | some r=>if lit then (if b<0 then .fail else .leaf (.si k r)) else .chk (decide (0<=b)) (.leaf (.si k r))
def strT (op:BinOp) (x y:ByteArray):Tr U (SV U.Ty):=
 match op with
 | .add=>.chk (decide (x.size+y.size<=maxLen)) (.leaf (.ss (x++y)))
 | .eql=>.leaf (.sb (x.toList==y.toList))
 | .neq=>.leaf (.sb !(x.toList==y.toList))
 | .lss=>.leaf (.sb (Op.bytesLess x.toList y.toList))
 | .leq=>.leaf (.sb (Op.bytesLess x.toList y.toList||x.toList==y.toList))
 | .gtr=>.leaf (.sb !(Op.bytesLess x.toList y.toList||x.toList==y.toList))
 | .geq=>.leaf (.sb !(Op.bytesLess x.toList y.toList))
 | _=>.fail
def Z3q:List FK->List (SV U.Ty)->List (SV U.Ty)->Option Bool
 | [],[],[]=>some true
 | .b::ks,x::xs,y::ys=>match asBool x,asBool y,Z3q ks xs ys with|some a,some b,some r=>some (a==b&&r)|_,_,_=>none
 | .i k::ks,x::xs,y::ys=>match asInt x,asInt y,Z3q ks xs ys with
  | some (k1,a),some (k2,b),some r=>if k1=k/\k2=k then some (a==b&&r) else none
  | _,_,_=>none
 | .s::ks,x::xs,y::ys=>match ZeM x,ZeM y,Z3q ks xs ys with|some a,some b,some r=>some (a==b&&r)|_,_,_=>none
 | _,_,_=>none
def isLit:SV U.Ty->Bool | .lit _=>true|_=>false
def ZJY:SV U.Ty->SV U.Ty | .si k a=>.lit (.int k a) | .sb b=>.lit (.bool b)|v=>v
def binT (E:Env) (op:BinOp) (t:TypeId) (x y:SV U.Ty):Tr U (SV U.Ty):=
 match x,y with
 | .agg xs,.agg ys=>match E.flat t with
  | some ks=>match Z3q ks xs ys with
   | some b=>(match op with | .eql=>.leaf (.sb b) | .neq=>.leaf (.sb !b)|_=>.fail)
   | none=>.fail
  | none=>.fail
 | x,y=>match asInt x,asInt y with
  | some (k,a),some (j,b)=>(match op with
   | .shl=>ZAM .shl k a b (isLit y)
   | .shr=>ZAM .shr k a b (isLit y)
   | op=>if k=j then intT op k a b (isLit y) else .fail)
  | _,_=>match ZeM x,ZeM y with
   | some a,some b=>strT op a b
   | _,_=>match asBool x,asBool y with
    | some a,some b=>if E.isBool t then (match op with | .eql=>.leaf (.sb (a==b)) | .neq=>.leaf (.sb (!(a==b)))|_=>.fail) else .fail
    | _,_=>.fail
def unT (op:UnOp) (x:SV U.Ty):Tr U (SV U.Ty):=
 match op,asInt x,asBool x with
 | .neg,some (k,n),_=>.leaf (.si k (k.wrap (0 - n)))
 | .xor,some (k,n),_=>.leaf (.si k (bits .xor k (if k.signed then -1 else k.max) n))
 | .not,_,some b=>.leaf (.sb !b)
 | _,_,_=>.fail
def mmT (isMax:Bool) (k:IntKind):Int->List (SV U.Ty)->Option Int
 | a,[]=>some a
 | a,x::rest=>match asInt x with
  | some (j,b)=>if k=j then mmT isMax k (if isMax then (if b>a then b else a) else (if b<a then b else a)) rest else none
  | none=>none
def Zr2 (isMax:Bool):List (SV U.Ty)->Tr U (SV U.Ty)
 | x::rest=>match asInt x with
  | some (k,a)=>(match mmT isMax k a rest with|some r=>.leaf (.si k r)|none=>.fail)
  | none=>.fail
 | []=>.fail
def ZtK (cs:List (SV U.Ty)):List (Nat×SV U.Ty)->(Nat->Option (Nat×Nat))->Option (List (SV U.Ty))
 | [],_=>some cs
 | (i,v)::rest,place=>
  match place i with
  | none=>none
  | some (off,size)=>if (cellsS v).length==size&&decide (off+size<=cs.length)&&okS v then ZtK (cs.take off++cellsS v++cs.drop (off+size)) rest place else none
def ZES (E:Env) (t:TypeId) (parts:List (Nat×SV U.Ty)):Option (SV U.Ty):=
 match E.ti t with
 | some i=>match i.zero with
  | some z=>
   if okV z then
    match i.ty with
    | .struct fs=>if fs.all fun x=>(E.ti x.2).isSome then (ZtK (cellsS (ofV U z)) parts (placesOf E fs)).map .agg else none
    | .array _ e=>match E.ti e with
     | some ei=>(ZtK (cellsS (ofV U z)) parts (fun i=>some (i*ei.size,ei.size))).map .agg
     | none=>none
    | _=>none
   else none
  | none=>none
 | none=>none
def Zpr (e:Nat):List (SV U.Ty)->Option (List (U.Ty e))
 | []=>some []
 | v::vs=>match okS v,U.Zsr e v,Zpr e vs with|true,some a,some as=>some (a::as)|_,_,_=>none
def Zeo (E:Env) (k:Nat) (H:ZF U) (t:TypeId) (n:Nat) (parts:List (Nat×SV U.Ty)):Tr U (SV U.Ty×ZF U):=
 match E.ti t with
 | some ⟨.slice e,_,_,_⟩=>match E.ti e with
  | some ei=>match ei.zero with
   | some z=>(Z9e H (parts.map (·.2))).andThen fun vs=>match Zpr e vs with
    | some ys=>.when ((n*ei.size<=16777216/\0<ei.size/\z.cells.length=ei.size/\okV z=true)/\parts.map (·.1)=List.range n/\vs.all (fun v=>(cellsS v).length==ei.size)=true/\U.esz e=ei.size)
      (.leaf (.all k n,ZcI (Zqz H ((parts.map (·.2)).flatMap Zno)) k (.row e ys none)))
    | none=>.fail
   | none=>.fail
  | none=>.fail
 | _=>.fail
def ZiE (E:Env) (s:TypeId) (x:SV U.Ty) (f:Nat):Option (SV U.Ty):=
 match E.ti s with
 | some ⟨.struct fs,_,_,_⟩=>match fs[f]? with
  | some (o,t)=>match E.size t with
   | some sz=>if sz=0 then none else match x with
    | .ptr id j off tot=>some (.ptr id j (off+o) tot)
    | .ept d xs j off=>some (.ept d xs j (off+o))
    | .raw (.ept d xs j off)=>some (.raw (.ept d xs j (off+o)))
    | _=>none
   | none=>none
  | none=>none
 | _=>none
def ZFw (E:Env) (s:TypeId) (x:SV U.Ty) (f:Nat):Option (SV U.Ty):=
 match E.ti s,x with
 | some ⟨.struct fs,_,_,_⟩,.agg cs=>match fs[f]? with
  | some (o,t)=>match E.ti t with|some i=>ZwK cs o i.size i.isAgg|none=>none
  | none=>none
 | _,_=>none
def ZAB (H:ZF U) (x:SV U.Ty) (e:Nat):Tr U (List (U.Ty e)):=
 let go (t:Nat) (xs:List (U.Ty t)):Tr U (List (U.Ty e)):=if h:t=e then .leaf (h▸xs) else .fail
 match x with
 | .nil _=>.leaf []
 | .sl t xs=>go t xs
 | .slt t xs=>go t xs
 | .all id n=>rowAt H id n fun t xs _=>go t xs
 | .lsl id off len tot=>rowAt H id tot fun t xs _=>.chk (decide (off+len<=tot)) (go t ((xs.drop off).take len))
 | _=>.fail
def ZxO (E:Env) (k:Nat) (H:ZF U) (t u:TypeId) (s x:SV U.Ty):Tr U (SV U.Ty×ZF U):=
 match E.ti t with
 | some ⟨.slice e,_,_,_⟩=>match E.ti e with
  | some ei=>.when (u=t/\0<ei.size/\ei.zok=true/\U.esz e=ei.size) ((ZAB H x e).andThen fun ys=>
    match s with
    | .all id n=>rowAt H id n fun t' xs fl=>if h:t' = e then
      .chk (decide ((n+ys.length)*ei.bytes<=lim)&&decide (n+ys.length<=maxLen))
       (.leaf (.all id ((h▸xs:List (U.Ty e))++ys).length,H.set id (.row e ((h▸xs:List (U.Ty e))++ys) fl)))
     else .fail
    | .lsl id off len tot=>rowAt H id tot fun t' xs fl=>if h:t' = e then
      .chk (decide (off=0)&&(decide (fl.getD 0<=len)&&(decide (len<tot)&&decide (len+ys.length<=tot))))
       (.leaf (.lsl id 0 (len+ys.length) tot,H.set id (.row e ((h▸xs:List (U.Ty e)).take len++ys++(h▸xs:List (U.Ty e)).drop (len+ys.length)) fl)))
     else .fail
    | .nil _=>.chk (decide (ys.length*ei.bytes<=lim)&&decide (ys.length<=maxLen)) (.leaf (.all k ys.length,ZcI H k (.row e ys none)))
    | .slt t' xs=>if h:t' = e then
      .chk (decide ((xs.length+ys.length)*ei.bytes<=lim)&&decide (xs.length+ys.length<=maxLen))
       (.br ys.isEmpty (.leaf (.slt t' xs,H)) (.leaf (.all k ((h▸xs:List (U.Ty e))++ys).length,ZcI H k (.row e ((h▸xs:List (U.Ty e))++ys) none))))
     else .fail
    | _=>.fail)
  | none=>.fail
 | _=>.fail
def ZKb (E:Env) (H:ZF U) (t u:TypeId) (d x:SV U.Ty):Tr U (SV U.Ty×ZF U):=
 match E.ti t with
 | some ⟨.slice e,_,_,_⟩=>match E.ti e with
  | some ei=>.when (U.esz e=ei.size) ((ZAB H x e).andThen fun ys=>
    match d with
    | .all id n=>rowAt H id n fun t' xs fl=>if h:t' = e then
      .when (fl.getD 0=0) (.leaf (.si .i64 (min ys.length xs.length:Nat),H.set id (.row e (ys.take xs.length++(h▸xs:List (U.Ty e)).drop ys.length) fl)))
     else .fail
    | _=>.fail)
  | none=>.fail
 | _=>.fail
def lenT (x:SV U.Ty):Option Nat:=
 match x with
 | .nil _=>some 0
 | .sl _ xs=>some xs.length
 | .slt _ xs=>some xs.length
 | .lit (.string s)=>some s.size
 | .ss s=>some s.size
 | _=>none
def Zmk {L:Type} (H:ZF U) (x:SV U.Ty) (k:Nat->Tr U L):Tr U L:=
 match x with
 | .all id n=>rowAt H id n fun _ _ _=>k n
 | .lsl id _ len tot=>rowAt H id tot fun _ _ _=>k len
 | x=>match lenT x with|some n=>k n|none=>.fail
def Zlm (x:SV U.Ty):Bool:=(ZeM x).isSome
def Zr4 (E:Env) (t:TypeId) (x:SV U.Ty):Bool:=
 if Zlm x then E.isStr t else match E.ti t with|some ⟨.slice _,_,_,_⟩=>true|_=>false
def Zsu {L:Type} (x:Option (SV U.Ty)) (hi dflt:Nat) (k:Nat->Tr U L):Tr U L:=
 match x with
 | none=>k dflt
 | some v=>match asInt v with
  | some (_,n)=>.chk (decide (0<=n/\n<=hi)) (k n.toNat)
  | none=>.fail
def ZEQ (E:Env) (H:ZF U) (x:SV U.Ty) (n:Nat):Bool:=
 match x with
 | .nil _=>true
 | .sl t _=>U.esz t==n
 | .slt t _=>U.esz t==n
 | .all id _ | .lsl id _ _ _=>match H[id]? with|some (.row t _ _)=>U.esz t==n|_=>false
 | _=>false
def ZhV (E:Env) (H:ZF U) (t:TypeId) (x:SV U.Ty):Bool:=
 if Zlm x then E.isStr t else match E.ti t with
  | some ⟨.slice e,_,_,_⟩=>match E.ti e with|some ei=>ZEQ E H x ei.size|none=>false
  | _=>false
def sliceT (E:Env) (H:ZF U) (t:TypeId) (x:SV U.Ty) (lo hi mx:Option (SV U.Ty)):Tr U (SV U.Ty×ZF U):=
 if ZhV E H t x then
  Zmk H x fun n=>Zsu hi n n fun h=>Zsu lo h 0 fun l=>
   match mx with
   | some m=>(match hi with
    | none=>.fail
    | some _=>Zsu (some m) n n fun k=>.chk (k==h)
     (match x with
      | .sl e xs=>.leaf (.slt e ((xs.drop l).take (h - l)),H)
      | .slt e xs=>.leaf (.slt e ((xs.drop l).take (h - l)),H)
      | .all id n=>rowAt H id n fun e xs _=>.leaf (.slt e ((xs.drop l).take (h - l)),Zqz H [id])
      | _=>.fail))
   | none=>match x with
    | .nil e=>.leaf (.nil e,H)
    | .sl e xs=>.leaf (.sl e ((xs.drop l).take (h - l)),H)
    | .slt e xs=>.leaf (.sl e ((xs.drop l).take (h - l)),H)
    | .all id n=>(match lo,hi with
     | none,none=>.leaf (.all id n,H)
     | _,_=>.leaf (.lsl id l (h - l) n,H))
    | .lsl id off _ tot=>.leaf (.lsl id (off+l) (h - l) tot,H)
    | x=>match ZeM x with
     | some s=>.leaf (.ss (s.extract l h),H)
     | none=>.fail
 else .fail
def Znb (x:Option (SV U.Ty)) (n:Nat):Option Nat:=match x with
 | none=>some n
 | some (.lit (.int _ h))=>if 0<=h/\h<=n then some h.toNat else none
 | _=>none
def Zz1 (E:Env) (H:ZF U) (n e:Nat) (x:SV U.Ty) (lo hi mx:Option (SV U.Ty)):Tr U (SV U.Ty×ZF U):=
 match x,lo,Znb hi n,mx with
 | .ptr id i off tot,none,some m,none=>match H[id]? with
  | some (.var e' k (.agg cs))=>match Zpr e cs with
   | some ys=>.when ((i=0/\off=0/\tot=1/\cs.length=n/\n<=maxLen)/\E.size e=some 1/\U.esz e=1/\cs.all (fun c=>(ZMl c).isSome)=true) (.leaf (.sl e (ys.take m),H.set id (.fvar e' k (.agg cs))))
   | none=>.fail
  | _=>.fail
 | _,_,_,_=>.fail
def ZI1 {L:Type} {t:Nat} (xs:List (U.Ty t)):Nat->Nat->(List Value->Tr U L)->Tr U L
 | _,0,k=>k []
 | i,n+1,k=>.bind t xs[i]? fun x=>match ZMl (U.encS t x) with|some v=>ZI1 xs (i+1) n fun vs=>k (v::vs)|none=>.fail
def arrT (E:Env) (t:TypeId) (x:SV U.Ty):Tr U (SV U.Ty):=
 match E.ti t,x with
 | some ⟨.array n e,_,_,_⟩,.sl t' xs=>.when (E.size e=some 1/\U.esz t' = 1/\0<n) (ZI1 xs 0 n fun vs=>.leaf (.raw (.ept n [.agg (vs.map .lit)] 0 0)))
 | _,_=>.fail
def ZiX {L:Type} (n:Int) (lit:Bool) (len:Nat) (k:Nat->Tr U L):Tr U L:=
 if lit then (if 0<=n/\n<len then k n.toNat else .fail)
 else (List.range len).foldr (fun(i:Nat) rest=>.br (n==(i:Int)) (k i) rest) .fail
def ZhT (E:Env) (H:ZF U) (t:TypeId) (x i:SV U.Ty):Tr U (SV U.Ty):=
 match asInt i,E.ti t with
 | some (_,n),some ti=>
  match ti.ty with
  | .slice el=>(match x with
   | .sl et xs=>.when (E.size el=some (U.esz et)) (.chk (decide (0<=n/\n<xs.length)) (.leaf (.ept et xs n.toNat 0)))
   | .slt et xs=>.when (E.size el=some (U.esz et)) (.chk (decide (0<=n/\n<xs.length)) (.leaf (.ept et xs n.toNat 0)))
   | .all id m=>rowAt H id m fun et xs _=>.when (E.size el=some (U.esz et)) (.chk (decide (0<=n/\n<m)) (.leaf (.ptr id n.toNat 0 m)))
   | .lsl id off len tot=>rowAt H id tot fun et xs _=>.when (E.size el=some (U.esz et)) (.chk (decide (0<=n/\n<len)) (.leaf (.ptr id (off+n.toNat) 0 tot)))
   | _=>.fail)
  | .array len e=>(match E.size e with
   | none=>.fail
   | some sz=>match x with
    | .ptr id j off tot=>ZiX n (isLit i) len fun m=>.leaf (.ptr id j (off+m*sz) tot)
    | .ept d xs j off=>ZiX n (isLit i) len fun m=>.leaf (.ept d xs j (off+m*sz))
    | .raw (.ept d xs j off)=>ZiX n (isLit i) len fun m=>.leaf (.raw (.ept d xs j (off+m*sz)))
    | _=>.fail)
  | _=>.fail
 | _,_=>.fail
def ZE9 (E:Env) (t:TypeId) (x i:SV U.Ty):Tr U (SV U.Ty):=
 match asInt i with
 | some (_,n)=>
  match E.ti t,x with
  | some ⟨.array len e,_,_,_⟩,.agg cs=>match E.ti e with
   | some ei=>ZiX n (isLit i) len fun m=>.opt (ZwK cs (m*ei.size) ei.size ei.isAgg)
   | none=>.fail
  | some ⟨.scalar,_,_,_⟩,x=>match ZeM x with
   | some s=>if E.isStr t then .chk (decide (0<=n/\n<s.size)) (.leaf (.si .u8 (s.get! n.toNat).toNat)) else .fail
   | none=>.fail
  | _,_=>.fail
 | none=>.fail
def Z55 (U:Z3Q) (t:Nat) (xs:List (U.Ty t)):Bool:=match bytesOf (xs.map (U.enc t)) with|some bs=>decide (bs.length<=maxLen)|none=>false
def strOf (U:Z3Q) (t:Nat) (xs:List (U.Ty t)):ByteArray:=⟨((bytesOf (xs.map (U.enc t))).getD []).toArray⟩
def ZB7 (t:Nat) (xs:List (U.Ty t)):Tr U (SV U.Ty):=.when (U.esz t=1) (.chk (Z55 U t xs) (.leaf (.ss (strOf U t xs))))
def ZGl (E:Env) (H:ZF U) (src dst:TypeId) (x:SV U.Ty):Tr U (SV U.Ty):=
 .when ((E.isStr dst&&E.isBytes src)=true) (match x with
  | .nil _=>.leaf (.ss ⟨#[]⟩)
  | .sl t xs=>ZB7 t xs
  | .slt t xs=>ZB7 t xs
  | .all id n=>rowAt H id n fun t xs _=>ZB7 t xs
  | .lsl id off len tot=>rowAt H id tot fun t xs _=>.chk (decide (off+len<=tot)) (ZB7 t ((xs.drop off).take len))
  | _=>.fail)
def ZKf (E:Env) (H:ZF U) (src dst:TypeId) (x:SV U.Ty):Tr U (SV U.Ty):=
 match asInt x with
 | some (_,n)=>(match E.kind dst with
  | some k=>if (E.ti src).isSome then .leaf (.si k (k.wrap n)) else .fail
  | none=>.fail)
 | none=>match ZeM x with
  | some s=>if E.isStr src&&E.isStr dst then .leaf (.ss s) else .fail
  | none=>ZGl E H src dst x
def ZHN (U:Z3Q) (e:Nat) (st:ByteArray):Bool:=st.data.toList.all fun b=>(U.Zsr e (.si .u8 b.toNat)).isSome
def Z2J (U:Z3Q) (e:Nat) (st:ByteArray):List (U.Ty e):=st.data.toList.filterMap fun b=>U.Zsr e (.si .u8 b.toNat)
def ZGy (E:Env) (k:Nat) (H:ZF U) (dst:TypeId) (x:SV U.Ty):Tr U (SV U.Ty×ZF U):=
 match ZeM x,E.ti dst with
 | some st,some ⟨.slice e,_,_,_⟩=>.when (E.size e=some 1/\U.esz e=1) (.chk (ZHN U e st) (.leaf (.all k (Z2J U e st).length,ZcI H k (.row e (Z2J U e st) none))))
 | _,_=>.fail
abbrev Mdl (U:Z3Q):=FuncId->List (SV U.Ty)->ZF U->Tr U (SV U.Ty×ZF U)
def ZIw (x:SV U.Ty):Option (Int×Bool):=match x with | .lit (.int _ n)=>some (n,true) | .si _ n=>some (n,false)|_=>none
def Zwm (H:ZF U) (T:Tr U (SV U.Ty)):Tr U (SV U.Ty×ZF U):=T.andThen fun v=>.leaf (v,H)
def ZKt (E:Env) (M:Mdl U) (k:Nat) (H:ZF U) (s:List (SV U.Ty)) (c:Call):Tr U (SV U.Ty×ZF U):=
 match c.callee with
 | .builtin b=>(match b,c.args.toList.map (evS E s),c.argTypes.toList with
  | .len,[x],[t]=>if Zr4 E t x then Zmk H x fun n=>.leaf (.si .i64 n,H) else .fail
  | .append,[a,x],[t,u]=>ZxO E k H t u a x
  | .copy,[d,x],[t,u]=>ZKb E H t u d x
  | .min,args,_=>Zwm H (Zr2 false args)
  | .max,args,_=>Zwm H (Zr2 true args)
  | _,_,_=>.fail)
 | .value f=>(match evS E s f with
  | .fn g first caps=>M g (first++c.args.toList.map (evS E s)++caps) H
  | _=>.fail)
 | _=>.fail
def ZrG {L:Type} (kd:IntKind) (n:Int) (lit:Bool) (z:Tr U L) (f:SV U.Ty->Tr U L):List (SV U.Ty)->Tr U L
 | []=>z
 | .lit (.int k a)::v::r=>.when (k=kd) (if lit then (if n=a then f v else ZrG kd n lit z f r) else .br (n==a) (f v) (ZrG kd n lit z f r))
 | _=>.fail
def ZKu (E:Env) (t:TypeId) (ok:Bool) (m x:SV U.Ty):Tr U (SV U.Ty):=
 match E.ti t,m,asInt x with
 | some ⟨.map k e,_,_,_⟩,.mps kvs,some (kd,n)=>.when (E.kind k=some kd)
  (ZrG kd n (isLit x) (match E.ti e with|some ei=>(match ei.zero with|some z=>.leaf (if ok then .tup [ofV U z,.sb false] else ofV U z)|none=>.fail)|none=>.fail)
   (fun v=>.leaf (if ok then .tup [v,.sb true] else v)) kvs)
 | _,_,_=>.fail
def opT (E:Env) (M:Mdl U) (k:Nat) (H:ZF U) (s:List (SV U.Ty)) (o:Oper):Tr U (SV U.Ty×ZF U):=
 match o.op with
 | .move x=>.leaf (evS E s x,H)
 | .assign (.const (.slice none 0 0))=>match E.ti o.type with
  | some ⟨.slice e,_,_,_⟩=>.when (U.esz e=(E.size e).getD 0) (.leaf (.all k 0,ZcI H k (.row e [] none)))
  | _=>.fail
 | .assign x=>.leaf (evS E s x,H)
 | .pick c a b=>(match evS E s c with
  | .lit (.bool true)=>.leaf (evS E s a,H)
  | .lit (.bool false)=>.leaf (evS E s b,H)
  | .sb t=>(match asBool (evS E s a),asBool (evS E s b) with
   | some x,some y=>.leaf (.sb (cond t x y),H)
   | _,_=>.br t (.leaf (evS E s a,H)) (.leaf (evS E s b,H)))
  | _=>.fail)
 | .alloc t=>match E.ti t with
  | some i=>match i.zero with|some z=>.when (z.cells.length=i.size/\okV z=true) (.leaf (.ptr k 0 0 1,ZcI H k (.var t i.size (ofV U z))))|none=>.fail
  | none=>.fail
 | .box t x=>match E.ti t with
  | some i=>.when ((cellsS (evS E s x)).length=i.size/\okS (evS E s x)=true) (.leaf (.ptr k 0 0 1,ZcI H k (.var t i.size (evS E s x))))
  | none=>.fail
 | .build t parts=>Zwm H (.opt (ZES E t (parts.toList.map fun(i,x)=>(i,evS E s x))))
 | .buildSlice t n parts=>Zeo E k H t n (parts.toList.map fun(i,x)=>(i,evS E s x))
 | .load t a=>Zwm H (loadT E H t (evS E s a))
 | .store t a v=>(storeT E H t (evS E s a) (evS E s v)).andThen fun H' =>.leaf (.no,H')
 | .nilCheck x=>(match evS E s x with
  | .ptr a b c d=>.leaf (.ptr a b c d,H)
  | .ept a b c d=>.leaf (.ept a b c d,H)
  | .raw (.ept a b c d)=>.leaf (.raw (.ept a b c d),H)
  | .fn a b c=>.leaf (.fn a b c,H)
  | _=>.fail)
 | .binOp op t x y _=>Zwm H ((binT E op t (evS E s x) (evS E s y)).andThen fun v=>.leaf (if isLit (evS E s x)&&isLit (evS E s y) then ZJY v else v))
 | .unOp op _ x=>Zwm H (unT op (evS E s x))
 | .convert src dst x=>if E.isStr src&&E.isBytes dst then ZGy E k H dst (evS E s x) else Zwm H (ZKf E H src dst (evS E s x))
 | .makeSlice t l c=>match E.ti t with
  | some ⟨.slice e,_,_,_⟩=>(match ZIw (evS E s l),ZIw (evS E s c),E.ti e with
   | some (n,_),some (m,_),some ei=>(match ei.zero with
    | some z=>(match U.Zsr e (ofV U z) with
     | some y=>.when (0<ei.size/\z.cells.length=ei.size/\okV z=true/\U.esz e=ei.size)
       (.chk (decide (0<=n/\n<=m/\m.toNat*ei.bytes<=lim/\m<=maxLen)) (.leaf (.all k (List.replicate n.toNat y).length,ZcI H k (.row e (List.replicate n.toNat y) none))))
     | none=>.fail)
    | none=>.fail)
   | _,_,_=>.fail)
  | _=>.fail
 | .slice t x lo hi mx=>match E.ti t with
  | some ⟨.array n e,_,_,_⟩=>Zz1 E H n e (evS E s x) (lo.map (evS E s)) (hi.map (evS E s)) (mx.map (evS E s))
  | _=>sliceT E H t (evS E s x) (lo.map (evS E s)) (hi.map (evS E s)) (mx.map (evS E s))
 | .sliceToArrayPointer t x=>Zwm H (arrT E t (evS E s x))
 | .fieldAddr t x f=>Zwm H (.opt (ZiE E t (evS E s x) f))
 | .field t x f=>Zwm H (.opt (ZFw E t (evS E s x) f))
 | .indexAddr t x i=>Zwm H (ZhT E H t (evS E s x) (evS E s i))
 | .index t x i=>Zwm H (ZE9 E t (evS E s x) (evS E s i))
 | .extract x i=>(match evS E s x with | .tup vs=>Zwm H (.opt vs[i]?)|_=>.fail)
 | .lookup t m x ok=>Zwm H (ZKu E t ok (evS E s m) (evS E s x))
 | .makeFunc (.func f) first caps=>.leaf (.fn f (first.toList.map (evS E s)) (caps.toList.map (evS E s)),H)
 | .call c=>ZKt E M k H s c
 | _=>.fail
def stepT (E:Env) (M:Mdl U) (ops:Array Oper) (k i:Nat) (st:SSt U):Tr U (SSt U):=
 match ops[i]? with
 | none=>.leaf st
 | some o=>
  let run (st:SSt U):Tr U (SSt U):=(opT E M k st.H st.s o).andThen fun r=>.leaf ⟨ZIQ st.s o.dst r.1,r.2⟩
  let skip (st:SSt U):Tr U (SSt U):=.leaf ⟨ZIQ st.s o.dst .no,st.H⟩
  match o.guard with
  | none=>run st
  | some (j,want)=>
   match (ops[j]?).bind (·.dst) with
   | none=>.fail
   | some d=>(match st.s.getD d .und with
    | .no=>skip st
    | .lit (.bool true)=>if want then run st else skip st
    | .lit (.bool false)=>if want then skip st else run st
    | .sb b=>.br b (if want then run ⟨st.s.set d (.lit (.bool true)),st.H⟩ else skip ⟨st.s.set d (.lit (.bool true)),st.H⟩)
      (if want then skip ⟨st.s.set d (.lit (.bool false)),st.H⟩ else run ⟨st.s.set d (.lit (.bool false)),st.H⟩)
    | _=>.fail)
def opsT (E:Env) (M:Mdl U) (ops:Array Oper):List Nat->SSt U->Tr U (SSt U)
 | [],st=>.leaf st
 | i::rest,st=>(stepT E M ops st.H.length i st).andThen (opsT E M ops rest)
def ZFY:SV U.Ty->List Nat
 | .lsl id _ _ _=>[id]
 | .all id _=>[id]
 | .ptr id _ _ _=>[id]
 | .raw v=>Z9X v
 | _=>[]
def ZK7:SV U.Ty->List Nat
 | .agg cs=>cs.flatMap ZFY
 | .raw v=>Z0Q v
 | v=>ZFY v
def ZtW (E:Env) (s:List (SV U.Ty)) (o:Oper):List Nat:=o.op.operands.toList.flatMap fun x=>ZK7 (evS E s x)
def ZJk:ZDY U.Ty->Bool | .dead=>true|_=>false
def Zx4 (E:Env) (s:List (SV U.Ty)) (o:Oper):SV U.Ty:=match Z5P o with|some a=>evS E s a|_=>.no
def ZwS (H:ZF U) (a:SV U.Ty) (k:Nat):Bool:=match a with
 | .ptr id _ _ tot=>id==k&&(match H[id]? with|some (.var _ _ _)=>tot==1|_=>false)
 | .all id _=>id==k&&(match H[id]? with|some (.row _ _ _)=>true|_=>false)
 | _=>false
def ZAf (base:Nat) (s0:List (SV U.Ty)):Nat⊕Nat->Option Nat
 | .inl j=>some (base+j)
 | .inr d=>match s0.getD d .und with | .ptr id _ _ _=>some id | .all id _=>some id|_=>none
def ZJt (E:Env) (ms:List Nat) (lt:List (Nat×(Nat⊕Nat))) (s0:List (SV U.Ty)) (base i:Nat) (s:List (SV U.Ty)) (H:ZF U) (o:Oper):Bool:=
 lt.all fun p=>match ZAf base s0 p.2 with
  | none=>false
  | some k=>if p.1=i then ZwS H (Zx4 E s o) k else !needs E o||(linked ms p.1 i || !(ZtW E s o).contains k)
def ZGv (E:Env) (M:Mdl U) (ops:Array Oper) (ms:List Nat) (lt:List (Nat×(Nat⊕Nat))) (s0:List (SV U.Ty)) (base m i:Nat) (st:SSt U):Tr U (SSt U):=
 match ops[i]? with
 | none=>.leaf st
 | some o=>
  .when ((ZtW E st.s o).all (fun id=>decide (id<base)||(decide (base+m<=id)&&ZpC E ops ms i)||(decide (id<base+m)&&(ms.getD i 0).testBit (id - base)))=true) (.when ((ZJt E ms lt s0 base i st.s st.H o&&(!decide (Z0a E o = .c)||decide (base+m<=st.H.length)))=true)
   (if Z0a E o = .a then
    match st.H[base+i]? with
    | some b=>if ZJk b then stepT E M ops (base+i) i st else .fail
    | none=>.fail
    else stepT E M ops st.H.length i st))
def Zm0 (E:Env) (M:Mdl U) (ops:Array Oper) (ms:List Nat) (lt:List (Nat×(Nat⊕Nat))) (s0:List (SV U.Ty)) (base m:Nat):List Nat->SSt U->Tr U (SSt U)
 | [],st=>.leaf st
 | i::rest,st=>(ZGv E M ops ms lt s0 base m i st).andThen (Zm0 E M ops ms lt s0 base m rest)
def ZI4 (E:Env) (M:Mdl U) (ops:Array Oper) (st:SSt U):Tr U (SSt U):=
 let m:=if ops.any (fun o=>decide (Z0a E o = .a)) then ops.size else 0
 Zm0 E M ops (Z1Z [] ops.toList) (Zru E ops) st.s st.H.length m (List.range ops.size) ⟨st.s,st.H++List.replicate m .dead⟩
end
end Go.Proofs.YtjodhcdmhobmoaaGreatDoor.Le
namespace Go.Proofs.YtjodhcdmhobmoaaGreatDoor.Le
structure Z0l (U:Z3Q) (E:Env):Prop where
 encS:∀t a,toV U (U.encS t a)=U.enc t a
 dec:∀t v a,U.Zsr t v=some a->Z0E (E.rows t) (toV U v)=U.enc t a
 cells:∀t a,(U.enc t a).cells=ZU U (cellsS (U.encS t a))
 nr:∀t a,ZV (U.enc t a)=true
 inj:∀t∈U.keys,∀a b,U.enc t a=U.enc t b->a=b
section
variable {U:Z3Q}
theorem Z0x (xs:List (SV U.Ty)):ZU U xs=xs.map (toV U):=by
 induction xs with
 | nil=>rfl
 | cons x xs ih=>simp [ZU,ih]
theorem ZaD (s:List (SV U.Ty)) (t:Nat):(ZU U s).getD t .und=toV U (s.getD t .und):=by
 rw [Z0x]
 simp only [List.getD,List.getElem?_map]
 cases s[t]?<;>rfl
theorem ZA8 (v:V):toV U (ZLq U v)=v:=by
 unfold ZLq
 split<;>rfl
theorem ZhR (v:V):toV U (ofV U v)=v:=by
 unfold ofV
 split
 ·rename_i cs
  simp only [toV,Z0x,List.map_map,V.agg.injEq]
  conv=>rhs;rw [<- List.map_id cs]
  apply List.map_congr_left
  intro x _
  exact ZA8 x
 ·exact ZA8 _
theorem Z1Y (E:Env) (s:List (SV U.Ty)) (x:Operand):ev E (ZU U s) x=toV U (evS E s x):=by
 cases x with
 | tmp t=>exact ZaD s t
 | const v=>simp only [ev,evS,ZhR]
 | func f=>rfl
 | global g=>simp only [ev,evS];cases E.Z9Y g<;>rfl
theorem ZG0 (E:Env) (s:List (SV U.Ty)) (xs:List Operand):xs.map (ev E (ZU U s))=ZU U (xs.map (evS E s)):=by
 rw [Z0x (xs.map (evS E s)),List.map_map]
 apply List.map_congr_left
 intro x _
 exact Z1Y E s x
theorem ZEM (s:List (SV U.Ty)) (d:Option Tmp) (v:SV U.Ty):ZU U (ZIQ s d v)=setSlot (ZU U s) d (toV U v):=by
 unfold ZIQ setSlot
 cases d with
 | none=>rfl
 | some t=>simp only [Z0x,List.map_set]
theorem Z45 (H:ZF U):(toH U H).length=H.length:=by simp [toH]
theorem Z5X (H:ZF U) (i:Nat):(toH U H)[i]? = (H[i]?).map (Z0w U):=by simp [toH]
theorem Z9a (H:ZF U) (i:Nat) (b:ZDY U.Ty):toH U (H.set i b)=(toH U H).set i (Z0w U b):=by simp [toH,List.map_set]
theorem Z4E (H:ZF U) (k:Nat) (b:ZDY U.Ty):toH U (ZcI H k b)=place (toH U H) k (Z0w U b):=by
 unfold ZcI place
 rw [Z45]
 split
 ·exact Z9a H k b
 ·simp [toH]
theorem Z91 {x:SV U.Ty} (h:okS x=true):okV (toV U x)=true:=by
 cases x<;>simp_all [okS,toV,okV]
 rename_i v
 cases v<;>simp_all [okS]
theorem Z6P {x:SV U.Ty} (h:okS x=true):(toV U x).cells=ZU U (cellsS x):=by
 cases x<;>simp_all [okS,toV,V.cells,cellsS,ZU]
 rename_i v
 cases v<;>simp_all [okS,V.cells]
theorem ZA {L M:Type} (T:Tr U L) (f:L->Tr U M) (y:M):(T.andThen f).Zz y↔∃x,T.Zz x/\(f x).Zz y:=by
 induction T with
 | leaf l=>simp [Tr.andThen,Tr.Zz]
 | br c a b iha ihb=>
  simp only [Tr.andThen,Tr.Zz,iha,ihb]
  constructor
  ·rintro (⟨h,x,h1,h2⟩|⟨h,x,h1,h2⟩)
   ·exact⟨x,.inl ⟨h,h1⟩,h2⟩
   ·exact⟨x,.inr ⟨h,h1⟩,h2⟩
  ·rintro ⟨x,(⟨h,h1⟩|⟨h,h1⟩),h2⟩
   ·exact .inl ⟨h,x,h1,h2⟩
   ·exact .inr ⟨h,x,h1,h2⟩
 | bind t o k ih=>
  simp only [Tr.andThen,Tr.Zz,ih]
  constructor
  ·rintro ⟨a,h,x,h1,h2⟩;exact⟨x,⟨a,h,h1⟩,h2⟩
  ·rintro ⟨x,⟨a,h,h1⟩,h2⟩;exact⟨a,h,x,h1,h2⟩
 | chk c a ih=>
  simp only [Tr.andThen,Tr.Zz,ih]
  constructor
  ·rintro ⟨h,x,h1,h2⟩;exact⟨x,⟨h,h1⟩,h2⟩
  ·rintro ⟨x,⟨h,h1⟩,h2⟩;exact⟨h,x,h1,h2⟩
 | fail=>simp [Tr.andThen,Tr.Zz]
theorem Z5I {L:Type} {o:Option L} {x:L}:(Tr.opt (U:=U) o).Zz x↔o=some x:=by
 cases o<;>simp [Tr.opt,Tr.Zz]
theorem ZY {L:Type} {p:Prop} [Decidable p] {a:Tr U L} {x:L}:(Tr.when p a).Zz x↔p/\a.Zz x:=by
 unfold Tr.when
 split<;>simp_all [Tr.Zz]
theorem Z0k {L:Type} {H:ZF U} {id tot:Nat} {k:(t:Nat)->List (U.Ty t)->Option Nat->Tr U L} {y:L} (h:(rowAt H id tot k).Zz y) :
  ∃t xs fl,H[id]? = some (.row t xs fl)/\xs.length=tot/\(k t xs fl).Zz y/\Z10 (toH U H) id tot=some (Z0w U (.row t xs fl)):=by
 unfold rowAt at h
 split at h
 ·rename_i t xs fl hb
  simp only [Tr.Zz,beq_iff_eq] at h
  refine⟨t,xs,fl,hb,h.1,h.2,?_⟩
  unfold Z10
  rw [Z5X,hb]
  simp [Z0w,h.1]
 ·simp [Tr.Zz] at h
theorem Zs8 {H:ZF U} {x y:SV U.Ty} (h:(ZnB H x).Zz y):ZpL (toH U H) (toV U x)=some (toV U y):=by
 unfold ZnB at h
 split at h<;>(try (simp only [Tr.Zz] at h;subst h;rfl))
 ·obtain⟨t,xs,fl,h1,h2,h3,h4⟩:=Z0k h
  simp only [Tr.Zz] at h3
  subst h3
  subst h2
  simp only [toV,ZpL,h4]
  simp only [Z0w,Nat.zero_add,Nat.le_refl,decide_true,Bool.and_self,if_true,List.drop_zero,Option.some.injEq,V.sl.injEq,true_and]
  exact List.take_of_length_le (by simp)
 ·obtain⟨t,xs,fl,h1,h2,h3,h4⟩:=Z0k h
  simp only [Tr.Zz,decide_eq_true_eq] at h3
  obtain⟨h3,rfl⟩:=h3
  simp only [toV,ZpL,h4]
  simp [Z0w,h3,List.map_take,List.map_drop]
 ·simp [Tr.Zz] at h
theorem ZHx {H:ZF U}:∀{xs ys:List (SV U.Ty)},(ZxU H xs).Zz ys->Zwn (toH U H) (ZU U xs)=some (ZU U ys):=by
 intro xs
 induction xs with
 | nil=>intro ys h;simp only [ZxU,Tr.Zz] at h;subst h;rfl
 | cons x xs ih=>
  intro ys h
  simp only [ZxU,ZA,Tr.Zz] at h
  obtain⟨w,h1,ws,h2,rfl⟩:=h
  simp only [ZU,Zwn,Zs8 h1,ih h2]
theorem Zsb {H:ZF U} {x y:SV U.Ty} (h:(ZJ5 H x).Zz y):frz (toH U H) (toV U x)=some (toV U y):=by
 unfold ZJ5 at h
 split at h
 ·rename_i cs
  simp only [ZA,Tr.Zz] at h
  obtain⟨ws,h1,rfl⟩:=h
  simp only [toV,frz,ZHx h1,Option.map_some]
 ·rename_i hne
  have:=Zs8 h
  unfold frz
  split
  ·rename_i cs hcs
   exfalso
   cases x<;>simp_all [toV,ZnB,Tr.Zz]
  ·exact this
theorem Zio {H:ZF U}:∀{xs ys:List (SV U.Ty)},(Z9e H xs).Zz ys->Z1n (toH U H) (ZU U xs)=some (ZU U ys):=by
 intro xs
 induction xs with
 | nil=>intro ys h;simp only [Z9e,Tr.Zz] at h;subst h;rfl
 | cons x xs ih=>
  intro ys h
  simp only [Z9e,ZA,Tr.Zz] at h
  obtain⟨w,h1,ws,h2,rfl⟩:=h
  simp only [ZU,Z1n,Zsb h1,ih h2]
theorem ZA5 (x:SV U.Ty):ZcZ (toV U x)=Zor x:=by
 cases x<;>simp [toV,ZcZ,Zor]
theorem ZAh (x:SV U.Ty):Z6N (toV U x)=Zno x:=by
 cases x<;>simp [toV,Z6N,Zno,Zor,ZcZ]
 rename_i cs
 rw [Z0x,List.flatMap_map]
 simp [ZA5]
theorem Zlw (xs:List (SV U.Ty)):(ZU U xs).flatMap Z6N=xs.flatMap Zno:=by
 rw [Z0x,List.flatMap_map]
 simp [ZAh]
theorem ZIv (x:SV U.Ty):Z9X (toV U x)=ZFY x:=by
 cases x<;>simp [toV,Z9X,ZFY]
theorem ZF9 (x:SV U.Ty):Z0Q (toV U x)=ZK7 x:=by
 cases x<;>simp [toV,Z0Q,ZK7,ZFY,Z9X]
 rename_i cs
 rw [Z0x,List.flatMap_map]
 simp [ZIv]
theorem ZbX (H:ZF U):∀(ids:List Nat),(∀i∈ids,∃t xs fl,H[i]? = some (.row t xs fl))->toH U (Zqz H ids)=bump (toH U H) ids:=by
 intro ids
 induction ids generalizing H with
 | nil=>intro _;rfl
 | cons i is ih=>
  intro h
  simp only [Zqz,bump]
  have hmod:toH U (H.modify i ZqT)=(toH U H).modify i fun b=>{ b with floor:=b.xs.length }:=by
   apply List.ext_getElem?
   intro j
   simp only [toH,List.getElem?_map,List.getElem?_modify]
   by_cases hij:i=j
   ·subst hij
    obtain⟨t,xs,fl,hb⟩:=h i (by simp)
    simp [hb,ZqT,Z0w]
   ·simp [hij]
  rw [ih,hmod]
  intro j hj
  obtain⟨t,xs,fl,hb⟩:=h j (by simp [hj])
  by_cases hij:i=j
  ·subst hij
   exact⟨t,xs,some xs.length,by simp [List.getElem?_modify,hb,ZqT]⟩
  ·exact⟨t,xs,fl,by simp [List.getElem?_modify,hij,hb]⟩
theorem ZiN {H:ZF U} {x y:SV U.Ty} (h:(ZnB H x).Zz y):∀i∈Zor x,∃t xs fl,H[i]? = some (.row t xs fl):=by
 intro i hi
 unfold ZnB at h
 split at h<;>(try (simp [Zor] at hi))
 ·obtain⟨t,xs,fl,h1,_⟩:=Z0k h
  subst hi
  exact⟨t,xs,fl,h1⟩
 ·obtain⟨t,xs,fl,h1,_⟩:=Z0k h
  subst hi
  exact⟨t,xs,fl,h1⟩
 ·simp [Tr.Zz] at h
theorem ZDy {H:ZF U}:∀{xs ys:List (SV U.Ty)},(ZxU H xs).Zz ys->∀i∈xs.flatMap Zor,∃t xs fl,H[i]? = some (.row t xs fl):=by
 intro xs
 induction xs with
 | nil=>intro ys h i hi;simp at hi
 | cons x xs ih=>
  intro ys h i hi
  simp only [ZxU,ZA,Tr.Zz] at h
  obtain⟨w,h1,ws,h2,rfl⟩:=h
  simp only [List.flatMap_cons,List.mem_append] at hi
  rcases hi with hi|hi
  ·exact ZiN h1 i hi
  ·exact ih h2 i hi
theorem Zuw {H:ZF U} {x y:SV U.Ty} (h:(ZJ5 H x).Zz y):∀i∈Zno x,∃t xs fl,H[i]? = some (.row t xs fl):=by
 unfold ZJ5 at h
 split at h
 ·simp only [ZA,Tr.Zz] at h
  obtain⟨ws,h1,rfl⟩:=h
  exact ZDy h1
 ·rename_i hne
  intro i hi
  refine ZiN h i ?_
  cases x<;>simp_all [Zno,Zor]
  simp [ZnB,Tr.Zz] at h
theorem Zjx {H:ZF U}:∀{xs ys:List (SV U.Ty)},(Z9e H xs).Zz ys->∀i∈xs.flatMap Zno,∃t xs fl,H[i]? = some (.row t xs fl):=by
 intro xs
 induction xs with
 | nil=>intro ys h i hi;simp at hi
 | cons x xs ih=>
  intro ys h i hi
  simp only [Z9e,ZA,Tr.Zz] at h
  obtain⟨w,h1,ws,h2,rfl⟩:=h
  simp only [List.flatMap_cons,List.mem_append] at hi
  rcases hi with hi|hi
  ·exact Zuw h1 i hi
  ·exact ih h2 i hi
theorem Zg3 (cs:List (SV U.Ty)) (off n:Nat) (b:Bool):partOf (ZU U cs) off n b=(ZwK cs off n b).map (toV U):=by
 unfold partOf ZwK
 simp only [Z0x,List.length_map]
 split
 ·split
  ·simp [toV,Z0x,List.map_take,List.map_drop]
  ·rfl
 ·simp
theorem Z0o (cs:List (SV U.Ty)):(ZU U cs).length=cs.length:=by simp [Z0x]
theorem ZpR {x:SV U.Ty} {off:Nat} {cs:List (SV U.Ty)} {y:SV U.Ty} (h:ZrH x off cs=some y):Z4i (toV U x) off (ZU U cs)=some (toV U y):=by
 unfold ZrH at h
 split at h
 ·rename_i ds
  split at h
  ·rename_i hle
   simp only [Option.some.injEq] at h
   subst h
   simp only [toV,Z4i,Z0o,hle,if_true]
   simp [Z0x,List.map_take,List.map_drop]
  ·cases h
 ·cases h
 ·rename_i h1 h2
  split at h
  ·rename_i c
   simp only [Option.some.injEq] at h
   subst h
   have:∀ds,toV U x≠.agg ds:=by
    intro ds hds
    cases x<;>simp_all [toV]
   unfold Z4i
   split
   ·rename_i ds hds;exact absurd hds (this ds)
   ·simp [ZU]
  ·cases h
theorem ZlR {H:ZF U} {id:Nat} {e n:Nat} {x:SV U.Ty} (h:H[id]? = some (.var e n x)):Z10 (toH U H) id 1=some (ZN false false e n [toV U x]):=by
 unfold Z10
 rw [Z5X,h]
 simp [Z0w,ZN]
theorem Zva {H:ZF U} {id tot:Nat} {t:Nat} {xs:List (U.Ty t)} {fl:Option Nat} (h:H[id]? = some (.row t xs fl)) (hl:xs.length=tot):Z10 (toH U H) id tot=some (Z0w U (.row t xs fl)):=by
 unfold Z10
 rw [Z5X,h]
 simp [Z0w,hl]
theorem ZAl {E:Env} (hU:Z0l U E) {H:ZF U} {t:TypeId} {a y:SV U.Ty} (h:(loadT E H t a).Zz y):Zkf E (toH U H) t (toV U a)=some (toV U y):=by
 unfold loadT at h
 split at h
 ·simp [Tr.Zz] at h
 ·rename_i i hi
  unfold Zkf
  rw [hi]
  simp only
  split at h
  ·rename_i et xs j off
   simp only [Tr.Zz,Z5I] at h
   obtain⟨x,hx,hp⟩:=h
   simp only [toV,Zjf,List.getElem?_map,hx,Option.map_some]
   rw [hU.cells,Zg3,hp]
   rfl
  ·rename_i id j off tot
   split at h
   ·rename_i e n x hb
    simp only [ZY,Z5I] at h
    obtain⟨⟨rfl,rfl,hok⟩,hp⟩:=h
    simp only [toV,ZlR hb,ZN,Zjf,List.getElem?_cons_zero]
    rw [Z6P hok,Zg3,hp]
    rfl
   ·rename_i et xs fl hb
    simp only [Tr.Zz,Z5I,beq_iff_eq] at h
    obtain⟨hl,x,hx,hp⟩:=h
    simp only [toV,Zva hb hl,Z0w,Zjf,List.getElem?_map,hx,Option.map_some]
    rw [hU.cells,Zg3,hp]
    rfl
   ·simp [Tr.Zz] at h
  ·rename_i e cs off
   simp only [Z5I] at h
   cases hp:partOf cs off i.size i.isAgg with
   | none=>simp [hp] at h
   | some v=>
    simp only [hp,Option.map_some,Option.some.injEq] at h
    subst h
    simp only [toV,Zjf,List.getElem?_cons_zero,V.cells,hp,ZhR]
  ·simp [Tr.Zz] at h
theorem ZEc {E:Env} (hU:Z0l U E) {H H' : ZF U} {t:TypeId} {a v:SV U.Ty} (h:(storeT E H t a v).Zz H'):Z9F E (toH U H) t (toV U a) (toV U v)=some (toH U H'):=by
 unfold storeT at h
 split at h
 ·simp [Tr.Zz] at h
 ·rename_i i hi
  unfold Z9F
  rw [hi]
  simp only
  split at h
  ·rename_i id j off tot
   split at h
   ·rename_i e n x hb
    simp only [ZY] at h
    obtain⟨⟨⟨rfl,rfl⟩,hl,hok,hokx⟩,h⟩:=h
    split at h
    ·rename_i x' hx'
     simp only [ZY,Tr.Zz] at h
     obtain⟨hok',rfl⟩:=h
     simp only [toV,ZlR hb,ZN,List.getElem?_cons_zero]
     rw [Z6P hok,Z0o,hl,ZpR hx',Z91 hok]
     simp [Z91 hok',Z9a,Z0w,ZN]
    ·simp [Tr.Zz] at h
   ·rename_i et xs fl hb
    simp only [ZY,Tr.Zz,ZA,Bool.and_eq_true,beq_iff_eq,decide_eq_true_eq] at h
    obtain⟨⟨hl,hok,hni⟩,⟨hlen,hfl⟩,x,hx,v',hv',h⟩:=h
    split at h
    ·rename_i x' hx'
     split at h
     ·rename_i y hy
      simp only [ZY,Tr.Zz] at h
      obtain⟨⟨hok1,hok2⟩,rfl⟩:=h
      simp only [toV,Zva hb hlen,Z0w,List.getElem?_map,hx,Option.map_some]
      rw [Z6P hok,Z0o,hl,Z91 hok]
      have hc:(frz (toH U H) (toV U v))=some (toV U v'):=Zsb hv'
      have hsp:=ZpR hx'
      rw [hU.encS] at hsp
      have hdec:=hU.dec et x' y hy
      have hokr:okV (U.enc et y)=true:=by rw [<- hdec,Zgs];exact Z91 hok2
      rw [hc]
      simp only [Z6P hok1,hsp,Option.map_some,hdec,hokr,Z91 hok1,ZAh,hni,beq_self_eq_true,Bool.and_self,Bool.and_true,decide_eq_true hfl,if_true,Bool.not_true,Bool.or_self,Bool.false_eq_true,if_false]
      rw [Z9a,ZbX H _ (Zuw hv')]
      simp [Z0w,List.map_set]
     ·simp [Tr.Zz] at h
    ·simp [Tr.Zz] at h
   ·simp [Tr.Zz] at h
  ·simp [Tr.Zz] at h
end
end Go.Proofs.YtjodhcdmhobmoaaGreatDoor.Le
namespace Go.Proofs.YtjodhcdmhobmoaaGreatDoor.Le
section
variable {U:Z3Q}
theorem Z1U {x:SV U.Ty} {k:IntKind} {a:Int} (h:asInt x=some (k,a)):toV U x = .lit (.int k a):=by
 unfold asInt at h
 split at h<;>simp_all [toV]
theorem Z3r {x:SV U.Ty} {s:ByteArray} (h:ZeM x=some s):toV U x = .lit (.string s):=by
 unfold ZeM at h
 split at h<;>simp_all [toV]
theorem Z46 {x:SV U.Ty} {b:Bool} (h:asBool x=some b):toV U x = .lit (.bool b):=by
 unfold asBool at h
 split at h<;>simp_all [toV]
theorem Zv4 {x:SV U.Ty} {n:Int} {l:Bool} (h:ZIw x=some (n,l)):∃k,toV U x = .lit (.int k n):=by
 unfold ZIw at h
 split at h<;>simp_all [toV]
theorem ZKd {op:BinOp} {k:IntKind} {a b:Int} {l:Bool} {y:SV U.Ty} (h:(intT op k a b l).Zz y):(ZoE op k a b).map V.lit=some (toV U y):=by
 unfold intT at h
 cases op<;>simp only [Tr.Zz] at h<;>(try (subst h;rfl))<;>(try (exact h.elim))
 ·split at h
  ·split at h
   ·simp [Tr.Zz] at h
   ·rename_i hb
    simp only [Tr.Zz] at h
    subst h
    simp [ZoE,hb,toV]
  ·simp only [Tr.Zz,bne_iff_ne,ne_eq] at h
   obtain⟨hb,rfl⟩:=h
   simp [ZoE,hb,toV]
 ·split at h
  ·split at h
   ·simp [Tr.Zz] at h
   ·rename_i hb
    simp only [Tr.Zz] at h
    subst h
    simp [ZoE,hb,toV]
  ·simp only [Tr.Zz,bne_iff_ne,ne_eq] at h
   obtain⟨hb,rfl⟩:=h
   simp [ZoE,hb,toV]
theorem ZsD {op:BinOp} {k:IntKind} {a b:Int} {l:Bool} {y:SV U.Ty} (h:(ZAM op k a b l).Zz y):(Z8P op k a b).map V.lit=some (toV U y):=by
 unfold ZAM at h
 split at h
 ·simp [Tr.Zz] at h
 ·rename_i r hr
  have key:∀(hb:¬b<0) (hy:SV.si k r=y),(Z8P op k a b).map V.lit=some (toV U y):=by
   intro hb hy
   subst hy
   unfold Z8P
   unfold ZIT at hr
   split at hr<;>simp_all [toV]
  split at h
  ·split at h
   ·simp [Tr.Zz] at h
   ·rename_i hb
    exact key hb h
  ·simp only [Tr.Zz,decide_eq_true_eq] at h
   exact key (by omega) h.2
theorem ZJo {op:BinOp} {x y:ByteArray} {z:SV U.Ty} (h:(strT op x y).Zz z):(ZCd op x y).map V.lit=some (toV U z):=by
 unfold strT at h
 cases op<;>simp only [Tr.Zz] at h<;>(try (subst h;rfl))<;>(try (exact h.elim))
 obtain⟨hb,rfl⟩:=h
 simp only [decide_eq_true_eq] at hb
 simp [ZCd,hb,toV]
theorem ZyU:∀{ks:List FK} {xs ys:List (SV U.Ty)} {r:Bool},Z3q ks xs ys=some r->Z2S ks (ZU U xs) (ZU U ys)=some r:=by
 intro ks
 induction ks with
 | nil=>
  intro xs ys r h
  unfold Z3q at h
  split at h<;>simp_all [ZU,Z2S]
 | cons k ks ih=>
  intro xs ys r h
  cases xs with
  | nil=>cases k<;>simp [Z3q] at h
  | cons x xs=>
   cases ys with
   | nil=>cases k<;>simp [Z3q] at h
   | cons y ys=>
    cases k with
    | b=>
     simp only [Z3q] at h
     split at h
     ·rename_i a b r' h1 h2 h3
      simp only [Option.some.injEq] at h
      subst h
      simp only [ZU,Z46 h1,Z46 h2,Z2S,ih h3]
     ·cases h
    | i k=>
     simp only [Z3q] at h
     split at h
     ·rename_i k1 a k2 b r' h1 h2 h3
      split at h
      ·rename_i hk
       simp only [Option.some.injEq] at h
       subst h
       simp only [ZU,Z1U h1,Z1U h2,Z2S,ih h3,hk,and_self,if_true]
      ·cases h
     ·cases h
    | s=>
     simp only [Z3q] at h
     split at h
     ·rename_i a b r' h1 h2 h3
      simp only [Option.some.injEq] at h
      subst h
      simp only [ZU,Z3r h1,Z3r h2,Z2S,ih h3]
     ·cases h
theorem ZJD {E:Env} {op:BinOp} {t:TypeId} {x y z:SV U.Ty} (h:(binT E op t x y).Zz z):ZDX E op t (toV U x) (toV U y)=some (toV U z):=by
 unfold binT at h
 split at h
 ·rename_i xs ys
  split at h
  ·rename_i ks hks
   split at h
   ·rename_i b hb
    have:=ZyU hb
    split at h
    ·simp only [Tr.Zz] at h
     subst h
     simp only [toV,ZDX,hks,this,Option.map_some]
    ·simp only [Tr.Zz] at h
     subst h
     simp only [toV,ZDX,hks,this,Option.map_some]
    ·simp [Tr.Zz] at h
   ·simp [Tr.Zz] at h
  ·simp [Tr.Zz] at h
 ·split at h
  ·rename_i k a j b ha hb
   rw [Z1U ha,Z1U hb]
   split at h
   ·exact ZsD h
   ·exact ZsD h
   ·rename_i h1 h2
    split at h
    ·rename_i hk
     have hi:=ZKd h
     subst hk
     have hb:ZDX E op t (.lit (.int k a)) (.lit (.int k b))=(ZoE op k a b).map V.lit:=by
      cases op<;>first|exact absurd rfl h1|exact absurd rfl h2|simp [ZDX]
     rw [hb]
     exact hi
    ·simp [Tr.Zz] at h
  ·split at h
   ·rename_i a b ha hb
    rw [Z3r ha,Z3r hb]
    have:=ZJo h
    unfold ZDX
    split<;>simp_all
   ·split at h
    ·rename_i a b ha hb
     rw [Z46 ha,Z46 hb]
     split at h
     ·rename_i hE
      split at h
      ·simp only [Tr.Zz] at h
       subst h
       simp [ZDX,hE,toV]
      ·simp only [Tr.Zz] at h
       subst h
       simp [ZDX,hE,toV]
      ·simp [Tr.Zz] at h
     ·simp [Tr.Zz] at h
    ·simp [Tr.Zz] at h
theorem ZLZ {op:UnOp} {x z:SV U.Ty} (h:(unT op x).Zz z):unD op (toV U x)=some (toV U z):=by
 unfold unT at h
 split at h
 ·rename_i k n hk
  simp only [Tr.Zz] at h
  subst h
  rw [Z1U hk]
  rfl
 ·rename_i k n hk
  simp only [Tr.Zz] at h
  subst h
  rw [Z1U hk]
  rfl
 ·rename_i b _ hb
  simp only [Tr.Zz] at h
  subst h
  rw [Z46 hb]
  rfl
 ·simp [Tr.Zz] at h
theorem ZKW {isMax:Bool} {k:IntKind}:∀{xs:List (SV U.Ty)} {a r:Int},mmT isMax k a xs=some r->mm isMax k a (ZU U xs)=some (.lit (.int k r)):=by
 intro xs
 induction xs with
 | nil=>intro a r h;simp only [mmT,Option.some.injEq] at h;subst h;rfl
 | cons x xs ih=>
  intro a r h
  simp only [mmT] at h
  split at h
  ·rename_i j b hj
   split at h
   ·rename_i hk
    simp only [ZU,Z1U hj,mm,hk,if_true]
    exact hk▸ih h
   ·cases h
  ·cases h
theorem Zpp {isMax:Bool} {xs:List (SV U.Ty)} {z:SV U.Ty} (h:(Zr2 isMax xs).Zz z):Zfj isMax (ZU U xs)=some (toV U z):=by
 unfold Zr2 at h
 split at h
 ·rename_i x rest
  split at h
  ·rename_i k a hk
   split at h
   ·rename_i r hr
    simp only [Tr.Zz] at h
    subst h
    simp only [ZU,Z1U hk,Zfj,toV]
    exact ZKW hr
   ·simp [Tr.Zz] at h
  ·simp [Tr.Zz] at h
 ·simp [Tr.Zz] at h
def Z8z (parts:List (Nat×SV U.Ty)):List (Nat×V):=parts.map fun(i,x)=>(i,toV U x)
theorem ZAC {place:Nat->Option (Nat×Nat)}:∀{parts:List (Nat×SV U.Ty)} {cs cs' : List (SV U.Ty)},ZtK cs parts place=some cs' -> Zo6 (ZU U cs) (Z8z parts) place=some (ZU U cs'):=by
 intro parts
 induction parts with
 | nil=>intro cs cs' h;simp only [ZtK,Option.some.injEq] at h;subst h;rfl
 | cons p parts ih=>
  intro cs cs' h
  obtain⟨i,v⟩:=p
  simp only [ZtK] at h
  split at h
  ·cases h
  ·rename_i off size hp
   split at h
   ·rename_i hc
    simp only [Bool.and_eq_true,beq_iff_eq,decide_eq_true_eq] at hc
    obtain⟨⟨h1,h2⟩,h3⟩:=hc
    have:=ih h
    simp only [Z8z,List.map_cons,Zo6,hp]
    rw [Z6P h3,Z0o,h1,Z0o,Z91 h3]
    simp only [beq_self_eq_true,h2,decide_true,Bool.and_self,if_true]
    rw [<- this]
    simp only [Z8z,Z0x,List.map_append,List.map_take,List.map_drop]
   ·cases h
theorem cells_toV' {x:SV U.Ty} (h:∀cs,x≠.raw (.agg cs)):(toV U x).cells=ZU U (cellsS x):=by
 cases x with
 | raw v=>
  cases v with
  | agg cs=>exact absurd rfl (h cs)
  | _=>rfl
 | _=>rfl
theorem Zw1 {z:V}:ZU U (cellsS (ofV U z))=z.cells:=by
 have hr:∀cs,ofV U z≠.raw (.agg cs):=by
  intro cs hcs
  unfold ofV at hcs
  split at hcs
  ·cases hcs
  ·rename_i hne
   unfold ZLq at hcs
   split at hcs<;>(try cases hcs)
   simp at hne
 rw [<- cells_toV' hr,ZhR]
theorem ZF7 {E:Env} {t:TypeId} {parts:List (Nat×SV U.Ty)} {y:SV U.Ty} (h:ZES E t parts=some y):ZoU E t (Z8z parts)=some (toV U y):=by
 unfold ZES at h
 unfold ZoU
 split at h
 ·rename_i i hi
  rw [hi]
  split at h
  ·rename_i z hz
   simp only [hz]
   split at h
   ·rename_i hok
    rw [if_pos hok]
    split at h
    ·rename_i fs hty
     simp only [hty]
     split at h
     ·rename_i hall
      rw [if_pos hall]
      cases hf:ZtK (cellsS (ofV U z)) parts (placesOf E fs) with
      | none=>simp [hf] at h
      | some cs=>
       simp only [hf,Option.map_some,Option.some.injEq] at h
       subst h
       have:=ZAC hf
       rw [Zw1] at this
       simp only [this,Option.map_some,toV]
     ·cases h
    ·rename_i len e hty
     simp only [hty]
     split at h
     ·rename_i ei hei
      simp only [hei]
      cases hf:ZtK (cellsS (ofV U z)) parts (fun i=>some (i*ei.size,ei.size)) with
      | none=>simp [hf] at h
      | some cs=>
       simp only [hf,Option.map_some,Option.some.injEq] at h
       subst h
       have:=ZAC hf
       rw [Zw1] at this
       simp only [this,Option.map_some,toV]
     ·cases h
    ·cases h
   ·cases h
  ·cases h
 ·cases h
theorem ZvI {E:Env} (hU:Z0l U E) {e:Nat}:∀{vs:List (SV U.Ty)} {ys:List (U.Ty e)},Zpr e vs=some ys->(ZU U vs).map (Z0E (E.rows e))=ys.map (U.enc e)/\∀v∈vs,okS v=true:=by
 intro vs
 induction vs with
 | nil=>intro ys h;simp only [Zpr,Option.some.injEq] at h;subst h;simp [ZU]
 | cons v vs ih=>
  intro ys h
  simp only [Zpr] at h
  split at h
  ·rename_i a as h1 h2 h3
   simp only [Option.some.injEq] at h
   subst h
   obtain⟨i1,i2⟩:=ih h3
   refine⟨by simp only [ZU,List.map_cons,i1,hU.dec _ _ _ h2],?_⟩
   intro x hx
   rcases List.mem_cons.1 hx with hx|hx
   ·rw [hx];exact h1
   ·exact i2 x hx
  ·cases h
theorem ZD1 (sz:Nat):∀(vs pre post:List V),(∀v∈vs,v.cells.length=sz/\okV v=true)->vs.length<=post.length ->
  Zks (pre++post) sz ((List.range' pre.length vs.length).zip vs)=some (pre++vs++post.drop vs.length):=by
 intro vs
 induction vs with
 | nil=>intro pre post _ _;simp [Zks]
 | cons v vs ih=>
  intro pre post h hl
  cases post with
  | nil=>simp at hl
  | cons p post=>
   simp only [List.length_cons,List.range'_succ,List.zip_cons_cons,Zks]
   obtain⟨h1,h2⟩:=h v (by simp)
   have hset:(pre++p::post).set pre.length v=(pre++[v])++post:=by simp
   have:=ih (pre++[v]) post (fun x hx=>h x (by simp [hx])) (by simpa using hl)
   rw [List.length_append,List.length_singleton] at this
   rw [h1,h2,hset,this]
   simp
theorem ZnO {E:Env} (hU:Z0l U E) {k:Nat} {H H' : ZF U} {t:TypeId} {n:Nat} {parts:List (Nat×SV U.Ty)} {y:SV U.Ty} (h:(Zeo E k H t n parts).Zz (y,H')) :
  Z21 E k (toH U H) t n (Z8z parts)=some (toV U y,toH U H'):=by
 unfold Zeo at h
 unfold Z21
 split at h
 ·rename_i e sz by' z0 hti
  rw [hti]
  simp only
  split at h
  ·rename_i ei hei
   simp only [hei]
   split at h
   ·rename_i z hz
    simp only [ZA] at h
    obtain⟨vs,hvs,h⟩:=h
    split at h
    ·rename_i ys hys
     simp only [ZY,Tr.Zz,Prod.mk.injEq] at h
     obtain⟨⟨⟨c1,c2,c3,c4⟩,c5,c6,c7⟩,rfl,rfl⟩:=h
     have hp2:(Z8z parts).map (·.2)=ZU U (parts.map (·.2)):=by
      rw [Z0x];simp [Z8z]
     have hp1:(Z8z parts).map (·.1)=List.range n:=by rw [<- c5];simp [Z8z]
     obtain⟨d1,d2⟩:=ZvI hU hys
     have hf:=Zio hvs
     have hlen:(ZU U vs).length=n:=by
      rw [<- ZqQ hf,Z0o,List.length_map,<- List.length_map (f:=(·.1)) (as:=parts),c5,List.length_range]
     have hlen' : (ys.map (U.enc e)).length=n:=by rw [<- d1,List.length_map,hlen]
     have hempty:(n==0 && !(Z8z parts).isEmpty)=false:=by
      cases hn:n with
      | zero=>
       have:parts=[]:=by
        have:=congrArg List.length c5
        rw [hn] at this
        simpa using this
       simp [this,Z8z]
      | succ m=>simp
     rw [hz,hp2,hf]
     simp only
     rw [if_pos ⟨c1,c2,c3,c4,hempty⟩,hp1,d1]
     have hfull:=ZD1 ei.size (ys.map (U.enc e)) [] (List.replicate n (Z0E (E.rows e) z)) (by
      intro v hv
      rw [<- d1] at hv
      obtain⟨w,hw,rfl⟩:=List.mem_map.1 hv
      rw [Z0x] at hw
      obtain⟨s,hs,rfl⟩:=List.mem_map.1 hw
      have hok:=d2 s hs
      rw [Zgs,ZD6]
      refine⟨?_,Z91 hok⟩
      rw [Z6P hok,Z0o]
      simpa using List.all_eq_true.1 c6 s hs) (by rw [hlen'];simp)
     rw [hlen'] at hfull
     simp only [List.length_nil,List.nil_append] at hfull
     rw [show List.range n=List.range' 0 n from List.range_eq_range' ..,hfull]
     have hdrop:List.drop n (List.replicate n (Z0E (E.rows e) z))=[]:=by simp
     rw [hdrop,List.append_nil,Z4E,Zlw,ZbX H _ (Zjx hvs)]
     simp [toV,Z0w,ZN,c7]
    ·simp [Tr.Zz] at h
   ·simp [Tr.Zz] at h
  ·simp [Tr.Zz] at h
 ·simp [Tr.Zz] at h
theorem Zri {E:Env} {s:TypeId} {x y:SV U.Ty} {f:Nat} (h:ZiE E s x f=some y):Z5T E s (toV U x) f=some (toV U y):=by
 unfold ZiE at h
 unfold Z5T
 split at h
 ·rename_i fs sz by' z0 hti
  rw [hti]
  simp only
  split at h
  ·rename_i o t ho
   rw [ho]
   simp only
   split at h
   ·rename_i n hn
    simp only [hn]
    split at h
    ·cases h
    ·rename_i hz
     rw [if_neg hz]
     split at h
     ·simp only [Option.some.injEq] at h;subst h;rfl
     ·simp only [Option.some.injEq] at h;subst h;rfl
     ·simp only [Option.some.injEq] at h;subst h;rfl
     ·cases h
   ·cases h
  ·cases h
 ·cases h
theorem ZEw {E:Env} {s:TypeId} {x y:SV U.Ty} {f:Nat} (h:ZFw E s x f=some y):Zpy E s (toV U x) f=some (toV U y):=by
 unfold ZFw at h
 unfold Zpy
 split at h
 ·rename_i fs sz by' z0 cs hti
  rw [hti]
  simp only [toV]
  split at h
  ·rename_i o t ho
   rw [ho]
   simp only
   split at h
   ·rename_i i hi
    simp only [hi,Zg3,h,Option.map_some]
   ·cases h
  ·cases h
 ·cases h
theorem Z7u {L:Type} {n:Int} {lit:Bool} {len:Nat} {k:Nat->Tr U L} {y:L} (h:(ZiX n lit len k).Zz y):(0<=n/\n<len)/\(k n.toNat).Zz y:=by
 unfold ZiX at h
 split at h
 ·split at h
  ·rename_i hn;exact⟨hn,h⟩
  ·simp [Tr.Zz] at h
 ·revert h
  suffices hh:∀l:List Nat,(∀i∈l,i<len)->(l.foldr (fun(i:Nat) rest=>Tr.br (n==(i:Int)) (k i) rest) .fail).Zz y->(0<=n/\n<len)/\(k n.toNat).Zz y from
   fun h=>hh _ (fun i hi=>by simpa using hi) h
  intro l
  induction l with
  | nil=>intro _ h;simp [Tr.Zz] at h
  | cons i l ih=>
   intro hl h
   simp only [List.foldr_cons,Tr.Zz,beq_iff_eq] at h
   rcases h with ⟨hn,hr⟩|⟨_,hr⟩
   ·have:=hl i (by simp)
    have hi:n.toNat=i:=by omega
    rw [hi]
    exact⟨by omega,hr⟩
   ·exact ih (fun j hj=>hl j (by simp [hj])) hr
theorem ZrB {E:Env} {H:ZF U} {t:TypeId} {x i y:SV U.Ty} (h:(ZhT E H t x i).Zz y):Z2H E (toH U H) t (toV U x) (toV U i)=some (toV U y):=by
 unfold ZhT at h
 unfold Z2H
 split at h
 ·rename_i kk n ti hn hti
  rw [Z1U hn,hti]
  simp only
  split at h
  ·rename_i el hty
   simp only [hty]
   split at h
   ·rename_i et xs
    simp only [ZY,Tr.Zz,decide_eq_true_eq] at h
    obtain⟨h1,h2,rfl⟩:=h
    simp only [toV,List.length_map,h2,h1,and_self,if_true]
   ·rename_i et xs
    simp only [ZY,Tr.Zz,decide_eq_true_eq] at h
    obtain⟨h1,h2,rfl⟩:=h
    simp only [toV,List.length_map,h2,h1,and_self,if_true]
   ·rename_i id m
    obtain⟨et,xs,fl,r1,r2,r3,r4⟩:=Z0k h
    simp only [ZY,Tr.Zz,decide_eq_true_eq] at r3
    obtain⟨h1,h2,rfl⟩:=r3
    simp only [toV,r4,Z0w,h2,h1,and_self,if_true,Nat.zero_add]
   ·rename_i id off len tot
    obtain⟨et,xs,fl,r1,r2,r3,r4⟩:=Z0k h
    simp only [ZY,Tr.Zz,decide_eq_true_eq] at r3
    obtain⟨h1,h2,rfl⟩:=r3
    simp only [toV,r4,Z0w,h2,h1,and_self,if_true]
   ·simp [Tr.Zz] at h
  ·rename_i len e hty
   simp only [hty]
   split at h
   ·simp [Tr.Zz] at h
   ·rename_i sz hsz
    split at h
    ·obtain⟨hb,h⟩:=Z7u h
     simp only [Tr.Zz] at h
     subst h
     simp only [toV,hsz,hb,and_self,if_true]
    ·obtain⟨hb,h⟩:=Z7u h
     simp only [Tr.Zz] at h
     subst h
     simp only [toV,hsz,hb,and_self,if_true]
    ·obtain⟨hb,h⟩:=Z7u h
     simp only [Tr.Zz] at h
     subst h
     simp only [toV,hsz,hb,and_self,if_true]
    ·simp [Tr.Zz] at h
  ·simp [Tr.Zz] at h
 ·simp [Tr.Zz] at h
theorem ZHq {s:ByteArray} {n:Nat} (h:n<s.size):s[n]? = some (s.get! n):=by
 rw [getElem?_pos s n h]
 cases s with
 | mk d=>
  have hd:n<d.size:=h
  show some d[n]=some d[n]!
  rw [getElem!_pos d n hd]
theorem ZFf {E:Env} {t:TypeId} {x i y:SV U.Ty} (h:(ZE9 E t x i).Zz y):Zpa E t (toV U x) (toV U i)=some (toV U y):=by
 unfold ZE9 at h
 unfold Zpa
 split at h
 ·rename_i kk n hn
  rw [Z1U hn]
  simp only
  split at h
  ·rename_i len e sz by' z0 cs hti
   rw [hti]
   simp only [toV]
   split at h
   ·rename_i ei hei
    obtain⟨hb,h⟩:=Z7u h
    rw [Z5I] at h
    simp only [hei,hb,and_self,if_true,Zg3,h,Option.map_some]
   ·simp [Tr.Zz] at h
  ·rename_i sz by' z0 hti
   rw [hti]
   split at h
   ·rename_i s hs
    rw [Z3r hs]
    split at h
    ·rename_i hE
     simp only [Tr.Zz,decide_eq_true_eq] at h
     obtain⟨⟨h1,h2⟩,rfl⟩:=h
     have hlt:n.toNat<s.size:=by omega
     simp only [hE,h1,if_true,ZHq hlt,Option.map_some,toV]
    ·simp [Tr.Zz] at h
   ·simp [Tr.Zz] at h
  ·simp [Tr.Zz] at h
 ·simp [Tr.Zz] at h
theorem Zc5 {t:Nat} {xs:List (U.Ty t)} {y:SV U.Ty} (h:(ZB7 t xs).Zz y) :
  U.esz t=1/\∃bs,bytesOf (xs.map (U.enc t))=some bs/\bs.length<=maxLen/\y = .ss ⟨bs.toArray⟩:=by
 unfold ZB7 at h
 simp only [ZY,Tr.Zz] at h
 obtain⟨h1,h2,h3⟩:=h
 refine⟨h1,?_⟩
 unfold Z55 at h2
 unfold strOf at h3
 split at h2
 ·rename_i bs hbs
  refine⟨bs,hbs,by simpa using h2,?_⟩
  rw [<- h3,hbs]
  rfl
 ·cases h2
theorem ZFk {E:Env} {H:ZF U} {src dst:TypeId} {x y:SV U.Ty} (h:(ZGl E H src dst x).Zz y):Z9M E (toH U H) src dst (toV U x)=some (toV U y,toH U H):=by
 unfold ZGl at h
 simp only [ZY] at h
 obtain⟨hb,h⟩:=h
 simp only [Bool.and_eq_true] at hb
 split at h
 ·simp only [Tr.Zz] at h
  subst h
  simp [Z9M,toV,hb,Z2p,elemsOf,bytesOf]
 ·obtain⟨h1,bs,h2,h3,rfl⟩:=Zc5 h
  simp [Z9M,toV,hb,Z2p,elemsOf,h1,h2,h3]
 ·obtain⟨h1,bs,h2,h3,rfl⟩:=Zc5 h
  simp [Z9M,toV,hb,Z2p,elemsOf,h1,h2,h3]
 ·obtain⟨t,xs,fl,h1,h2,h3,h4⟩:=Z0k h
  obtain⟨h5,bs,h6,h7,rfl⟩:=Zc5 h3
  subst h2
  rename_i id
  have he:elemsOf (toH U H) (toV U (.all id xs.length))=some (xs.map (U.enc t)):=by
   simp only [toV,elemsOf,h4]
   simp only [Z0w,Nat.zero_add,Nat.le_refl,decide_true,Bool.and_self,if_true,List.drop_zero,Option.some.injEq]
   exact List.take_of_length_le (by simp)
  simp only [toV] at he
  simp only [Z9M,toV,hb,he,Z2p,h4,Z0w,h5,Bool.and_self,beq_self_eq_true,if_true,h6,if_pos h7]
 ·obtain⟨t,xs,fl,h1,h2,h3,h4⟩:=Z0k h
  simp only [Tr.Zz,decide_eq_true_eq] at h3
  obtain⟨hle,h3⟩:=h3
  obtain⟨h5,bs,h6,h7,rfl⟩:=Zc5 h3
  rename_i id off len tot
  have he:elemsOf (toH U H) (toV U (.lsl id off len tot))=some ((((xs.drop off).take len)).map (U.enc t)):=by
   simp only [toV,elemsOf,h4]
   simp [Z0w,hle,List.map_take,List.map_drop]
  simp only [toV] at he
  simp only [Z9M,toV,hb,he,Z2p,h4,Z0w,h5,Bool.and_self,beq_self_eq_true,if_true,h6,if_pos h7]
 ·simp [Tr.Zz] at h
theorem ZHW {E:Env} {H:ZF U} {src dst:TypeId} {x y:SV U.Ty} (h:(ZKf E H src dst x).Zz y):Z9M E (toH U H) src dst (toV U x)=some (toV U y,toH U H):=by
 unfold ZKf at h
 split at h
 ·rename_i k n hn
  rw [Z1U hn]
  unfold Z9M
  split at h
  ·rename_i j hj
   simp only [hj]
   split at h
   ·rename_i hs
    simp only [Tr.Zz] at h
    subst h
    simp [hs,toV]
   ·simp [Tr.Zz] at h
  ·simp [Tr.Zz] at h
 ·split at h
  ·rename_i s hs
   rw [Z3r hs]
   unfold Z9M
   split at h
   ·rename_i hb
    simp only [Tr.Zz] at h
    subst h
    simp only [Bool.and_eq_true] at hb
    simp [hb,toV]
   ·simp [Tr.Zz] at h
  ·exact ZFk h
end
end Go.Proofs.YtjodhcdmhobmoaaGreatDoor.Le
namespace Go.Proofs.YtjodhcdmhobmoaaGreatDoor.Le
section
variable {U:Z3Q}
theorem Zwb {H:ZF U} {x:SV U.Ty} {e:Nat} {ys:List (U.Ty e)} (h:(ZAB H x e).Zz ys) :
  elemsOf (toH U H) (toV U x)=some (ys.map (U.enc e))/\(Z2p (toH U H) (toV U x) (U.esz e)=true):=by
 have go:∀(t:Nat) (xs:List (U.Ty t)),(if h:t=e then Tr.leaf (h▸xs) else Tr.fail:Tr U (List (U.Ty e))).Zz ys->∃he:t=e,(he▸xs:List (U.Ty e))=ys:=by
  intro t xs h
  split at h
  ·rename_i he;exact⟨he,h⟩
  ·simp [Tr.Zz] at h
 unfold ZAB at h
 simp only at h
 split at h
 ·simp only [Tr.Zz] at h;subst h;exact⟨rfl,rfl⟩
 ·obtain⟨rfl,rfl⟩:=go _ _ h
  exact⟨rfl,by simp [toV,Z2p]⟩
 ·obtain⟨rfl,rfl⟩:=go _ _ h
  exact⟨rfl,by simp [toV,Z2p]⟩
 ·obtain⟨t,xs,fl,h1,h2,h3,h4⟩:=Z0k h
  obtain⟨rfl,rfl⟩:=go _ _ h3
  subst h2
  refine⟨?_,by simp [toV,Z2p,h4,Z0w]⟩
  simp only [toV,elemsOf,h4]
  simp only [Z0w,Nat.zero_add,Nat.le_refl,decide_true,Bool.and_self,if_true,List.drop_zero,Option.some.injEq]
  exact List.take_of_length_le (by simp)
 ·obtain⟨t,xs,fl,h1,h2,h3,h4⟩:=Z0k h
  simp only [Tr.Zz,decide_eq_true_eq] at h3
  obtain⟨hle,h3⟩:=h3
  obtain⟨rfl,rfl⟩:=go _ _ h3
  refine⟨?_,by simp [toV,Z2p,h4,Z0w]⟩
  simp only [toV,elemsOf,h4]
  simp [Z0w,hle,List.map_take,List.map_drop]
 ·simp [Tr.Zz] at h
theorem ZA6 {L:Type} {kd:IntKind} {n:Int} {lit:Bool} {z:Tr U L} {f:SV U.Ty->Tr U L} {y:L}:∀{kvs:List (SV U.Ty)},(ZrG kd n lit z f kvs).Zz y ->
  (Zkq kd n (ZU U kvs)=some none/\z.Zz y)\/∃v,Zkq kd n (ZU U kvs)=some (some (toV U v))/\(f v).Zz y
 | [],h=>.inl ⟨rfl,h⟩
 | [x],h=>by
  cases x with
  | lit v=>cases v<;>simp [ZrG,Tr.Zz] at h
  | _=>simp [ZrG,Tr.Zz] at h
 | x::v::r,h=>by
  have key:∀k a,x = .lit (.int k a)->(Zkq kd n (ZU U (x::v::r))=some none/\z.Zz y)\/∃u,Zkq kd n (ZU U (x::v::r))=some (some (toV U u))/\(f u).Zz y:=by
   intro k a hx
   subst hx
   simp only [ZrG,ZY] at h
   obtain⟨rfl,h⟩:=h
   simp only [ZU,toV,Zkq,if_true]
   by_cases ha:n=a
   ·subst ha
    simp only [if_true]
    cases lit with
    | true=>
     simp only [if_true] at h
     exact .inr ⟨v,rfl,h⟩
    | false=>
     simp only [Bool.false_eq_true,if_false,Tr.Zz,beq_self_eq_true,true_and] at h
     rcases h with h|⟨h0,_⟩
     ·exact .inr ⟨v,rfl,h⟩
     ·cases h0
   ·rw [if_neg ha]
    refine ZA6 (lit:=lit) (z:=z) (f:=f) (kvs:=r) ?_
    cases lit with
    | true=>
     simp only [if_true] at h
     rw [if_neg ha] at h
     exact h
    | false=>
     have hb:(n==a)=false:=by simpa using ha
     simp only [Bool.false_eq_true,if_false,Tr.Zz,hb] at h
     rcases h with ⟨h0,_⟩|⟨_,h⟩
     ·cases h0
     ·exact h
  cases x with
  | lit c=>
   cases c with
   | int k a=>exact key k a rfl
   | _=>simp [ZrG,Tr.Zz] at h
  | _=>simp [ZrG,Tr.Zz] at h
theorem ZIt {E:Env} {t:TypeId} {ok:Bool} {m x y:SV U.Ty} (h:(ZKu E t ok m x).Zz y):ZBW E t ok (toV U m) (toV U x)=some (toV U y):=by
 unfold ZKu at h
 split at h
 ·rename_i k e sz by' z0 kvs kd n hti hx
  simp only [ZY] at h
  obtain⟨hk,h⟩:=h
  rw [Z1U hx]
  simp only [toV,ZBW,hti,hk,if_true]
  rcases ZA6 h with ⟨h1,h2⟩|⟨v,h1,h2⟩
  ·rw [h1]
   simp only
   split at h2
   ·rename_i ei hei
    rw [hei]
    simp only
    split at h2
    ·rename_i z hz
     simp only [Tr.Zz] at h2
     subst h2
     rw [hz]
     cases ok<;>simp [toV,ZU,ZhR]
    ·simp [Tr.Zz] at h2
   ·simp [Tr.Zz] at h2
  ·rw [h1]
   simp only [Tr.Zz] at h2
   subst h2
   cases ok<;>simp [toV,ZU]
 ·simp [Tr.Zz] at h
theorem ZFl (v:SV U.Ty):toV U (ZJY v)=toV U v:=by cases v<;>rfl
theorem ZCa {E:Env} {k:Nat} {H H' : ZF U} {t u:TypeId} {s x y:SV U.Ty} (h:(ZxO E k H t u s x).Zz (y,H')) :
  Z57 E k (toH U H) t u (toV U s) (toV U x)=some (toV U y,toH U H'):=by
 unfold ZxO at h
 unfold Z57
 split at h
 ·rename_i e sz by' z0 hti
  rw [hti]
  simp only
  split at h
  ·rename_i ei hei
   simp only [ZY,ZA] at h
   obtain⟨⟨rfl,hpos,hz,hes⟩,ys,hys,h⟩:=h
   obtain⟨e1,e2⟩:=Zwb hys
   rw [hes] at e2
   simp only [hei,beq_self_eq_true,e1]
   rw [if_pos (by simp [hpos,e2,hz])]
   split at h
   ·rename_i id n
    obtain⟨t',xs,fl,h1,h2,h3,h4⟩:=Z0k h
    split at h3
    ·rename_i he
     subst he
     simp only [Tr.Zz,Bool.and_eq_true,decide_eq_true_eq,Prod.mk.injEq] at h3
     obtain⟨⟨l1,l2⟩,rfl,rfl⟩:=h3
     subst h2
     simp only [toV,h4,List.length_map]
     simp only [Z0w,hes,beq_self_eq_true,decide_true,Bool.and_self,if_true,l1,l2,Option.some.injEq,Prod.mk.injEq]
     refine⟨by simp [toV],?_⟩
     rw [Z9a]
     simp [Z0w,hes]
    ·simp [Tr.Zz] at h3
   ·rename_i id off len tot
    obtain⟨t',xs,fl,h1,h2,h3,h4⟩:=Z0k h
    split at h3
    ·rename_i he
     subst he
     simp only [Tr.Zz,Bool.and_eq_true,decide_eq_true_eq,Prod.mk.injEq] at h3
     obtain⟨⟨l1,l2,l3,l4⟩,rfl,rfl⟩:=h3
     subst h2
     subst l1
     have hne:¬len=xs.length:=by omega
     simp only [toV,h4]
     simp only [Z0w,hes,beq_self_eq_true,decide_true,Bool.and_self,Bool.and_true,Bool.true_and,hne,decide_false,Bool.and_false,Bool.false_and,Bool.false_eq_true,if_false,l2,l3,l4,List.length_map,if_true,Option.some.injEq,Prod.mk.injEq,true_and]
     rw [Z9a]
     simp [Z0w,hes,List.map_take,List.map_drop]
    ·simp [Tr.Zz] at h3
   ·simp only [Tr.Zz,Bool.and_eq_true,decide_eq_true_eq,Prod.mk.injEq] at h
    obtain⟨⟨l1,l2⟩,rfl,rfl⟩:=h
    simp only [toV,List.length_map,l1,l2,decide_true,Bool.and_self,if_true,Option.some.injEq,Prod.mk.injEq,true_and]
    rw [Z4E]
    simp [Z0w,ZN,hes]
   ·rename_i t' xs
    split at h
    ·rename_i he
     subst he
     simp only [Tr.Zz,Bool.and_eq_true,decide_eq_true_eq,Prod.mk.injEq] at h
     obtain⟨⟨l1,l2⟩,h⟩:=h
     simp only [toV,List.length_map,hes,beq_self_eq_true,l1,l2,decide_true,Bool.and_self,if_true]
     rcases h with ⟨hem,rfl,rfl⟩|⟨hem,rfl,rfl⟩
     ·simp [hem,toV,hes]
     ·simp only [List.isEmpty_map,hem,Bool.false_eq_true,if_false,Option.some.injEq,Prod.mk.injEq]
      refine⟨by simp [toV],?_⟩
      rw [Z4E]
      simp [Z0w,ZN,hes]
    ·simp [Tr.Zz] at h
   ·simp [Tr.Zz] at h
  ·simp [Tr.Zz] at h
 ·simp [Tr.Zz] at h
theorem ZFm {E:Env} (hU:Z0l U E) {k:Nat} {H H' : ZF U} {dst:TypeId} {x y:SV U.Ty} (h:(ZGy E k H dst x).Zz (y,H')):Zkk E k (toH U H) dst (toV U x)=some (toV U y,toH U H'):=by
 unfold ZGy at h
 split at h
 ·rename_i st e sz by' z0 hs hti
  simp only [ZY,Tr.Zz,Prod.mk.injEq] at h
  obtain⟨⟨h1,h2⟩,hok,rfl,rfl⟩:=h
  have key:∀l:List UInt8,(l.all fun b=>(U.Zsr e (.si .u8 b.toNat)).isSome)=true->(l.filterMap fun b=>U.Zsr e (.si .u8 b.toNat)).map (U.enc e)=l.map fun c=>V.lit (.int .u8 c.toNat):=by
   intro l
   induction l with
   | nil=>intro _;rfl
   | cons b l ih=>
    intro hl
    simp only [List.all_cons,Bool.and_eq_true] at hl
    cases hd:U.Zsr e (.si .u8 b.toNat) with
    | none=>rw [hd] at hl;cases hl.1
    | some a=>
     have:=hU.dec _ _ _ hd
     simp only [toV,Z0E,Z1p] at this
     rw [List.filterMap_cons,hd]
     simp only [List.map_cons,ih hl.2,this]
  have hmap:(Z2J U e st).map (U.enc e)=bytesV st:=key _ hok
  have hlen:(Z2J U e st).length=st.size:=by
   have:=congrArg List.length hmap
   rw [List.length_map] at this
   rw [this]
   simp only [bytesV,List.length_map]
   exact Array.length_toList
  rw [Z3r hs]
  simp only [Zkk,hti,h1,if_true,toV,hlen,Option.some.injEq,Prod.mk.injEq,true_and]
  rw [Z4E]
  simp [Z0w,ZN,h2,hmap]
 ·simp [Tr.Zz] at h
theorem ZAw {x:SV U.Ty} {v:Value} (h:ZMl x=some v):toV U x = .lit v:=by
 unfold ZMl at h
 split at h<;>simp_all [toV]
theorem ZIz {E:Env} {L:Type} (hU:Z0l U E) {t:Nat} {xs:List (U.Ty t)} {r:L}:∀{n i:Nat} {k:List Value->Tr U L},(ZI1 xs i n k).Zz r->∃vs,((xs.drop i).take n).map (U.enc t)=vs.map V.lit/\vs.length=n/\(k vs).Zz r:=by
 intro n
 induction n with
 | zero=>intro i k h;exact⟨[],by simp,rfl,h⟩
 | succ n ih=>
  intro i k h
  simp only [ZI1,Tr.Zz] at h
  obtain⟨x,hx,h⟩:=h
  split at h
  ·rename_i v hv
   obtain⟨vs,h1,h2,h3⟩:=ih h
   obtain⟨hi,hx'⟩:=List.getElem?_eq_some_iff.1 hx
   refine⟨v::vs,?_,by simp [h2],h3⟩
   rw [List.drop_eq_getElem_cons hi,List.take_succ_cons,List.map_cons,List.map_cons,h1,hx',<- hU.encS,ZAw hv]
  ·simp [Tr.Zz] at h
theorem ZJL {E:Env} (hU:Z0l U E) {t:TypeId} {x y:SV U.Ty} (h:(arrT E t x).Zz y):ZKD E t (toV U x)=some (toV U y):=by
 unfold arrT at h
 split at h
 ·rename_i n e sz by' z0 t' xs hti
  simp only [ZY] at h
  obtain⟨⟨c1,c2,c3⟩,h⟩:=h
  obtain⟨vs,h1,h2,h3⟩:=ZIz hU h
  simp only [Tr.Zz] at h3
  subst h3
  rw [List.drop_zero] at h1
  unfold ZKD
  have hlen:n<=xs.length:=by
   have:=congrArg List.length h1
   simp only [List.length_map,List.length_take] at this
   omega
  have htk:(xs.map (U.enc t')).take n=vs.map V.lit:=by rw [<- List.map_take,h1]
  have hall:(vs.map V.lit).all Z8p=true:=by simp [List.all_eq_true,Z8p]
  simp only [hti,toV,c1,c2,c3,htk,List.length_map,hlen,hall,and_self,if_true]
 ·simp [Tr.Zz] at h
theorem Zup {hi:Option (SV U.Ty)} {n m:Nat} (h:Znb hi n=some m):Z1k (hi.map (toV U)) n n=some m:=by
 unfold Znb at h
 split at h
 ·simpa [Z1k] using h
 ·simpa [Z1k,Z4w,toV] using h
 ·cases h
theorem ZAT {E:Env} (hU:Z0l U E) {H H' : ZF U} {n e:Nat} {x y:SV U.Ty} {lo hi mx:Option (SV U.Ty)} (h:(Zz1 E H n e x lo hi mx).Zz (y,H')) :
  ZcG E (toH U H) n e (toV U x) (lo.map (toV U)) (hi.map (toV U)) (mx.map (toV U))=some (toV U y,toH U H'):=by
 unfold Zz1 at h
 split at h
 ·rename_i id i off tot m hm
  split at h
  ·rename_i e' k cs hb
   split at h
   ·rename_i ys hys
    simp only [ZY,Tr.Zz,Prod.mk.injEq] at h
    obtain⟨⟨⟨rfl,rfl,rfl,c4,c5⟩,c6,c7,c8⟩,rfl,rfl⟩:=h
    obtain⟨d1,d2⟩:=ZvI hU hys
    have hsc:∀c∈cs,∃v,toV U c = .lit v:=fun c hc=>by
     have:=List.all_eq_true.1 c8 c hc
     obtain⟨v,hv⟩:=Option.isSome_iff_exists.1 this
     exact⟨v,ZAw hv⟩
    have hre:(ZU U cs).map (Z0E (E.rows e))=ZU U cs:=by
     rw [Z0x,List.map_map]
     apply List.map_congr_left
     intro c hc
     obtain⟨v,hv⟩:=hsc c hc
     simp only [Function.comp,hv,Z0E,Z1p]
    rw [hre] at d1
    have hall:(ZU U cs).all Z8p=true:=by
     rw [Z0x,List.all_eq_true]
     intro y hy
     obtain⟨c,hc,rfl⟩:=List.mem_map.1 hy
     obtain⟨v,hv⟩:=hsc c hc
     rw [hv];rfl
    have hlen:(ZU U cs).length=n:=by rw [Z0x,List.length_map,c4]
    have hbx:=ZlR hb
    unfold ZcG
    simp only [toV,Option.map_none,Zup hm,hbx,ZN]
    rw [if_pos ⟨trivial,trivial,hlen,c5,c6,hall⟩]
    simp only [Option.some.injEq,Prod.mk.injEq,c7,List.map_take,d1,true_and]
    rw [Z9a]
    simp only [bump]
    apply List.ext_getElem?
    intro j
    rw [List.getElem?_modify,List.getElem?_set]
    by_cases hj:id=j
    ·subst hj
     have hlt:id<H.length:=(List.getElem?_eq_some_iff.1 hb).1
     rw [Z5X,hb]
     simp [Z0w,ZN,toV,Z45,hlt]
    ·simp [hj]
   ·simp [Tr.Zz] at h
  ·simp [Tr.Zz] at h
 ·simp [Tr.Zz] at h
theorem ZIc {E:Env} {H H' : ZF U} {t u:TypeId} {d x y:SV U.Ty} (h:(ZKb E H t u d x).Zz (y,H')) :
  ZEO E (toH U H) t u (toV U d) (toV U x)=some (toV U y,toH U H'):=by
 unfold ZKb at h
 unfold ZEO
 split at h
 ·rename_i e sz by' z0 hti
  rw [hti]
  simp only
  split at h
  ·rename_i ei hei
   simp only [ZY,ZA] at h
   obtain⟨hes,ys,hys,h⟩:=h
   obtain⟨e1,e2⟩:=Zwb hys
   rw [hes] at e2
   simp only [hei,e1]
   split at h
   ·rename_i id n
    obtain⟨t',xs,fl,h1,h2,h3,h4⟩:=Z0k h
    split at h3
    ·rename_i he
     subst he
     simp only [ZY,Tr.Zz,Prod.mk.injEq] at h3
     obtain⟨hfl,rfl,rfl⟩:=h3
     subst h2
     simp only [toV,h4]
     simp only [Z0w,hes,hfl,beq_self_eq_true,decide_true,Bool.and_self,e2,if_true,Option.some.injEq,Prod.mk.injEq,List.length_map]
     refine⟨by simp [toV],?_⟩
     rw [Z9a]
     simp [Z0w,hes,hfl,List.map_take,List.map_drop]
    ·simp [Tr.Zz] at h3
   ·simp [Tr.Zz] at h
  ·simp [Tr.Zz] at h
 ·simp [Tr.Zz] at h
theorem ZAN {L:Type} {H:ZF U} {x:SV U.Ty} {k:Nat->Tr U L} {y:L} (h:(Zmk H x k).Zz y):∃n,lenOf (toH U H) (toV U x)=some n/\(k n).Zz y:=by
 unfold Zmk at h
 split at h
 ·rename_i id n
  obtain⟨t,xs,fl,h1,h2,h3,h4⟩:=Z0k h
  exact⟨n,by simp [toV,lenOf,h4],h3⟩
 ·rename_i id off len tot
  obtain⟨t,xs,fl,h1,h2,h3,h4⟩:=Z0k h
  exact⟨len,by simp [toV,lenOf,h4],h3⟩
 ·split at h
  ·rename_i n hn
   refine⟨n,?_,h⟩
   unfold lenT at hn
   split at hn<;>simp_all [toV,lenOf]
  ·simp [Tr.Zz] at h
theorem ZlY {L:Type} {H:ZF U} {x:SV U.Ty} {k:Nat->Tr U L} {y:L} (h:(Zmk H x k).Zz y):∀v,x≠.raw v:=by
 rintro v rfl
 simp [Zmk,lenT,Tr.Zz] at h
theorem ZIH {x:SV U.Ty} (hx:∀v,x≠.raw v) (h:Zlm x=false):∀s,toV U x≠.lit (.string s):=by
 intro s hs
 unfold Zlm at h
 cases x with
 | raw v=>exact hx v rfl
 | lit v=>simp only [toV,V.lit.injEq] at hs;subst hs;simp [ZeM] at h
 | ss b=>simp [ZeM] at h
 | _=>simp [toV] at hs
theorem ZFe {x:SV U.Ty} (h:Zlm x=true):∃s,ZeM x=some s/\toV U x = .lit (.string s):=by
 unfold Zlm at h
 cases hs:ZeM x with
 | none=>simp [hs] at h
 | some s=>exact⟨s,rfl,Z3r hs⟩
theorem ZC6 {E:Env} {t:TypeId} {x:SV U.Ty} (hx:∀v,x≠.raw v):Zq0 E t (toV U x)=Zr4 E t x:=by
 unfold Zq0 Zr4
 by_cases hs:Zlm x=true
 ·obtain⟨s,_,h⟩:=ZFe hs
  rw [h,if_pos hs]
 ·rw [if_neg hs]
  have:=ZIH hx (by simpa using hs)
  split
  ·rename_i s h;exact absurd h (this s)
  ·rfl
theorem ZE1 {E:Env} {H:ZF U} {x:SV U.Ty} {n:Nat} {L:Type} {k:Nat->Tr U L} {y:L} (hl:(Zmk H x k).Zz y) (h:ZEQ E H x n=true):Z2p (toH U H) (toV U x) n=true:=by
 unfold ZEQ at h
 split at h
 ·simp [toV,Z2p]
 ·simpa [toV,Z2p] using h
 ·simpa [toV,Z2p] using h
 ·rename_i id m
  unfold Zmk at hl
  obtain⟨t,xs,fl,h1,h2,h3,h4⟩:=Z0k hl
  simp only [h1] at h
  simpa [toV,Z2p,h4,Z0w] using h
 ·rename_i id off len tot
  unfold Zmk at hl
  obtain⟨t,xs,fl,h1,h2,h3,h4⟩:=Z0k hl
  simp only [h1] at h
  simpa [toV,Z2p,h4,Z0w] using h
 ·cases h
theorem Zv9 {E:Env} {H:ZF U} {t:TypeId} {x:SV U.Ty} {L:Type} {k:Nat->Tr U L} {y:L} (hl:(Zmk H x k).Zz y) (h:ZhV E H t x=true):Z4Z E (toH U H) t (toV U x)=true:=by
 have hx:=ZlY hl
 unfold ZhV at h
 unfold Z4Z
 split at h
 ·rename_i hs
  obtain⟨s,_,he⟩:=ZFe hs
  rw [he]
  exact h
 ·rename_i hs
  have hno:=ZIH hx (by simpa using hs)
  split
  ·rename_i s he;exact absurd he (hno s)
  ·split at h
   ·rename_i e _ _ _ hti
    split at h
    ·rename_i ei hei
     simp only [hti,hei]
     exact ZE1 hl h
    ·cases h
   ·cases h
theorem Zn0 {L:Type} {x:Option (SV U.Ty)} {hi d:Nat} {k:Nat->Tr U L} {y:L} (h:(Zsu x hi d k).Zz y):∃n,Z1k (x.map (toV U)) hi d=some n/\(k n).Zz y:=by
 unfold Zsu at h
 split at h
 ·exact⟨d,rfl,h⟩
 ·rename_i v
  split at h
  ·rename_i kk n hn
   simp only [Tr.Zz,decide_eq_true_eq] at h
   refine⟨n.toNat,?_,h.2⟩
   simp [Z1k,Z1U hn,Z4w,h.1]
  ·simp [Tr.Zz] at h
theorem ZGV {E:Env} {H H' : ZF U} {t:TypeId} {x y:SV U.Ty} {lo hi mx:Option (SV U.Ty)} (h:(sliceT E H t x lo hi mx).Zz (y,H')) :
  ZaM E (toH U H) t (toV U x) (lo.map (toV U)) (hi.map (toV U)) (mx.map (toV U))=some (toV U y,toH U H'):=by
 unfold sliceT at h
 unfold ZaM
 split at h
 ·rename_i hfit
  have hl:=h
  have hraw:=ZlY hl
  rw [if_pos (Zv9 hl hfit)]
  obtain⟨n,hn,ha⟩:=ZAN hl
  rw [hn]
  obtain⟨hh,eh,hb⟩:=Zn0 ha
  obtain⟨l,el,hc⟩:=Zn0 hb
  simp only [eh,el]
  clear h ha hb
  revert hc
  intro h
  split at h
  ·rename_i m
   split at h
   ·simp [Tr.Zz] at h
   ·rename_i xh
    obtain⟨kk,ek,hd⟩:=Zn0 h
    clear h
    revert hd
    intro h
    simp only [Tr.Zz,beq_iff_eq] at h
    obtain⟨rfl,h⟩:=h
    simp only [Option.map_some,Z1k] at ek
    simp only [Option.map_some,ek]
    split at h
    ·rename_i e xs
     simp only [Tr.Zz,Prod.mk.injEq] at h
     obtain⟨rfl,rfl⟩:=h
     simp [toV,elemsOf,List.map_take,List.map_drop]
    ·rename_i e xs
     simp only [Tr.Zz,Prod.mk.injEq] at h
     obtain⟨rfl,rfl⟩:=h
     simp [toV,elemsOf,List.map_take,List.map_drop]
    ·rename_i id n'
     obtain⟨e,xs,fl,h1,h2,h3,h4⟩:=Z0k h
     simp only [Tr.Zz,Prod.mk.injEq] at h3
     obtain⟨rfl,rfl⟩:=h3
     subst h2
     have hg:(toH U H).getD id default=Z0w U (.row e xs fl):=by simp [List.getD,Z5X,h1]
     have hel:elemsOf (toH U H) (.lsl id 0 xs.length xs.length)=some (xs.map (U.enc e)):=by
      simp only [elemsOf,h4]
      simp only [Z0w,Nat.zero_add,Nat.le_refl,decide_true,Bool.and_self,if_true,List.drop_zero]
      rw [List.take_of_length_le (by simp)]
     simp only [toV,hel,if_true,hg]
     simp only [Z0w,Option.some.injEq,Prod.mk.injEq]
     refine⟨by simp [List.map_take,List.map_drop],?_⟩
     rw [ZbX H [id] (by intro i hi;simp at hi;subst hi;exact⟨_,_,_,h1⟩)]
    ·simp [Tr.Zz] at h
  ·simp only [Option.map_none]
   split at h
   ·simp only [Tr.Zz,Prod.mk.injEq] at h
    obtain⟨rfl,rfl⟩:=h
    simp [toV]
   ·simp only [Tr.Zz,Prod.mk.injEq] at h
    obtain⟨rfl,rfl⟩:=h
    simp [toV,List.map_take,List.map_drop]
   ·simp only [Tr.Zz,Prod.mk.injEq] at h
    obtain⟨rfl,rfl⟩:=h
    simp [toV,List.map_take,List.map_drop]
   ·rename_i id n'
    have hnn:n=n' :=by
     unfold Zmk at hl
     obtain⟨e,xs,fl,h1,h2,h3,h4⟩:=Z0k hl
     simpa [toV,lenOf,h4] using hn.symm
    subst hnn
    split at h
    ·simp only [Tr.Zz,Prod.mk.injEq] at h
     obtain⟨rfl,rfl⟩:=h
     simp only [Option.map_none,Z1k,Option.some.injEq] at eh el
     subst eh
     subst el
     simp [toV]
    ·simp only [Tr.Zz,Prod.mk.injEq] at h
     obtain⟨rfl,rfl⟩:=h
     simp [toV]
   ·simp only [Tr.Zz,Prod.mk.injEq] at h
    obtain⟨rfl,rfl⟩:=h
    simp [toV]
   ·split at h
    ·rename_i s hs
     simp only [Tr.Zz,Prod.mk.injEq] at h
     obtain⟨rfl,rfl⟩:=h
     simp [Z3r hs,toV]
    ·simp [Tr.Zz] at h
 ·simp [Tr.Zz] at h
def Znf (U:Z3Q) (M:Mdl U) (call:Z1f):Prop:=
 ∀g as H v H',(M g as H).Zz (v,H')->call g (ZU U as) (toH U H)=some (toV U v,toH U H')
theorem Z3g {H H' : ZF U} {T:Tr U (SV U.Ty)} {y:SV U.Ty} (h:(Zwm H T).Zz (y,H')):T.Zz y/\H' = H:=by
 simp only [Zwm,ZA,Tr.Zz,Prod.mk.injEq] at h
 obtain⟨x,h1,rfl,rfl⟩:=h
 exact⟨h1,rfl⟩
theorem ZHm {E:Env} {M:Mdl U} {call:Z1f} (hU:Z0l U E) (hM:Znf U M call) {k:Nat} {H H' : ZF U} {s:List (SV U.Ty)} {c:Call} {o:Oper} {y:SV U.Ty} (hop:o.op = .call c) (h:(ZKt E M k H s c).Zz (y,H')) :
  opD call E k (toH U H) (ZU U s) o=some (toV U y,toH U H'):=by
 unfold opD
 rw [hop]
 simp only
 unfold ZKt at h
 have hargs:evs E (ZU U s) c.args=ZU U (c.args.toList.map (evS E s)):=ZG0 E s c.args.toList
 split at h
 ·rename_i b hb
  rw [hb]
  simp only
  rw [hargs]
  unfold Z5O
  split at h
  ·rename_i x t he1 he2
   rw [he1,he2]
   split at h
   ·rename_i hf
    have hraw:=ZlY h
    obtain⟨n,hn,h⟩:=ZAN h
    simp only [Tr.Zz,Prod.mk.injEq] at h
    obtain⟨rfl,rfl⟩:=h
    simp only [ZU,ZC6 hraw,hf,if_true,hn,Option.map_some,toV]
    rfl
   ·simp [Tr.Zz] at h
  ·rename_i a x t u he1 he2
   rw [he1,he2]
   simp only [ZU]
   exact ZCa h
  ·rename_i a x t u he1 he2
   rw [he1,he2]
   simp only [ZU]
   exact ZIc h
  ·obtain⟨h1,rfl⟩:=Z3g h
   simp only [Zpp h1,Option.map_some]
  ·obtain⟨h1,rfl⟩:=Z3g h
   simp only [Zpp h1,Option.map_some]
  ·simp [Tr.Zz] at h
 ·rename_i f hf
  rw [hf]
  simp only
  rw [Z1Y]
  split at h
  ·rename_i g first caps hg
   rw [hg]
   simp only [toV]
   have hall:ZU U first++evs E (ZU U s) c.args++ZU U caps=ZU U (first++c.args.toList.map (evS E s)++caps):=by
    rw [hargs];simp only [Z0x,List.map_append]
   rw [hall]
   exact hM _ _ _ _ _ h
  ·simp [Tr.Zz] at h
 ·simp [Tr.Zz] at h
theorem Zug {E:Env} {s:List (SV U.Ty)} (ps:List (Nat×Operand)):(ps.map fun(i,x)=>(i,ev E (ZU U s) x))=Z8z (ps.map fun(i,x)=>(i,evS E s x)):=by
 simp [Z8z,Z1Y]
theorem optEv {E:Env} {s:List (SV U.Ty)} (x:Option Operand):x.map (ev E (ZU U s))=(x.map (evS E s)).map (toV U):=by
 cases x<;>simp [Z1Y]
theorem ZLS {E:Env} {M:Mdl U} {call:Z1f} (hU:Z0l U E) (hM:Znf U M call) {k:Nat} {H H' : ZF U} {s:List (SV U.Ty)} {o:Oper} {y:SV U.Ty} (h:(opT E M k H s o).Zz (y,H')) :
  opD call E k (toH U H) (ZU U s) o=some (toV U y,toH U H'):=by
 unfold opT at h
 split at h
 ·rename_i x hop
  simp only [Tr.Zz,Prod.mk.injEq] at h
  obtain⟨rfl,rfl⟩:=h
  unfold opD
  rw [hop]
  simp only [Z1Y]
 ·rename_i hop
  unfold opD
  rw [hop]
  simp only
  split at h
  ·rename_i e _ _ _ hti
   simp only [ZY,Tr.Zz,Prod.mk.injEq] at h
   obtain⟨hes,rfl,rfl⟩:=h
   simp only [hti,toV,Z4E,Z0w,ZN,hes]
   rfl
  ·simp [Tr.Zz] at h
 ·rename_i x hne hop
  simp only [Tr.Zz,Prod.mk.injEq] at h
  obtain⟨rfl,rfl⟩:=h
  unfold opD
  rw [hop]
  split<;>simp_all [Z1Y]
 ·rename_i c a b hop
  unfold opD
  rw [hop]
  simp only [Z1Y]
  split at h
  ·rename_i hc
   simp only [Tr.Zz,Prod.mk.injEq] at h
   obtain⟨rfl,rfl⟩:=h
   rw [hc]
   simp [toV]
  ·rename_i hc
   simp only [Tr.Zz,Prod.mk.injEq] at h
   obtain⟨rfl,rfl⟩:=h
   rw [hc]
   simp [toV]
  ·rename_i t hc
   rw [hc]
   simp only [toV]
   split at h
   ·rename_i x' y' hx hy
    simp only [Tr.Zz,Prod.mk.injEq] at h
    obtain⟨rfl,rfl⟩:=h
    rw [Z46 hx,Z46 hy]
    cases t<;>simp [toV]
   ·simp only [Tr.Zz,Prod.mk.injEq] at h
    rcases h with ⟨rfl,rfl,rfl⟩|⟨rfl,rfl,rfl⟩<;>simp
  ·simp [Tr.Zz] at h
 ·rename_i t hop
  unfold opD
  rw [hop]
  simp only
  split at h
  ·rename_i i hi
   simp only [hi]
   split at h
   ·rename_i z hz
    simp only [ZY,Tr.Zz,Prod.mk.injEq] at h
    obtain⟨hc,rfl,rfl⟩:=h
    simp only [hz,hc,and_self,if_true,toV,Z4E,Z0w,ZhR]
   ·simp [Tr.Zz] at h
  ·simp [Tr.Zz] at h
 ·rename_i t x hop
  unfold opD
  rw [hop]
  simp only [Z1Y]
  split at h
  ·rename_i i hi
   simp only [ZY,Tr.Zz,Prod.mk.injEq] at h
   obtain⟨⟨h1,h2⟩,rfl,rfl⟩:=h
   simp only [hi,Z6P h2,Z0o,h1,Z91 h2,and_self,if_true,toV,Z4E,Z0w]
  ·simp [Tr.Zz] at h
 ·rename_i t ps hop
  obtain⟨h1,rfl⟩:=Z3g h
  rw [Z5I] at h1
  unfold opD
  rw [hop]
  simp only [Zug,ZF7 h1,Option.map_some]
 ·rename_i t n ps hop
  unfold opD
  rw [hop]
  simp only [Zug]
  exact ZnO hU h
 ·rename_i t a hop
  obtain⟨h1,rfl⟩:=Z3g h
  unfold opD
  rw [hop]
  simp only [Z1Y,ZAl hU h1,Option.map_some]
 ·rename_i t a v hop
  simp only [ZA,Tr.Zz,Prod.mk.injEq] at h
  obtain⟨H1,h1,rfl,rfl⟩:=h
  unfold opD
  rw [hop]
  simp only [Z1Y,ZEc hU h1,Option.map_some]
  rfl
 ·rename_i x hop
  unfold opD
  rw [hop]
  simp only [Z1Y]
  split at h
  ·rename_i hx
   simp only [Tr.Zz,Prod.mk.injEq] at h
   obtain⟨rfl,rfl⟩:=h
   simp [hx,toV,Zma]
  ·rename_i hx
   simp only [Tr.Zz,Prod.mk.injEq] at h
   obtain⟨rfl,rfl⟩:=h
   simp [hx,toV,Zma]
  ·rename_i hx
   simp only [Tr.Zz,Prod.mk.injEq] at h
   obtain⟨rfl,rfl⟩:=h
   simp [hx,toV,Zma]
  ·rename_i hx
   simp only [Tr.Zz,Prod.mk.injEq] at h
   obtain⟨rfl,rfl⟩:=h
   simp [hx,toV,Zma]
  ·simp [Tr.Zz] at h
 ·rename_i op t x z _ hop
  obtain⟨h1,rfl⟩:=Z3g h
  rw [ZA] at h1
  obtain⟨v,h1,h2⟩:=h1
  have hv:∀(c:Bool) y,(Tr.leaf (if c=true then ZJY v else v):Tr U (SV U.Ty)).Zz y->toV U y=toV U v:=fun c y hy=>by
   simp only [Tr.Zz] at hy
   subst hy
   split
   ·exact ZFl v
   ·rfl
  unfold opD
  rw [hop]
  simp only [Z1Y,ZJD h1,Option.map_some,hv _ _ h2]
 ·rename_i op _ x hop
  obtain⟨h1,rfl⟩:=Z3g h
  unfold opD
  rw [hop]
  simp only [Z1Y,ZLZ h1,Option.map_some]
 ·rename_i src dst x hop
  unfold opD
  rw [hop]
  simp only [Z1Y]
  split at h
  ·rename_i hb
   rw [if_pos hb]
   exact ZFm hU h
  ·rename_i hb
   rw [if_neg hb]
   obtain⟨h1,rfl⟩:=Z3g h
   simp only [ZHW h1]
 ·rename_i t l c hop
  unfold opD
  rw [hop]
  simp only [Z1Y]
  split at h
  ·rename_i e _ _ _ hti
   simp only [hti]
   split at h
   ·rename_i n _ m _ ei hn hm hei
    obtain⟨k1,hn'⟩:=Zv4 hn
    obtain⟨k2,hm'⟩:=Zv4 hm
    simp only [hn',hm',hei]
    split at h
    ·rename_i z hz
     simp only [hz]
     split at h
     ·rename_i y0 hy0
      simp only [ZY,Tr.Zz,decide_eq_true_eq,Prod.mk.injEq] at h
      obtain⟨⟨c1,c2,c3,c4⟩,⟨c5,c6,c7,c8⟩,rfl,rfl⟩:=h
      have hd:=hU.dec _ _ _ hy0
      rw [ZhR] at hd
      rw [if_pos ⟨c5,c6,c7,c8,c1,c2,c3⟩]
      simp only [toV,Z4E,Z0w,ZN,c4,hd,List.map_replicate,List.length_replicate]
      rfl
     ·simp [Tr.Zz] at h
    ·simp [Tr.Zz] at h
   ·simp [Tr.Zz] at h
  ·simp [Tr.Zz] at h
 ·rename_i t x lo hi mx hop
  unfold opD
  rw [hop]
  simp only [Z1Y,optEv]
  split at h
  ·rename_i n e sz by' z0 hti
   rw [hti]
   exact ZAT hU h
  ·rename_i hna
   split
   ·rename_i n e sz by' z0 hti
    exact absurd hti (hna n e sz by' z0)
   ·exact ZGV h
 ·rename_i t x hop
  obtain⟨h1,rfl⟩:=Z3g h
  unfold opD
  rw [hop]
  simp only [Z1Y,ZJL hU h1,Option.map_some]
 ·rename_i t x f hop
  obtain⟨h1,rfl⟩:=Z3g h
  rw [Z5I] at h1
  unfold opD
  rw [hop]
  simp only [Z1Y,Zri h1,Option.map_some]
 ·rename_i t x f hop
  obtain⟨h1,rfl⟩:=Z3g h
  rw [Z5I] at h1
  unfold opD
  rw [hop]
  simp only [Z1Y,ZEw h1,Option.map_some]
 ·rename_i t x i hop
  obtain⟨h1,rfl⟩:=Z3g h
  unfold opD
  rw [hop]
  simp only [Z1Y,ZrB h1,Option.map_some]
 ·rename_i t x i hop
  obtain⟨h1,rfl⟩:=Z3g h
  unfold opD
  rw [hop]
  simp only [Z1Y,ZFf h1,Option.map_some]
 ·rename_i x i hop
  unfold opD
  rw [hop]
  simp only [Z1Y]
  split at h
  ·rename_i vs hv
   obtain⟨h1,rfl⟩:=Z3g h
   rw [Z5I] at h1
   simp [hv,toV,Z0x,h1]
  ·simp [Tr.Zz] at h
 ·rename_i t m x ok hop
  obtain⟨h1,rfl⟩:=Z3g h
  unfold opD
  rw [hop]
  simp only [Z1Y,ZIt h1,Option.map_some]
 ·rename_i f first caps hop
  simp only [Tr.Zz,Prod.mk.injEq] at h
  obtain⟨rfl,rfl⟩:=h
  unfold opD
  rw [hop]
  simp only [toV,evs,ZG0]
 ·rename_i c hop
  exact ZHm hU hM hop h
 ·simp [Tr.Zz] at h
theorem Zsp {E:Env} {M:Mdl U} {call:Z1f} (hU:Z0l U E) (hM:Znf U M call) {ops:Array Oper} {k i:Nat} {st st' : SSt U} (h:(stepT E M ops k i st).Zz st') :
  Z7F call E ops k i (Z2L U st)=some (Z2L U st'):=by
 unfold stepT at h
 unfold Z7F
 split at h
 ·rename_i ho
  simp only [Tr.Zz] at h
  subst h
  rw [ho]
 ·rename_i o ho
  rw [ho]
  simp only at h ⊢
  have run:∀(q:SSt U),((opT E M k q.H q.s o).andThen fun r=>Tr.leaf (⟨ZIQ q.s o.dst r.1,r.2⟩:SSt U)).Zz st' -> ∃v H1,opD call E k (toH U q.H) (ZU U q.s) o=some (v,H1)/\(⟨setSlot (ZU U q.s) o.dst v,H1⟩:St)=Z2L U st' :=by
   intro q hq
   simp only [ZA,Tr.Zz] at hq
   obtain⟨⟨v,H1⟩,h1,rfl⟩:=hq
   exact⟨_,_,ZLS hU hM h1,by simp only [Z2L,ZEM]⟩
  have skip:∀(q:SSt U),(Tr.leaf (⟨ZIQ q.s o.dst .no,q.H⟩:SSt U):Tr U (SSt U)).Zz st' -> (⟨setSlot (ZU U q.s) o.dst Z0F,toH U q.H⟩:St)=Z2L U st' :=by
   intro q hq
   simp only [Tr.Zz] at hq
   subst hq
   simp only [Z2L,ZEM]
   rfl
  unfold Zig
  cases hg:o.guard with
  | none=>
   simp only [hg] at h
   obtain⟨v,H1,h1,h2⟩:=run st h
   simp only [Z2L,h1]
   rw [h2]
   rfl
  | some jw=>
   obtain⟨j,want⟩:=jw
   simp only [hg] at h
   split at h
   ·simp [Tr.Zz] at h
   ·rename_i d hd
    simp only [hd]
    rw [show (Z2L U st).s.getD d .und=toV U (st.s.getD d .und) from ZaD st.s d]
    have fin:∀(b:Bool) (q:SSt U),Z2L U q=Z2L U st->toV U (st.s.getD d .und) = .lit (.bool b) ->
      (if b==want then ((opT E M k q.H q.s o).andThen fun r=>Tr.leaf (⟨ZIQ q.s o.dst r.1,r.2⟩:SSt U)) else (Tr.leaf (⟨ZIQ q.s o.dst .no,q.H⟩:SSt U):Tr U (SSt U))).Zz st' ->
      (match (match Zcu (toV U (st.s.getD d .und)) want with
       | none=>none
       | some false=>some (Z0F,(Z2L U st).H)
       | some true=>opD call E k (Z2L U st).H (Z2L U st).s o) with
      | some (v,H)=>some (⟨setSlot (Z2L U st).s o.dst v,H⟩:St)
      | none=>none)=some (Z2L U st'):=by
     intro b q hq hv hr
     rw [hv,<- hq]
     simp only [Zcu]
     split at hr
     ·rename_i hb
      obtain⟨v,H1,h1,h2⟩:=run q hr
      rw [hb]
      simp only [Z2L,h1]
      exact congrArg some h2
     ·rename_i hb
      have:=skip q hr
      rw [show (b==want)=false by simpa using hb]
      simp only [Z2L]
      exact congrArg some this
    split at h
    ·rename_i hs
     rw [hs]
     have:=skip st h
     simp only [toV,Zcu,Z2L]
     exact congrArg some this
    ·rename_i hs
     refine fin true st rfl (by rw [hs];rfl) ?_
     cases want<;>exact h
    ·rename_i hs
     refine fin false st rfl (by rw [hs];rfl) ?_
     cases want<;>exact h
    ·rename_i b hs
     have hsame:∀b',b=b' -> Z2L U (⟨st.s.set d (.lit (.bool b')),st.H⟩:SSt U)=Z2L U st:=by
      rintro b' rfl
      simp only [Z2L,St.mk.injEq,and_true]
      rw [Z0x,Z0x,List.map_set]
      apply List.ext_getElem?
      intro n
      rw [List.getElem?_set]
      split
      ·rename_i hdn
       subst hdn
       split
       ·rename_i hlt
        simp only [List.length_map] at hlt
        have:st.s.getD d .und=st.s[d]:=by simp [List.getD,hlt]
        rw [this] at hs
        simp [hlt,hs,toV]
       ·rename_i hge
        rw [List.getElem?_eq_none (by simpa using hge)]
      ·rfl
     simp only [Tr.Zz] at h
     rcases h with ⟨rfl,h⟩|⟨rfl,h⟩
     ·refine fin true _ (hsame true rfl) (by rw [hs];rfl) ?_
      cases want<;>exact h
     ·refine fin false _ (hsame false rfl) (by rw [hs];rfl) ?_
      cases want<;>exact h
    ·simp [Tr.Zz] at h
theorem ZK2 {E:Env} {M:Mdl U} {call:Z1f} (hU:Z0l U E) (hM:Znf U M call) {ops:Array Oper}:∀{is:List Nat} {st st' : SSt U},(opsT E M ops is st).Zz st' -> ZDU call E ops is (Z2L U st)=some (Z2L U st'):=by
 intro is
 induction is with
 | nil=>intro st st' h;simp only [opsT,Tr.Zz] at h;subst h;rfl
 | cons i is ih=>
  intro st st' h
  simp only [opsT,ZA] at h
  obtain⟨st1,h1,h2⟩:=h
  have:=Zsp hU hM h1
  simp only [ZDU,stepD]
  rw [show (Z2L U st).H.length=st.H.length from Z45 st.H,this]
  exact ih h2
theorem Zvd {E:Env} {s:List (SV U.Ty)} {o:Oper}:Z1S E (ZU U s) o=ZtW E s o:=by
 unfold Z1S ZtW
 congr 1
 funext x
 rw [Z1Y,ZF9]
theorem ZBV {H:ZF U} {a:SV U.Ty} {k:Nat} (h:ZwS H a k=true):ZcP (toH U H) (toV U a) k=true:=by
 unfold ZwS at h
 split at h
 ·rename_i id i off tot
  simp only [Bool.and_eq_true,beq_iff_eq] at h
  obtain⟨h1,h2⟩:=h
  split at h2
  ·rename_i e n x hb
   simp only [beq_iff_eq] at h2
   simp only [toV,ZcP,h1,beq_self_eq_true,Bool.true_and,Z10,Z5X]
   rw [<- h1,hb]
   simp [Z0w,ZN,h2]
  ·cases h2
 ·rename_i id n
  simp only [Bool.and_eq_true,beq_iff_eq] at h
  obtain⟨h1,h2⟩:=h
  split at h2
  ·rename_i t xs fl hb
   simp only [toV,ZcP,h1,beq_self_eq_true,Bool.true_and,Z5X]
   rw [<- h1,hb]
   simp [Z0w]
  ·cases h2
 ·cases h
theorem ZGx {base k:Nat} {s0:List (SV U.Ty)} {t:Nat⊕Nat} (h:ZAf base s0 t=some k):Zq9 base (ZU U s0) t=some k:=by
 cases t with
 | inl j=>exact h
 | inr d=>
  unfold ZAf at h
  unfold Zq9
  have:(ZU U s0).getD d .und=toV U (s0.getD d .und):=by
   rw [Z0x]
   simp only [List.getD,List.getElem?_map]
   cases s0[d]?<;>rfl
  simp only at h ⊢
  rw [this]
  split at h
  ·rename_i he
   rw [he]
   exact h
  ·rename_i he
   rw [he]
   exact h
  ·cases h
theorem ZIB {E:Env} {ms:List Nat} {lt:List (Nat×(Nat⊕Nat))} {s0:List (SV U.Ty)} {base i:Nat} {s:List (SV U.Ty)} {H:ZF U} {o:Oper} (h:ZJt E ms lt s0 base i s H o=true):Z5M E ms lt (ZU U s0) base i (ZU U s) (toH U H) o=true:=by
 unfold ZJt at h
 unfold Z5M
 rw [List.all_eq_true] at h ⊢
 intro p hp
 have h:=h p hp
 cases ht:ZAf base s0 p.2 with
 | none=>rw [ht] at h;cases h
 | some k=>
  rw [ht] at h
  simp only at h
  rw [ZGx ht]
  simp only
  have:addrOf E (ZU U s) o=toV U (Zx4 E s o):=by
   unfold addrOf Zx4
   cases Z5P o<;>first|exact Z1Y ..|rfl
  rw [this,Zvd]
  split
  ·rename_i he
   rw [if_pos he] at h
   exact ZBV h
  ·rename_i he
   rw [if_neg he] at h
   exact h
theorem ZFg {E:Env} {M:Mdl U} {call:Z1f} (hU:Z0l U E) (hM:Znf U M call) {ops:Array Oper} {ms:List Nat} {lt:List (Nat×(Nat⊕Nat))} {s0:List (SV U.Ty)} {base m i:Nat} {st st' : SSt U} (h:(ZGv E M ops ms lt s0 base m i st).Zz st') :
  Z8k call E ops ms lt (ZU U s0) base m i (Z2L U st)=some (Z2L U st'):=by
 unfold ZGv at h
 unfold Z8k
 split at h
 ·rename_i ho
  simp only [Tr.Zz] at h
  subst h
  rw [ho]
 ·rename_i o ho
  rw [ho]
  simp only [ZY] at h ⊢
  obtain⟨h1,h1',h⟩:=h
  rw [Bool.and_eq_true] at h1'
  rw [show Z1S E (Z2L U st).s o=ZtW E st.s o from Zvd,show (Z2L U st).H.length=st.H.length from Z45 st.H,if_pos (by rw [h1,Bool.true_and,Bool.and_eq_true];exact⟨ZIB h1'.1,h1'.2⟩)]
  split at h
  ·rename_i hc
   rw [if_pos hc]
   rw [show (Z2L U st).H[base+i]? = (st.H[base+i]?).map (Z0w U) from Z5X _ _]
   split at h
   ·rename_i b hb
    rw [hb]
    split at h
    ·rename_i hd
     have:b = .dead:=by cases b<;>simp_all [ZJk]
     subst this
     simp only [Option.map_some,Z0w,Zb3,Bool.false_eq_true,if_false]
     exact Zsp hU hM h
    ·simp [Tr.Zz] at h
   ·simp [Tr.Zz] at h
  ·rename_i hc
   rw [if_neg hc]
   exact Zsp hU hM h
theorem ZDH {E:Env} {M:Mdl U} {call:Z1f} (hU:Z0l U E) (hM:Znf U M call) {ops:Array Oper} {ms:List Nat} {lt:List (Nat×(Nat⊕Nat))} {s0:List (SV U.Ty)} {base m:Nat}:∀{is:List Nat} {st st' : SSt U},(Zm0 E M ops ms lt s0 base m is st).Zz st' ->
  Z9B call E ops ms lt (ZU U s0) base m is (Z2L U st)=some (Z2L U st'):=by
 intro is
 induction is with
 | nil=>intro st st' h;simp only [Zm0,Tr.Zz] at h;subst h;rfl
 | cons i is ih=>
  intro st st' h
  simp only [Zm0,ZA] at h
  obtain⟨st1,h1,h2⟩:=h
  simp only [Z9B,ZFg hU hM h1]
  exact ih h2
theorem ZHs {E:Env} {M:Mdl U} {call:Z1f} (hU:Z0l U E) (hM:Znf U M call) {ops:Array Oper} {st st' : SSt U} (h:(ZI4 E M ops st).Zz st'):ZyJ call E ops (Z2L U st)=some (Z2L U st'):=by
 unfold ZI4 at h
 unfold ZyJ
 have:=ZDH hU hM h
 rw [show (Z2L U st).H.length=st.H.length from Z45 st.H]
 rw [<- this]
 congr 1
 simp [Z2L,toH,Z0w]
end
end Go.Proofs.YtjodhcdmhobmoaaGreatDoor.Le
