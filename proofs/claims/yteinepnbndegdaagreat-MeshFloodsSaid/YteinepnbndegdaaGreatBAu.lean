/- A part of it. -/
import Derived.Test.YteinepnbndegdaaGreatBAt
import Derived.Test.YteinepnbndegdaaGreatL5
set_option linter.unusedVariables false
set_option linter.unusedSimpArgs false
namespace Go.Proofs.YteinepnbndegdaaGreat.Le
open Go Go.RowKit Go.Maps Go.MapKept Go.ChangeMaps
set_option maxRecDepth 100000
def hopV (fr to now:Int) (b:V):V:=.agg [.lit (.int .i64 fr),.lit (.int .i64 to),.lit (.int .i64 now),b]
theorem wX (w:World) (g0:Nat) (cur:Array Value) (t:TypeId) (tg:Nat×Nat) (i:Nat) (v:Value) (h:w.heap[g0]? = some (.cells cur t tg)) (hi:i<cur.size) :
  ∃z,(w.setCell ⟨g0,i,none⟩ v).heap[g0]? = some (.cells z t tg)/\z.size=cur.size/\z.toList=cur.toList.set i v:=by
 have C:=(Array.getElem?_eq_some_iff.1 h).1;have D:=(Array.getElem?_eq_some_iff.1 h).2;refine⟨cur.setIfInBounds i v,?_,by simp,by simp⟩;unfold World.setCell;simp[Array.getElem?_modify,h,hi]
theorem Wy (w:World) (g0 k i:Nat) (v:Value) (h:k≠g0):(w.setCell ⟨g0,i,none⟩ v).heap[k]? = w.heap[k]?:=by
 unfold World.setCell;simp[Array.getElem?_modify,Ne.symm h]
structure Turned (w w9:World) (g0 g:Nat):Prop where
 os:w9.os=w.os
 tape:w9.tape=w.tape
 out:w9.output=w.output
 size:w.heap.size<=w9.heap.size
 old:∀k,k<w.heap.size->k≠g->k≠g0->w9.heap[k]? = w.heap[k]?
theorem Zn6 {w C:World} {g0 g:Nat} (z : Array Value) (v:Value) (i:Nat) (h:Below w.heap.size w C):Turned w ((C.setRow g z).setCell ⟨g0,i,none⟩ v) g0 g:=
 ⟨h.os,h.tape,h.output,by simp[World.setRow,h.size],fun k I D G=>by
  rw[Wy _ _ _ _ _ G,setRow_other _ _ _ _ D];exact h.block k I⟩
section
variable {B:Nat} {w0:Start} {σ:Sg} {w w9:World} {b0 b1 b2 b3 b4 b5:Box}
theorem jK {σ σ' : Sg} {w w' : World} {id off len tot:Nat} {v:Value} (h:AL σ w [.BK id off len tot] [v]) (hb:σ'.box id=σ.box id):AL σ' w' [.BK id off len tot] [v]:=by
 cases h with
 | BK z C D G _=>exact .BK (by rw[hb];exact z) C D G .nil
theorem Z9z {σ σ' : Sg} {w w' : World} {x v:Value} (h:AL σ w [.lit x] [v]):AL σ' w' [.lit x] [v]:=by
 cases h with
 | lit z _=>exact .lit z .nil
theorem ZrC (z:Inv B w0 σ [b0,b1,b2,b3,b4,b5] w) (hmp:∀id,σ.mp id=none) {g0 g cap cap0 n:Nat} {L0 L4:Loc} (Q:σ.box 0=some L0) (Y:σ.box 4=some L4)
  (hv0:L0.v.ownBlock=some g0) (hv4:L4.v.ownBlock=some g) (S:b4.live=true) (h4r:b4.row=true) (h4f:b4.floor=0) (h0l:b0.live=true) (h0f:b0.floor=0)
  (hrows:∀b∈[b1,b2,b3,b5],b.row=true) {gR:Nat} (hgR:w.heap.size<=gR) {N:Nat} (hcells:∀c,c<N->∃u,w9.cell? ⟨gR,c,none⟩=some u)
  (ht:Turned w w9 g0 g) {b0' b4' : Box} {v4:Value} (hv4' : v4.ownBlock=some g) (e4:b4' = { b4 with xs:=[] }) (hl0' : b0'.live=true) (hf0' : b0'.floor=0) (hx0' : b0'.xs.length=b0.xs.length)
  (hok0:∀fz',IW ⟨fun id=>if id=4 then some ⟨v4,0,L4.Ag⟩ else σ.box id,fz',σ.mp⟩ w9 B b0' L0) (hok4:∀fz',IW ⟨fun id=>if id=4 then some ⟨v4,0,L4.Ag⟩ else σ.box id,fz',σ.mp⟩ w9 B b4' ⟨v4,0,L4.Ag⟩) :
  Inv B w0 ⟨fun id=>if id=4 then some ⟨v4,0,L4.Ag⟩ else σ.box id,fun b c=>σ.fz b c\/(b=gR/\c<N),σ.mp⟩ [b0',b1,b2,b3,b4',b5] w9 /\
   (∀b c,σ.fz b c->(σ.fz b c\/(b=gR/\c<N))/\w9.cell? ⟨b,c,none⟩=w.cell? ⟨b,c,none⟩):=by
 obtain⟨M0,hM0,hok0'⟩:=z.boxes 0 b0 rfl h0l;rw[Q]at hM0;cases hM0;obtain⟨M4,hM4,hok4'⟩:=z.boxes 4 b4 rfl S;rw[Y]at hM4;cases hM4;have hg0:=hok0'.block_lt hv0;have hg:=hok4'.block_lt hv4;have hfz:∀b c,σ.fz b c->b<w.heap.size/\b≠g/\b≠g0:=fun b c hc=>by
  obtain⟨u,hu⟩:=z.cells b c hc;refine⟨cell_lt hu,fun h=>?_,fun h=>?_⟩
  ·have:=z.floor b c hc 4 b4 L4 rfl S Y (by rw[h];exact hv4);rw[h4f]at this;omega
  ·have:=z.floor b c hc 0 b0 L0 rfl h0l Q (by rw[h];exact hv0);rw[h0f]at this;omega
 have hcell:∀b c,σ.fz b c->w9.cell? ⟨b,c,none⟩=w.cell? ⟨b,c,none⟩:=fun b c hc=>by
  obtain⟨h1,h2,h3⟩:=hfz b c hc;exact World.cell?_of_block (ht.old b h1 h2 h3)
 have hE:∀b c,σ.fz b c->(σ.fz b c\/(b=gR/\c<N))/\w9.cell? ⟨b,c,none⟩=w.cell? ⟨b,c,none⟩:=fun b c hc=>⟨.inl hc,hcell b c hc⟩;have R:∀(id:Nat) (bx:Box),[b0',b1,b2,b3,b4',b5][id]? = some bx->(id=0/\bx=b0')\/(id=4/\bx=b4')\/(id≠0/\id≠4/\[b0,b1,b2,b3,b4,b5][id]? = some bx/\bx∈[b1,b2,b3,b5]):=by
  intro id bx h
  match id,h with
  | 0,h=>simp at h;exact .inl ⟨rfl,h.symm⟩
  | 1,h=>simp at h;exact .inr (.inr ⟨by decide,by decide,by simp[h],by simp[h]⟩)
  | 2,h=>simp at h;exact .inr (.inr ⟨by decide,by decide,by simp[h],by simp[h]⟩)
  | 3,h=>simp at h;exact .inr (.inr ⟨by decide,by decide,by simp[h],by simp[h]⟩)
  | 4,h=>simp at h;exact .inr (.inl ⟨rfl,h.symm⟩)
  | 5,h=>simp at h;exact .inr (.inr ⟨by decide,by decide,by simp[h],by simp[h]⟩)
  | id+6,h=>simp at h
 have hold:∀(id:Nat) (bx:Box) (L:Loc),[b0',b1,b2,b3,b4',b5][id]? = some bx->bx.live=true->(if id=4 then some (⟨v4,0,L4.Ag⟩:Loc) else σ.box id)=some L ->
   ∃bx' L',[b0,b1,b2,b3,b4,b5][id]? = some bx' /\ bx'.live=true/\σ.box id=some L' /\ L'.v.ownBlock=L.v.ownBlock/\bx'.floor=bx.floor/\L'.Ag=L.Ag:=by
  intro id bx L h G hb;rcases R id bx h with ⟨rfl,rfl⟩|⟨rfl,rfl⟩|⟨h0,J,I,hm⟩
  ·rw[if_neg (by decide),Q]at hb;cases hb;exact⟨b0,L0,rfl,h0l,Q,rfl,by rw[h0f,hf0'],rfl⟩
  ·rw[if_pos rfl]at hb;cases hb;exact⟨b4,L4,rfl,S,Y,by rw[hv4,hv4'],by rw[e4],rfl⟩
  ·rw[if_neg J]at hb;exact⟨bx,L,I,G,hb,rfl,rfl,rfl⟩
 refine⟨⟨⟨ht.os.trans z.below.os,ht.tape.trans z.below.tape,ht.out.trans z.below.output,Nat.le_trans z.below.size ht.size,fun k hk=>?_⟩,Nat.le_trans z.size ht.size,fun id L M=>?_,fun id bx hb G=>?_,fun id id' bx bx' L L' g' h1 h2 l1 l2 s1 s2 o1 o2=>?_,fun b c hc=>?_,fun b c hc id bx L hb G M ho=>?_,fun id bx hb G=>?_,fun b c hc hlt=>?_,fun b hb=>?_,⟨fun id b hb hm=>?_,fun id g' h=>?_,fun id id' g' h=>?_⟩⟩,hE⟩
 ·exact(ht.old k (Nat.lt_of_lt_of_le hk z.size) (by omega) (by omega)).trans (z.below.block k hk)
 ·simp only at M
  by_cases J:id=4
  ·subst J;exact⟨b4',rfl,.inl (by rw[e4];exact S)⟩
  ·rw[if_neg J]at M;obtain⟨bx,C,G⟩:=z.dom id L M
   match id,J,C,G with
   | 0,_,_,_=>exact⟨b0',rfl,.inl hl0'⟩
   | 1,_,C,G=>exact⟨bx,C,G⟩
   | 2,_,C,G=>exact⟨bx,C,G⟩
   | 3,_,C,G=>exact⟨bx,C,G⟩
   | 4,J,_,_=>exact absurd rfl J
   | 5,_,C,G=>exact⟨bx,C,G⟩
   | id+6,_,C,G=>simp at C
 ·rcases R id bx hb with ⟨rfl,rfl⟩|⟨rfl,rfl⟩|⟨h0,J,I,hm⟩
  ·exact⟨L0,Q,hok0 _⟩
  ·exact⟨_,rfl,hok4 _⟩
  ·obtain⟨L,M,D⟩:=z.boxes id bx I G;refine⟨L,by simp only;rw[if_neg J];exact M,?_⟩;obtain⟨us,h1,h2,h3,h5⟩:=D.Cj;refine⟨D.tot,⟨us,h1.bare hE ((JU _).2 (D.Gg (hrows bx hm))),h2,h3,?_⟩,D.Dc,D.Ag,D.oks,D.Gg⟩;rcases h5 with ⟨q1,q2|⟨g',cap',cur',tg',q3,q4,q5,q6⟩⟩
   ·exact⟨q1,.inl q2⟩
   ·have hbl:L.v.ownBlock=some g' :=by rw[q3];rfl
    have hlt:=(D.block_lt hbl).2;refine⟨q1,.inr ⟨g',cap',cur',tg',q3,q4,(ht.old g' hlt (fun h=>?_) (fun h=>?_)).trans q5,q6⟩⟩
    ·exact J (z.apart id 4 bx b4 L L4 g' I rfl G S M Y hbl (by rw[h];exact hv4))
    ·exact h0 (z.apart id 0 bx b0 L L0 g' I rfl G h0l M Q hbl (by rw[h];exact hv0))
 ·obtain⟨c1,M1,p1,p2,p3,p4,_⟩:=hold id bx L h1 l1 s1;obtain⟨c2,M2,q1,q2,q3,q4,_⟩:=hold id' bx' L' h2 l2 s2;exact z.apart id id' c1 c2 M1 M2 g' p1 q1 p2 q2 p3 q3 (by rw[p4];exact o1) (by rw[q4];exact o2)
 ·rcases hc with hc|⟨rfl,hc⟩
  ·obtain⟨u,hu⟩:=z.cells b c hc;exact⟨u,(hcell b c hc).trans hu⟩
  ·exact hcells c hc
 ·obtain⟨c1,M1,p1,p2,p3,p4,p5,p6⟩:=hold id bx L hb G M;rcases hc with hc|⟨rfl,hc⟩
  ·have:=z.floor b c hc id c1 M1 p1 p2 p3 (by rw[p4];exact ho);rw[p5,p6]at this;exact this
  ·obtain⟨M2,hM2,D⟩:=z.boxes id c1 p1 p2;rw[p3]at hM2;cases hM2;have:=(D.block_lt (by rw[p4];exact ho)).2;omega
 ·rcases R id bx hb with ⟨rfl,rfl⟩|⟨rfl,rfl⟩|⟨h0,J,I,hm⟩
  ·rw[hf0'];exact Nat.zero_le _
  ·rw[e4];show b4.floor<=_;rw[h4f];exact Nat.zero_le _
  ·exact z.low id bx I G
 ·rcases hc with hc|⟨rfl,hc⟩
  ·exact z.old b c hc hlt
  ·have:=z.size;omega
 ·obtain⟨k1,k2,k3,k4⟩:=z.kept b hb;refine⟨Nat.lt_of_lt_of_le k1 ht.size,(ht.old b k1 (fun h=>k3 4 L4 Y (by rw[h];exact hv4)) (fun h=>k3 0 L0 Q (by rw[h];exact hv0))).trans k2,fun id L M=>?_,fun c hc=>?_⟩
  ·simp only at M
   by_cases J:id=4
   ·rw[if_pos J]at M;cases M;intro h;rw[hv4']at h;exact k3 4 L4 Y (by rw[hv4];exact h)
   ·rw[if_neg J]at M;exact k3 id L M
  ·rcases hc with hc|⟨rfl,hc⟩
   ·exact k4 c hc
   ·omega
 ·exfalso;rcases R id b hb with ⟨rfl,rfl⟩|⟨rfl,rfl⟩|⟨h0,J,I,hmm⟩
  ·simp[EY,hl0']at hm
  ·rw[e4]at hm;simp[EY,S]at hm
  ·obtain⟨g',es,c,us,h1,_⟩:=z.maps.ok id b I hm;rw[hmp]at h1;cases h1
 ·rw[hmp]at h;cases h
 ·rw[hmp]at h;cases h
end
end Go.Proofs.YteinepnbndegdaaGreat.Le
