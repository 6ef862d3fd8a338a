/- A part of it. -/
import Derived.Test.YtjodhcdmhobmoaaGreatDoorL1
import Derived.Great.FillDense
import Derived.Great.BuildSlice
import Derived.OpenShut
import Derived.DeepKeys
set_option linter.unusedVariables false
set_option linter.unusedSimpArgs false
namespace Go.Proofs.YtjodhcdmhobmoaaGreatDoor.Le
open Go.RowKit (Below)
structure Src (σ:Sg) (w:World) (n:Nat) (ys:List V) (us:List Value) (v:Value):Prop where
 D9:AQ σ w ys us
 oks:∀x∈ys,Em x=true
 sizes:∀u∈us,u.cells.size=n
 ones:∀u∈flat us,u.oneCell' = true
 val:((v = .slice none 0 0\/∃a k,v = .slice (some a) 0 k)/\ys=[]/\us=[])\/∃b o c,v = .slice (some ⟨b,o,none⟩) ys.length c/\ys.length<=c/\∀j u,(flat us)[j]? = some u->w.cell? ⟨b,o+j,none⟩=some u
theorem Src.ext {σ w n ys us v σ'} (h:Src σ w n ys us v) (e:Ext σ w σ' w):Src σ' w n ys us v:=⟨h.D9.ext e,h.oks,h.sizes,h.ones,h.val⟩
theorem src_ok {B w0 σ H w} (h:Inv B w0 σ H w) {x:V} {v:Value} {ys:List V} {n:Nat} (hr:AQ σ w [x] [v]) (he:elemsOf H x=some ys) (hn:E5 H x n=true) :
  ∃us,Src σ w n ys us v:=by
 unfold elemsOf at he
 split at he
 ·simp only [Option.some.injEq] at he
  subst he
  cases hr with
  | EW _=>exact⟨[],.nil,by simp,by simp,by simp [flat],.inl ⟨.inl rfl,rfl,rfl⟩⟩
  | FV a _=>exact⟨[],.nil,by simp,by simp,by simp [flat],.inl ⟨.inr ⟨a,0,rfl⟩,rfl,rfl⟩⟩
  | sl b o c e k0 k1 k2 k3 k4 k5 k6 k7=>
   simp only [E5,Bool.false_or,beq_iff_eq] at hn
   subst hn
   exact⟨_,k0,k1,k2,k3,.inr ⟨b,o,c,rfl,k4,fun j u hu=>(k6 j u hu).2⟩⟩
 ·simp only [Option.some.injEq] at he
  subst he
  cases hr with
  | Fh _=>exact⟨[],.nil,by simp,by simp,by simp [flat],.inl ⟨.inl rfl,rfl,rfl⟩⟩
  | GL a _=>exact⟨[],.nil,by simp,by simp,by simp [flat],.inl ⟨.inr ⟨a,0,rfl⟩,rfl,rfl⟩⟩
  | Cb b o e k0 k1 k2 k3 k4 k5 k6=>
   simp only [E5,Bool.false_or,beq_iff_eq] at hn
   subst hn
   exact⟨_,k0,k1,k2,k3,.inr ⟨b,o,_,rfl,Nat.le_refl _,fun j u hu=>(k5 j u hu).2⟩⟩
 ·rename_i id off len tot
  split at he
  ·rename_i b hb
   split at he
   ·rename_i hc
    simp only [Bool.and_eq_true,decide_eq_true_eq] at hc
    simp only [Option.some.injEq] at he
    subst he
    obtain⟨L,us,m,hxl,hol,hs,hview⟩:=Nz h hr hb
    simp only [E5,hb,beq_iff_eq] at hn
    have hn' : L.Ap=n:=by rw [<- m.Ap];exact hn
    subst hn'
    have hlen:((b.xs.drop off).take len).length=len:=by simp;omega
    refine⟨(us.drop off).take len,qO m.D9 off len,fun x hx=>m.fz hc.1 x (List.mem_of_mem_drop (List.mem_of_mem_take hx)),Yl (oO m.sizes off) len,rC (Z32 m.ones off) len,?_⟩
    rcases hview with ⟨hv,hvv,ho,hl,ht⟩|⟨g,cap,k,hv,hvv,hle,hmx,hk1,hk2⟩
    ·left
     subst hl
     exact⟨.inl hvv,by simp,by simp⟩
    ·right
     refine⟨g,k*L.Ap,cap - off,by rw [hlen];exact hvv,by rw [hlen];omega,?_⟩
     intro j u hu
     rw [Z30 m.sizes] at hu
     have hj:j<len*L.Ap:=by
      have:=(List.getElem?_eq_some_iff.1 hu).1
      simp at this
      omega
     rw [List.getElem?_take,if_pos hj,List.getElem?_drop] at hu
     have hlpos:0<len:=by
      cases len with
      | zero=>simp at hj
      | succ n=>omega
     have hk:k=off:=hk2 (by omega)
     subst hk
     exact m.cell (g:=g) (by rw [hv];rfl) _ _ hu
   ·cases he
  ·cases he
 ·simp [E5] at hn
 ·cases he
theorem We {P:Program} (w:World) (t ty e:TypeId) (i:TypeInfo) (ht:P.underlying t=some (.slice e)) (hi:P.info? e=some i) (a:Option Addr) (n c:Nat) (hn:n<=c) (x:Value) (hx:x = .slice none 0 0\/∃b k,x = .slice (some b) 0 k) :
  (Builtin.append_ #[t,t] ty #[.slice a n c,x]).run P w = .ok (.slice a n c) w:=by
 rcases hx with rfl|⟨b,k,rfl⟩
 ·cases a<;>simp [Builtin.append_,run_underlying ht,sizeOf,typeInfo,hi,Builtin.lenOf,Builtin.firstCells,loadCells,hn,storeCells]
 ·cases a<;>simp [Builtin.append_,run_underlying ht,sizeOf,typeInfo,hi,Builtin.lenOf,Builtin.firstCells,loadCells,loadCellsFrom,hn,storeCells]
theorem kH {P:Program} (w:World) (base:Nat) (t ty e:TypeId) (i:TypeInfo) (z:Value) (size:Nat) (ht:P.underlying t=some (.slice e)) (hi:P.info? e=some i) (hz:i.zero=some z)
  (hsize:i.size=size) (hzs:z.cells.size=size)
  (v:Value) (n:Nat) (xs:List Value) (hown:FZ w base e size v n xs)
  (a:Addr) (m c:Nat) (news:List Value) (hl:news.length=m*size) (hnews:∀j u,news[j]? = some u->w.cell? (a.add j)=some u) (h1:∀u∈news,u.oneCell' = true) (hm:0<m)
  (h63:n+m<=maxLen) (hbytes:(n+m)*i.bytes<=140737488355328) (hbase:base<=w.heap.size) :
  ∃v' w',(Builtin.append_ #[t,t] ty #[v,.slice (some a) m c]).run P w = .ok v' w' /\ FZ w' base e size v' (n+m) (xs++news)/\w.grownBy w' v.ownBlock /\
   v' ≠.slice none 0 0/\(∀g,v'.ownBlock=some g->v.ownBlock=some g\/w.heap.size<=g) /\
   (∀g j,v.ownBlock=some g->j<n*size->w'.cell? ⟨g,j,none⟩=w.cell? ⟨g,j,none⟩):=by
 subst hsize
 have hsmall:n+m<=9223372036854775807:=by simp only [maxLen] at h63;omega
 have hlen:(xs++news).length=(n+m)*i.size:=by rw [List.length_append,hown.1,hl,Nat.add_mul]
 have grown:∀(old:Nat),old<n+m->∀(row:Option Nat),
   FZ (w.drew.alloc (.cells (xs.toArray++news.toArray++Builtin.zeroCells z.cells (grownCap w (n+m) old e - (n+m))) e)) base e i.size
    (.slice (some ⟨w.heap.size,0,none⟩) (n+m) (grownCap w (n+m) old e)) (n+m) (xs++news) /\
   w.grownBy (w.drew.alloc (.cells (xs.toArray++news.toArray++Builtin.zeroCells z.cells (grownCap w (n+m) old e - (n+m))) e)) row:=by
  intro old ho row
  have hge:=grownCap_ge w (n+m) old e
  have hcm:grownCap w (n+m) old e<=maxLen:=grownCap_le_maxLen w (n+m) old e h63
  refine⟨⟨hlen,.inr ⟨w.heap.size,_,_,(0,0),rfl,hbase,heap_alloc_new w.drew _,.inl rfl,hge,hcm,?_,?_⟩⟩,⟨rfl,rfl,rfl,by simp,fun k hk _=>heap_alloc_old w.drew _ hk⟩⟩
  ·simp only [Array.size_append,List.size_toArray,size_zeroCells,hzs,hown.1,hl,<- Nat.add_mul]
   congr 1
   omega
  ·simp only [Array.toList_append,List.append_assoc]
   rw [<- List.append_assoc,<- hlen]
   exact List.take_left
 have hnew:∀g n c,(Value.slice (some ⟨w.heap.size,0,none⟩) n c).ownBlock=some g->w.heap.size<=g:=by
  intro g n c hg
  simp [Value.ownBlock] at hg
  omega
 rcases hown.2 with ⟨rfl,rfl⟩|⟨g,cap,cur,tg,rfl,hbg,hg,htg,hnc,hcm,hcs,htake⟩
 ·have hx:xs=[]:=List.eq_nil_of_length_eq_zero (by simpa using hown.1)
  subst hx
  have hr:=run_append_nil (P:=P) w t ty e i z ht hi hz a m c news hl hnews hm (by omega) (by have hb:=hbytes;simp only [Nat.zero_add] at hb;omega)
  have hgr:=grown 0 (by omega) (Value.ownBlock (.slice none 0 0))
  simp only [Nat.zero_add,List.nil_append,Array.empty_append] at hgr ⊢
  exact⟨_,_,hr,hgr.1,hgr.2,by simp,fun g hg=>.inr (hnew g _ _ hg),fun g j hg=>by simp [Value.ownBlock] at hg⟩
 ·by_cases hroom:n+m<=cap
  ·have hfit:n*i.size+news.length<=cur.size:=by rw [hl,hcs,<- Nat.add_mul];exact Nat.mul_le_mul_right _ hroom
   have hr:=Z5Q (P:=P) (w:=w) t ty e i ht hi g n cap cur tg hg htg a m c news hl hnews h1 hroom hfit
   refine⟨_,_,hr,⟨hlen,.inr ⟨g,cap,_,tg,rfl,hbg,setRow_heap w g cur _ e _ hg,?_,hroom,hcm,?_,?_⟩⟩,⟨rfl,rfl,rfl,by simp,fun k _ hk=>setRow_other w g k _ (fun e=>hk (by simp [Value.ownBlock,e]))⟩,by simp,fun g' hg' =>.inl hg',?_⟩
   ·have:(cur.toList.take (n*i.size)++news++cur.toList.drop (n*i.size+news.length)).toArray.size=cur.size:=by
     simp only [List.size_toArray,List.length_append,List.length_take,List.length_drop,Array.length_toList]
     omega
    rw [this]
    exact htg
   ·simp only [List.size_toArray,List.length_append,List.length_take,List.length_drop,Array.length_toList]
    omega
   ·rw [htake,<- hlen]
    exact List.take_left
   ·intro g' j hg' hj
    simp only [Value.ownBlock,Option.some.injEq] at hg'
    subst hg'
    rw [cell_setRow_same w g j cur _ e tg hg,cell_of_row w g j cur e tg hg]
    rw [List.getElem?_toArray,<- Array.getElem?_toList]
    have hjc:j<cur.size:=by have:=Nat.mul_le_mul_right i.size hnc;omega
    have hlt:j<(cur.toList.take (n*i.size)).length:=by simp;omega
    rw [List.append_assoc,List.getElem?_append_left hlt,List.getElem?_take,if_pos hj]
  ·have holds:∀j u,xs[j]? = some u->w.cell? ((⟨g,0,none⟩:Addr).add j)=some u:=hown.cells (g:=g) rfl
   have hr:=run_append_grow (P:=P) w t ty e i z ht hi hz ⟨g,0,none⟩ n cap xs hown.1 holds a m c news hl hnews (by omega) (by omega) (growslice_fits (by omega) hbytes)
   have hgr:=grown cap (by omega) (Value.ownBlock (.slice (some ⟨g,0,none⟩) n cap))
   refine⟨_,_,hr,hgr.1,hgr.2,by simp,fun g' hg' =>.inr (hnew g' _ _ hg'),?_⟩
   intro g' j hg' hj
   simp only [Value.ownBlock,Option.some.injEq] at hg'
   subst hg'
   exact World.cell?_of_block (heap_alloc_old w.drew _ (by simpa using (FZ.lt hown g rfl).2))
theorem Np {d:TypeDesc} {e:Nat} (h:Ty.slice e=Ko d):d = .slice e:=by
 cases d<;>simp [Ko] at h
 rw [h]
theorem ZP {α:Type} (l:List α) (i:Nat) (x:α) (h:l[i]? = some x):l.set i x=l:=by
 apply List.ext_getElem?
 intro j
 rw [List.getElem?_set]
 split
 ·rename_i e
  subst e
  split
  ·exact h.symm
  ·rename_i hl;rw [List.getElem?_eq_none (by omega)]
 ·rfl
theorem ownBlock_ne {v:Value} {B e size n xs} {w:World} (h:FZ w B e size v n xs) (hne:v≠.slice none 0 0):∃g cap,v = .slice (some ⟨g,0,none⟩) n cap:=by
 rcases h.2 with ⟨hv,_⟩|⟨g,cap,cur,tg,hv,_⟩
 ·exact absurd hv hne
 ·exact⟨g,cap,hv⟩
theorem NL {B w0 σ H w w'} (h:Inv B w0 σ H w) {k:Nat} (hk0:FP H k=true) (hg:w.grownBy w' none) {xs:List V} {us:List Value} {e Ap:Nat} {v' : Value} (hr:AQ σ w xs us) (hk:∀x∈xs,Em x=true)
  (hs:∀u∈us,u.cells.size=Ap) (ho:∀u∈flat us,u.oneCell' = true) (hown:FZ w' B e Ap v' xs.length (flat us)) (hnew:∀g,v'.ownBlock=some g->w.heap.size<=g) (np:Bool) (hnp:np=true->v' = .slice none 0 0) :
  ∃σ',Inv B w0 σ' (place H k (Bg true np e Ap xs)) w' /\ Ext σ w σ' w' /\ AQ σ' w' [.Ba k 0 xs.length xs.length] [v']:=by
 obtain⟨h1,h2⟩:=h.push hg hk0 (Bg true np e Ap xs) rfl ⟨v',xs.length,Ap⟩ (by simp [Bg]) hnew (fun ex=>⟨rfl,⟨us,hr.ext ex,hs,ho,by simpa [Bg] using hown⟩,by simpa [Bg] using hnp,rfl,Z3I hk,fun _ x hx=>QQ (hk x hx)⟩)
 have hval:∃a n c,v' = .slice a n c/\n=xs.length/\n<=c:=by
  rcases hown.2 with ⟨hv,hn⟩|⟨g,cap,cur,tg,hv,_,_,_,hnc,_⟩
  ·exact⟨none,0,0,hv,hn.symm,Nat.le_refl _⟩
  ·exact⟨_,_,cap,hv,rfl,hnc⟩
 obtain⟨a,n,c,hv,hn,hnc⟩:=hval
 refine⟨_,h1,h2,.Ba (L:=⟨v',xs.length,Ap⟩) (by simp [Sg.put]) (Nat.le_refl _) (fun _=>⟨by omega,a,n,c,0,hv,?_,Nat.zero_le _,Nat.le_refl _,fun _=>rfl⟩) ⟨a,n,c,hv⟩ .nil⟩
 subst hn
 rw [hv]
 cases a with
 | none=>simp
 | some a=>simp [Addr.add]
theorem ZnP {B w0 σ H w} {P:Program} (h:Inv B w0 σ H w) {u e:TypeId} (ty:TypeId) {infe:TypeInfo} {id len tot:Nat} {sv xv:Value} {b:Box} {ys:List V} {us:List Value}
  (hd' : P.underlying u=some (.slice e)) (hie:P.info? e=some infe) (hs:AQ σ w [.Ba id 0 len tot] [sv]) (hb:DW H id tot=some b) (c1:b.row=true) (c2:b.elem=e) (c4:b.Ap=infe.size) (c6:b.floor<=len) (c7:len<tot)
  (c8:len+ys.length<=tot) (src:AQ σ w ys us) (soks:∀y∈ys,Em y=true) (ssz:∀y∈us,y.cells.size=infe.size) (sones:∀v∈flat us,v.oneCell' = true)
  (hsrc:(ys=[]/\us=[]/\(xv = .slice none 0 0\/∃b k,xv = .slice (some b) 0 k))\/(0<ys.length/\∃a c,xv = .slice (some a) ys.length c/\∀j u,(flat us)[j]? = some u->w.cell? (a.add j)=some u)) :
  ∃v' w' σ',(Builtin.append_ #[u,u] ty #[sv,xv]).run P w = .ok v' w' /\ Inv B w0 σ' (H.set id { b with xs:=b.xs.take len++ys++b.xs.drop (len+ys.length) }) w' /\ Ext σ w σ' w' /\ AQ σ' w' [.Ba id 0 (len+ys.length) tot] [v']:=by
 obtain⟨L,vs,m,hxl,hol,hsub,hview⟩:=Nz h hs hb
 have hLe:L.Ap=infe.size:=by rw [<- m.Ap];exact c4
 have hlus:us.length=ys.length:=src.length.symm
 rcases hview with ⟨hv,hvv,ho,hl,ht⟩|⟨g,cap,k,hv,hvv,hle,hmx,hk1,hk2⟩
 ·omega
 have hk0:k=0:=by omega
 subst hk0
 have hsv:sv = .slice (some ⟨g,0,none⟩) len cap:=by rw [hvv];simp
 rcases hsrc with ⟨hy,hu,hxv⟩|⟨hm,a',c',hxv,hcell⟩
 ·subst hy
  refine⟨sv,w,σ,?_,?_,Ext.refl σ w,by simpa using hs⟩
  ·rw [hsv]
   exact We w u ty e infe hd' hie _ len cap (by omega) xv hxv
  ·have:H.set id { b with xs:=b.xs.take len++[]++b.xs.drop (len+([]:List V).length) }=H:=by
    apply ZP
    rw [m.hb]
    cases b
    simp
   rw [this]
   exact h
 rcases m.shape with ⟨hn,_,_⟩|⟨g',cap',cur,tg,hv',hB,hh,htg,hn,hm',hcs,ht⟩
 ·rw [hn] at hv;cases hv
 rw [hv'] at hv
 simp only [Value.slice.injEq,Option.some.injEq,Addr.mk.injEq,and_true] at hv
 obtain⟨hgg,_,hcc⟩:=hv
 have hgg:=hgg.symm
 subst hgg
 have hcc:=hcc.symm
 subst hcc
 have hTl:(flat us).length=ys.length*infe.size:=by rw [flat_length ssz,hlus]
 have hmul:len*infe.size+ys.length*infe.size<=tot*infe.size:=by rw [<- Nat.add_mul];exact Nat.mul_le_mul_right _ c8
 have hcapm:tot*infe.size<=cap*infe.size:=Nat.mul_le_mul_right _ hle
 have hcs' : cur.size=cap*infe.size:=by rw [hcs,hLe]
 have hrun:=Z5Q (P:=P) (w:=w) u ty e infe hd' hie g len cap cur tg (by rw [<- c2];exact hh) htg a' ys.length c' (flat us) hTl hcell sones (by omega) (by rw [hTl];omega)
 have hlv:vs.length=tot:=by rw [m.len,hxl]
 have hFl:(flat vs).length=tot*infe.size:=by rw [flat_length m.sizes,hlv,hLe]
 have hcurE:cur.toList=flat vs++cur.toList.drop (tot*infe.size):=by
  rw [<- hLe,<- ht,hxl,List.take_append_drop]
 have hnew:flat (vs.take len++us++vs.drop (len+ys.length))=(flat vs).take (len*infe.size)++flat us++(flat vs).drop ((len+ys.length)*infe.size):=by
  rw [Nl,Nl,bJ m.sizes,Z2n m.sizes,hLe]
 have hcells:cur.toList.take (len*infe.size)++flat us++cur.toList.drop (len*infe.size+(flat us).length)=flat (vs.take len++us++vs.drop (len+ys.length))++cur.toList.drop (tot*infe.size):=by
  rw [hnew,hTl,<- Nat.add_mul]
  have e1:cur.toList.take (len*infe.size)=(flat vs).take (len*infe.size):=by
   conv=>lhs;rw [hcurE]
   rw [List.take_append_of_le_length (by rw [hFl];omega)]
  have e2:cur.toList.drop ((len+ys.length)*infe.size)=(flat vs).drop ((len+ys.length)*infe.size)++cur.toList.drop (tot*infe.size):=by
   conv=>lhs;rw [hcurE]
   rw [List.drop_append_of_le_length (by rw [hFl,Nat.add_mul];omega)]
  rw [e1,e2,<- List.append_assoc]
 rw [hcells] at hrun
 have hsizes' : ∀x∈vs.take len++us++vs.drop (len+ys.length),x.cells.size=L.Ap:=by
  intro x hx
  rcases List.mem_append.1 hx with hx|hx
  ·rcases List.mem_append.1 hx with hx|hx
   ·exact m.sizes x (List.mem_of_mem_take hx)
   ·rw [ssz x hx,hLe]
  ·exact m.sizes x (List.mem_of_mem_drop hx)
 have hlenN:(vs.take len++us++vs.drop (len+ys.length)).length=tot:=by
  simp only [List.length_append,List.length_take,List.length_drop,hlus,hlv]
  omega
 have hlenX:(b.xs.take len++ys++b.xs.drop (len+ys.length)).length=tot:=by
  simp only [List.length_append,List.length_take,List.length_drop,hxl]
  omega
 have hlen' : (flat (vs.take len++us++vs.drop (len+ys.length))).length=tot*L.Ap:=by
  rw [flat_length hsizes',hlenN]
 have hheap:=setRow_heap w g cur (flat (vs.take len++us++vs.drop (len+ys.length))++cur.toList.drop (tot*infe.size)).toArray b.elem tg hh
 have hown:L.v.ownBlock=some g:=by rw [hv'];rfl
 have hgb:w.grownBy (w.setRow g (flat (vs.take len++us++vs.drop (len+ys.length))++cur.toList.drop (tot*infe.size)).toArray) L.v.ownBlock:=
  ⟨rfl,rfl,rfl,by simp,fun k _ hk=>setRow_other w g k _ (fun e=>hk (by rw [hown,e]))⟩
 have hmulE:tot*infe.size<=cap*infe.size:=hcapm
 obtain⟨h1,h2⟩:=h.upd m.hb m.live m.box hgb { b with xs:=b.xs.take len++ys++b.xs.drop (len+ys.length) } m.live L rfl (.inl rfl) rfl (by simp only [hlenX,hxl];exact Nat.le_refl _) (fun g' hg' =>.inl hg')
  (fun g' c' hg' hc' =>by
   rw [hown] at hg'
   cases hg'
   have hfl:b.floor*L.Ap<=len*L.Ap:=Nat.mul_le_mul_right _ c6
   have hc2:c' < len*infe.size:=by rw [<- hLe];omega
   have hcc:c' < cur.size:=by rw [hcs'];omega
   unfold World.cell?
   simp only [hheap,hh]
   have:(flat (vs.take len++us++vs.drop (len+ys.length))++cur.toList.drop (tot*infe.size)).toArray[c']? = cur[c']?:=by
    rw [<- hcells]
    simp only [List.getElem?_toArray]
    rw [List.append_assoc,List.getElem?_append_left (by simp only [List.length_take,Array.length_toList];omega),List.getElem?_take,if_pos hc2]
    simp
   rw [this]) (fun ex=>by
   refine⟨by simp only [hlenX];rw [m.tot,hxl],⟨vs.take len++us++vs.drop (len+ys.length),(((m.D9.ext ex).take len).append (src.ext ex)).append ((m.D9.ext ex).drop (len+ys.length)),hsizes',?_,?_⟩,m.EX,m.Ap,?_,fun hrow=>?_⟩
   ·intro v hv2
    rw [hnew] at hv2
    rcases List.mem_append.1 hv2 with hv2|hv2
    ·rcases List.mem_append.1 hv2 with hv2|hv2
     ·exact m.ones v (List.mem_of_mem_take hv2)
     ·exact sones v hv2
    ·exact m.ones v (List.mem_of_mem_drop hv2)
   ·simp only [hlenX]
    refine⟨hlen',.inr ⟨g,cap,_,tg,by rw [hv',hxl],hB,hheap,?_,by omega,hm',?_,?_⟩⟩
    ·have:(flat (vs.take len++us++vs.drop (len+ys.length))++cur.toList.drop (tot*infe.size)).toArray.size=cur.size:=by
      simp only [List.size_toArray,List.length_append,hlen',List.length_drop,Array.length_toList,hcs',hLe]
      omega
     rw [this]
     exact htg
    ·simp only [List.size_toArray,List.length_append,hlen',List.length_drop,Array.length_toList,hcs',hLe]
     omega
    ·rw [<- hlen']
     simp
   ·intro y hy
    rcases List.mem_append.1 hy with hy|hy
    ·rcases List.mem_append.1 hy with hy|hy
     ·exact m.oks y (List.mem_of_mem_take hy)
     ·exact sV (soks y hy)
    ·exact m.oks y (List.mem_of_mem_drop hy)
   ·intro y hy
    rcases List.mem_append.1 hy with hy|hy
    ·rcases List.mem_append.1 hy with hy|hy
     ·exact m.Ho hrow y (List.mem_of_mem_take hy)
     ·exact QQ (soks y hy)
    ·exact m.Ho hrow y (List.mem_of_mem_drop hy))
 refine⟨_,_,_,by rw [hsv,hxv];exact hrun,h1,h2,?_⟩
 refine .Ba (L:=L) (by simp [Sg.put]) (by rw [m.tot,hxl];exact Nat.le_refl _) (fun _=>⟨by omega,_,_,_,0,hv',by simp [Addr.add],Nat.zero_le _,Nat.le_refl _,fun _=>rfl⟩) ⟨_,_,_,rfl⟩ .nil
theorem ZzP {E B w0 σ H w} {P:Program} (hE:Ci E) (hP:E.P=P) (h:Inv B w0 σ H w) {k:Nat} (hk0:FP H k=true) {t u:TypeId} (ty:TypeId) {s x r:V} {sv xv:Value} {H' : Heap}
  (hs:AQ σ w [s] [sv]) (hx:AQ σ w [x] [xv]) (ha:Lm E k H t u s x=some (r,H')) :
  ∃v' w' σ',(Builtin.append_ #[t,u] ty #[sv,xv]).run P w = .ok v' w' /\ Inv B w0 σ' H' w' /\ Ext σ w σ' w' /\ AQ σ' w' [r] [v']:=by
 unfold Lm at ha
 split at ha
 ·rename_i e sz by' z0 hti
  split at ha
  ·rename_i ei ys hei hut hys
   have hut' : u=t:=by simpa using hut
   subst hut'
   obtain⟨inf,d,hi,hd,q1,q2,q3,q4⟩:=FI (hE.ti _ _ hti)
   have hd' : P.underlying u=some (.slice e):=by rw [hP] at hd;rw [hd,Np q1]
   obtain⟨infe,de,hie,hde,e1,e2,e3,e4⟩:=FI (hE.ti _ _ hei)
   rw [hP] at hie
   split at ha
   ·rename_i hcond
    simp only [Bool.and_eq_true,decide_eq_true_eq] at hcond
    obtain⟨⟨hpos,hesz⟩,hzok⟩:=hcond
    obtain⟨us,src⟩:=src_ok h hx hys hesz
    have hsz:infe.size=ei.size:=e2.symm
    obtain⟨zv,hzv,hzs⟩:∃zv,infe.zero=some zv/\zv.cells.size=ei.size:=by
     unfold TI.TB at hzok
     cases hz:ei.zero with
     | none=>simp [hz] at hzok
     | some z=>
      rw [hz] at e4 hzok
      cases hzz:infe.zero with
      | none=>simp [hzz] at e4
      | some zv=>
       simp only [hzz,Option.map_some,Option.some.injEq] at e4
       simp only [Bool.and_eq_true,beq_iff_eq] at hzok
       refine⟨zv,rfl,?_⟩
       have:=(Xk σ w zv).QO (by rw [<- e4];exact hzok.1)
       rw [<- this,<- e4]
       exact hzok.2
    have hnews:(flat us).length=ys.length*ei.size:=by rw [flat_length src.sizes,src.D9.length]
    have hsrc:(ys=[]/\us=[]/\(xv = .slice none 0 0\/∃b k,xv = .slice (some b) 0 k))\/(0<ys.length/\∃a c,xv = .slice (some a) ys.length c/\∀j u,(flat us)[j]? = some u->w.cell? (a.add j)=some u):=by
     rcases src.val with ⟨hv,hy,hu⟩|⟨b,o,c,hv,hc,hcell⟩
     ·exact .inl ⟨hy,hu,hv⟩
     ·cases hy:ys with
      | nil=>
       left
       subst hy
       exact⟨rfl,src.D9.FM,.inr ⟨_,_,hv⟩⟩
      | cons y yl=>
       right
       refine⟨by simp,⟨b,o,none⟩,c,by rw [<- hy];exact hv,fun j u hj=>by rw [Addr.add_mid];exact hcell j u hj⟩
    split at ha
    ·rename_i id off len tot
     split at ha
     ·rename_i b hb
      split at ha
      ·rename_i hc
       simp only [Bool.and_eq_true,beq_iff_eq,decide_eq_true_eq] at hc
       obtain⟨⟨⟨⟨c1,c2⟩,c3⟩,c4⟩,c5⟩:=hc
       subst c3
       subst c4
       split at ha
       ·rename_i hlim
        simp only [Bool.and_eq_true,decide_eq_true_eq] at hlim
        obtain⟨l1,l2⟩:=hlim
        simp only [Option.some.injEq,Prod.mk.injEq] at ha
        obtain⟨rfl,rfl⟩:=ha
        obtain⟨L,vs,m,hxl,hol,hsub,hview⟩:=Nz h hs hb
        have hLe:L.Ap=ei.size:=by rw [<- m.Ap];exact c5
        have hsv:sv=L.v/\∃a n c,L.v = .slice a n c/\n<=c:=by
         rcases hview with ⟨hv,hvv,ho,hl,ht⟩|⟨g,cap,k,hv,hvv,hle,hmx,hk1,hk2⟩
         ·exact⟨hvv.trans hv.symm,_,_,_,hv,Nat.le_refl _⟩
         ·have:k=0:=by omega
          subst this
          refine⟨?_,_,_,_,hv,hle⟩
          rw [hvv,hv]
          simp
        obtain⟨hsv,a,n,c,hLv,hnc⟩:=hsv
        rcases hsrc with ⟨hy,hu,hxv⟩|⟨hm,a',c',hxv,hcell⟩
        ·subst hy
         refine⟨sv,w,σ,?_,?_,Ext.refl σ w,by simpa using hs⟩
         ·rw [hsv,hLv]
          exact We w u ty e infe hd' hie a n c hnc xv hxv
         ·have:H.set id { b with xs:=b.xs++[],EX:=b.EX&&List.isEmpty ([]:List V) }=H:=by
           apply ZP
           rw [m.hb]
           cases b
           simp
          rw [this]
          exact h
        ·have hown:=m.own
         rw [hLe,c2] at hown
         rw [hxl] at hown
         obtain⟨v',w',hrun,hown',hgr,hne,hnew,hkeep⟩:=kH (P:=P) w B u ty e infe zv ei.size hd' hie hzv hsz hzs L.v len (flat vs) hown a' ys.length c' (flat us) hnews hcell src.ones hm l2
          (by rw [<- e3];exact l1) h.size
         obtain⟨h1,h2⟩:=h.upd m.hb m.live m.box hgr { b with xs:=b.xs++ys,EX:=b.EX&&ys.isEmpty } m.live ⟨v',len+ys.length,L.Ap⟩ rfl (.inr (by simp only [m.tot,hxl];omega)) rfl (by simp)
          hnew (fun g c0 hg hc0=>hkeep g c0 hg (by
           rw [<- hLe,<- hxl]
           exact Nat.lt_of_lt_of_le hc0 (Nat.mul_le_mul_right _ (h.low id b m.hb m.live)))) (fun ex=>by
           refine⟨by simp [hxl],⟨vs++us,(m.D9.ext ex).append (src.D9.ext ex),?_,?_,?_⟩,?_,m.Ap,?_,fun hrow=>?_⟩
           ·intro y hy
            rcases List.mem_append.1 hy with hy|hy
            ·exact m.sizes y hy
            ·rw [src.sizes y hy,hLe]
           ·intro y hy
            rw [Nl] at hy
            rcases List.mem_append.1 hy with hy|hy
            ·exact m.ones y hy
            ·exact src.ones y hy
           ·rw [Nl]
            simp only [List.length_append,hxl,hLe,c2]
            exact hown'
           ·have:ys.isEmpty=false:=by cases ys<;>simp_all
            simp [this,hne]
           ·intro y hy
            rcases List.mem_append.1 hy with hy|hy
            ·exact m.oks y hy
            ·exact sV (src.oks y hy)
           ·intro y hy
            rcases List.mem_append.1 hy with hy|hy
            ·exact m.Ho hrow y hy
            ·exact QQ (src.oks y hy))
         obtain⟨g,cap,hv'⟩:=ownBlock_ne hown' hne
         refine⟨v',w',_,by rw [hsv,hxv];exact hrun,h1,h2,.Ba (L:=⟨v',len+ys.length,L.Ap⟩) (by simp [Sg.put]) (Nat.le_refl _) (fun _=>⟨by omega,_,_,_,0,hv',?_,Nat.zero_le _,Nat.le_refl _,fun _=>rfl⟩) ⟨_,_,_,hv'⟩ .nil⟩
         rw [hv']
         simp [Addr.add]
       ·cases ha
      ·split at ha
       ·rename_i hc
        simp only [Bool.and_eq_true,beq_iff_eq,decide_eq_true_eq] at hc
        obtain⟨⟨⟨⟨⟨⟨c1,c2⟩,c3⟩,c4⟩,c6⟩,c7⟩,c8⟩:=hc
        subst c3
        simp only [Option.some.injEq,Prod.mk.injEq] at ha
        obtain⟨rfl,rfl⟩:=ha
        exact ZnP h ty hd' hie hs hb c1 c2 (by rw [c4,hsz]) c6 c7 c8 src.D9 src.oks (fun y hy=>by rw [src.sizes y hy,hsz]) src.ones hsrc
       ·cases ha
     ·cases ha
    ·
     split at ha
     ·rename_i hlim
      simp only [Bool.and_eq_true,decide_eq_true_eq] at hlim
      obtain⟨l1,l2⟩:=hlim
      simp only [Option.some.injEq,Prod.mk.injEq] at ha
      obtain⟨rfl,rfl⟩:=ha
      have hsv:sv = .slice none 0 0:=by cases hs<;>rfl
      subst hsv
      rcases hsrc with ⟨hy,hu,hxv⟩|⟨hm,a',c',hxv,hcell⟩
      ·subst hy
       subst hu
       obtain⟨σ',h1,h2,h3⟩:=NL (e:=e) (Ap:=ei.size) h hk0 (grownBy_refl w none) (xs:=[]) (us:=[]) .nil (by simp) (by simp) (by simp [flat]) (Um w B e ei.size) (by simp [Value.ownBlock]) false (by simp)
       exact⟨_,w,σ',We w u ty e infe hd' hie none 0 0 (Nat.le_refl _) xv hxv,h1,h2,h3⟩
      ·obtain⟨v',w',hrun,hown',hgr,hne,hnew,hkeep⟩:=kH (P:=P) w B u ty e infe zv ei.size hd' hie hzv hsz hzs (.slice none 0 0) 0 [] (Um w B e ei.size) a' ys.length c' (flat us) hnews hcell src.ones hm (by simpa using l2)
        (by rw [<- e3];simpa [lim] using l1) h.size
       simp only [Nat.zero_add,List.nil_append] at hown'
       obtain⟨σ',h1,h2,h3⟩:=NL (e:=e) (Ap:=ei.size) h hk0 hgr src.D9 src.oks src.sizes src.ones hown' (fun g hg=>by
        rcases hnew g hg with hh|hh
        ·simp [Value.ownBlock] at hh
        ·exact hh) false (by simp)
       exact⟨v',w',σ',by rw [hxv];exact hrun,h1,h2,h3⟩
     ·cases ha
    ·
     split at ha
     ·rename_i hlim
      simp only [Bool.and_eq_true,decide_eq_true_eq] at hlim
      obtain⟨l1,l2⟩:=hlim
      simp only [Option.some.injEq,Prod.mk.injEq] at ha
      obtain⟨rfl,rfl⟩:=ha
      have hsv:sv = .slice none 0 0:=by cases hs<;>rfl
      subst hsv
      rcases hsrc with ⟨hy,hu,hxv⟩|⟨hm,a',c',hxv,hcell⟩
      ·subst hy
       subst hu
       obtain⟨σ',h1,h2,h3⟩:=NL (e:=e) (Ap:=ei.size) h hk0 (grownBy_refl w none) (xs:=[]) (us:=[]) .nil (by simp) (by simp) (by simp [flat]) (Um w B e ei.size) (by simp [Value.ownBlock]) false (by simp)
       exact⟨_,w,σ',We w u ty e infe hd' hie none 0 0 (Nat.le_refl _) xv hxv,h1,h2,h3⟩
      ·obtain⟨v',w',hrun,hown',hgr,hne,hnew,hkeep⟩:=kH (P:=P) w B u ty e infe zv ei.size hd' hie hzv hsz hzs (.slice none 0 0) 0 [] (Um w B e ei.size) a' ys.length c' (flat us) hnews hcell src.ones hm (by simpa using l2)
        (by rw [<- e3];simpa [lim] using l1) h.size
       simp only [Nat.zero_add,List.nil_append] at hown'
       obtain⟨σ',h1,h2,h3⟩:=NL (e:=e) (Ap:=ei.size) h hk0 hgr src.D9 src.oks src.sizes src.ones hown' (fun g hg=>by
        rcases hnew g hg with hh|hh
        ·simp [Value.ownBlock] at hh
        ·exact hh) false (by simp)
       exact⟨v',w',σ',by rw [hxv];exact hrun,h1,h2,h3⟩
     ·cases ha
    ·
     rename_i es xs
     split at ha
     ·rename_i hlim
      simp only [Bool.and_eq_true,decide_eq_true_eq,beq_iff_eq] at hlim
      obtain⟨⟨l0,l1⟩,l2⟩:=hlim
      by_cases l3:ys.isEmpty=true
      ·rw [if_pos l3] at ha
       simp only [Option.some.injEq,Prod.mk.injEq] at ha
       obtain⟨rfl,rfl⟩:=ha
       have hxz:xv = .slice none 0 0\/∃b k,xv = .slice (some b) 0 k:=by
        rcases hsrc with ⟨hy,hu,hxv⟩|⟨hm,a',c',hxv,hcell⟩
        ·exact hxv
        ·cases ys with
         | nil=>simp at hm
         | cons y ys=>simp at l3
       have hsv:∃a n,sv = .slice a n n:=by
        cases hs with
        | Fh _=>exact⟨_,_,rfl⟩
        | GL a _=>exact⟨_,_,rfl⟩
        | Cb b o _ k0 k1 k2 k3 k4 k5 _=>exact⟨_,_,rfl⟩
       obtain⟨sa,sn,rfl⟩:=hsv
       exact⟨_,w,σ,We w u ty e infe hd' hie sa sn sn (Nat.le_refl _) xv hxz,h,Ext.refl σ w,hs⟩
      rw [if_neg l3] at ha
      simp only [Option.some.injEq,Prod.mk.injEq] at ha
      obtain⟨rfl,rfl⟩:=ha
      cases hs with
      | Fh _=>
       rcases hsrc with ⟨hy,hu,hxv⟩|⟨hm,a',c',hxv,hcell⟩
       ·subst hy;simp at l3
       ·obtain⟨v',w',hrun,hown',hgr,hne,hnew,hkeep⟩:=kH (P:=P) w B u ty e infe zv ei.size hd' hie hzv hsz hzs (.slice none 0 0) 0 [] (Um w B e ei.size) a' ys.length c' (flat us) hnews hcell src.ones hm (by simpa using l2)
         (by rw [<- e3];simpa [lim] using l1) h.size
        simp only [Nat.zero_add,List.nil_append] at hown'
        obtain⟨σ',h1,h2,h3⟩:=NL (e:=e) (Ap:=ei.size) h hk0 hgr src.D9 src.oks src.sizes src.ones hown' (fun g hg=>by
         rcases hnew g hg with hh|hh
         ·simp [Value.ownBlock] at hh
         ·exact hh) false (by simp [hne])
        exact⟨v',w',σ',by rw [hxv];exact hrun,by simpa using h1,h2,by simpa using h3⟩
      | GL sa _=>
       rcases hsrc with ⟨hy,hu,hxv⟩|⟨hm,a',c',hxv,hcell⟩
       ·subst hy;simp at l3
       ·have hold:(flat []).length=0*infe.size:=by simp [flat]
        have l2' : ys.length<=maxLen:=by simpa using l2
        have hsmall:ys.length<=9223372036854775807:=by simpa [maxLen] using l2'
        have hrun:=run_append_grow (P:=P) w u ty e infe zv hd' hie hzv sa 0 0 (flat []) hold (fun j u hj=>by simp [flat] at hj) a' ys.length c' (flat us) (by rw [hnews,hsz]) hcell (by omega) (by omega)
         (growslice_fits (by omega) (by rw [<- e3];simpa [lim] using l1))
        simp only [Nat.zero_add] at hrun
        have hge:=grownCap_ge w ys.length 0 e
        have hcm:grownCap w ys.length 0 e<=maxLen:=grownCap_le_maxLen w _ _ e l2'
        have hown:(w.drew.alloc (.cells ((flat []).toArray++(flat us).toArray++Builtin.zeroCells zv.cells (grownCap w ys.length 0 e - ys.length)) e)).ownsRow B e ei.size
          (.slice (some ⟨w.heap.size,0,none⟩) ys.length (grownCap w ys.length 0 e)) ys.length (flat us):=by
         have hl:(flat us).length=ys.length*ei.size:=by rw [hnews]
         refine⟨hl,.inr ⟨w.heap.size,_,_,rfl,h.size,heap_alloc_new w.drew _,hge,hcm,?_,?_⟩⟩
         ·simp only [Array.size_append,List.size_toArray,size_zeroCells,hzs,hnews]
          simp only [flat,List.flatMap_nil,List.length_nil,Nat.zero_add]
          rw [<- Nat.add_mul]
          congr 1
          omega
         ·simp only [Array.toList_append,List.append_assoc]
          simp only [flat,List.flatMap_nil,List.nil_append]
          rw [<- hl]
          exact List.take_left
        have hgr2:w.grownBy (w.drew.alloc (.cells ((flat []).toArray++(flat us).toArray++Builtin.zeroCells zv.cells (grownCap w ys.length 0 e - ys.length)) e)) none:=
         ⟨rfl,rfl,rfl,by simp,fun k hk _=>heap_alloc_old w.drew _ hk⟩
        obtain⟨σ',h1,h2,h3⟩:=NL (e:=e) (Ap:=ei.size) h hk0 hgr2 src.D9 src.oks src.sizes src.ones (.of hown) (by simp [Value.ownBlock]) false (by simp)
        exact⟨_,_,σ',by rw [hxv];exact hrun,by simpa using h1,h2,by simpa using h3⟩
      | Cb b o e' k0 k1 k2 k3 k4 k5 k6=>
       rename_i vs
       rcases hsrc with ⟨hy,hu,hxv⟩|⟨hm,a',c',hxv,hcell⟩
       ·subst hy;simp at l3
       ·have hold:(flat vs).length=xs.length*infe.size:=by rw [flat_length k2,<- k0.length,hsz,l0]
        have hsmall:xs.length+ys.length<=9223372036854775807:=by simp only [maxLen] at l2;omega
        have hrun:=run_append_grow (P:=P) w u ty e infe zv hd' hie hzv ⟨b,o,none⟩ xs.length xs.length (flat vs) hold (fun j u hj=>by rw [Addr.add_mid];exact(k5 j u hj).2) a' ys.length c' (flat us) (by rw [hnews,hsz]) hcell (by omega) (by omega)
         (growslice_fits (by omega) (by rw [<- e3];simpa [lim] using l1))
        have hge:=grownCap_ge w (xs.length+ys.length) xs.length e
        have hcm:grownCap w (xs.length+ys.length) xs.length e<=maxLen:=grownCap_le_maxLen w _ _ e l2
        have hown:(w.drew.alloc (.cells ((flat vs).toArray++(flat us).toArray++Builtin.zeroCells zv.cells (grownCap w (xs.length+ys.length) xs.length e - (xs.length+ys.length))) e)).ownsRow B e ei.size
          (.slice (some ⟨w.heap.size,0,none⟩) (xs.length+ys.length) (grownCap w (xs.length+ys.length) xs.length e)) (xs++ys).length (flat (vs++us)):=by
         have hl:(flat (vs++us)).length=(xs.length+ys.length)*ei.size:=by rw [Nl,List.length_append,hold,hnews,hsz,Nat.add_mul]
         rw [List.length_append]
         refine⟨hl,.inr ⟨w.heap.size,_,_,rfl,h.size,heap_alloc_new w.drew _,hge,hcm,?_,?_⟩⟩
         ·simp only [Array.size_append,List.size_toArray,size_zeroCells,hzs,hold,hnews,hsz,<- Nat.add_mul]
          congr 1
          omega
         ·simp only [Array.toList_append,List.append_assoc]
          rw [<- List.append_assoc,<- Nl,<- hl]
          exact List.take_left
        have hgr2:w.grownBy (w.drew.alloc (.cells ((flat vs).toArray++(flat us).toArray++Builtin.zeroCells zv.cells (grownCap w (xs.length+ys.length) xs.length e - (xs.length+ys.length))) e)) none:=
         ⟨rfl,rfl,rfl,by simp,fun k hk _=>heap_alloc_old w.drew _ hk⟩
        obtain⟨σ',h1,h2,h3⟩:=NL (e:=e) (Ap:=ei.size) h hk0 hgr2 (k0.append src.D9)
         (fun y hy=>by rcases List.mem_append.1 hy with hy|hy;exact k1 y hy;exact src.oks y hy)
         (fun y hy=>by rcases List.mem_append.1 hy with hy|hy;exact(k2 y hy).trans l0;exact src.sizes y hy)
         (fun y hy=>by rw [Nl] at hy;rcases List.mem_append.1 hy with hy|hy;exact k3 y hy;exact src.ones y hy) (.of hown) (by simp [Value.ownBlock]) false (by simp)
        rw [List.length_append] at h3
        exact⟨_,_,σ',by rw [hxv];exact hrun,h1,h2,h3⟩
     ·cases ha
    ·cases ha
   ·cases ha
  ·cases ha
 ·cases ha
theorem Za5 {P:Program} (w:World) (t u ty e:TypeId) (i:TypeInfo) (ht:P.underlying t=some (.slice e)) (hi:P.info? e=some i) (a:Option Addr) (dl dc:Nat) (s:Option Addr) (sl sc:Nat) (cs:List Value) (w' : World)
  (hcs:cs.length=Nat.min sl dl*i.size) (hs:s=none->cs=[]) (hsrc:∀b,s=some b->∀j v,cs[j]? = some v->w.cell? (b.add j)=some v)
  (hst:∀a',a=some a' -> (storeCells a' cs).run P w = .ok () w') (hn:a=none->w' = w) :
  (Builtin.copy_ #[t,u] ty #[.slice a dl dc,.slice s sl sc]).run P w = .ok (goInt (Nat.min sl dl:Nat)) w' :=by
 have hf:(Builtin.firstCells i.size (Nat.min sl dl) (.slice s sl sc)).run P w = .ok cs.toArray w:=by
  cases s with
  | none=>rw [hs rfl];rfl
  | some b=>
   have:=run_loadCells_list (P:=P) w b cs (hsrc b rfl)
   rw [hcs] at this
   exact this
 cases a with
 | none=>
  rw [hn rfl]
  simp [Builtin.copy_,run_underlying ht,Builtin.lenOf,sizeOf,typeInfo,hi,hf]
 | some a' =>simp [Builtin.copy_,run_underlying ht,Builtin.lenOf,sizeOf,typeInfo,hi,hf,hst a' rfl]
theorem ZDa {E B w0 σ H w} {P:Program} (hE:Ci E) (hP:E.P=P) (h:Inv B w0 σ H w) {t u:TypeId} (ty:TypeId) {d x r:V} {dv xv:Value} {H' : Heap}
  (hd:AQ σ w [d] [dv]) (hx:AQ σ w [x] [xv]) (hc:gU E H t u d x=some (r,H')) :
  ∃v' w' σ',(Builtin.copy_ #[t,u] ty #[dv,xv]).run P w = .ok v' w' /\ Inv B w0 σ' H' w' /\ Ext σ w σ' w' /\ AQ σ' w' [r] [v']:=by
 unfold gU at hc
 split at hc
 ·rename_i e sz by' z0 hti
  split at hc
  ·rename_i ei ys id off len tot hei hys
   obtain⟨inf,dd,hi,hdd,q1,q2,q3,q4⟩:=FI (hE.ti _ _ hti)
   have hd' : P.underlying t=some (.slice e):=by rw [hP] at hdd;rw [hdd,Np q1]
   obtain⟨infe,de,hie,hde,e1,e2,e3,e4⟩:=FI (hE.ti _ _ hei)
   rw [hP] at hie
   split at hc
   ·rename_i b hb
    split at hc
    ·rename_i hcond
     simp only [Bool.and_eq_true,beq_iff_eq,decide_eq_true_eq] at hcond
     obtain⟨⟨⟨⟨⟨c1,c2⟩,c3⟩,c4⟩,c5⟩,c6⟩:=hcond
     subst c2
     subst c3
     simp only [Option.some.injEq,Prod.mk.injEq] at hc
     obtain⟨rfl,rfl⟩:=hc
     obtain⟨us,src⟩:=src_ok h hx hys c5
     obtain⟨L,vs,m,hxl,hol,hsub,hview⟩:=Nz h hd hb
     have hLe:L.Ap=ei.size:=by rw [<- m.Ap];exact c4
     have hsz:infe.size=ei.size:=e2.symm
     have hlus:us.length=ys.length:=src.D9.length.symm
     have hnum:∀n:Nat,n<=maxLen->∀(σ' : Sg) (w' : World),AQ σ' w' [.lit (.int .i64 (n:Nat))] [goInt n]:=fun n hn σ' w' =>by
      refine .lit ?_ .nil
      have:(Lit.int .i64 (n:Int)).wf=true:=by
       simp [Lit.wf,IntKind.min,IntKind.max,IntKind.signed,IntKind.bits,maxLen] at hn ⊢
       omega
      exact this
     obtain⟨sa,sc,hxv,hsn,hcell⟩:∃(sa:Option Addr) (sc:Nat),xv = .slice sa ys.length sc/\(sa=none->us=[])/\∀b',sa=some b' -> ∀j v,(flat us)[j]? = some v->w.cell? (b'.add j)=some v:=by
      rcases src.val with ⟨hv,hy,hu⟩|⟨b',o,c,hv,hc',hcell⟩
      ·rcases hv with hv|⟨a,k,hv⟩
       ·exact⟨none,0,by rw [hy];exact hv,fun _=>hu,fun b' hb' =>by cases hb'⟩
       ·exact⟨some a,k,by rw [hy];exact hv,fun _=>hu,fun b' _ j v hj=>by rw [hu] at hj;simp [flat] at hj⟩
      ·exact⟨some ⟨b',o,none⟩,c,hv,(fun hh=>by cases hh),(fun b2 hb2 j v hj=>by cases hb2;rw [Addr.add_mid];exact hcell j v hj)⟩
     have hsrc' : ∀b',sa=some b' -> ∀j v,(flat (us.take len))[j]? = some v->w.cell? (b'.add j)=some v:=fun b' hb' j v hj=>by
      rw [bJ src.sizes] at hj
      refine hcell b' hb' j v ?_
      rw [List.getElem?_take] at hj
      split at hj
      ·exact hj
      ·cases hj
     have hmin:Nat.min ys.length len=min ys.length len:=rfl
     have hcsl:(flat (us.take len)).length=Nat.min ys.length len*infe.size:=by
      rw [flat_length (Yl src.sizes len),List.length_take,hlus,hsz,hmin,Nat.min_comm]
     have hsn' : sa=none->flat (us.take len)=[]:=fun hh=>by rw [hsn hh];simp [flat]
     rw [hxv]
     rcases hview with ⟨hv,hvv,ho,hl,ht⟩|⟨g,cap,k,hv,hvv,hle,hmx,hk1,hk2⟩
     ·subst hl
      refine⟨_,w,σ,?_,?_,Ext.refl σ w,hnum _ (by simp) σ w⟩
      ·rw [hvv]
       have:=Za5 (P:=P) w t u ty e infe hd' hie none 0 0 sa ys.length sc (flat (us.take 0)) w hcsl hsn' hsrc' (fun a' ha' =>by cases ha') (fun _=>rfl)
       simpa [hmin] using this
      ·have hxs:b.xs=[]:=List.eq_nil_of_length_eq_zero hxl
       have:H.set id { b with xs:=ys.take 0++b.xs.drop ys.length }=H:=by
        apply ZP
        rw [m.hb]
        cases b
        simp only at hxs
        simp [hxs]
       rw [this]
       exact h
     ·have hk0:k=0:=by omega
      subst hk0
      rcases m.shape with ⟨hn,_,_⟩|⟨g',cap',cur,tg,hv',hB,hh,htg,hn,hm,hcs,ht⟩
      ·rw [hn] at hv;cases hv
      ·rw [hv'] at hv
       simp only [Value.slice.injEq,Option.some.injEq,Addr.mk.injEq,and_true] at hv
       obtain⟨hgg,_,hcc⟩:=hv
       have hgg:=hgg.symm
       subst hgg
       have hcc:=hcc.symm
       subst hcc
       have hfit:0+0+(flat (us.take len)).length<=cur.size:=by
        rw [hcsl,hcs,hsz,hLe,hmin]
        have:min ys.length len<=cap:=by omega
        simpa using Nat.mul_le_mul_right ei.size this
       have hones:∀v∈flat (us.take len),v.oneCell' = true:=rC src.ones len
       have hrun:=jJ P g 0 b.elem tg (flat (us.take len)) 0 cur w hh htg hfit hones
       simp only [Nat.add_zero,Nat.zero_add,List.take_zero,List.nil_append] at hrun
       have hnew:flat (us.take len++vs.drop ys.length)=flat (us.take len)++(flat vs).drop (ys.length*L.Ap):=by
        rw [Nl,Z2n m.sizes]
       have hlv:vs.length=len:=by rw [m.len,hxl]
       have hcurE:cur.toList=flat vs++cur.toList.drop (len*L.Ap):=by
        rw [<- ht,hxl,List.take_append_drop]
       have hFl:(flat vs).length=len*L.Ap:=by rw [flat_length m.sizes,hlv]
       have hTl:(flat (us.take len)).length=min ys.length len*L.Ap:=by rw [hcsl,hsz,hLe]
       have hrest:cur.toList.drop (flat (us.take len)).length=(flat vs).drop (ys.length*L.Ap)++cur.toList.drop (len*L.Ap):=by
        rw [hTl]
        by_cases hyl:ys.length<=len
        ·rw [Nat.min_eq_left hyl]
         conv=>lhs;rw [hcurE]
         rw [List.drop_append_of_le_length (by rw [hFl];exact Nat.mul_le_mul_right _ hyl)]
        ·have hyl' : len<=ys.length:=by omega
         rw [Nat.min_eq_right hyl',List.drop_eq_nil_of_le (as:=flat vs) (by rw [hFl];exact Nat.mul_le_mul_right _ hyl'),List.nil_append]
       rw [hrest,<- List.append_assoc,<- hnew] at hrun
       have hsizes' : ∀u∈us.take len++vs.drop ys.length,u.cells.size=L.Ap:=by
        intro u hu
        rcases List.mem_append.1 hu with hu|hu
        ·rw [Yl src.sizes len u hu,hLe]
        ·exact m.sizes u (List.mem_of_mem_drop hu)
       have hlenN:(us.take len++vs.drop ys.length).length=len:=by
        simp only [List.length_append,List.length_take,List.length_drop,hlus,hlv]
        omega
       have hlenX:(ys.take len++b.xs.drop ys.length).length=len:=by
        simp only [List.length_append,List.length_take,List.length_drop,hxl]
        omega
       have hlen' : (flat (us.take len++vs.drop ys.length)).length=len*L.Ap:=by
        rw [flat_length hsizes',hlenN]
       have hheap:=setRow_heap w g cur (flat (us.take len++vs.drop ys.length)++cur.toList.drop (len*L.Ap)).toArray b.elem tg hh
       have hown:L.v.ownBlock=some g:=by rw [hv'];rfl
       have hgb:w.grownBy (w.setRow g (flat (us.take len++vs.drop ys.length)++cur.toList.drop (len*L.Ap)).toArray) L.v.ownBlock:=
        ⟨rfl,rfl,rfl,by simp,fun k _ hk=>setRow_other w g k _ (fun e=>hk (by rw [hown,e]))⟩
       obtain⟨h1,h2⟩:=h.upd m.hb m.live m.box hgb { b with xs:=ys.take len++b.xs.drop ys.length } m.live L rfl (.inl rfl) rfl (by simp only [hlenX,hxl];exact Nat.le_refl _) (fun g' hg' =>.inl hg')
        (fun g' c' _ hc' =>by rw [c6,Nat.zero_mul] at hc';omega) (fun ex=>by
         refine⟨by simp only [hlenX];rw [m.tot,hxl],⟨us.take len++vs.drop ys.length,((src.D9.ext ex).take len).append ((m.D9.ext ex).drop ys.length),hsizes',?_,?_⟩,m.EX,m.Ap,?_,fun hrow=>?_⟩
         ·intro v hv2
          rw [hnew] at hv2
          rcases List.mem_append.1 hv2 with hv2|hv2
          ·exact hones v hv2
          ·exact m.ones v (List.mem_of_mem_drop hv2)
         ·simp only [hlenX]
          refine⟨hlen',.inr ⟨g,cap,_,tg,by rw [hv',hxl],hB,hheap,?_,by omega,hm,?_,?_⟩⟩
          ·have:(flat (us.take len++vs.drop ys.length)++cur.toList.drop (len*L.Ap)).toArray.size=cur.size:=by
            simp only [List.size_toArray,List.length_append,hlen',List.length_drop,Array.length_toList,hcs]
            have:=Nat.mul_le_mul_right L.Ap hle
            omega
           rw [this]
           exact htg
          ·simp only [List.size_toArray,List.length_append,hlen',List.length_drop,Array.length_toList,hcs]
           have:=Nat.mul_le_mul_right L.Ap hle
           omega
          ·rw [List.take_append_of_le_length (by omega),List.take_of_length_le (by omega)]
         ·intro y hy
          rcases List.mem_append.1 hy with hy|hy
          ·exact sV (src.oks y (List.mem_of_mem_take hy))
          ·exact m.oks y (List.mem_of_mem_drop hy)
         ·intro y hy
          rcases List.mem_append.1 hy with hy|hy
          ·exact QQ (src.oks y (List.mem_of_mem_take hy))
          ·exact m.Ho hrow y (List.mem_of_mem_drop hy))
       refine⟨_,_,_,?_,h1,h2,hnum _ (by have:cap<=maxLen:=hm;omega) _ _⟩
       rw [hvv]
       have:=Za5 (P:=P) w t u ty e infe hd' hie (some ⟨g,0*L.Ap,none⟩) len (cap - 0) sa ys.length sc (flat (us.take len)) _ hcsl hsn' hsrc' (fun a' ha' =>by cases ha';simpa using hrun) (fun hh=>by cases hh)
       simpa [hmin] using this
    ·cases hc
   ·cases hc
  ·cases hc
 ·cases hc
theorem Zm8 {zv:Value} {s:Nat} (hs:0<s) (hz:zv.cells.size=s) (n:Nat):∀k,(flat (List.replicate n zv))[k]? = if k<n*s then zv.cells[k % s]? else none:=by
 intro k
 have:=Go.Great.flat_get hs (List.replicate n zv) (fun v hv=>by rw [(List.mem_replicate.1 hv).2];exact hz) k
 have h2:(List.flatMap (fun v:Value=>v.cells.toList) (List.replicate n zv))[k]? = (flat (List.replicate n zv))[k]?:=rfl
 rw [<- h2,this,List.getElem?_replicate]
 by_cases h:k<n*s
 ·have:k / s<n:=(Nat.div_lt_iff_lt_mul hs).2 h
  rw [if_pos this,if_pos h]
  rfl
 ·have:¬k / s<n:=fun hh=>h ((Nat.div_lt_iff_lt_mul hs).1 hh)
  rw [if_neg this,if_neg h]
  rfl
theorem Z7o {zv:Value} {s:Nat} (hs:0<s) (hz:zv.cells.size=s) (n:Nat):(madeCells zv.cells (n*s)).toList=flat (List.replicate n zv):=by
 apply List.ext_getElem?
 intro k
 rw [Zm8 hs hz]
 by_cases h:k<n*s
 ·rw [if_pos h]
  have hm:k % s<zv.cells.size:=by rw [hz];exact Nat.mod_lt _ hs
  simp [madeCells,h,hz]
  rw [getElem!_pos zv.cells (k % s) hm,Array.getElem?_eq_getElem hm]
 ·rw [if_neg h]
  simp [madeCells,h]
theorem qQ {E:Env} {P:Program} (hE:Ci E) (hP:E.P=P) {e:TypeId} {ei:TI} (hei:E.ti e=some ei) {z:V} (hz:ei.zero=some z) (σ:Sg) (w:World) :
  ∃infe zv,P.info? e=some infe/\infe.zero=some zv/\infe.size=ei.size/\infe.bytes=ei.bytes/\AQ σ w [z] [zv]:=by
 obtain⟨infe,de,hie,hde,e1,e2,e3,e4⟩:=FI (hE.ti _ _ hei)
 rw [hP] at hie
 rw [hz] at e4
 cases hzz:infe.zero with
 | none=>simp [hzz] at e4
 | some zv=>
  simp only [hzz,Option.map_some,Option.some.injEq] at e4
  exact⟨infe,zv,hie,hzz,e2.symm,e3.symm,by rw [e4];exact Xk σ w zv⟩
theorem Z9w (v:Value):CU (OT v)=true:=by
 unfold OT
 split
 ·rfl
 ·split<;>rfl
theorem ZnC (v:Value):CU (PD v)=true:=by
 unfold PD
 split
 ·split
  ·rename_i cs _
   rw [show CU (.agg (cs.toList.map OT))=CJ (cs.toList.map OT) from rfl,KG]
   intro x hx
   obtain⟨c,_,rfl⟩:=List.mem_map.1 hx
   exact Z9w c
  ·rfl
 ·split<;>rfl
 ·split
  ·exact Z9w _
  ·rfl
theorem ZbW {E:Env} (hE:Ci E) {e:TypeId} {ei:TI} (hei:E.ti e=some ei) {z:V} (hz:ei.zero=some z):CU z=true:=by
 obtain⟨infe,de,hie,hde,e1,e2,e3,e4⟩:=FI (hE.ti _ _ hei)
 rw [hz] at e4
 cases hzz:infe.zero with
 | none=>simp [hzz] at e4
 | some zv=>
  simp only [hzz,Option.map_some,Option.some.injEq] at e4
  rw [e4]
  exact ZnC zv
theorem ZCO {E B w0 σ H w} {P:Program} (hE:Ci E) (hP:E.P=P) (h:Inv B w0 σ H w) {k:Nat} (hk0:FP H k=true) {t e:TypeId} {ei:TI} {z:V} {kl kc:IntKind} {n m:Int}
  (ht:P.underlying t=some (.slice e)) (hei:E.ti e=some ei) (hz:ei.zero=some z)
  (h0:0<=n) (hnm:n<=m) (hby:m.toNat*ei.bytes<=lim) (hmx:m<=maxLen) (hpos:0<ei.size) (hzl:z.cells.length=ei.size) (hzo:okV z=true) (es:List Nat) :
  ∃v' w' σ',(Instr.makeSlice t (.int kl n) (.int kc m)).run P w = .ok v' w' /\ Inv B w0 σ' (place H k (Bg true false e ei.size (List.replicate n.toNat (Du es z)))) w' /\ Ext σ w σ' w' /\
   AQ σ' w' [.Ba k 0 n.toNat n.toNat] [v']:=by
 obtain⟨infe,zv,hie,hzv,hsz,hbz,hzr⟩:=qQ hE hP hei hz σ w
 have hzs:zv.cells.size=ei.size:=by rw [<- hzr.QO hzo];exact hzl
 have hmm:m<=9223372036854775807:=by
  have:(maxLen:Int)=9223372036854775807:=by simp [maxLen]
  omega
 have hbb:(infe.bytes:Int)*m<=281474976710656:=by
  have h1:((m.toNat*ei.bytes:Nat):Int)<=140737488355328:=by
   have:m.toNat*ei.bytes<=140737488355328:=by simpa [lim] using hby
   omega
  rw [Int.natCast_mul,Int.toNat_of_nonneg (by omega),Int.mul_comm] at h1
  rw [hbz]
  omega
 have hrun:=run_make (P:=P) w t e infe zv ht hie hzv kl kc n m h0 hnm hbb hmm
 rw [hsz] at hrun
 have hnn:n.toNat<=m.toNat:=by omega
 have hrep:=AQ.replicate n.toNat (RU es hzr)
 have hsizes:∀u∈List.replicate n.toNat zv,u.cells.size=ei.size:=fun u hu=>by rw [(List.mem_replicate.1 hu).2];exact hzs
 have hones:∀u∈flat (List.replicate n.toNat zv),u.oneCell' = true:=by
  intro u hu
  simp only [flat,List.mem_flatMap] at hu
  obtain⟨a,ha,hb⟩:=hu
  rw [(List.mem_replicate.1 ha).2] at hb
  exact(hzr.cells hzo).2 u hb
 have hlen:(List.replicate n.toNat (Du es z)).length=n.toNat:=by simp
 have hmd:=Z7o hpos hzs m.toNat
 have hown:(w.alloc (.cells (madeCells zv.cells (m.toNat*ei.size)) e)).ownsRow B e ei.size (.slice (some ⟨w.heap.size,0,none⟩) n.toNat m.toNat) (List.replicate n.toNat (Du es z)).length (flat (List.replicate n.toNat zv)):=by
  rw [hlen]
  refine⟨by rw [flat_length hsizes];simp,.inr ⟨w.heap.size,m.toNat,_,rfl,h.size,heap_alloc_new w _,hnn,by omega,size_madeCells _ _,?_⟩⟩
  rw [hmd]
  have:List.replicate n.toNat zv=(List.replicate m.toNat zv).take n.toNat:=by rw [List.take_replicate,Nat.min_eq_left hnn]
  rw [this,bJ (e:=ei.size) (fun u hu=>by rw [(List.mem_replicate.1 hu).2];exact hzs)]
 obtain⟨σ',h1,h2,h3⟩:=NL (e:=e) (Ap:=ei.size) h hk0 (w.grownBy_alloc _ none) hrep (fun x hx=>by rw [(List.mem_replicate.1 hx).2];simp [Em,qK,RN,hzo,ZbW hE hei hz]) hsizes hones (.of hown) (by simp [Value.ownBlock]) false (by simp)
 rw [hlen] at h3
 exact⟨_,_,σ',hrun,h1,h2,h3⟩
theorem ZcY (v:Value) (off:Nat) (cs:Array Value) (h:off+v.cells.size<=cs.size) :
  (v.cells.zipIdx.foldl (fun cs (x:Value×Nat)=>cs.setIfInBounds (off+x.2) x.1) cs).toList=cs.toList.take off++v.cells.toList++cs.toList.drop (off+v.cells.size):=by
 obtain⟨h1,h2⟩:=Go.Great.foldl_set off v.cells.toList 0 cs
 have he:v.cells.zipIdx.foldl (fun cs (x:Value×Nat)=>cs.setIfInBounds (off+x.2) x.1) cs=(v.cells.toList.zipIdx 0).foldl (fun cs (x:Value×Nat)=>cs.setIfInBounds (off+x.2) x.1) cs:=by
  rw [<- Array.foldl_toList]
  simp
 rw [he]
 apply List.ext_getElem?
 intro k
 rw [Array.getElem?_toList,h2 k]
 simp only [Nat.add_zero,Array.length_toList]
 by_cases hk1:k<off
 ·rw [if_neg (by omega),List.append_assoc,List.getElem?_append_left (by simp;omega),List.getElem?_take,if_pos hk1,Array.getElem?_toList]
 ·by_cases hk2:k<off+v.cells.size
  ·rw [if_pos ⟨by omega,hk2,by omega⟩,List.append_assoc,List.getElem?_append_right (by simp;omega),List.getElem?_append_left (by simp;omega)]
   congr 1
   simp
   omega
  ·rw [if_neg (by omega),List.append_assoc,List.getElem?_append_right (by simp;omega),List.getElem?_append_right (by simp;omega),List.getElem?_drop,Array.getElem?_toList]
   congr 1
   simp
   omega
inductive Parts (σ:Sg) (w:World):List (Nat×V)->List (Nat×Value)->Prop where
 | nil:Parts σ w [] []
 | cons {i x v xs vs}:AQ σ w [x] [v]->Parts σ w xs vs->Parts σ w ((i,x)::xs) ((i,v)::vs)
theorem ZcQ {σ w} {place:Nat->Option (Nat×Nat)}:∀{parts:List (Nat×V)} {vparts:List (Nat×Value)} {cs cs' : List V} {ws:List Value},Parts σ w parts vparts->AQ σ w cs ws->(∀u∈ws,u.oneCell' = true) ->
  OY cs parts place=some cs' -> ∃ws',Instr.fill place ws.toArray vparts=some ws'.toArray/\AQ σ w cs' ws' /\ (∀u∈ws',u.oneCell' = true):=by
 intro parts
 induction parts with
 | nil=>
  intro vparts cs cs' ws hp hr ho hf
  cases hp
  simp only [OY,Option.some.injEq] at hf
  subst hf
  exact⟨ws,rfl,hr,ho⟩
 | cons p parts ih=>
  intro vparts cs cs' ws hp hr ho hf
  cases hp with
  | cons hx hp=>
   rename_i i x v vs
   simp only [OY] at hf
   split at hf
   ·cases hf
   ·rename_i off size hpl
    split at hf
    ·rename_i hc
     simp only [Bool.and_eq_true,beq_iff_eq,decide_eq_true_eq] at hc
     obtain⟨⟨c1,c2⟩,c3⟩:=hc
     obtain⟨hcr,hco⟩:=hx.cells c3
     have hvs:v.cells.size=size:=by rw [<- hx.QO c3];exact c1
     have hlen:=hr.length
     have hstep:=ZcY v off ws.toArray (by simp;omega)
     have hr' : AQ σ w (cs.take off++x.cells++cs.drop (off+size)) (ws.take off++v.cells.toList++ws.drop (off+size)):=((hr.take off).append hcr).append (hr.drop _)
     obtain⟨ws',f1,f2,f3⟩:=ih hp hr' (by
      intro u hu
      simp only [List.mem_append] at hu
      rcases hu with (hu|hu)|hu
      ·exact ho u (List.mem_of_mem_take hu)
      ·exact hco u hu
      ·exact ho u (List.mem_of_mem_drop hu)) hf
     refine⟨ws',?_,f2,f3⟩
     simp only [Instr.fill,hpl,hvs]
     have hcond:(decide (size≠size)||decide (off+size>ws.toArray.size))=false:=by simp;omega
     simp only [ne_eq,not_true_eq_false,decide_false,Bool.false_or,List.size_toArray,gt_iff_lt,decide_eq_true_eq]
     rw [if_neg (by omega)]
     rw [<- f1]
     congr 1
     apply Array.ext'
     rw [hvs] at hstep
     simpa using hstep
    ·cases hf
theorem Z1u {d:TypeDesc} {fs:List (Nat×Nat)} (h:Ty.struct fs=Ko d):∃fields,d = .struct fields/\fs=fields.toList.map fun f=>(f.offset,f.type):=by
 cases d<;>simp [Ko] at h
 exact⟨_,rfl,h⟩
theorem pG {d:TypeDesc} {n e:Nat} (h:Ty.array n e=Ko d):d = .array n e:=by
 cases d<;>simp [Ko] at h
 rw [h.1,h.2]
theorem Zai {E:Env} {P:Program} (hE:Ci E) (hP:E.P=P):∀(fields:List Field),(∀f∈fields,(E.ti f.type).isSome=true) ->
  ∃places:List (Nat×Nat),fields.mapM (fun f=>(P.info? f.type).map fun i=>(f.offset,i.size))=some places/\places.length=fields.length /\
   ∀i:Nat,places[i]? = placesOf E (fields.map fun f=>(f.offset,f.type)) i
 | [],_=>⟨[],rfl,rfl,fun i=>by simp [placesOf]⟩
 | f::fields,h=>by
  obtain⟨places,h1,h2,h3⟩:=Zai hE hP fields (fun g hg=>h g (by simp [hg]))
  have hf:=h f (by simp)
  cases hti:E.ti f.type with
  | none=>simp [hti] at hf
  | some ti=>
   obtain⟨inf,d,hi,hd,q1,q2,q3,q4⟩:=FI (hE.ti _ _ hti)
   rw [hP] at hi
   refine⟨(f.offset,inf.size)::places,?_,by simp [h2],?_⟩
   ·simp [List.mapM_cons,hi,h1]
   ·intro i
    cases i with
    | zero=>simp [placesOf,hti,q2]
    | succ i=>simpa [placesOf] using h3 i
theorem ZzY {E:Env} {σ w} {P:Program} (hE:Ci E) (hP:E.P=P) {t:TypeId} {parts:List (Nat×V)} {vparts:Array (Nat×Value)} {x:V} (hp:Parts σ w parts vparts.toList) (hb:VI E t parts=some x) :
  ∃u,(Instr.build t vparts).run P w = .ok u w/\AQ σ w [x] [u]:=by
 unfold VI at hb
 split at hb
 ·rename_i i hti
  obtain⟨inf,d,hi,hd,q1,q2,q3,q4⟩:=FI (hE.ti _ _ hti)
  rw [hP] at hi hd
  split at hb
  ·rename_i z hz
   split at hb
   ·rename_i hzo
    rw [hz] at q4
    cases hzz:inf.zero with
    | none=>simp [hzz] at q4
    | some zv=>
     simp only [hzz,Option.map_some,Option.some.injEq] at q4
     have hzr:AQ σ w [z] [zv]:=by rw [q4];exact Xk σ w zv
     obtain⟨hcr,hco⟩:=hzr.cells hzo
     split at hb
     ·rename_i fs hfs
      obtain⟨fields,hdf,hfl⟩:=Z1u (hfs.symm.trans q1)
      split at hb
      ·rename_i hall
       cases hf:OY z.cells parts (placesOf E fs) with
       | none=>simp [hf] at hb
       | some cs=>
        simp only [hf,Option.map_some,Option.some.injEq] at hb
        subst hb
        obtain⟨places,m1,m2,m3⟩:=Zai hE hP fields.toList (by
         intro f hf
         have:=List.all_eq_true.1 hall (f.offset,f.type) (by rw [hfl];exact List.mem_map.2 ⟨f,hf,rfl⟩)
         exact this)
        have hpl:(fun i:Nat=>places.toArray[i]?)=placesOf E fs:=by
         funext i
         rw [hfl,<- m3 i]
         simp
        obtain⟨ws,f1,f2,f3⟩:=ZcQ hp hcr hco hf
        refine⟨.agg ws.toArray,run_build w t vparts ws.toArray ?_,.agg f2 f3 .nil⟩
        simp only [Program.built,hi,hd,hdf,hzz,m1]
        rw [hpl]
        simpa using f1
      ·cases hb
     ·rename_i n e hfs
      have hdf:=pG (hfs.symm.trans q1)
      split at hb
      ·rename_i ei hei
       obtain⟨infe,de,hie,hde,e1,e2,e3,e4⟩:=FI (hE.ti _ _ hei)
       rw [hP] at hie
       cases hf:OY z.cells parts (fun i=>some (i*ei.size,ei.size)) with
       | none=>simp [hf] at hb
       | some cs=>
        simp only [hf,Option.map_some,Option.some.injEq] at hb
        subst hb
        obtain⟨ws,f1,f2,f3⟩:=ZcQ hp hcr hco hf
        refine⟨.agg ws.toArray,run_build w t vparts ws.toArray ?_,.agg f2 f3 .nil⟩
        simp only [Program.built,hi,hd,hdf,hzz,hie,<- e2]
        simpa using f1
      ·cases hb
     ·cases hb
   ·cases hb
  ·cases hb
 ·cases hb
theorem Zwf {σ w} {sz:Nat}:∀{parts:List (Nat×V)} {vparts:List (Nat×Value)} {xs xs' : List V} {us:List Value},Parts σ w parts vparts->AQ σ w xs us->(∀x∈xs,okV x=true)->(∀u∈us,u.cells.size=sz)->(∀u∈flat us,u.oneCell' = true) ->
  MF xs sz parts=some xs' -> ∃us',Instr.fill (fun i=>some (i*sz,sz)) (flat us).toArray vparts=some (flat us').toArray/\AQ σ w xs' us' /\ (∀x∈xs',okV x=true)/\(∀u∈us',u.cells.size=sz)/\(∀u∈flat us',u.oneCell' = true)/\xs'.length=xs.length:=by
 intro parts
 induction parts with
 | nil=>
  intro vparts xs xs' us hp hr hk hs ho hf
  cases hp
  simp only [MF,Option.some.injEq] at hf
  subst hf
  exact⟨us,rfl,hr,hk,hs,ho,rfl⟩
 | cons p parts ih=>
  intro vparts xs xs' us hp hr hk hs ho hf
  cases hp with
  | cons hx hp=>
   rename_i i x v vs
   simp only [MF] at hf
   split at hf
   ·rename_i hc
    simp only [Bool.and_eq_true,beq_iff_eq,decide_eq_true_eq] at hc
    obtain⟨⟨c1,c2⟩,c3⟩:=hc
    obtain⟨hcr,hco⟩:=hx.cells c3
    have hvs:v.cells.size=sz:=by rw [<- hx.QO c3];exact c1
    have hlen:=hr.length
    have hi:i<us.length:=by omega
    have hget:us[i]? = some us[i]:=List.getElem?_eq_getElem hi
    have hfs:=Z2X hs hget hvs
    have hfl:(flat us).length=us.length*sz:=flat_length hs
    have hle:i*sz+sz<=us.length*sz:=by rw [<- Nat.succ_mul];exact Nat.mul_le_mul_right _ hi
    have hstep:=ZcY v (i*sz) (flat us).toArray (by simp only [List.size_toArray,hfl,hvs];exact hle)
    obtain⟨us',f1,f2,f3,f4,f5,f6⟩:=ih hp (hr.set i hx) (by
     intro y hy
     rcases List.mem_or_eq_of_mem_set hy with hy|hy
     ·exact hk y hy
     ·rw [hy];exact c3) (by
     intro y hy
     rcases List.mem_or_eq_of_mem_set hy with hy|hy
     ·exact hs y hy
     ·rw [hy];exact hvs) (by
     intro y hy
     rw [hfs] at hy
     simp only [List.mem_append] at hy
     rcases hy with (hy|hy)|hy
     ·exact ho y (List.mem_of_mem_take hy)
     ·exact hco y hy
     ·exact ho y (List.mem_of_mem_drop hy)) hf
    refine⟨us',?_,f2,f3,f4,f5,by rw [f6];simp⟩
    simp only [Instr.fill,hvs]
    simp only [ne_eq,not_true_eq_false,decide_false,Bool.false_or,List.size_toArray,gt_iff_lt,decide_eq_true_eq]
    rw [if_neg (by rw [hfl];omega)]
    rw [<- f1]
    congr 1
    apply Array.ext'
    rw [hvs] at hstep
    rw [hfs]
    simpa using hstep
   ·cases hf
theorem ZtL {σ w}:∀{parts:List (Nat×V)} {vparts:List (Nat×Value)},Parts σ w parts vparts->AQ σ w (parts.map (·.2)) (vparts.map (·.2))/\parts.map (·.1)=vparts.map (·.1):=by
 intro parts
 induction parts with
 | nil=>intro vparts h;cases h;exact⟨.nil,rfl⟩
 | cons p parts ih=>
  intro vparts h
  cases h with
  | cons hx hp=>
   obtain⟨h1,h2⟩:=ih hp
   exact⟨AQ.FH.2 ⟨hx,h1⟩,by simp [h2]⟩
theorem Za0 {α β:Type}:∀(l:List (α×β)),(l.map (·.1)).zip (l.map (·.2))=l
 | []=>rfl
 | x::l=>by simp [Za0 l]
theorem ZxV {σ w}:∀{is:List Nat} {xs:List V} {vs:List Value},AQ σ w xs vs->is.length=xs.length->Parts σ w (is.zip xs) (is.zip vs):=by
 intro is
 induction is with
 | nil=>intro xs vs h hl;exact .nil
 | cons i is ih=>
  intro xs vs h hl
  cases xs with
  | nil=>simp at hl
  | cons x xs=>
   obtain⟨v,vs',rfl,h1,h2⟩:=h.Dq
   exact .cons h1 (ih h2 (by simpa using hl))
theorem ZaQ {sz:Nat}:∀{parts:List (Nat×V)} {xs xs' : List V},(∀x∈xs,CU x=true)->(∀p∈parts,CU p.2=true)->MF xs sz parts=some xs' -> ∀x∈xs',CU x=true
 | [],xs,xs',hx,hp,hf=>by
  simp only [MF,Option.some.injEq] at hf
  subst hf
  exact hx
 | (i,v)::rest,xs,xs',hx,hp,hf=>by
  simp only [MF] at hf
  split at hf
  ·refine ZaQ (fun x hx' =>?_) (fun p hp' =>hp p (List.mem_cons_of_mem _ hp')) hf
   rcases List.mem_or_eq_of_mem_set hx' with h|h
   ·exact hx x h
   ·rw [h];exact hp (i,v) (by simp)
  ·cases hf
theorem ZmP {E B w0 σ H w} {P:Program} (hE:Ci E) (hP:E.P=P) (h:Inv B w0 σ H w) {k:Nat} (hk0:FP H k=true) {t:TypeId} {n:Nat} {parts:List (Nat×V)} {vparts:Array (Nat×Value)} {r:V} {H' : Heap}
  (hp:Parts σ w parts vparts.toList) (hb:Oh E k H t n parts=some (r,H')) :
  ∃u w' σ',(Instr.buildSlice t n vparts).run P w = .ok u w' /\ Inv B w0 σ' H' w' /\ Ext σ w σ' w' /\ AQ σ' w' [r] [u]:=by
 unfold Oh at hb
 split at hb
 ·rename_i e sz by' z0 hti
  split at hb
  ·rename_i ei hei
   split at hb
   ·rename_i z vs hz hf
    split at hb
    ·rename_i hc
     obtain⟨c1,c2,c3,c4,c5⟩:=hc
     split at hb
     ·rename_i xs hfe
      simp only [Option.some.injEq,Prod.mk.injEq] at hb
      obtain⟨rfl,rfl⟩:=hb
      obtain⟨inf,d,hi,hd,q1,q2,q3,q4⟩:=FI (hE.ti _ _ hti)
      have hd' : P.underlying t=some (.slice e):=by rw [hP] at hd;rw [hd,Np q1]
      obtain⟨infe,zv,hie,hzv,hsz,hbz,_⟩:=qQ hE hP hei hz σ w
      obtain⟨hI,hEx⟩:=h.freeze ((parts.map (·.2)).flatMap Dj)
      have hzr:AQ (σ.freeze H ((parts.map (·.2)).flatMap Dj)) w [z] [zv]:=by
       obtain⟨infe',zv',hie',hzv',_,_,hr⟩:=qQ hE hP hei hz (σ.freeze H ((parts.map (·.2)).flatMap Dj)) w
       rw [hie] at hie'
       cases hie'
       rw [hzv] at hzv'
       cases hzv'
       exact hr
      have hzs:zv.cells.size=ei.size:=by rw [<- hzr.QO c4];exact c3
      obtain⟨hu1,hu2⟩:=ZtL hp
      have hfr:=nY h hu1 hf _ (fun i hi=>hi)
      have hfr' :=Zp9 (E.rows e) hfr
      have hlen:(parts.map (·.1)).length=(vs.map (Du (E.rows e))).length:=by rw [hfr'.length,<- hu1.length];simp
      have hpz:=ZxV hfr' hlen
      have hvp:(parts.map (·.1)).zip (vparts.toList.map (·.2))=vparts.toList:=by
       rw [hu2]
       exact Za0 _
      rw [hvp] at hpz
      have hones:∀u∈flat (List.replicate n zv),u.oneCell' = true:=by
       intro u hu
       simp only [flat,List.mem_flatMap] at hu
       obtain⟨a,ha,hb⟩:=hu
       rw [(List.mem_replicate.1 ha).2] at hb
       exact(hzr.cells c4).2 u hb
      obtain⟨us',f1,f2,f3,f4,f5,f6⟩:=Zwf hpz (AQ.replicate n (RU (E.rows e) hzr)) (fun x hx=>by rw [(List.mem_replicate.1 hx).2,qK];exact c4) (fun u hu=>by rw [(List.mem_replicate.1 hu).2];exact hzs) hones hfe
      have hxl:xs.length=n:=by rw [f6];simp
      have hnm:n<=maxLen:=by
       have:n<=n*ei.size:=Nat.le_mul_of_pos_right _ c2
       simp [maxLen]
       omega
      obtain⟨σ',i1,i2,i3⟩:=Zch (n:=n) hI (k:=k) (by rw [ZuA];exact hk0) e true f2 (fun _=>ZaQ (fun x hx=>by rw [(List.mem_replicate.1 hx).2,RN];exact ZbW hE hei hz) (fun p hp=>by
       obtain⟨q,hq,hq'⟩:=List.mem_map.1 (List.of_mem_zip hp).2
       rw [<- hq',RN]
       exact(KG vs).1 (Xb h hu1 hf) q hq) hfe) f3 f4 f5 (by rw [hxl];exact hnm)
      rw [hxl] at i3
      refine⟨.slice (some ⟨w.heap.size,0,none⟩) n n,_,σ',?_,i1,hEx.trans i2,?_⟩
      ·by_cases hn:n=0
       ·subst hn
        have hpn:parts=[]:=by simpa using c5
        subst hpn
        cases hp0:vparts.toList with
        | nil=>
         have:vparts = #[]:=by simpa using hp0
         subst this
         have hx:xs=[]:=List.eq_nil_of_length_eq_zero hxl
         subst hx
         cases f2.FM
         simp [Instr.buildSlice,run_underlying hd',sizeOf,typeInfo,hie,Instr.fill,newRow,flat,Array.range_zero']
        | cons a b=>rw [hp0] at hp;cases hp
       ·have hpos:¬n*infe.size=0:=by rw [hsz];exact Nat.mul_ne_zero hn (by omega)
        refine run_buildSlice w t e n vparts (flat us').toArray infe zv hd' hie hzv (by rw [hsz];omega) hpos ?_
        rw [hsz]
        have hm:(Array.range (n*ei.size)).map (zv.cells[· % zv.cells.size]!)=(flat (List.replicate n zv)).toArray:=by
         apply Array.ext'
         exact Z7o c2 hzs n
        rw [hm]
        exact f1
      ·exact .Ba (L:=⟨.slice (some ⟨w.heap.size,0,none⟩) n n,n,ei.size⟩) i3 (Nat.le_refl _) (fun _=>⟨by omega,_,_,_,0,rfl,by simp [Addr.add],Nat.zero_le _,Nat.le_refl _,fun _=>rfl⟩) ⟨_,_,_,rfl⟩ .nil
     ·cases hb
    ·cases hb
   ·cases hb
  ·cases hb
 ·cases hb
theorem addr_add_add (a:Addr) (x y:Nat):(a.add x).add y=a.add (x+y):=by
 unfold Addr.add
 by_cases hx:x=0
 ·subst hx;simp
 ·by_cases hy:y=0
  ·subst hy;simp [hx]
  ·simp [hx,hy,Nat.add_assoc]
theorem ZAB {B w0 σ H w} (h:Inv B w0 σ H w) {x:V} {v:Value} {n:Nat} (hr:AQ σ w [x] [v]) (hl:lenOf H x=some n) :
  (∃s,x = .lit (.string s)/\v = .string s/\n=s.size)\/∃a c,v = .slice a n c/\n<=c:=by
 unfold lenOf at hl
 split at hl
 ·simp only [Option.some.injEq] at hl
  subst hl
  right
  cases hr with
  | EW _=>exact⟨_,_,rfl,Nat.le_refl _⟩
  | FV a _=>exact⟨_,_,rfl,Nat.le_refl _⟩
  | sl b o c e k0 k1 k2 k3 k4 k5 k6 k7=>exact⟨_,_,rfl,k4⟩
 ·simp only [Option.some.injEq] at hl
  subst hl
  right
  cases hr with
  | Fh _=>exact⟨_,_,rfl,Nat.le_refl _⟩
  | GL a _=>exact⟨_,_,rfl,Nat.le_refl _⟩
  | Cb b o e k0 k1 k2 k3 k4 k5 k6=>exact⟨_,_,rfl,Nat.le_refl _⟩
 ·rename_i id off len tot
  split at hl
  ·rename_i b hb
   simp only [Option.some.injEq] at hl
   subst hl
   right
   obtain⟨L,us,m,hxl,hol,hs,hview⟩:=Nz h hr hb
   rcases hview with ⟨hv,hvv,ho,hl,ht⟩|⟨g,cap,k,hv,hvv,hle,hmx,hk1,hk2⟩
   ·subst hl;exact⟨_,_,hvv,Nat.le_refl _⟩
   ·exact⟨_,_,hvv,by omega⟩
  ·cases hl
 ·rename_i s
  simp only [Option.some.injEq] at hl
  subst hl
  left
  cases hr with
  | lit _ _=>exact⟨s,rfl,rfl,rfl⟩
 ·cases hl
theorem ZeB {B w0 σ H w} {P:Program} (h:Inv B w0 σ H w) {x:V} {v:Value} {n:Nat} {t ty:TypeId} {d:TypeDesc} (hr:AQ σ w [x] [v]) (hl:lenOf H x=some n)
  (ht:P.underlying t=some d) (hd:(∃e,d = .slice e)\/d = .string) (hc:(∃e,d = .slice e)↔∀s,x≠.lit (.string s)) :
  (Builtin.len_ #[t] ty #[v]).run P w = .ok (.int .i64 n) w:=by
 rcases ZAB h hr hl with ⟨s,hx,hv,hn⟩|⟨a,c,hv,hn⟩
 ·have hds:d = .string:=by
   rcases hd with hd|hd
   ·exact absurd hx (hc.1 hd s)
   ·exact hd
  subst hv hn
  simp [Builtin.len_,run_underlying ht,hds,goInt]
 ·have hds:∃e,d = .slice e:=hc.2 (fun s hs=>by subst hs;cases hr;cases hv)
  obtain⟨e,hds⟩:=hds
  subst hv
  simp [Builtin.len_,run_underlying ht,hds,goInt]
theorem U8 {σ w} {P:Program} {x:V} {v:Value} {hi n:Nat} (code:BoundsCode) (hr:AQ σ w [x] [v]) (hb:Ie x hi=some n) :
  (Instr.sliceBound v hi code).run P w = .ok n w/\n<=hi:=by
 unfold Ie at hb
 split at hb
 ·rename_i k m
  split at hb
  ·rename_i hc
   simp only [Option.some.injEq] at hb
   subst hb
   cases hr with
   | lit _ _=>
    refine⟨?_,by omega⟩
    simp [Instr.sliceBound,asIntOf,hc]
  ·cases hb
 ·cases hb
inductive Jj (σ:Sg) (w:World):Option V->Option Value->Prop where
 | none:Jj σ w none none
 | some {x v}:AQ σ w [x] [v]->Jj σ w (some x) (some v)
theorem Zcb {σ w} {P:Program} {x:V} {v:Value} {n cap h:Nat} (code:BoundsCode) (hnc:n<=cap) (hr:AQ σ w [x] [v]) (eh:Ie x n=some h):(Instr.sliceBound v cap code).run P w = .ok h w/\h<=n:=by
 have hk:=(U8 (P:=P) code hr eh).2
 refine⟨?_,hk⟩
 have:Ie x cap=some h:=by
  unfold Ie at eh ⊢
  split at eh
  ·split at eh
   ·rename_i hc
    simp only [Option.some.injEq] at eh
    rw [if_pos ⟨hc.1,by omega⟩,eh]
   ·cases eh
  ·cases eh
 exact(U8 (P:=P) _ hr this).1
theorem Ot {σ w} {P:Program} {n cap:Nat} (hnc:n<=cap) (isSlice:Bool) {lo hi:Option V} {vlo vhi:Option Value} {l h:Nat}
  (hlo:Jj σ w lo vlo) (hhi:Jj σ w hi vhi)
  (eh:IV hi n n=some h) (el:IV lo h 0=some l) :
  (Instr.sliceBounds isSlice n cap vlo vhi none).run P w = .ok (l,h,cap) w/\l<=h/\h<=n:=by
 cases hhi with
 | none=>
  simp only [IV,Option.some.injEq] at eh
  subst eh
  cases hlo with
  | none=>
   simp only [IV,Option.some.injEq] at el
   subst el
   exact⟨rfl,Nat.zero_le _,Nat.le_refl _⟩
  | some hr=>
   obtain⟨r1,r2⟩:=U8 (P:=P) .sliceB hr el
   refine⟨?_,r2,Nat.le_refl _⟩
   simp [Instr.sliceBounds,r1]
 | some hr' =>
  obtain⟨q1,q2⟩:=Zcb (P:=P) (if isSlice then .sliceAcap else .sliceAlen) hnc hr' eh
  cases hlo with
  | none=>
   simp only [IV,Option.some.injEq] at el
   subst el
   refine⟨?_,Nat.zero_le _,q2⟩
   simp [Instr.sliceBounds,q1]
  | some hr=>
   obtain⟨r1,r2⟩:=U8 (P:=P) .sliceB hr el
   refine⟨?_,r2,q2⟩
   simp [Instr.sliceBounds,q1,r1]
theorem o9 {σ w} {P:Program} {n cap:Nat} (hnc:n<=cap) {lo:Option V} {xh xm:V} {vlo:Option Value} {vh vm:Value} {l h:Nat}
  (hlo:Jj σ w lo vlo) (hhi:AQ σ w [xh] [vh]) (hmx:AQ σ w [xm] [vm])
  (eh:Ie xh n=some h) (em:Ie xm n=some h) (el:IV lo h 0=some l) :
  (Instr.sliceBounds true n cap vlo (some vh) (some vm)).run P w = .ok (l,h,h) w/\l<=h/\h<=n:=by
 obtain⟨m1,m2⟩:=Zcb (P:=P) .slice3Acap hnc hmx em
 have q1:(Instr.sliceBound vh h .slice3B).run P w = .ok h w:=by
  have:Ie xh h=some h:=by
   unfold Ie at eh ⊢
   split at eh
   ·split at eh
    ·rename_i hc
     simp only [Option.some.injEq] at eh
     rw [if_pos ⟨hc.1,by omega⟩,eh]
    ·cases eh
   ·cases eh
  exact(U8 (P:=P) _ hhi this).1
 cases hlo with
 | none=>
  simp only [IV,Option.some.injEq] at el
  subst el
  refine⟨?_,Nat.zero_le _,m2⟩
  simp [Instr.sliceBounds,m1,q1]
 | some hr=>
  obtain⟨r1,r2⟩:=U8 (P:=P) .slice3C hr el
  refine⟨?_,r2,m2⟩
  simp [Instr.sliceBounds,m1,q1,r1]
theorem Md {P:Program} {w:World} {t e:TypeId} {inf:TypeInfo} {a:Option Addr} {n c l h m:Nat} {lo hi mx:Option Value} (ht:P.underlying t=some (.slice e)) (hi' : P.info? e=some inf)
  (hb:(Instr.sliceBounds true n c lo hi mx).run P w = .ok (l,h,m) w) :
  (Instr.sliceAt t (.slice a n c) lo hi mx).run P w = .ok (.slice (if m=l then a else a.map (·.add (l*inf.size))) (h - l) (m - l)) w:=by
 simp [Instr.sliceAt,Instr.slice,run_underlying ht,hb,sizeOf,typeInfo,hi']
theorem Lies.sub {σ w b o us e} (h:Lies σ w b o us) (hs:∀u∈us,u.cells.size=e) (l n:Nat):Lies σ w b (o+l*e) ((us.drop l).take n):=by
 intro j u hu
 rw [Z30 hs] at hu
 have hj:j<n*e:=by
  have:=(List.getElem?_eq_some_iff.1 hu).1
  simp at this
  omega
 rw [List.getElem?_take,if_pos hj,List.getElem?_drop] at hu
 have:=h (l*e+j) u hu
 rw [<- Nat.add_assoc] at this
 exact this
theorem tY {σ w} {es:List V} {us:List Value} {b o c e l h:Nat} (k0:AQ σ w es us) (k1:∀x∈es,Em x=true) (k2:∀u∈us,u.cells.size=e) (k3:∀u∈flat us,u.oneCell' = true)
  (k4:es.length<=c) (k5:c<=maxLen) (k6:Lies σ w b o us) (hl:l<=h) (hh:h<=es.length) (m:Nat) (hm:h<=m) (hm2:m<=c) :
  AQ σ w [.sl false e ((es.drop l).take (h - l))] [.slice (if m=l then some ⟨b,o,none⟩ else (some (⟨b,o,none⟩:Addr)).map (·.add (l*e))) (h - l) (m - l)] /\
  (m=h->AQ σ w [.Cb false e ((es.drop l).take (h - l))] [.slice (if m=l then some ⟨b,o,none⟩ else (some (⟨b,o,none⟩:Addr)).map (·.add (l*e))) (h - l) (m - l)]):=by
 have hlen:((es.drop l).take (h - l)).length=h - l:=by simp;omega
 have haddr:∃o',(if m=l then some (⟨b,o,none⟩:Addr) else (some (⟨b,o,none⟩:Addr)).map (·.add (l*e)))=some ⟨b,o',none⟩/\Lies σ w b o' ((us.drop l).take (h - l)):=by
  by_cases hml:m=l
  ·rw [if_pos hml]
   refine⟨o,rfl,?_⟩
   have:h - l=0:=by omega
   rw [this,List.take_zero]
   intro j u hu
   simp [flat] at hu
  ·rw [if_neg hml]
   exact⟨o+l*e,by simp [Addr.add_mid],k6.sub k2 l (h - l)⟩
 obtain⟨o',ha,hlies⟩:=haddr
 rw [ha]
 have r:=qO k0 l (h - l)
 have ok:∀x∈(es.drop l).take (h - l),Em x=true:=fun x hx=>k1 x (List.mem_of_mem_drop (List.mem_of_mem_take hx))
 have sz:=Yl (oO k2 l) (h - l)
 have on:=rC (Z32 k3 l) (h - l)
 constructor
 ·have:=AQ.sl (σ:=σ) (w:=w) (xs:=[]) (vs:=[]) b o' (m - l) e r ok sz on (by rw [hlen];omega) (by omega) hlies .nil
  rw [hlen] at this
  exact this
 ·intro hmh
  have:=AQ.Cb (σ:=σ) (w:=w) (xs:=[]) (vs:=[]) b o' e r ok sz on (by rw [hlen];omega) hlies .nil
  rw [hlen] at this
  rw [hmh]
  exact this
theorem Ua {E:Env} {P:Program} (hE:Ci E) (hP:E.P=P) {H:Heap} {t:TypeId} {x:V} (hx:∀s,x≠.lit (.string s)) (hf:Oq E H t x=true) :
  ∃e inf,P.underlying t=some (.slice e)/\P.info? e=some inf/\E5 H x inf.size=true:=by
 unfold Oq at hf
 split at hf
 ·exact absurd rfl (hx _)
 ·split at hf
  ·rename_i e sz by' z0 hti
   split at hf
   ·rename_i ei hei
    obtain⟨inf,d,hi,hd,q1,q2,q3,q4⟩:=FI (hE.ti _ _ hti)
    obtain⟨infe,de,hie,hde,e1,e2,e3,e4⟩:=FI (hE.ti _ _ hei)
    rw [hP] at hd hie
    exact⟨e,infe,by rw [hd,Np q1],hie,by rw [<- e2];exact hf⟩
   ·cases hf
  ·cases hf
theorem cut3 {E:Env} {σ w} {P:Program} {x:V} {t te:TypeId} {inf:TypeInfo} {b:Bool} {e:Nat} {xs:List V} {v:Value} {lo:Option V} {xh xm:V} {vlo:Option Value} {vh vm:Value} {l h:Nat}
  (ht:P.underlying t=some (.slice te)) (hi' : P.info? te=some inf) (hes:(b||e==inf.size)=true)
  (hx:x = .sl b e xs\/x = .Cb b e xs) (hr:AQ σ w [x] [v]) (hlo:Jj σ w lo vlo) (hhi:AQ σ w [xh] [vh]) (hmx:AQ σ w [xm] [vm])
  (eh:Ie xh xs.length=some h) (em:Ie xm xs.length=some h) (el:IV lo h 0=some l) :
  ∃u,(Instr.sliceAt t v vlo (some vh) (some vm)).run P w = .ok u w/\AQ σ w [.Cb false e ((xs.drop l).take (h - l))] [u]:=by
 have empc:∀e a,v = .slice (some a) 0 0->xs=[]->∃u,(Instr.sliceAt t v vlo (some vh) (some vm)).run P w = .ok u w/\AQ σ w [.Cb false e ((xs.drop l).take (h - l))] [u]:=by
  intro e a hv hxs
  subst hv hxs
  obtain⟨b1,b2,b3⟩:=o9 (P:=P) (Nat.le_refl 0) hlo hhi hmx eh em el
  have hh0:h=0:=by simpa using b3
  have hl0:l=0:=by omega
  subst hh0
  subst hl0
  refine⟨_,Md ht hi' b1,?_⟩
  simp
  exact .GL a .nil
 have nilc:∀e,v = .slice none 0 0->xs=[]->∃u,(Instr.sliceAt t v vlo (some vh) (some vm)).run P w = .ok u w/\AQ σ w [.Cb false e ((xs.drop l).take (h - l))] [u]:=by
  intro e hv hxs
  subst hv hxs
  obtain⟨b1,b2,b3⟩:=o9 (P:=P) (Nat.le_refl 0) hlo hhi hmx eh em el
  have hh0:h=0:=by simpa using b3
  have hl0:l=0:=by omega
  subst hh0
  subst hl0
  refine⟨_,Md ht hi' b1,?_⟩
  simp
  exact .Fh .nil
 rcases hx with rfl|rfl
 ·cases hr with
  | EW _=>exact nilc e rfl rfl
  | FV a _=>exact empc e a rfl rfl
  | sl b' o c e' k0 k1 k2 k3 k4 k5 k6 k7=>
   have hee:e=inf.size:=by simpa using hes
   obtain⟨b1,b2,b3⟩:=o9 (P:=P) k4 hlo hhi hmx eh em el
   refine⟨_,Md ht hi' b1,?_⟩
   rw [<- hee]
   exact(tY k0 k1 k2 k3 k4 k5 k6 b2 b3 h (Nat.le_refl _) (by omega)).2 rfl
 ·cases hr with
  | Fh _=>exact nilc e rfl rfl
  | GL a _=>exact empc e a rfl rfl
  | Cb b' o e' k0 k1 k2 k3 k4 k5 k6=>
   have hee:e=inf.size:=by simpa using hes
   obtain⟨b1,b2,b3⟩:=o9 (P:=P) (Nat.le_refl _) hlo hhi hmx eh em el
   refine⟨_,Md ht hi' b1,?_⟩
   rw [<- hee]
   exact(tY k0 k1 k2 k3 (Nat.le_refl _) k4 k5 b2 b3 h (Nat.le_refl _) b3).2 rfl
theorem ZAl {E B w0 σ H w} {P:Program} (hE:Ci E) (hP:E.P=P) (h:Inv B w0 σ H w) {t:TypeId} {x r:V} {v:Value} {lo hi mx:Option V} {vlo vhi vmx:Option Value} {H' : Heap}
  (hr:AQ σ w [x] [v]) (hlo:Jj σ w lo vlo) (hhi:Jj σ w hi vhi) (hmx:Jj σ w mx vmx) (hs:JO E H t x lo hi mx=some (r,H')) :
  ∃u σ',(Instr.sliceAt t v vlo vhi vmx).run P w = .ok u w/\Inv B w0 σ' H' w/\Ext σ w σ' w/\AQ σ' w [r] [u]:=by
 unfold JO at hs
 split at hs
 ·rename_i hfits
  split at hs
  ·cases hs
  ·rename_i n hn
   split at hs
   ·cases hs
   ·rename_i hh eh
    split at hs
    ·cases hs
    ·rename_i l el
     cases hmx with
     | none=>
      simp only at hs
      split at hs
      ·
       rename_i s
       simp only [Option.some.injEq,Prod.mk.injEq] at hs
       obtain⟨rfl,rfl⟩:=hs
       have hst:P.underlying t=some .string:=by rw [<- hP];exact hE.isStr t hfits
       cases hr with
       | lit hlf _=>
        have hns:n=s.size:=by simpa [lenOf] using hn.symm
        subst hns
        obtain⟨b1,b2,b3⟩:=Ot (P:=P) (Nat.le_refl _) false hlo hhi eh el
        refine⟨.string (s.extract l hh),σ,?_,h,Ext.refl σ w,.lit ?_ .nil⟩
        ·simp [Instr.sliceAt,Instr.slice,run_underlying hst,b1]
        ·have:s.size<=maxLen:=by simpa [leaf] using hlf
         simp only [leaf,decide_eq_true_eq,ByteArray.size_extract]
         omega
      ·rename_i b e xs
       simp only [Option.some.injEq,Prod.mk.injEq] at hs
       obtain⟨rfl,rfl⟩:=hs
       obtain⟨te,inf,ht,hi',hes⟩:=Ua hE hP (by simp) hfits
       cases hr with
       | EW _=>
        have hns:n=0:=by simpa [lenOf] using hn.symm
        subst hns
        obtain⟨b1,b2,b3⟩:=Ot (P:=P) (Nat.le_refl 0) true hlo hhi eh el
        have hh0:hh=0:=by omega
        have hl0:l=0:=by omega
        subst hh0
        subst hl0
        refine⟨_,σ,Md ht hi' b1,h,Ext.refl σ w,?_⟩
        simp
        exact .EW .nil
       | FV a _=>
        have hns:n=0:=by simpa [lenOf] using hn.symm
        subst hns
        obtain⟨b1,b2,b3⟩:=Ot (P:=P) (Nat.le_refl 0) true hlo hhi eh el
        have hh0:hh=0:=by omega
        have hl0:l=0:=by omega
        subst hh0
        subst hl0
        refine⟨_,σ,Md ht hi' b1,h,Ext.refl σ w,?_⟩
        simp
        exact .FV a .nil
       | sl b o c e k0 k1 k2 k3 k4 k5 k6 k7=>
        have hns:n=xs.length:=by simpa [lenOf] using hn.symm
        subst hns
        have hee:e=inf.size:=by simpa [E5] using hes
        obtain⟨b1,b2,b3⟩:=Ot (P:=P) k4 true hlo hhi eh el
        refine⟨_,σ,Md ht hi' b1,h,Ext.refl σ w,?_⟩
        rw [<- hee]
        exact(tY k0 k1 k2 k3 k4 k5 k6 b2 b3 c (by omega) (Nat.le_refl _)).1
      ·rename_i b e xs
       simp only [Option.some.injEq,Prod.mk.injEq] at hs
       obtain⟨rfl,rfl⟩:=hs
       obtain⟨te,inf,ht,hi',hes⟩:=Ua hE hP (by simp) hfits
       cases hr with
       | Fh _=>
        have hns:n=0:=by simpa [lenOf] using hn.symm
        subst hns
        obtain⟨b1,b2,b3⟩:=Ot (P:=P) (Nat.le_refl 0) true hlo hhi eh el
        have hh0:hh=0:=by omega
        have hl0:l=0:=by omega
        subst hh0
        subst hl0
        refine⟨_,σ,Md ht hi' b1,h,Ext.refl σ w,?_⟩
        simp
        exact .EW .nil
       | GL a _=>
        have hns:n=0:=by simpa [lenOf] using hn.symm
        subst hns
        obtain⟨b1,b2,b3⟩:=Ot (P:=P) (Nat.le_refl 0) true hlo hhi eh el
        have hh0:hh=0:=by omega
        have hl0:l=0:=by omega
        subst hh0
        subst hl0
        refine⟨_,σ,Md ht hi' b1,h,Ext.refl σ w,?_⟩
        simp
        exact .FV a .nil
       | Cb b o e k0 k1 k2 k3 k4 k5 k6=>
        have hns:n=xs.length:=by simpa [lenOf] using hn.symm
        subst hns
        have hee:e=inf.size:=by simpa [E5] using hes
        obtain⟨b1,b2,b3⟩:=Ot (P:=P) (Nat.le_refl _) true hlo hhi eh el
        refine⟨_,σ,Md ht hi' b1,h,Ext.refl σ w,?_⟩
        rw [<- hee]
        exact(tY k0 k1 k2 k3 (Nat.le_refl _) k4 k5 b2 b3 xs.length b3 (Nat.le_refl _)).1
      ·rename_i id off len tot
       simp only [Option.some.injEq,Prod.mk.injEq] at hs
       obtain⟨rfl,rfl⟩:=hs
       obtain⟨te,inf,ht,hi',hes⟩:=Ua hE hP (by simp) hfits
       cases hb:DW H id tot with
       | none=>simp [lenOf,hb] at hn
       | some b=>
        have hns:n=len:=by simpa [lenOf,hb] using hn.symm
        subst hns
        obtain⟨L,us,m,hxl,hol,hsub,hview⟩:=Nz h hr hb
        have hLe:L.Ap=inf.size:=by
         have:b.Ap=inf.size:=by simpa [E5,hb] using hes
         rw [<- m.Ap];exact this
        obtain⟨a,nn,c,k,e1,e2,e3,e4,e5⟩:=hsub
        have hnc:nn<=c/\nn=tot:=by
         rcases m.shape with ⟨hv,hx,hu⟩|⟨g,cap,cur,tg,hv,hg,hhh,htg,hnn,hm,hsz,htk⟩
         ·rw [hv] at e1;cases e1;exact⟨Nat.le_refl _,by rw [<- hxl,hx];rfl⟩
         ·rw [hv] at e1;cases e1;exact⟨hnn,hxl⟩
        subst e2
        obtain⟨b1,b2,b3⟩:=Ot (P:=P) (n:=n) (cap:=c - off) (by omega) true hlo hhi eh el
        refine⟨_,σ,Md ht hi' b1,h,Ext.refl σ w,?_⟩
        refine .Ba m.box (by rw [m.tot,hxl];exact Nat.le_refl _) (fun _=>⟨by omega,a,nn,c,if c - off=l then k else k+l,e1,?_,by omega,by split<;>omega,fun hlt=>by split<;>omega⟩) ⟨_,_,_,rfl⟩ .nil
        rw [hLe]
        congr 1
        ·split
         ·rfl
         ·cases a with
          | none=>rfl
          | some ad=>simp [addr_add_add,Nat.add_mul]
        ·omega
      ·cases hs
     | some hmr=>
      rename_i xm vm
      simp only at hs
      have common:∀k,Ie xm n=some k->k=hh->∀xh,hi=some xh->∃vh,vhi=some vh/\AQ σ w [xh] [vh]/\Ie xh n=some hh:=by
       intro k hk hkh xh hxh
       subst hxh
       cases hhi with
       | some hhr=>exact⟨_,rfl,hhr,eh⟩
      split at hs
      ·rename_i xh k xs' b e xs hk hxs
       split at hs
       ·rename_i hkh
        simp only [Option.some.injEq,Prod.mk.injEq] at hs
        obtain⟨rfl,rfl⟩:=hs
        obtain⟨te,inf,ht,hi',hes⟩:=Ua hE hP (by simp) hfits
        obtain⟨vh,hvh,hhr,ehh⟩:=common k hk hkh xh rfl
        have hns:n=xs.length:=by simpa [lenOf] using hn.symm
        have hxx:xs' = xs:=by simpa [elemsOf] using hxs.symm
        subst hns hxx hkh hvh
        obtain⟨u,hu,hru⟩:=cut3 (E:=E) (P:=P) ht hi' (by simpa [E5] using hes) (.inl rfl) hr hlo hhr hmr ehh hk el
        exact⟨u,σ,hu,h,Ext.refl σ w,hru⟩
       ·cases hs
      ·rename_i xh k xs' b e xs hk hxs
       split at hs
       ·rename_i hkh
        simp only [Option.some.injEq,Prod.mk.injEq] at hs
        obtain⟨rfl,rfl⟩:=hs
        obtain⟨te,inf,ht,hi',hes⟩:=Ua hE hP (by simp) hfits
        obtain⟨vh,hvh,hhr,ehh⟩:=common k hk hkh xh rfl
        have hns:n=xs.length:=by simpa [lenOf] using hn.symm
        have hxx:xs' = xs:=by simpa [elemsOf] using hxs.symm
        subst hns hxx hkh hvh
        obtain⟨u,hu,hru⟩:=cut3 (E:=E) (P:=P) ht hi' (by simpa [E5] using hes) (.inr rfl) hr hlo hhr hmr ehh hk el
        exact⟨u,σ,hu,h,Ext.refl σ w,hru⟩
       ·cases hs
      ·rename_i xh k xs' id off len tot hk hxs
       split at hs
       ·rename_i hkh
        simp only [Option.some.injEq,Prod.mk.injEq] at hs
        obtain⟨rfl,rfl⟩:=hs
        obtain⟨te,inf,ht,hi',hes⟩:=Ua hE hP (by simp) hfits
        obtain⟨vh,hvh,hhr,ehh⟩:=common k hk hkh xh rfl
        cases hb:DW H id tot with
        | none=>simp [lenOf,hb] at hn
        | some b=>
         have hns:n=len:=by simpa [lenOf,hb] using hn.symm
         have hbe:b.Ap=inf.size:=by simpa [E5,hb] using hes
         obtain⟨p1,p2,p3⟩:=U2 hb
         have hget:H.getD id default=b:=by simp [List.getD,p1]
         simp only [elemsOf,hb] at hxs
         split at hxs
         ·rename_i hcc
          simp only [Option.some.injEq] at hxs
          simp only [Bool.and_eq_true,decide_eq_true_eq] at hcc
          have hfz:IA H (.Ba id off len tot)=some (.sl false b.Ap ((b.xs.drop off).take len)):=by
           simp [IA,hb,hcc.1,hcc.2]
          obtain⟨hI,hEx⟩:=h.freeze [id]
          have hr' :=qG h hr hfz [id] (by simp [FB])
          have hlen:xs'.length=n:=by rw [<- hxs,hns];simp;omega
          rw [hxs] at hr'
          subst hkh hvh
          rw [<- hlen] at ehh hk
          have hlo' : Jj (σ.freeze H [id]) w lo vlo:=by cases hlo with
           | none=>exact .none
           | some q=>exact .some (q.ext hEx)
          obtain⟨u,hu,hru⟩:=cut3 (E:=E) (P:=P) ht hi' (by simp [hbe]) (.inl rfl) hr' hlo' (hhr.ext hEx) (hmr.ext hEx) ehh hk el
          rw [hget]
          exact⟨u,_,hu,hI,hEx,hru⟩
         ·cases hxs
       ·cases hs
      ·cases hs
 ·cases hs
theorem Uj {E:Env} {P:Program} (hE:Ci E) (hP:E.P=P) {t:TypeId} {n:Nat} (h:E.size t=some n):∃inf,P.info? t=some inf/\inf.size=n:=by
 unfold Env.size at h
 cases hti:E.ti t with
 | none=>simp [hti] at h
 | some i=>
  obtain⟨inf,d,hi,hd,q1,q2,q3,q4⟩:=FI (hE.ti _ _ hti)
  rw [hP] at hi
  simp only [hti,Option.map_some,Option.some.injEq] at h
  exact⟨inf,hi,by rw [<- q2];exact h⟩
theorem ZpP {E B w0 σ H w} {P:Program} (hE:Ci E) (hP:E.P=P) (h:Inv B w0 σ H w) {t:TypeId} {x i r:V} {xv iv:Value} (hx:AQ σ w [x] [xv]) (hi:AQ σ w [i] [iv])
  (hr:Oj E H t x i=some r):∃u,(Instr.indexAt t xv iv).run P w = .ok u w/\AQ σ w [r] [u]:=by
 unfold Oj at hr
 split at hr
 ·rename_i k n ti hti
  obtain⟨inf,d,hin,hd,q1,q2,q3,q4⟩:=FI (hE.ti _ _ hti)
  rw [hP] at hin hd
  cases hi with
  | lit hl _=>
   split at hr
   ·
    rename_i ty el b e xs hty
    have hds:=Np (hty.symm.trans q1)
    subst hds
    split at hr
    ·rename_i hc
     obtain⟨c1,c2,c3⟩:=hc
     obtain⟨infe,hie,hse⟩:=Uj hE hP c3
     simp only [Option.some.injEq] at hr
     subst hr
     cases hx with
     | EW _=>simp at c2;omega
     | FV a _=>simp at c2;omega
     | sl b' o c e' k0 k1 k2 k3 k4 k5 k6 k7=>
      refine⟨.pointer (some ⟨b',o+n.toNat*e,none⟩),?_,?_⟩
      ·simp [Instr.indexAt,asIntOf,run_underlying hd,c1,c2,sizeOf,typeInfo,hie,hse,Addr.add_mid]
      ·have:=AQ.CG (σ:=σ) (w:=w) (xs:=[]) (vs:=[]) b' o e n.toNat 0 k0 k1 k2 k3 k6 .nil
       simpa using this
    ·cases hr
   ·rename_i ty el b e xs hty
    have hds:=Np (hty.symm.trans q1)
    subst hds
    split at hr
    ·rename_i hc
     obtain⟨c1,c2,c3⟩:=hc
     obtain⟨infe,hie,hse⟩:=Uj hE hP c3
     simp only [Option.some.injEq] at hr
     subst hr
     cases hx with
     | Fh _=>simp at c2;omega
     | GL a _=>simp at c2;omega
     | Cb b' o e' k0 k1 k2 k3 k4 k5 k6=>
      refine⟨.pointer (some ⟨b',o+n.toNat*e,none⟩),?_,?_⟩
      ·simp [Instr.indexAt,asIntOf,run_underlying hd,c1,c2,sizeOf,typeInfo,hie,hse,Addr.add_mid]
      ·have:=AQ.CG (σ:=σ) (w:=w) (xs:=[]) (vs:=[]) b' o e n.toNat 0 k0 k1 k2 k3 k5 .nil
       simpa using this
    ·cases hr
   ·rename_i ty el id off len tot hty
    have hds:=Np (hty.symm.trans q1)
    subst hds
    split at hr
    ·rename_i b hb
     split at hr
     ·rename_i hc
      obtain⟨c1,c2,c3⟩:=hc
      obtain⟨infe,hie,hse⟩:=Uj hE hP c3
      simp only [Option.some.injEq] at hr
      subst hr
      obtain⟨L,us,m,hxl,hol,hsub,hview⟩:=Nz h hx hb
      rcases hview with ⟨hv,hvv,ho,hl',ht⟩|⟨g,cap,k',hv,hvv,hle,hmx,hk1,hk2⟩
      ·subst hl';simp at c2;omega
      ·have hk:k' = off:=hk2 (by omega)
       subst hk
       subst hvv
       have hLe:L.Ap=b.Ap:=m.Ap.symm
       refine⟨.pointer (some ⟨g,(k' + n.toNat)*L.Ap+0,none⟩),?_,.ptr g m.box (by rw [m.tot,hxl];exact Nat.le_refl _) (fun _=>⟨_,_,hv⟩) rfl .nil⟩
       simp [Instr.indexAt,asIntOf,run_underlying hd,c1,c2,sizeOf,typeInfo,hie,hse,Addr.add_mid,Nat.add_mul,hLe]
     ·cases hr
    ·cases hr
   ·rename_i ty len e id j off tot hty
    have hds:=pG (hty.symm.trans q1)
    subst hds
    split at hr
    ·rename_i sz hsz
     obtain⟨infe,hie,hse⟩:=Uj hE hP hsz
     split at hr
     ·rename_i hc
      simp only [Option.some.injEq] at hr
      subst hr
      cases hx with
      | ptr g k1 k2 k3 k4 _=>
       subst k4
       refine⟨.pointer (some ⟨g,j*_+(off+n.toNat*sz),none⟩),?_,.ptr g k1 k2 k3 rfl .nil⟩
       simp [Instr.indexAt,Instr.sureAddr,asIntOf,run_underlying hd,hc.1,hc.2,sizeOf,typeInfo,hie,hse,Addr.add_mid,Nat.add_assoc]
     ·cases hr
    ·cases hr
   ·rename_i ty len e d' xs j off hty
    have hds:=pG (hty.symm.trans q1)
    subst hds
    split at hr
    ·rename_i sz hsz
     obtain⟨infe,hie,hse⟩:=Uj hE hP hsz
     split at hr
     ·rename_i hc
      simp only [Option.some.injEq] at hr
      subst hr
      cases hx with
      | CG b o e' i' off' k0 k1 k2 k3 k4 _=>
       refine⟨.pointer (some ⟨b,o+j*d' + (off+n.toNat*sz),none⟩),?_,.CG b o d' j _ k0 k1 k2 k3 k4 .nil⟩
       simp [Instr.indexAt,Instr.sureAddr,asIntOf,run_underlying hd,hc.1,hc.2,sizeOf,typeInfo,hie,hse,Addr.add_mid,Nat.add_assoc]
     ·cases hr
    ·cases hr
   ·cases hr
 ·cases hr
theorem ZpL {E σ w} {P:Program} (hE:Ci E) (hP:E.P=P) {t:TypeId} {x r:V} {xv:Value} {f:Nat} (hx:AQ σ w [x] [xv])
  (hr:U0 E t x f=some r):∃u,(Instr.fieldAt t xv f).run P w = .ok u w/\AQ σ w [r] [u]:=by
 unfold U0 at hr
 split at hr
 ·rename_i fs sz by' z0 hti
  obtain⟨inf,d,hin,hd,q1,q2,q3,q4⟩:=FI (hE.ti _ _ hti)
  rw [hP] at hd
  obtain⟨fields,hdf,hfl⟩:=Z1u q1
  subst hdf
  split at hr
  ·rename_i o ft hft
   have hfield:∃fd,fields[f]? = some fd/\fd.offset=o/\fd.type=ft:=by
    rw [hfl,List.getElem?_map] at hft
    rw [<- Array.getElem?_toList]
    cases hh:fields.toList[f]? with
    | none=>simp [hh] at hft
    | some fd=>
     simp only [hh,Option.map_some,Option.some.injEq,Prod.mk.injEq] at hft
     exact⟨fd,rfl,hft.1,hft.2⟩
   obtain⟨fd,hfd,hof,htf⟩:=hfield
   split at hr
   ·rename_i fsz hsz
    obtain⟨infe,hie,hse⟩:=Uj hE hP hsz
    split at hr
    ·cases hr
    ·rename_i hne
     have hplace:∀a:Addr,(fieldPlace a fd).run P w = .ok (a.add o) w:=by
      intro a
      have hz:¬infe.size=0:=by rw [hse];exact hne
      simp [fieldPlace,sizeOf,typeInfo,htf,hie,hz,hof]
     split at hr
     ·rename_i id j off tot
      simp only [Option.some.injEq] at hr
      subst hr
      cases hx with
      | ptr g k1 k2 k3 k4 _=>
       subst k4
       refine⟨.pointer (some ⟨g,j*_+(off+o),none⟩),?_,.ptr g k1 k2 k3 rfl .nil⟩
       simp [Instr.fieldAt,run_underlying hd,hfd,Instr.sureAddr,hplace,Addr.add_mid,Nat.add_assoc]
     ·rename_i e xs j off
      simp only [Option.some.injEq] at hr
      subst hr
      cases hx with
      | CG b o' e' i' off' k0 k1 k2 k3 k4 _=>
       refine⟨.pointer (some ⟨b,o' + j*e+(off+o),none⟩),?_,.CG b o' e j _ k0 k1 k2 k3 k4 .nil⟩
       simp [Instr.fieldAt,run_underlying hd,hfd,Instr.sureAddr,hplace,Addr.add_mid,Nat.add_assoc]
     ·cases hr
   ·cases hr
  ·cases hr
 ·cases hr
theorem Zdr {E:Env} {P:Program} {σ w} (hE:Ci E) (hP:E.P=P) {t:TypeId} {i:TI} (hti:E.ti t=some i) {cs:List V} {ws:List Value} {off:Nat} {x' : V}
  (h:AQ σ w cs ws) (ho:∀u∈ws,u.oneCell' = true) (hp:partOf cs off i.size i.isAgg=some x') :
  ∃u,(part t ws.toArray off).run P w = .ok u w/\AQ σ w [x'] [u]:=by
 obtain⟨inf,d,hin,hd,q1,q2,q3,q4⟩:=FI (hE.ti _ _ hti)
 rw [hP] at hin hd
 have hag:=ZdB q1
 rcases Zcu h ho hp with ⟨ha,hle,hres⟩|⟨ha,u,hu,hres⟩
 ·refine⟨_,?_,hres⟩
  have:d.isRow=true:=by rw [<- hag];exact ha
  unfold part
  rw [Sem.run_bind,Z2K w hd,this]
  simp only [Result.andThen_ok,if_true,Sem.run_bind,run_sizeOf w hin,Sem.run_pure]
  congr 2
  apply Array.ext'
  simp only [Array.toList_extract,List.extract]
  rw [q2]
  congr 1
  omega
 ·refine⟨u,?_,hres⟩
  have:d.isRow=false:=by rw [<- hag];exact ha
  unfold part
  rw [Sem.run_bind,Z2K w hd,this]
  simp [hu]
theorem ZBy {E σ w} {P:Program} (hE:Ci E) (hP:E.P=P) {t:TypeId} {x r:V} {xv:Value} {f:Nat} (hx:AQ σ w [x] [xv])
  (hr:VE E t x f=some r):∃u,(Instr.field t xv f).run P w = .ok u w/\AQ σ w [r] [u]:=by
 unfold VE at hr
 split at hr
 ·rename_i fs sz by' z0 cs hti
  obtain⟨inf,d,hin,hd,q1,q2,q3,q4⟩:=FI (hE.ti _ _ hti)
  rw [hP] at hd
  obtain⟨fields,hdf,hfl⟩:=Z1u q1
  subst hdf
  split at hr
  ·rename_i o ft hft
   have hfield:∃fd,fields[f]? = some fd/\fd.offset=o/\fd.type=ft:=by
    rw [hfl,List.getElem?_map] at hft
    rw [<- Array.getElem?_toList]
    cases hh:fields.toList[f]? with
    | none=>simp [hh] at hft
    | some fd=>
     simp only [hh,Option.map_some,Option.some.injEq,Prod.mk.injEq] at hft
     exact⟨fd,rfl,hft.1,hft.2⟩
   obtain⟨fd,hfd,hof,htf⟩:=hfield
   split at hr
   ·rename_i i hti'
    cases hx with
    | agg h1 h2 _=>
     obtain⟨u,hu,hres⟩:=Zdr hE hP (t:=fd.type) (by rw [htf];exact hti') h1 h2 hr
     refine⟨u,?_,hres⟩
     rw [<- hof] at hu
     simp [Instr.field,run_underlying hd,hfd,asAgg,hu]
   ·cases hr
  ·cases hr
 ·cases hr
theorem ZBA {E σ w} {P:Program} (hE:Ci E) (hP:E.P=P) {t:TypeId} {x i r:V} {xv iv:Value} (hx:AQ σ w [x] [xv]) (hi:AQ σ w [i] [iv])
  (hr:Uu E t x i=some r):∃u,(Instr.index t xv iv).run P w = .ok u w/\AQ σ w [r] [u]:=by
 unfold Uu at hr
 split at hr
 ·rename_i k n
  cases hi with
  | lit hl _=>
   split at hr
   ·rename_i len e sz by' z0 cs hti
    obtain⟨inf,d,hin,hd,q1,q2,q3,q4⟩:=FI (hE.ti _ _ hti)
    rw [hP] at hd
    have hds:=pG q1
    subst hds
    split at hr
    ·rename_i ei hei
     obtain⟨infe,de,hie,hde,e1,e2,e3,e4⟩:=FI (hE.ti _ _ hei)
     rw [hP] at hie
     split at hr
     ·rename_i hc
      cases hx with
      | agg h1 h2 _=>
       obtain⟨u,hu,hres⟩:=Zdr hE hP hei h1 h2 hr
       refine⟨u,?_,hres⟩
       rw [e2] at hu
       simp [Instr.index,asIntOf,run_underlying hd,hc.1,hc.2,sizeOf,typeInfo,hie,hu]
     ·cases hr
    ·cases hr
   ·rename_i sz by' z0 s hti
    split at hr
    ·rename_i hst
     have hd:P.underlying t=some .string:=by rw [<- hP];exact hE.isStr t hst
     split at hr
     ·rename_i h0
      cases hg:s[n.toNat]? with
      | none=>simp [hg] at hr
      | some b=>
       simp only [hg,Option.map_some,Option.some.injEq] at hr
       subst hr
       cases hx with
       | lit _ _=>
        refine⟨.int .u8 b.toNat,?_,.lit ?_ .nil⟩
        ·simp [Instr.index,asIntOf,run_underlying hd,h0,hg]
        ·have:=b.toNat_lt
         simp [leaf,Lit.wf,IntKind.min,IntKind.max,IntKind.signed,IntKind.bits]
         omega
     ·cases hr
    ·cases hr
   ·cases hr
 ·cases hr
theorem ZEm (k:IntKind) (n:Int):(Lit.int k n).wf=true↔k.min<=n/\n<=k.max:=by simp [Lit.wf]
theorem ZyV (k:IntKind):k.min<=0/\0<=k.max:=by cases k<;>decide
theorem Zbo {k:IntKind} {a n:Int} (h:(Lit.int k a).wf=true) (hn:(0<=a/\0<=n/\n<=a)\/(a<=0/\a<=n/\n<=0)):(Lit.int k n).wf=true:=by
 rw [ZEm] at h ⊢
 have:=ZyV k
 omega
theorem Zq7 (a b:Int):(0<=a/\0<=a.tmod b/\a.tmod b<=a)\/(a<=0/\a<=a.tmod b/\a.tmod b<=0):=by
 have key:∀x:Int,0<=x->0<=x.tmod b/\x.tmod b<=x:=by
  intro x hx
  rw [Int.tmod_eq_emod_of_nonneg hx]
  by_cases hb:b=0
  ·subst hb;simp [hx]
  ·refine⟨Int.emod_nonneg x hb,?_⟩
   have h1:=Int.emod_nonneg x hb
   have h2:=Int.mul_ediv_add_emod x b
   have h3:0<=b*(x / b):=by
    rcases Int.lt_or_gt_of_ne hb with hb|hb
    ·exact Int.mul_nonneg_of_nonpos_of_nonpos (by omega) (Int.ediv_nonpos_of_nonneg_of_nonpos hx (by omega))
    ·exact Int.mul_nonneg (by omega) (Int.ediv_nonneg hx (by omega))
   omega
 rcases Int.le_total 0 a with h|h
 ·exact .inl ⟨h,key a h⟩
 ·right
  have:=key (-a) (by omega)
  rw [Int.neg_tmod] at this
  omega
theorem Zpy (a:Int) (n:Nat):(0<=a/\0<=a.fdiv (2 ^ n)/\a.fdiv (2 ^ n)<=a)\/(a<=0/\a<=a.fdiv (2 ^ n)/\a.fdiv (2 ^ n)<=0):=by
 have hp:(0:Int)<2 ^ n:=Int.pow_pos (by decide)
 rw [Int.fdiv_eq_ediv_of_nonneg _ (Int.le_of_lt hp)]
 have h2:=Int.mul_ediv_add_emod a (2 ^ n)
 have h3:=Int.emod_nonneg a (Int.ne_of_gt hp)
 have h4:=Int.emod_lt_of_pos a hp
 rcases Int.le_total 0 a with h|h
 ·refine .inl ⟨h,Int.ediv_nonneg h (Int.le_of_lt hp),Int.ediv_le_self _ h⟩
 ·right
  have h5:a / 2 ^ n<=0:=by
   rcases Int.lt_or_eq_of_le h with hl|he
   ·exact Int.le_of_lt (Int.ediv_neg_of_neg_of_pos hl hp)
   ·rw [he];simp
  refine⟨h,?_,h5⟩
  rw [Int.le_ediv_iff_mul_le hp]
  have h1:(1:Int)<=2 ^ n:=hp
  have:=Int.mul_le_mul_of_nonneg_left h1 (show 0 <= -a by omega)
  rw [Int.mul_one,Int.neg_mul] at this
  omega
theorem RI {P:Program} {w:World} (op:BinOp) (t:TypeId) (x y:Operand) (a b:Value) (h1:∀cs,a≠.agg cs) (h2:a≠.nilIface):(eqGuard op t x y a b).run P w = .ok () w:=by
 unfold eqGuard
 cases a<;>first|exact absurd rfl h2|exact absurd rfl (h1 _)|(cases op<;>cases b<;>rfl)
theorem ZFu {P:Program} {w:World} {op:BinOp} {t:TypeId} {k:IntKind} {a b:Int} {r:Value} (ha:leaf (.int k a)=true) (hs:op≠.shl/\op≠.shr) (hr:OW op k a b=some r) :
  (binOp op t (.int k a) (.int k b)).run P w = .ok r w/\leaf r=true:=by
 have ha' : (Lit.int k a).wf=true:=by simpa [leaf] using ha
 cases op<;>simp only [OW,Option.some.injEq,reduceCtorEq] at hr
 all_goals try (exact absurd rfl hs.1)
 all_goals try (exact absurd rfl hs.2)
 all_goals try (subst hr;refine⟨?_,rfl⟩;simp [binOp,Op.intCmp];done)
 all_goals try (subst hr;refine⟨?_,show (Lit.int _ _).wf=true from wf_wrap _ _⟩;simp [binOp,Op.intArith];done)
 all_goals try (subst hr;refine⟨?_,show (Lit.int _ _).wf=true from wf_bits _ _ _ _⟩;simp [binOp,Op.intBits,bits];done)
 all_goals (split at hr)
 all_goals try (cases hr;done)
 all_goals rename_i hb
 all_goals simp only [Option.some.injEq] at hr
 all_goals subst hr
 ·exact⟨by simp [binOp,Op.intDiv,hb],show (Lit.int _ _).wf=true from wf_wrap _ _⟩
 ·exact⟨by simp [binOp,Op.intDiv,hb],show (Lit.int _ _).wf=true from Zbo ha' (Zq7 a b)⟩
theorem Zdw {P:Program} {w:World} {op:BinOp} {t:TypeId} {k j:IntKind} {a b:Int} {r:Value} (ha:leaf (.int k a)=true) (hs:op = .shl\/op = .shr) (hr:PH op k a b=some r) :
  (binOp op t (.int k a) (.int j b)).run P w = .ok r w/\leaf r=true:=by
 have ha' : (Lit.int k a).wf=true:=by simpa [leaf] using ha
 unfold PH at hr
 split at hr
 ·cases hr
 ·rename_i hb
  rcases hs with rfl|rfl
  ·simp only [Option.some.injEq] at hr
   subst hr
   exact⟨by simp [binOp,Op.shift,hb],show (Lit.int _ _).wf=true from wf_wrap _ _⟩
  ·simp only [Option.some.injEq] at hr
   subst hr
   exact⟨by simp [binOp,Op.shift,hb],show (Lit.int _ _).wf=true from Zbo ha' (Zpy a _)⟩
theorem ZFU {P:Program} {w:World} {op:BinOp} {t:TypeId} {a b:ByteArray} {r:Value} (hr:VX op a b=some r) :
  (binOp op t (.string a) (.string b)).run P w = .ok r w/\leaf r=true:=by
 cases op<;>simp only [VX,Option.some.injEq,reduceCtorEq] at hr
 ·split at hr
  ·rename_i hc
   simp only [decide_eq_true_eq] at hc
   simp only [Option.some.injEq] at hr
   subst hr
   have h63:¬(9223372036854775807<((a.size+b.size:Nat):Int)):=by simp [maxLen] at hc;omega
   refine⟨?_,by simpa [leaf] using hc⟩
   simp only [binOp,Op.stringOp]
   have:IntKind.i64.max=9223372036854775807:=rfl
   rw [if_neg (by rw [this];omega)]
   rfl
  ·cases hr
 all_goals (subst hr;exact⟨by simp [binOp,Op.stringOp],rfl⟩)
def O0:FK->Value->Option Lit
 | .b,.bool b=>some (.bool b)
 | .i k,.int j n=>if j=k/\(Lit.int k n).wf=true then some (.int k n) else none
 | .s,.string s=>if s.size<=maxLen then some (.string s.data.toList) else none
 | _,_=>none
def Ep:List FK->List Value->Option (List Lit)
 | [],[]=>some []
 | k::ks,v::vs=>match O0 k v,Ep ks vs with|some l,some ls=>some (l::ls)|_,_=>none
 | _,_=>none
theorem oJ:∀{ks:List FK} {vs:List Value} {ls:List Lit},Ep ks vs=some ls->vs.length=ks.length/\ls.length=ks.length
 | [],[],ls,h=>by simp [Ep] at h;subst h;simp
 | [],v::vs,ls,h=>by simp [Ep] at h
 | k::ks,[],ls,h=>by simp [Ep] at h
 | k::ks,v::vs,ls,h=>by
  simp only [Ep] at h
  split at h
  ·rename_i l ls' h1 h2
   simp only [Option.some.injEq] at h
   subst h
   obtain⟨a,b⟩:=oJ h2
   simp [a,b]
  ·cases h
theorem Z05:∀{ks ks' : List FK} {vs:List Value} {ls:List Lit},Ep (ks++ks') vs=some ls->∃l1 l2,Ep ks (vs.take ks.length)=some l1/\Ep ks' (vs.drop ks.length)=some l2/\ls=l1++l2
 | [],ks',vs,ls,h=>⟨[],ls,by simp [Ep],by simpa using h,rfl⟩
 | k::ks,ks',[],ls,h=>by simp [Ep] at h
 | k::ks,ks',v::vs,ls,h=>by
  simp only [List.cons_append,Ep] at h
  split at h
  ·rename_i l ls' h1 h2
   simp only [Option.some.injEq] at h
   subst h
   obtain⟨l1,l2,a,b,c⟩:=Z05 h2
   exact⟨l::l1,l2,by simp [Ep,h1,a],by simpa using b,by simp [c]⟩
  ·cases h
theorem Zav {P:Program} {d:Nat} (ih:∀t ks vs ls,Oa P d t=some ks->Ep ks vs=some ls->P.keyLits d t vs=some ls) :
  ∀(fs:List Field) (off:Nat) (ks:List FK) (vs:List Value) (ls:List Lit),dV P (Oa P d) off fs=some ks->Ep ks (vs.drop off)=some ls ->
   (fs.mapM fun f=>P.keyLits d f.type ((vs.drop f.offset).take (P.cellsOf f.type))).map List.flatten=some ls/\(∀f∈fs,(f.name != "_")=true)
 | [],off,ks,vs,ls,h,hl=>by
  simp only [dV,Option.some.injEq] at h
  subst h
  cases hd:vs.drop off with
  | nil=>rw [hd] at hl;simp [Ep] at hl;subst hl;simp
  | cons a b=>rw [hd] at hl;simp [Ep] at hl
 | f::fs,off,ks,vs,ls,h,hl=>by
  simp only [dV] at h
  split at h
  ·rename_i hc
   obtain⟨c1,c2⟩:=hc
   split at h
   ·rename_i k1 hk1
    split at h
    ·rename_i hsz
     split at h
     ·rename_i rest hrest
      simp only [Option.some.injEq] at h
      subst h
      obtain⟨l1,l2,a,b,rfl⟩:=Z05 hl
      rw [List.drop_drop] at b
      obtain⟨r1,r2⟩:=Zav ih fs (off+k1.length) rest vs l2 hrest b
      have h1:=ih f.type k1 _ l1 hk1 a
      refine⟨?_,?_⟩
      ·rw [List.mapM_cons]
       rw [c1,hsz,h1]
       cases hm:fs.mapM fun f=>P.keyLits d f.type ((vs.drop f.offset).take (P.cellsOf f.type)) with
       | none=>simp [hm] at r1
       | some ms=>
        simp only [hm,Option.map_some,Option.some.injEq] at r1
        simp [r1]
      ·intro g hg
       rcases List.mem_cons.1 hg with rfl|hg
       ·exact c2
       ·exact r2 g hg
     ·cases h
    ·cases h
   ·cases h
  ·cases h
theorem Zbd {P:Program} {d:Nat} {e:TypeId} {ks:List FK} (ih:∀vs ls,Ep ks vs=some ls->P.keyLits d e vs=some ls) (hsz:P.cellsOf e=ks.length) :
  ∀(n s:Nat) (vs:List Value) (ls:List Lit),Ep (List.replicate n ks).flatten (vs.drop (s*ks.length))=some ls ->
   ((List.range' s n).mapM fun i=>P.keyLits d e ((vs.drop (i*P.cellsOf e)).take (P.cellsOf e))).map List.flatten=some ls
 | 0,s,vs,ls,h=>by
  cases hd:vs.drop (s*ks.length) with
  | nil=>rw [hd] at h;simp [Ep] at h;subst h;simp
  | cons a b=>rw [hd] at h;simp [Ep] at h
 | n+1,s,vs,ls,h=>by
  rw [List.replicate_succ,List.flatten_cons] at h
  obtain⟨l1,l2,a,b,rfl⟩:=Z05 h
  rw [List.drop_drop,<- Nat.succ_mul] at b
  have r:=Zbd ih hsz n (s+1) vs l2 b
  have h1:=ih _ l1 a
  rw [List.range'_succ,List.mapM_cons,hsz,h1]
  rw [hsz] at r
  cases hm:(List.range' (s+1) n).mapM fun i=>P.keyLits d e ((vs.drop (i*ks.length)).take ks.length) with
  | none=>simp [hm] at r
  | some ms=>
   simp only [hm,Option.map_some,Option.some.injEq] at r
   simp [r]
theorem Z3u {P:Program}:∀(d:Nat) (t:TypeId) (ks:List FK) (vs:List Value) (ls:List Lit),Oa P d t=some ks->Ep ks vs=some ls->P.keyLits d t vs=some ls
 | 0,t,ks,vs,ls,h,hl=>by simp [Oa] at h
 | d+1,t,ks,vs,ls,h,hl=>by
  have ih:=Z3u (P:=P) d
  have hlen:=oJ hl
  unfold Oa at h
  split at h
  ·rename_i hu
   simp only [Option.some.injEq] at h
   subst h
   match vs,hl with
   | [v],hl=>
    cases v<;>simp [Ep,O0] at hl
    subst hl
    simp [Program.keyLits,hu]
  ·rename_i k hu
   simp only [Option.some.injEq] at h
   subst h
   match vs,hl with
   | [v],hl=>
    cases v<;>simp [Ep,O0] at hl
    rename_i j n
    by_cases hc:j=k/\(Lit.int k n).wf=true
    ·rw [if_pos hc] at hl
     simp at hl
     subst hl
     simp [Program.keyLits,hu,hc.1,hc.2]
    ·rw [if_neg hc] at hl
     simp at hl
  ·rename_i hu
   simp only [Option.some.injEq] at h
   subst h
   match vs,hl with
   | [v],hl=>
    cases v<;>simp [Ep,O0] at hl
    rename_i s
    by_cases hc:s.size<=maxLen
    ·rw [if_pos hc] at hl
     simp at hl
     subst hl
     simp [Program.keyLits,hu,hc]
    ·rw [if_neg hc] at hl
     simp at hl
  ·rename_i n e hu
   split at h
   ·rename_i k1 hk1
    split at h
    ·rename_i hc
     simp only [Option.some.injEq] at h
     subst h
     have hl2:vs.length=P.cellsOf t:=by rw [hlen.1,hc.2];simp
     have r:=Zbd (fun vs ls h=>ih e k1 vs ls hk1 h) hc.1 n 0 vs ls (by simpa using hl)
     unfold Program.keyLits
     rw [hu]
     simp only [hl2,if_true,List.range_eq_range']
     exact r
    ·cases h
   ·cases h
  ·rename_i fs hu
   split at h
   ·rename_i k1 hk1
    split at h
    ·rename_i hc
     simp only [Option.some.injEq] at h
     subst h
     have hl2:vs.length=P.cellsOf t:=by rw [hlen.1,hc]
     obtain⟨r1,r2⟩:=Zav ih fs.toList 0 k1 vs ls hk1 (by simpa using hl)
     unfold Program.keyLits
     rw [hu]
     simp only []
     rw [if_pos ⟨hl2,by
      rw [Array.all_eq_true_iff_forall_mem]
      intro f hf
      exact r2 f (by simpa using hf)⟩]
     exact r1
    ·cases h
   ·cases h
  ·cases h
theorem Zrv (a b:ByteArray):(a==b)=true↔a.data.toList=b.data.toList:=by
 rw [beq_toListBytes,beq_iff_eq,ByteArray.toList_eq,ByteArray.toList_eq]
theorem Zqf {σ w}:∀{ks:List FK} {xs ys:List V} {vx vy:List Value} {r:Bool},AQ σ w xs vx->AQ σ w ys vy->Iu ks xs ys=some r ->
  ∃la lb,Ep ks vx=some la/\Ep ks vy=some lb/\(r=true↔la=lb):=by
 intro ks
 induction ks with
 | nil=>
  intro xs ys vx vy r hx hy he
  cases xs<;>cases ys<;>simp [Iu] at he
  cases hx.FM
  cases hy.FM
  exact⟨[],[],rfl,rfl,by simp [he]⟩
 | cons k ks ih=>
  intro xs ys vx vy r hx hy he
  unfold Iu at he
  split at he
  ·rename_i h1 h2 h3;cases h3
  ·rename_i ks' a xs b ys h1
   cases h1
   obtain⟨v1,vx',rfl,p1,p2⟩:=hx.Dq
   obtain⟨v2,vy',rfl,q1,q2⟩:=hy.Dq
   cases p1 with
   | lit _ _=>
   cases q1 with
   | lit _ _=>
   split at he
   ·rename_i r' hr
    obtain⟨la,lb,e1,e2,e3⟩:=ih p2 q2 hr
    simp only [Option.some.injEq] at he
    subst he
    refine⟨.bool a::la,.bool b::lb,by simp [Ep,O0,e1],by simp [Ep,O0,e2],?_⟩
    simp [e3]
   ·cases he
  ·rename_i k' ks' k1 a xs k2 b ys h1
   cases h1
   obtain⟨v1,vx',rfl,p1,p2⟩:=hx.Dq
   obtain⟨v2,vy',rfl,q1,q2⟩:=hy.Dq
   split at he
   ·rename_i hk
    obtain⟨rfl,rfl⟩:=hk
    cases p1 with
    | lit l1 _=>
    cases q1 with
    | lit l2 _=>
    split at he
    ·rename_i r' hr
     obtain⟨la,lb,e1,e2,e3⟩:=ih p2 q2 hr
     simp only [Option.some.injEq] at he
     subst he
     have w1:(Lit.int k2 a).wf=true:=by simpa [leaf] using l1
     have w2:(Lit.int k2 b).wf=true:=by simpa [leaf] using l2
     refine⟨.int k2 a::la,.int k2 b::lb,by simp [Ep,O0,e1,w1],by simp [Ep,O0,e2,w2],?_⟩
     simp [e3]
    ·cases he
   ·cases he
  ·rename_i ks' a xs b ys h1
   cases h1
   obtain⟨v1,vx',rfl,p1,p2⟩:=hx.Dq
   obtain⟨v2,vy',rfl,q1,q2⟩:=hy.Dq
   cases p1 with
   | lit l1 _=>
   cases q1 with
   | lit l2 _=>
   split at he
   ·rename_i r' hr
    obtain⟨la,lb,e1,e2,e3⟩:=ih p2 q2 hr
    simp only [Option.some.injEq] at he
    subst he
    have w1:a.size<=maxLen:=by simpa [leaf] using l1
    have w2:b.size<=maxLen:=by simpa [leaf] using l2
    refine⟨.string a.data.toList::la,.string b.data.toList::lb,by simp [Ep,O0,e1,w1],by simp [Ep,O0,e2,w2],?_⟩
    rw [Bool.and_eq_true,Zrv,e3]
    simp
   ·cases he
  ·cases he
theorem Z9T {E:Env} {P:Program} {σ w} (hE:Ci E) (hP:E.P=P) {t:TypeId} {ks:List FK} {xs ys:List V} {vx vy:List Value} {r:Bool} (hf:E.flat t=some ks) (hx:AQ σ w xs vx) (hy:AQ σ w ys vy)
  (he:Iu ks xs ys=some r):(Op.equalIn 10000 t (.agg vx.toArray) (.agg vy.toArray)).run P w = .ok r w/\P.eqGuardType P.depth t=false:=by
 have hfl:=hE.flat t ks hf
 rw [hP] at hfl
 obtain⟨la,lb,h1,h2,h3⟩:=Zqf hx hy he
 have hrow:(∃fs,P.underlying t=some (.struct fs))\/∃n e,P.underlying t=some (.array n e):=by
  unfold sH at hfl
  split at hfl
  ·rename_i fs hu;exact .inl ⟨fs,hu⟩
  ·rename_i n e hu;exact .inr ⟨n,e,hu⟩
  ·cases hfl
 have hk:P.keyTypeAt 20 t=true/\P.eqGuardType P.depth t=false/\Oa P 20 t=some ks:=by
  unfold sH at hfl
  rcases hrow with ⟨fs,hu⟩|⟨n,e,hu⟩<;>rw [hu] at hfl<;>simp only [] at hfl<;>split at hfl<;>simp_all
 obtain⟨k1,k2,k3⟩:=hk
 have l1:=Z3u 20 t ks vx la k3 h1
 have l2:=Z3u 20 t ks vy lb k3 h2
 have hcells:P.cellsOf t=ks.length:=by
  rcases hrow with ⟨fs,hu⟩|⟨n,e,hu⟩<;>unfold Oa at k3<;>rw [hu] at k3<;>simp only [] at k3
  ·split at k3
   ·split at k3
    ·rename_i hc;cases k3;exact hc
    ·cases k3
   ·cases k3
  ·split at k3
   ·split at k3
    ·rename_i hc;simp only [Option.some.injEq] at k3;rw [<- k3,hc.2];simp
    ·cases k3
   ·cases k3
 have f1:(Value.agg vx.toArray).formed P t=true:=by
  rcases hrow with ⟨fs,hu⟩|⟨n,e,hu⟩<;>simp [Value.formed,hu,hcells,(oJ h1).1]
 have f2:(Value.agg vy.toArray).formed P t=true:=by
  rcases hrow with ⟨fs,hu⟩|⟨n,e,hu⟩<;>simp [Value.formed,hu,hcells,(oJ h2).1]
 obtain⟨r',hr',hiff⟩:=run_equalIn_deep (P:=P) 9980 20 t k1 w 20 20 (.agg vx.toArray) (.agg vy.toArray) la lb f1 f2 (by simpa [Value.cells] using l1) (by simpa [Value.cells] using l2)
 refine⟨?_,k2⟩
 have:r' = r:=by
  rw [Bool.eq_iff_iff,hiff,h3]
 rw [<- this]
 exact hr'
theorem un_ok {P:Program} {σ w} {op:UnOp} {x r:V} {v:Value} (hx:AQ σ w [x] [v]) (h:iI op x=some r):∃u,(Op.unary op v).run P w = .ok u w/\AQ σ w [r] [u]:=by
 unfold iI at h
 split at h
 ·simp only [Option.some.injEq] at h
  subst h
  cases hx with
  | lit hl _=>exact⟨_,by simp [Op.unary,Op.intArith],.lit (show (Lit.int _ _).wf=true from wf_wrap _ _) .nil⟩
 ·simp only [Option.some.injEq] at h
  subst h
  cases hx with
  | lit hl _=>exact⟨_,by simp [Op.unary,Op.intBits,bits],.lit (show (Lit.int _ _).wf=true from wf_bits _ _ _ _) .nil⟩
 ·simp only [Option.some.injEq] at h
  subst h
  cases hx with
  | lit hl _=>exact⟨_,by simp [Op.unary],.lit rfl .nil⟩
 ·cases h
theorem ZEf {E:Env} {P:Program} {σ w} (hE:Ci E) (hP:E.P=P) {op:BinOp} {t:TypeId} {x y r:V} {vx vy:Value} (ox oy:Operand) (hx:AQ σ w [x] [vx]) (hy:AQ σ w [y] [vy]) (h:MQ E op t x y=some r) :
  ∃u,(eqGuard op t ox oy vx vy).run P w = .ok () w/\(binOp op t vx vy).run P w = .ok u w/\AQ σ w [r] [u]:=by
 unfold MQ at h
 split at h
 ·rename_i k a j b
  cases hx with
  | lit l1 _=>
  cases hy with
  | lit l2 _=>
  cases hs:PH .shl k a b with
  | none=>simp [hs] at h
  | some q=>
   simp only [hs,Option.map_some,Option.some.injEq] at h
   subst h
   obtain⟨h1,h2⟩:=Zdw (P:=P) (w:=w) (t:=t) (j:=j) l1 (.inl rfl) hs
   exact⟨q,RI _ _ _ _ _ _ (by simp) (by simp),h1,.lit h2 .nil⟩
 ·rename_i k a j b
  cases hx with
  | lit l1 _=>
  cases hy with
  | lit l2 _=>
  cases hs:PH .shr k a b with
  | none=>simp [hs] at h
  | some q=>
   simp only [hs,Option.map_some,Option.some.injEq] at h
   subst h
   obtain⟨h1,h2⟩:=Zdw (P:=P) (w:=w) (t:=t) (j:=j) l1 (.inr rfl) hs
   exact⟨q,RI _ _ _ _ _ _ (by simp) (by simp),h1,.lit h2 .nil⟩
 ·rename_i k a j b hn1 hn2
  split at h
  ·rename_i hk
   subst hk
   cases hx with
   | lit l1 _=>
   cases hy with
   | lit l2 _=>
   cases hs:OW op k a b with
   | none=>simp [hs] at h
   | some q=>
    simp only [hs,Option.map_some,Option.some.injEq] at h
    subst h
    obtain⟨h1,h2⟩:=ZFu (P:=P) (w:=w) (t:=t) l1 ⟨hn1,hn2⟩ hs
    exact⟨q,RI _ _ _ _ _ _ (by simp) (by simp),h1,.lit h2 .nil⟩
  ·cases h
 ·rename_i a b
  cases hx with
  | lit l1 _=>
  cases hy with
  | lit l2 _=>
  cases hs:VX op a b with
  | none=>simp [hs] at h
  | some q=>
   simp only [hs,Option.map_some,Option.some.injEq] at h
   subst h
   obtain⟨h1,h2⟩:=ZFU (P:=P) (w:=w) (t:=t) hs
   exact⟨q,RI _ _ _ _ _ _ (by simp) (by simp),h1,.lit h2 .nil⟩
 ·split at h
  ·rename_i hb
   have hu:P.underlying t=some .bool:=by rw [<- hP];exact hE.isBool t hb
   simp only [Option.some.injEq] at h
   subst h
   cases hx with
   | lit l1 _=>
   cases hy with
   | lit l2 _=>
   exact⟨_,RI _ _ _ _ _ _ (by simp) (by simp),by simp [binOp,run_equal_bool w t _ _ hu],.lit rfl .nil⟩
  ·cases h
 ·split at h
  ·rename_i hb
   have hu:P.underlying t=some .bool:=by rw [<- hP];exact hE.isBool t hb
   simp only [Option.some.injEq] at h
   subst h
   cases hx with
   | lit l1 _=>
   cases hy with
   | lit l2 _=>
   exact⟨_,RI _ _ _ _ _ _ (by simp) (by simp),by simp [binOp,run_equal_bool w t _ _ hu],.lit rfl .nil⟩
  ·cases h
 ·rename_i xs ys
  split at h
  ·rename_i ks hf
   cases hc:Iu ks xs ys with
   | none=>simp [hc] at h
   | some q=>
    simp only [hc,Option.map_some,Option.some.injEq] at h
    subst h
    cases hx with
    | agg p1 _ _=>
    cases hy with
    | agg q1 _ _=>
    obtain⟨h1,h2⟩:=Z9T hE hP hf p1 q1 hc
    exact⟨.bool q,run_eqGuard_agg w _ _ _ _ _ _ h2,by rw [run_eql_struct,h1];rfl,.lit rfl .nil⟩
  ·cases h
 ·rename_i xs ys
  split at h
  ·rename_i ks hf
   cases hc:Iu ks xs ys with
   | none=>simp [hc] at h
   | some q=>
    simp only [hc,Option.map_some,Option.some.injEq] at h
    subst h
    cases hx with
    | agg p1 _ _=>
    cases hy with
    | agg q1 _ _=>
    obtain⟨h1,h2⟩:=Z9T hE hP hf p1 q1 hc
    exact⟨.bool (!q),run_eqGuard_agg w _ _ _ _ _ _ h2,by rw [run_neq_struct,h1];rfl,.lit rfl .nil⟩
  ·cases h
 ·cases h
theorem ZaY {σ w}:∀{xs:List V} {us:List Value} {bs:List UInt8},AQ σ w xs us->bytesOf xs=some bs->∃ns:List Int,us=ns.map (Value.int .u8)/\bs=ns.map fun n=>UInt8.ofNat n.toNat
 | [],us,bs,h,hb=>by
  cases h.FM
  simp only [bytesOf,Option.some.injEq] at hb
  subst hb
  exact⟨[],rfl,rfl⟩
 | x::xs,us,bs,h,hb=>by
  obtain⟨v,us',rfl,h1,h2⟩:=h.Dq
  simp only [bytesOf] at hb
  split at hb
  ·rename_i b bs' hbx hbs
   simp only [Option.some.injEq] at hb
   subst hb
   obtain⟨ns,e1,e2⟩:=ZaY h2 hbs
   unfold byteOf at hbx
   split at hbx
   ·rename_i n
    simp only [Option.some.injEq] at hbx
    subst hbx
    cases h1 with
    | lit _ _=>exact⟨n::ns,by simp [e1],by simp [e2]⟩
   ·cases hbx
  ·cases hb
theorem ZuD (ns:List Int) (s:ByteArray):(ns.foldl (fun r n=>r.push (UInt8.ofNat n.toNat)) s)=⟨s.data++(ns.map fun n=>UInt8.ofNat n.toNat).toArray⟩:=by
 induction ns generalizing s with
 | nil=>cases s;simp
 | cons n ns ih=>
  rw [List.foldl_cons,ih]
  congr 1
  apply Array.ext'
  simp [ByteArray.push]
theorem ZwG {v:Value} (h:leaf v=true):v.cells = #[v]/\v.oneCell' = true:=by
 unfold leaf at h
 split at h<;>first|exact⟨rfl,rfl⟩|cases h
theorem Z1V {σ:Sg} {w:World}:∀{cs:List V} {ws:List Value},AQ σ w cs ws->cs.all Ic=true->(∀u∈ws,u.cells = #[u]/\u.oneCell' = true)/\flat ws=ws/\∀x∈cs,Em x=true:=by
 intro cs
 induction cs with
 | nil=>intro ws h _;cases h.FM;exact⟨by simp,rfl,by simp⟩
 | cons c cs ih=>
  intro ws h hl
  obtain⟨v,vs,rfl,h1,h2⟩:=h.Dq
  simp only [List.all_cons,Bool.and_eq_true] at hl
  obtain⟨i1,i2,i3⟩:=ih h2 hl.2
  cases h1 with
  | lit hl' _=>
   obtain⟨k1,k2⟩:=ZwG hl'
   refine⟨fun u hu=>?_,?_,fun x hx=>?_⟩
   ·rcases List.mem_cons.1 hu with rfl|hu
    ·exact⟨k1,k2⟩
    ·exact i1 u hu
   ·rw [KI,k1,i2];rfl
   ·rcases List.mem_cons.1 hx with rfl|hx
    ·rfl
    ·exact i3 x hx
  | _=>simp [Ic] at hl
theorem Zza {E B w0 σ H w} {P:Program} (hE:Ci E) (hP:E.P=P) (h:Inv B w0 σ H w) {t e:TypeId} {n sz by' : Nat} {z0:Option V} (hti:E.ti t=some ⟨.array n e,sz,by',z0⟩) {x r:V} {v:Value} {lo hi mx:Option V} {lo' hi' mx' : Option Value} {H' : Heap} (hx:AQ σ w [x] [v])
  (hlo:Jj σ w lo lo') (hhi:Jj σ w hi hi') (hmx:Jj σ w mx mx') (hs:OI E H n e x lo hi mx=some (r,H')) :
  ∃u σ',(Instr.sliceAt t v lo' hi' mx').run P w = .ok u w/\Inv B w0 σ' H' w/\Ext σ w σ' w/\AQ σ' w [r] [u]:=by
 unfold OI at hs
 split at hs
 ·rename_i id i off tot m' hm'
  cases hmx
  obtain⟨bd,_,hmn⟩:=Ot (P:=P) (w:=w) (Nat.le_refl n) false hlo hhi hm' (l:=0) rfl
  split at hs
  ·rename_i b hb
   obtain⟨b1,b2,b3⟩:=U2 hb
   split at hs
   ·rename_i cs hrow hxs
    split at hs
    ·rename_i hc
     obtain⟨rfl,rfl,rfl,hmax,hsz,hlit⟩:=hc
     simp only [Option.some.injEq,Prod.mk.injEq] at hs
     obtain⟨rfl,rfl⟩:=hs
     obtain⟨L,us,m⟩:=h.meet b1 b2
     cases hx with
     | ptr g k1 k2 k3 k4 k5=>
      rename_i L'
      have hL:L' = L:=by
       have:=m.box
       rw [k1] at this
       cases this
       rfl
      subst hL
      obtain⟨n0,c0,hv⟩:=k3 (m.tot.trans b3)
      have hrep:=m.D9
      rw [hxs] at hrep
      obtain⟨ws,hus,hcs⟩:∃ws:List Value,us=[.agg ws.toArray]/\AQ σ w cs ws:=by
       cases hrep with
       | agg q1 q2 q3=>cases q3;exact⟨_,rfl,q1⟩
      obtain⟨c1,c2,c3⟩:=Z1V hcs hlit
      have hlen:ws.length=cs.length:=hcs.length.symm
      have hesz:L'.Ap=cs.length:=by
       have:=m.sizes (.agg ws.toArray) (by rw [hus];simp)
       simp only [Value.cells,List.size_toArray] at this
       omega
      have hflat:flat us=ws:=by rw [hus,NC];rfl
      obtain⟨inf,d,hi',hd,q1,q2,q3,q4⟩:=FI (hE.ti _ _ hti)
      have hd' : P.underlying t=some (.array cs.length e):=by
       rw [hP] at hd
       rw [hd]
       cases d<;>simp [Ko] at q1
       rw [q1.1,q1.2]
      obtain⟨ei,hei,hez⟩:∃ei,E.ti e=some ei/\ei.size=1:=by
       unfold Env.size at hsz
       cases hh:E.ti e with
       | none=>simp [hh] at hsz
       | some ei=>exact⟨ei,rfl,by simpa [hh] using hsz⟩
      obtain⟨infe,de,hie,hde,e1,e2,e3,e4⟩:=FI (hE.ti _ _ hei)
      rw [hP] at hie
      obtain⟨hI,hEx⟩:=h.freeze [id]
      have htk:=(hcs.take m').ext hEx
      obtain⟨c1',c2',c3'⟩:=Z1V htk (List.all_eq_true.2 fun x hx=>List.all_eq_true.1 hlit x (List.mem_of_mem_take hx))
      have hml:(cs.take m').length=m' :=by rw [List.length_take];omega
      refine⟨.slice (some ⟨g,0,none⟩) (cs.take m').length cs.length,_,?_,hI,hEx,?_⟩
      ·rw [k4,hml]
       simp [Instr.sliceAt,Instr.sureAddr,bd,run_underlying hd',sizeOf,typeInfo,hie,Addr.add_mid]
      ·refine .sl g 0 cs.length 1 htk c3' (fun u hu=>by rw [(c1' u hu).1];rfl) (fun u hu=>by rw [c2'] at hu;exact(c1' u hu).2) (by omega) hmax ?_ .nil
       intro j u hu
       rw [c2',List.getElem?_take] at hu
       split at hu
       rotate_left
       ·cases hu
       have hj:j<cs.length:=by rw [<- hlen];exact(List.getElem?_eq_some_iff.1 hu).1
       refine⟨.inr ⟨id,b,L',by simp,b1,b2,m.box,by rw [hv];rfl,?_⟩,?_⟩
       ·rw [hxs,hesz];simpa using hj
       ·rw [Nat.zero_add];exact m.cell (g:=g) (by rw [hv];rfl) j u (by rw [hflat];exact hu)
    ·cases hs
   ·cases hs
  ·cases hs
 ·cases hs
theorem ZDj {E σ w} {P:Program} (hE:Ci E) (hP:E.P=P) {t:TypeId} {x r:V} {v:Value} (hx:AQ σ w [x] [v]) (hs:VZ E t x=some r):∃u,(Instr.arrayAt t v).run P w = .ok u w/\AQ σ w [r] [u]:=by
 unfold VZ at hs
 split at hs
 ·rename_i n e sz0 by' z0 sz xs hti
  split at hs
  ·rename_i hc
   obtain⟨hsz,rfl,hn,hle,hlit⟩:=hc
   simp only [Option.some.injEq] at hs
   subst hs
   obtain⟨inf,d,hi',hd,q1,q2,q3,q4⟩:=FI (hE.ti _ _ hti)
   have hd' : P.underlying t=some (.array n e):=by
    rw [hP] at hd
    rw [hd]
    cases d<;>simp [Ko] at q1
    rw [q1.1,q1.2]
   cases hx with
   | EW _=>simp at hle;omega
   | FV a _=>simp at hle;omega
   | sl b o c e' k0 k1 k2 k3 k4 k5 k6 k7=>
    rename_i us
    have htk:=k0.take n
    obtain⟨c1,c2,c3⟩:=Z1V htk hlit
    have hlen:(us.take n).length=n:=by
     have:=k0.length
     rw [List.length_take];omega
    refine⟨.pointer (some ⟨b,o,none⟩),?_,?_⟩
    ·simp [Instr.arrayAt,run_underlying hd',Nat.not_lt.2 hle]
    ·have key:AQ σ w [.CG n [.agg (xs.take n)] 0 0] [.pointer (some ⟨b,o+0*n+0,none⟩)]:=by
      refine .CG (us:=[.agg (us.take n).toArray]) b o n 0 0 (.agg htk (fun u hu=>(c1 u hu).2) .nil) ?_ ?_ ?_ ?_ .nil
      ·intro y hy
       simp only [List.mem_singleton] at hy
       subst hy
       have:CJ (xs.take n)=true:=Ol c3
       simp [Em,okV,CU,this]
      ·intro u hu
       simp only [List.mem_singleton] at hu
       subst hu
       simpa [Value.cells] using hlen
      ·intro u hu
       rw [NC] at hu
       exact(c1 u (by simpa [Value.cells] using hu)).2
      ·intro j u hu
       rw [NC] at hu
       have hu' : (us.take n)[j]? = some u:=by simpa [Value.cells] using hu
       rw [<- c2,bJ k2,List.getElem?_take] at hu'
       split at hu'
       ·exact k6 j u hu'
       ·cases hu'
     simpa using key
  ·cases hs
 ·cases hs
theorem ZBw {E B w0 σ H w} {P:Program} (hE:Ci E) (hP:E.P=P) (h:Inv B w0 σ H w) {k:Nat} (hk0:FP H k=true) {src dst:TypeId} {x r:V} {v:Value} {H' : Heap} (hx:AQ σ w [x] [v]) (hsrc:E.isStr src=true) (hdst:E.isBytes dst=true) (hc:ML E k H dst x=some (r,H')) :
  ∃u w' σ',(convert src dst v).run P w = .ok u w' /\ Inv B w0 σ' H' w' /\ Ext σ w σ' w' /\ AQ σ' w' [r] [u]:=by
 unfold ML at hc
 split at hc
 ·rename_i st e sz by' z0 hti
  split at hc
  ·simp only [Option.some.injEq,Prod.mk.injEq] at hc
   obtain⟨rfl,rfl⟩:=hc
   cases hx with
   | lit hl _=>
    have hlen:st.size<=maxLen:=by simpa [leaf] using hl
    obtain⟨e',h1,h2⟩:=hE.isBytes _ hdst
    have h0:=hE.isStr _ hsrc
    rw [hP] at h0 h1 h2
    obtain⟨inf,d,hi,hd,q1,q2,q3,q4⟩:=FI (hE.ti _ _ hti)
    have hee:e' = e:=by
     rw [hP] at hd
     rw [h1] at hd
     cases hd
     have:=q1
     simp only [Ko,Ty.slice.injEq] at this
     exact this.symm
    subst hee
    have hrun:=run_bytes_of_string (P:=P) w src dst e' st h0 h1 h2
    have hus:∀u∈(st.data.toList.map fun b=>Value.int .u8 b.toNat),u.cells.size=1/\u.oneCell' = true:=by
     intro u hu
     obtain⟨b,_,rfl⟩:=List.mem_map.1 hu
     exact⟨rfl,rfl⟩
    have hflat:flat (st.data.toList.map fun b=>Value.int .u8 b.toNat)=st.data.toList.map fun b=>Value.int .u8 b.toNat:=by
     have:∀l:List Value,(∀u∈l,u.cells = #[u])->flat l=l:=by
      intro l
      induction l with
      | nil=>intro _;rfl
      | cons u l ih=>intro hh;rw [KI,hh u (by simp),ih (fun v hv=>hh v (by simp [hv]))];rfl
     refine this _ (fun u hu=>?_)
     obtain⟨b,_,rfl⟩:=List.mem_map.1 hu
     rfl
    have hsz:st.data.toList.length=st.size:=Array.length_toList
    have hge:=grownCap_ge w st.size 0 e'
    have hbs:(bytesRow st (grownCap w st.size 0 e')).size=grownCap w st.size 0 e' :=by
     simp only [bytesRow,Array.size_append,Array.size_map,Array.size_replicate]
     have:st.data.size=st.size:=rfl
     omega
    have hown:FZ (w.drew.alloc (.cells (bytesRow st (grownCap w st.size 0 e')) e' ((bytesRow st (grownCap w st.size 0 e')).size,(bytesRow st (grownCap w st.size 0 e')).size+1))) B e' 1 (.slice (some ⟨w.heap.size,0,none⟩) st.size (grownCap w st.size 0 e')) (bytesV st).length (flat (st.data.toList.map fun b=>Value.int .u8 b.toNat)):=by
     have hbl:(bytesV st).length=st.size:=by simp only [bytesV,List.length_map];exact hsz
     rw [hbl,hflat]
     refine⟨by rw [List.length_map,hsz,Nat.mul_one],.inr ⟨w.heap.size,_,_,_,rfl,h.size,heap_alloc_new w.drew _,.inr (Nat.le_refl _),hge,grownCap_le_maxLen w st.size 0 e' hlen,by rw [hbs,Nat.mul_one],?_⟩⟩
     rw [Nat.mul_one]
     simp only [bytesRow,Array.toList_append,Array.toList_map]
     rw [List.take_append_of_le_length (by rw [List.length_map,hsz];exact Nat.le_refl _),List.take_of_length_le (by rw [List.length_map,hsz];exact Nat.le_refl _)]
    have hgr:w.grownBy (w.drew.alloc (.cells (bytesRow st (grownCap w st.size 0 e')) e' ((bytesRow st (grownCap w st.size 0 e')).size,(bytesRow st (grownCap w st.size 0 e')).size+1))) none:=
     ⟨rfl,rfl,rfl,by simp,fun k hk _=>heap_alloc_old w.drew _ hk⟩
    have hreps:∀l:List UInt8,AQ σ w (l.map fun c=>V.lit (.int .u8 c.toNat)) (l.map fun b=>Value.int .u8 b.toNat):=by
     intro l
     induction l with
     | nil=>exact .nil
     | cons b l ih=>
      refine .lit ?_ ih
      have:=b.toNat_lt
      simp [leaf,Lit.wf,IntKind.min,IntKind.max,IntKind.signed,IntKind.bits]
      omega
    obtain⟨σ',g1,g2,g3⟩:=NL (e:=e') (Ap:=1) h hk0 hgr (xs:=bytesV st) (hreps st.data.toList)
     (fun x hx=>by obtain⟨b,_,rfl⟩:=List.mem_map.1 hx;rfl) (fun u hu=>(hus u hu).1) (fun u hu=>by rw [hflat] at hu;exact(hus u hu).2) hown (by simp [Value.ownBlock]) false (by simp)
    have hbl:(bytesV st).length=st.size:=by simp only [bytesV,List.length_map];exact hsz
    rw [hbl] at g3
    exact⟨_,_,σ',hrun,g1,g2,g3⟩
  ·cases hc
 ·cases hc
theorem ZBL {E B w0 σ H w} {P:Program} (hE:Ci E) (hP:E.P=P) (h:Inv B w0 σ H w) {src dst:TypeId} {x r:V} {v:Value} {H' : Heap} (hx:AQ σ w [x] [v]) (hc:IY E H src dst x=some (r,H')) :
  H' = H/\∃u,(convert src dst v).run P w = .ok u w/\AQ σ w [r] [u]:=by
 unfold IY at hc
 split at hc
 ·split at hc
  ·rename_i k hk
   split at hc
   ·rename_i hsrc
    simp only [Option.some.injEq,Prod.mk.injEq] at hc
    obtain⟨rfl,rfl⟩:=hc
    have hd:P.underlying dst=some (.int k):=by rw [<- hP];exact hE.kind dst k hk
    cases hti:E.ti src with
    | none=>simp [hti] at hsrc
    | some i=>
     obtain⟨inf,d,hi,hds,_⟩:=FI (hE.ti _ _ hti)
     rw [hP] at hds
     cases hx with
     | lit l _=>
      refine⟨rfl,_,?_,.lit (show (Lit.int _ _).wf=true from wf_wrap _ _) .nil⟩
      simp [convert,run_underlying hds,run_underlying hd,Conv.intToInt]
   ·cases hc
  ·cases hc
 ·split at hc
  ·rename_i hst
   simp only [Bool.and_eq_true] at hst
   simp only [Option.some.injEq,Prod.mk.injEq] at hc
   obtain⟨rfl,rfl⟩:=hc
   have h1:P.underlying src=some .string:=by rw [<- hP];exact hE.isStr _ hst.1
   have h2:P.underlying dst=some .string:=by rw [<- hP];exact hE.isStr _ hst.2
   cases hx with
   | lit l _=>
    refine⟨rfl,_,?_,.lit l .nil⟩
    simp [convert,run_underlying h1,run_underlying h2]
  ·cases hc
 ·split at hc
  ·rename_i hn1 hn2 hst
   simp only [Bool.and_eq_true] at hst
   obtain⟨⟨s1,s2⟩,s3⟩:=hst
   split at hc
   ·rename_i xs hxs
    split at hc
    ·rename_i bs hbs
     split at hc
     ·rename_i hlen
      simp only [Option.some.injEq,Prod.mk.injEq] at hc
      obtain⟨rfl,rfl⟩:=hc
      obtain⟨us,S⟩:=src_ok h hx hxs s3
      obtain⟨ns,e1,e2⟩:=ZaY S.D9 hbs
      have hd:P.underlying dst=some .string:=by rw [<- hP];exact hE.isStr _ s1
      obtain⟨e,hs,he⟩:=hE.isBytes _ s2
      rw [hP] at hs he
      refine⟨rfl,.string ⟨bs.toArray⟩,?_,.lit (by simpa [leaf,ByteArray.size] using hlen) .nil⟩
      rcases S.val with ⟨hv,hy,hu⟩|⟨b,o,c,hv,hc,hcell⟩
      ·subst hy
       simp only [bytesOf,Option.some.injEq] at hbs
       subst hbs
       rcases hv with rfl|⟨a,k,rfl⟩
       ·rw [run_convert_bytes_string w src dst e _ _ _ hs he hd]
        rfl
       ·rw [run_convert_bytes_string w src dst e _ _ _ hs he hd]
        have hload:=run_loadCells_list (P:=P) w a [] (fun j v hj=>by simp at hj)
        rw [run_bytesToString (P:=P) w a 0 k [] (by simpa using hload)]
        rfl
      ·subst hv
       rw [run_convert_bytes_string w src dst e _ _ _ hs he hd]
       have hfl:flat us=us:=by
        rw [e1]
        clear e1 e2 hcell
        induction ns with
        | nil=>rfl
        | cons n ns ih=>simp [flat,Value.cells] at ih ⊢;exact ih
       have hll:xs.length=us.length:=S.D9.length
       have hload:=run_loadCells_list (P:=P) w ⟨b,o,none⟩ us (fun j v hj=>by rw [Addr.add_mid];exact hcell j v (by rw [hfl];exact hj))
       rw [run_bytesToString (P:=P) w ⟨b,o,none⟩ xs.length c ns (by rw [hll,hload,e1])]
       rw [ZuD,e2]
       simp
     ·cases hc
    ·cases hc
   ·cases hc
  ·cases hc
theorem Z4w {P:Program} {σ w} (isMax:Bool):∀{xs:List V} {vs:List Value} {k:IntKind} {a:Int} {r:V},AQ σ w xs vs->leaf (.int k a)=true->mm isMax k a xs=some r ->
  ∃u,(vs.foldlM (if isMax then Builtin.max2 else Builtin.min2) (.int k a)).run P w = .ok u w/\AQ σ w [r] [u]
 | [],vs,k,a,r,h,hl,hm=>by
  cases h.FM
  simp only [mm,Option.some.injEq] at hm
  subst hm
  exact⟨_,rfl,.lit hl .nil⟩
 | x::xs,vs,k,a,r,h,hl,hm=>by
  obtain⟨v,vs',rfl,h1,h2⟩:=h.Dq
  unfold mm at hm
  split at hm
  ·rename_i h3;cases h3
  ·rename_i j b rest h3
   cases h3
   split at hm
   ·rename_i hk
    subst hk
    cases h1 with
    | lit l1 _=>
    cases isMax
    ·simp only [Bool.false_eq_true,if_false] at hm ⊢
     obtain⟨u,hu,hr⟩:=Z4w (P:=P) false h2 (by split<;>assumption) hm
     simp only [Bool.false_eq_true,if_false] at hu
     exact⟨u,by rw [List.foldlM_cons];simp only [Builtin.min2,Sem.run_bind,Sem.run_pure,Result.andThen_ok];exact hu,hr⟩
    ·simp only [if_true] at hm ⊢
     obtain⟨u,hu,hr⟩:=Z4w (P:=P) true h2 (by split<;>assumption) hm
     simp only [if_true] at hu
     exact⟨u,by rw [List.foldlM_cons];simp only [Builtin.max2,Sem.run_bind,Sem.run_pure,Result.andThen_ok];exact hu,hr⟩
   ·cases hm
  ·cases hm
end Go.Proofs.YtjodhcdmhobmoaaGreatDoor.Le
