/- A part of it. -/
import Derived.Test.YtlabamnhpgoekaaGreatDoorL1
import Derived.Great.FillDense
import Derived.Great.BuildSlice
import Derived.OpenShut
import Derived.DeepKeys
import Derived.Laws.Pointers
set_option linter.unusedVariables false
set_option linter.unusedSimpArgs false
namespace Go.Proofs.YtlabamnhpgoekaaGreatDoor.Le
open Go.RowKit (Below)
structure Src (σ:Sg) (w:World) (n:Nat) (ys:List V) (us:List Value) (v:Value):Prop where
 CU:AL σ w ys us
 oks:∀x∈ys,Dp x=true
 sizes:∀u∈us,u.cells.size=n
 ones:∀u∈flat us,u.oneCell' = true
 val:((v = .slice none 0 0\/∃a k,v = .slice (some a) 0 k)/\ys=[]/\us=[])\/∃b o c,v = .slice (some ⟨b,o,none⟩) ys.length c/\ys.length<=c/\∀j u,(flat us)[j]? = some u->w.cell? ⟨b,o+j,none⟩=some u
theorem Src.ext {σ w n ys us v σ'} (h:Src σ w n ys us v) (e:Ext σ w σ' w):Src σ' w n ys us v:=⟨h.CU.ext e,h.oks,h.sizes,h.ones,h.val⟩
theorem src_ok {B w0 σ H w} (h:Inv B w0 σ H w) {x:V} {v:Value} {ys:List V} {n:Nat} (hr:AL σ w [x] [v]) (he:elemsOf H x=some ys) (hn:Df H x n=true) :
  ∃us,Src σ w n ys us v:=by
 unfold elemsOf at he
 split at he
 ·simp only [Option.some.injEq] at he
  subst he
  cases hr with
  | Dj _=>exact⟨[],.nil,by simp,by simp,by simp [flat],.inl ⟨.inl rfl,rfl,rfl⟩⟩
  | EG a _=>exact⟨[],.nil,by simp,by simp,by simp [flat],.inl ⟨.inr ⟨a,0,rfl⟩,rfl,rfl⟩⟩
  | sl b o c e k0 k1 k2 k3 k4 k5 k6 k7=>
   simp only [Df,Bool.false_or,beq_iff_eq] at hn
   subst hn
   exact⟨_,k0,k1,k2,k3,.inr ⟨b,o,c,rfl,k4,fun j u hu=>(k6 j u hu).2⟩⟩
 ·simp only [Option.some.injEq] at he
  subst he
  cases hr with
  | Eg _=>exact⟨[],.nil,by simp,by simp,by simp [flat],.inl ⟨.inl rfl,rfl,rfl⟩⟩
  | Es a _=>exact⟨[],.nil,by simp,by simp,by simp [flat],.inl ⟨.inr ⟨a,0,rfl⟩,rfl,rfl⟩⟩
  | BR b o e k0 k1 k2 k3 k4 k5 k6=>
   simp only [Df,Bool.false_or,beq_iff_eq] at hn
   subst hn
   exact⟨_,k0,k1,k2,k3,.inr ⟨b,o,_,rfl,Nat.le_refl _,fun j u hu=>(k5 j u hu).2⟩⟩
 ·rename_i id off len tot
  split at he
  ·rename_i b hb
   split at he
   ·rename_i hc
    simp only [Bool.and_eq_true,decide_eq_true_eq] at hc
    simp only [Option.some.injEq] at he
    subst he
    obtain⟨L,us,m,hxl,hol,hs,hview⟩:=L6 h hr hb
    simp only [Df,hb,beq_iff_eq] at hn
    have hn' : L.AZ=n:=by rw [<- m.AZ];exact hn
    subst hn'
    have hlen:((b.xs.drop off).take len).length=len:=by simp;omega
    refine⟨(us.drop off).take len,Xe m.CU off len,fun x hx=>m.fz hc.1 x (List.mem_of_mem_drop (List.mem_of_mem_take hx)),Tq (Wv m.sizes off) len,XX (nX m.ones off) len,?_⟩
    rcases hview with ⟨hv,hvv,ho,hl,ht⟩|⟨g,cap,k,hv,hvv,hle,hmx,hk1,hk2⟩
    ·simp_all
    ·right
     refine⟨g,k*L.AZ,cap - off,by rw [hlen];exact hvv,by rw [hlen];omega,?_⟩
     intro j u hu
     rw [nY m.sizes] at hu
     have hj:j<len*L.AZ:=by
      have:=(List.getElem?_eq_some_iff.1 hu).1
      simp at this
      omega
     rw [List.getElem?_take,if_pos hj,List.getElem?_drop] at hu
     have hlpos:0<len:=by
      cases len with
      | zero=>simp at hj
      | succ n=>omega
     have hk:k=off:=hk2 (by omega)
     subst hk
     exact m.cell (g:=g) (by rw [hv];rfl) _ _ hu
   ·cases he
  ·cases he
 ·simp [Df] at hn
 ·cases he
theorem TJ {P:Program} (w:World) (t ty e:TypeId) (i:TypeInfo) (ht:P.underlying t=some (.slice e)) (hi:P.info? e=some i) (a:Option Addr) (n c:Nat) (hn:n<=c) (x:Value) (hx:x = .slice none 0 0\/∃b k,x = .slice (some b) 0 k) :
  (Builtin.append_ #[t,t] ty #[.slice a n c,x]).run P w = .ok (.slice a n c) w:=by
 rcases hx with rfl|⟨b,k,rfl⟩
 ·cases a<;>simp [Builtin.append_,run_underlying ht,sizeOf,typeInfo,hi,Builtin.lenOf,Builtin.firstCells,loadCells,hn,storeCells]
 ·cases a<;>simp [Builtin.append_,run_underlying ht,sizeOf,typeInfo,hi,Builtin.lenOf,Builtin.firstCells,loadCells,loadCellsFrom,hn,storeCells]
theorem Vx {P:Program} (w:World) (base:Nat) (t ty e:TypeId) (i:TypeInfo) (z:Value) (size:Nat) (ht:P.underlying t=some (.slice e)) (hi:P.info? e=some i) (hz:i.zero=some z)
  (hsize:i.size=size) (hzs:z.cells.size=size)
  (v:Value) (n:Nat) (xs:List Value) (hown:E5 w base e size v n xs)
  (a:Addr) (m c:Nat) (news:List Value) (hl:news.length=m*size) (hnews:∀j u,news[j]? = some u->w.cell? (a.add j)=some u) (h1:∀u∈news,u.oneCell' = true) (hm:0<m)
  (h63:n+m<=maxLen) (hbytes:(n+m)*i.bytes<=140737488355328) (hbase:base<=w.heap.size) :
  ∃v' w',(Builtin.append_ #[t,t] ty #[v,.slice (some a) m c]).run P w = .ok v' w' /\ E5 w' base e size v' (n+m) (xs++news)/\w.grownBy w' v.ownBlock /\
   v' ≠.slice none 0 0/\(∀g,v'.ownBlock=some g->v.ownBlock=some g\/w.heap.size<=g) /\
   (∀g j,v.ownBlock=some g->j<n*size->w'.cell? ⟨g,j,none⟩=w.cell? ⟨g,j,none⟩):=by
 subst hsize
 have hsmall:n+m<=9223372036854775807:=by simp only [maxLen] at h63;omega
 have hlen:(xs++news).length=(n+m)*i.size:=by rw [List.length_append,hown.1,hl,Nat.add_mul]
 have grown:∀(old:Nat),old<n+m->∀(row:Option Nat),
   E5 (w.drew.alloc (.cells (xs.toArray++news.toArray++Builtin.zeroCells z.cells (grownCap w (n+m) old e - (n+m))) e)) base e i.size
    (.slice (some ⟨w.heap.size,0,none⟩) (n+m) (grownCap w (n+m) old e)) (n+m) (xs++news) /\
   w.grownBy (w.drew.alloc (.cells (xs.toArray++news.toArray++Builtin.zeroCells z.cells (grownCap w (n+m) old e - (n+m))) e)) row:=by
  intro old ho row
  have hge:=grownCap_ge w (n+m) old e
  have hcm:grownCap w (n+m) old e<=maxLen:=grownCap_le_maxLen w (n+m) old e h63
  refine⟨⟨hlen,.inr ⟨w.heap.size,_,_,(0,0),rfl,hbase,heap_alloc_new w.drew _,.inl rfl,hge,hcm,?_,?_⟩⟩,⟨rfl,rfl,rfl,by simp,fun k hk _=>heap_alloc_old w.drew _ hk⟩⟩
  ·simp only [Array.size_append,List.size_toArray,size_zeroCells,hzs,hown.1,hl,<- Nat.add_mul]
   congr 1
   omega
  ·grind
 have hnew:∀g n c,(Value.slice (some ⟨w.heap.size,0,none⟩) n c).ownBlock=some g->w.heap.size<=g:=by
  intro g n c hg
  simp [Value.ownBlock] at hg
  omega
 rcases hown.2 with ⟨rfl,rfl⟩|⟨g,cap,cur,tg,rfl,hbg,hg,htg,hnc,hcm,hcs,htake⟩
 ·have hx:xs=[]:=List.eq_nil_of_length_eq_zero (by simpa using hown.1)
  subst hx
  have hr:=run_append_nil (P:=P) w t ty e i z ht hi hz a m c news hl hnews hm (by omega) (by grind)
  have hgr:=grown 0 (by omega) (Value.ownBlock (.slice none 0 0))
  grind
 ·by_cases hroom:n+m<=cap
  ·have hfit:n*i.size+news.length<=cur.size:=by rw [hl,hcs,<- Nat.add_mul];exact Nat.mul_le_mul_right _ hroom
   have hr:=xK (P:=P) (w:=w) t ty e i ht hi g n cap cur tg hg htg a m c news hl hnews h1 hroom hfit
   refine⟨_,_,hr,⟨hlen,.inr ⟨g,cap,_,tg,rfl,hbg,setRow_heap w g cur _ e _ hg,?_,hroom,hcm,?_,?_⟩⟩,⟨rfl,rfl,rfl,by simp,fun k _ hk=>setRow_other w g k _ (fun e=>hk (by simp [Value.ownBlock,e]))⟩,by simp,fun g' hg' =>.inl hg',?_⟩
   ·grind
   ·grind
   ·grind
   ·intro g' j hg' hj
    simp only [Value.ownBlock,Option.some.injEq] at hg'
    subst hg'
    rw [cell_setRow_same w g j cur _ e tg hg,cell_of_row w g j cur e tg hg]
    grind
  ·have holds:∀j u,xs[j]? = some u->w.cell? ((⟨g,0,none⟩:Addr).add j)=some u:=hown.cells (g:=g) rfl
   have hr:=run_append_grow (P:=P) w t ty e i z ht hi hz ⟨g,0,none⟩ n cap xs hown.1 holds a m c news hl hnews (by omega) (by omega) (growslice_fits (by omega) hbytes)
   have hgr:=grown cap (by omega) (Value.ownBlock (.slice (some ⟨g,0,none⟩) n cap))
   refine⟨_,_,hr,hgr.1,hgr.2,by simp,fun g' hg' =>.inr (hnew g' _ _ hg'),?_⟩
   intro g' j hg' hj
   simp only [Value.ownBlock,Option.some.injEq] at hg'
   subst hg'
   exact World.cell?_of_block (heap_alloc_old w.drew _ (by simpa using (E5.lt hown g rfl).2))
theorem LV {d:TypeDesc} {e:Nat} (h:Ty.slice e=JM d):d = .slice e:=by
 cases d<;>simp [JM] at h
 rw [h]
theorem gQ {α:Type} (l:List α) (i:Nat) (x:α) (h:l[i]? = some x):l.set i x=l:=by
 apply List.ext_getElem?
 grind
theorem ownBlock_ne {v:Value} {B e size n xs} {w:World} (h:E5 w B e size v n xs) (hne:v≠.slice none 0 0):∃g cap,v = .slice (some ⟨g,0,none⟩) n cap:=by
 rcases h.2 with ⟨hv,_⟩|⟨g,cap,cur,tg,hv,_⟩
 ·exact absurd hv hne
 simp_all
theorem KQ {B w0 σ H w w'} (h:Inv B w0 σ H w) {k:Nat} (hk0:EL H k=true) (hg:w.grownBy w' none) {xs:List V} {us:List Value} {e AZ:Nat} {v' : Value} (hr:AL σ w xs us) (hk:∀x∈xs,Dp x=true)
  (hs:∀u∈us,u.cells.size=AZ) (ho:∀u∈flat us,u.oneCell' = true) (hown:E5 w' B e AZ v' xs.length (flat us)) (hnew:∀g,v'.ownBlock=some g->w.heap.size<=g) (np:Bool) (hnp:np=true->v' = .slice none 0 0) :
  ∃σ',Inv B w0 σ' (place H k (BH true np e AZ xs)) w' /\ Ext σ w σ' w' /\ AL σ' w' [.Az k 0 xs.length xs.length] [v']:=by
 obtain⟨h1,h2⟩:=h.push hg hk0 (BH true np e AZ xs) rfl ⟨v',xs.length,AZ⟩ (by simp [BH]) hnew (fun ex=>⟨rfl,⟨us,hr.ext ex,hs,ho,by simpa [BH] using hown⟩,by simpa [BH] using hnp,rfl,o8 hk,fun _ x hx=>OE (hk x hx)⟩)
 have hval:∃a n c,v' = .slice a n c/\n=xs.length/\n<=c:=by
  rcases hown.2 with ⟨hv,hn⟩|⟨g,cap,cur,tg,hv,_,_,_,hnc,_⟩
  ·grind
  ·grind
 obtain⟨a,n,c,hv,hn,hnc⟩:=hval
 refine⟨_,h1,h2,.Az (L:=⟨v',xs.length,AZ⟩) (by simp [Sg.put]) (Nat.le_refl _) (fun _=>⟨by omega,a,n,c,0,hv,?_,Nat.zero_le _,Nat.le_refl _,fun _=>rfl⟩) ⟨a,n,c,hv⟩ .nil⟩
 subst hn
 rw [hv]
 cases a with
 | none=>simp
 | some a=>simp [Addr.add]
theorem Z98 {B w0 σ H w} {P:Program} (h:Inv B w0 σ H w) {u e:TypeId} (ty:TypeId) {infe:TypeInfo} {id len tot:Nat} {sv xv:Value} {b:Box} {ys:List V} {us:List Value}
  (hd' : P.underlying u=some (.slice e)) (hie:P.info? e=some infe) (hs:AL σ w [.Az id 0 len tot] [sv]) (hb:CB H id tot=some b) (c1:b.row=true) (c2:b.elem=e) (c4:b.AZ=infe.size) (c6:b.floor<=len) (c7:len<tot)
  (c8:len+ys.length<=tot) (src:AL σ w ys us) (soks:∀y∈ys,Dp y=true) (ssz:∀y∈us,y.cells.size=infe.size) (sones:∀v∈flat us,v.oneCell' = true)
  (hsrc:(ys=[]/\us=[]/\(xv = .slice none 0 0\/∃b k,xv = .slice (some b) 0 k))\/(0<ys.length/\∃a c,xv = .slice (some a) ys.length c/\∀j u,(flat us)[j]? = some u->w.cell? (a.add j)=some u)) :
  ∃v' w' σ',(Builtin.append_ #[u,u] ty #[sv,xv]).run P w = .ok v' w' /\ Inv B w0 σ' (H.set id { b with xs:=b.xs.take len++ys++b.xs.drop (len+ys.length) }) w' /\ Ext σ w σ' w' /\ AL σ' w' [.Az id 0 (len+ys.length) tot] [v']:=by
 obtain⟨L,vs,m,hxl,hol,hsub,hview⟩:=L6 h hs hb
 have hLe:L.AZ=infe.size:=by rw [<- m.AZ];exact c4
 have hlus:us.length=ys.length:=src.length.symm
 rcases hview with ⟨hv,hvv,ho,hl,ht⟩|⟨g,cap,k,hv,hvv,hle,hmx,hk1,hk2⟩
 ·omega
 have hk0:k=0:=by omega
 subst hk0
 have hsv:sv = .slice (some ⟨g,0,none⟩) len cap:=by rw [hvv];simp
 rcases hsrc with ⟨hy,hu,hxv⟩|⟨hm,a',c',hxv,hcell⟩
 ·subst hy
  refine⟨sv,w,σ,?_,?_,Ext.refl σ w,by simpa using hs⟩
  ·rw [hsv]
   exact TJ w u ty e infe hd' hie _ len cap (by omega) xv hxv
  ·have:H.set id { b with xs:=b.xs.take len++[]++b.xs.drop (len+([]:List V).length) }=H:=by
    apply gQ
    rw [m.hb]
    cases b
    simp
   rw [this]
   exact h
 rcases m.shape with ⟨hn,_,_⟩|⟨g',cap',cur,tg,hv',hB,hh,htg,hn,hm',hcs,ht⟩
 ·rw [hn] at hv;cases hv
 rw [hv'] at hv
 simp only [Value.slice.injEq,Option.some.injEq,Addr.mk.injEq,and_true] at hv
 obtain⟨hgg,_,hcc⟩:=hv
 have hgg:=hgg.symm
 subst hgg
 have hcc:=hcc.symm
 subst hcc
 have hTl:(flat us).length=ys.length*infe.size:=by rw [flat_length ssz,hlus]
 have hmul:len*infe.size+ys.length*infe.size<=tot*infe.size:=by rw [<- Nat.add_mul];exact Nat.mul_le_mul_right _ c8
 have hcapm:tot*infe.size<=cap*infe.size:=Nat.mul_le_mul_right _ hle
 have hcs' : cur.size=cap*infe.size:=by rw [hcs,hLe]
 have hrun:=xK (P:=P) (w:=w) u ty e infe hd' hie g len cap cur tg (by rw [<- c2];exact hh) htg a' ys.length c' (flat us) hTl hcell sones (by omega) (by rw [hTl];omega)
 have hlv:vs.length=tot:=by rw [m.len,hxl]
 have hFl:(flat vs).length=tot*infe.size:=by rw [flat_length m.sizes,hlv,hLe]
 have hcurE:cur.toList=flat vs++cur.toList.drop (tot*infe.size):=by
  rw [<- hLe,<- ht,hxl,List.take_append_drop]
 have hnew:flat (vs.take len++us++vs.drop (len+ys.length))=(flat vs).take (len*infe.size)++flat us++(flat vs).drop ((len+ys.length)*infe.size):=by
  rw [LQ,LQ,Tz m.sizes,lW m.sizes,hLe]
 have hcells:cur.toList.take (len*infe.size)++flat us++cur.toList.drop (len*infe.size+(flat us).length)=flat (vs.take len++us++vs.drop (len+ys.length))++cur.toList.drop (tot*infe.size):=by
  rw [hnew,hTl,<- Nat.add_mul]
  have e1:cur.toList.take (len*infe.size)=(flat vs).take (len*infe.size):=by
   conv=>lhs;rw [hcurE]
   rw [List.take_append_of_le_length (by rw [hFl];omega)]
  have e2:cur.toList.drop ((len+ys.length)*infe.size)=(flat vs).drop ((len+ys.length)*infe.size)++cur.toList.drop (tot*infe.size):=by
   conv=>lhs;rw [hcurE]
   rw [List.drop_append_of_le_length (by rw [hFl,Nat.add_mul];omega)]
  grind
 rw [hcells] at hrun
 have hsizes' : ∀x∈vs.take len++us++vs.drop (len+ys.length),x.cells.size=L.AZ:=by
  intro x hx
  rcases List.mem_append.1 hx with hx|hx
  ·rcases List.mem_append.1 hx with hx|hx
   ·exact m.sizes x (List.mem_of_mem_take hx)
   ·rw [ssz x hx,hLe]
  ·exact m.sizes x (List.mem_of_mem_drop hx)
 have hlenN:(vs.take len++us++vs.drop (len+ys.length)).length=tot:=by
  simp only [List.length_append,List.length_take,List.length_drop,hlus,hlv]
  omega
 have hlenX:(b.xs.take len++ys++b.xs.drop (len+ys.length)).length=tot:=by
  simp only [List.length_append,List.length_take,List.length_drop,hxl]
  omega
 have hlen' : (flat (vs.take len++us++vs.drop (len+ys.length))).length=tot*L.AZ:=by
  rw [flat_length hsizes',hlenN]
 have hheap:=setRow_heap w g cur (flat (vs.take len++us++vs.drop (len+ys.length))++cur.toList.drop (tot*infe.size)).toArray b.elem tg hh
 have hown:L.v.ownBlock=some g:=by rw [hv'];rfl
 have hgb:w.grownBy (w.setRow g (flat (vs.take len++us++vs.drop (len+ys.length))++cur.toList.drop (tot*infe.size)).toArray) L.v.ownBlock:=
  ⟨rfl,rfl,rfl,by simp,fun k _ hk=>setRow_other w g k _ (fun e=>hk (by rw [hown,e]))⟩
 have hmulE:tot*infe.size<=cap*infe.size:=hcapm
 obtain⟨h1,h2⟩:=h.upd m.hb m.live m.box hgb { b with xs:=b.xs.take len++ys++b.xs.drop (len+ys.length) } m.live L rfl (.inl rfl) rfl (by grind) (fun g' hg' =>.inl hg')
  (fun g' c' hg' hc' =>by
   rw [hown] at hg'
   cases hg'
   have hfl:b.floor*L.AZ<=len*L.AZ:=Nat.mul_le_mul_right _ c6
   have hc2:c' < len*infe.size:=by rw [<- hLe];omega
   have hcc:c' < cur.size:=by rw [hcs'];omega
   unfold World.cell?
   simp only [hheap,hh]
   have:(flat (vs.take len++us++vs.drop (len+ys.length))++cur.toList.drop (tot*infe.size)).toArray[c']? = cur[c']?:=by
    rw [<- hcells]
    simp only [List.getElem?_toArray]
    rw [List.append_assoc,List.getElem?_append_left (by simp only [List.length_take,Array.length_toList];omega),List.getElem?_take,if_pos hc2]
    simp
   rw [this]) (fun ex=>by
   refine⟨by simp only [hlenX];rw [m.tot,hxl],⟨vs.take len++us++vs.drop (len+ys.length),(((m.CU.ext ex).take len).append (src.ext ex)).append ((m.CU.ext ex).drop (len+ys.length)),hsizes',?_,?_⟩,m.DZ,m.AZ,?_,fun hrow=>?_⟩
   ·intro v hv2
    rw [hnew] at hv2
    rcases List.mem_append.1 hv2 with hv2|hv2
    ·rcases List.mem_append.1 hv2 with hv2|hv2
     ·exact m.ones v (List.mem_of_mem_take hv2)
     ·exact sones v hv2
    ·exact m.ones v (List.mem_of_mem_drop hv2)
   ·simp only [hlenX]
    refine⟨hlen',.inr ⟨g,cap,_,tg,by rw [hv',hxl],hB,hheap,?_,by omega,hm',?_,?_⟩⟩
    ·grind
    ·grind
    grind
   ·intro y hy
    rcases List.mem_append.1 hy with hy|hy
    ·rcases List.mem_append.1 hy with hy|hy
     ·exact m.oks y (List.mem_of_mem_take hy)
     ·exact YD (soks y hy)
    ·exact m.oks y (List.mem_of_mem_drop hy)
   ·intro y hy
    rcases List.mem_append.1 hy with hy|hy
    ·rcases List.mem_append.1 hy with hy|hy
     ·exact m.F7 hrow y (List.mem_of_mem_take hy)
     ·exact OE (soks y hy)
    ·exact m.F7 hrow y (List.mem_of_mem_drop hy))
 refine⟨_,_,_,by rw [hsv,hxv];exact hrun,h1,h2,?_⟩
 refine .Az (L:=L) (by simp [Sg.put]) (by rw [m.tot,hxl];exact Nat.le_refl _) (fun _=>⟨by omega,_,_,_,0,hv',by simp [Addr.add],Nat.zero_le _,Nat.le_refl _,fun _=>rfl⟩) ⟨_,_,_,rfl⟩ .nil
theorem Zf0 {E B w0 σ H w} {P:Program} (hE:BP E) (hP:E.P=P) (h:Inv B w0 σ H w) {k:Nat} (hk0:EL H k=true) {t u:TypeId} (ty:TypeId) {s x r:V} {sv xv:Value} {H' : Heap}
  (hs:AL σ w [s] [sv]) (hx:AL σ w [x] [xv]) (ha:Ib E k H t u s x=some (r,H')) :
  ∃v' w' σ',(Builtin.append_ #[t,u] ty #[sv,xv]).run P w = .ok v' w' /\ Inv B w0 σ' H' w' /\ Ext σ w σ' w' /\ AL σ' w' [r] [v']:=by
 unfold Ib at ha
 split at ha
 ·rename_i e sz by' z0 hti
  split at ha
  ·rename_i ei ys hei hut hys
   have hut' : u=t:=by simpa using hut
   subst hut'
   obtain⟨inf,d,hi,hd,q1,q2,q3,q4⟩:=Dz (hE.ti _ _ hti)
   have hd' : P.underlying u=some (.slice e):=by rw [hP] at hd;rw [hd,LV q1]
   obtain⟨infe,de,hie,hde,e1,e2,e3,e4⟩:=Dz (hE.ti _ _ hei)
   rw [hP] at hie
   split at ha
   ·rename_i hcond
    simp only [Bool.and_eq_true,decide_eq_true_eq] at hcond
    obtain⟨⟨hpos,hesz⟩,hzok⟩:=hcond
    obtain⟨us,src⟩:=src_ok h hx hys hesz
    have hsz:infe.size=ei.size:=e2.symm
    obtain⟨zv,hzv,hzs⟩:∃zv,infe.zero=some zv/\zv.cells.size=ei.size:=by
     unfold TI.QL at hzok
     cases hz:ei.zero with
     | none=>simp [hz] at hzok
     | some z=>
      rw [hz] at e4 hzok
      cases hzz:infe.zero with
      | none=>simp [hzz] at e4
      | some zv=>
       simp only [hzz,Option.map_some,Option.some.injEq] at e4
       simp only [Bool.and_eq_true,beq_iff_eq] at hzok
       refine⟨zv,rfl,?_⟩
       have:=(TU σ w zv).OG (by rw [<- e4];exact hzok.1)
       rw [<- this,<- e4]
       exact hzok.2
    have hnews:(flat us).length=ys.length*ei.size:=by rw [flat_length src.sizes,src.CU.length]
    have hsrc:(ys=[]/\us=[]/\(xv = .slice none 0 0\/∃b k,xv = .slice (some b) 0 k))\/(0<ys.length/\∃a c,xv = .slice (some a) ys.length c/\∀j u,(flat us)[j]? = some u->w.cell? (a.add j)=some u):=by
     rcases src.val with ⟨hv,hy,hu⟩|⟨b,o,c,hv,hc,hcell⟩
     ·simp_all
     ·cases hy:ys with
      | nil=>
       left
       subst hy
       exact⟨rfl,src.CU.EN,.inr ⟨_,_,hv⟩⟩
      | cons y yl=>
       right
       refine⟨by simp,⟨b,o,none⟩,c,by rw [<- hy];exact hv,fun j u hj=>by rw [Addr.add_mid];exact hcell j u hj⟩
    split at ha
    ·rename_i id off len tot
     split at ha
     ·rename_i b hb
      split at ha
      ·rename_i hc
       simp only [Bool.and_eq_true,beq_iff_eq,decide_eq_true_eq] at hc
       obtain⟨⟨⟨⟨c1,c2⟩,c3⟩,c4⟩,c5⟩:=hc
       subst c3
       subst c4
       split at ha
       ·rename_i hlim
        simp only [Bool.and_eq_true,decide_eq_true_eq] at hlim
        obtain⟨l1,l2⟩:=hlim
        simp only [Option.some.injEq,Prod.mk.injEq] at ha
        obtain⟨rfl,rfl⟩:=ha
        obtain⟨L,vs,m,hxl,hol,hsub,hview⟩:=L6 h hs hb
        have hLe:L.AZ=ei.size:=by rw [<- m.AZ];exact c5
        have hsv:sv=L.v/\∃a n c,L.v = .slice a n c/\n<=c:=by
         rcases hview with ⟨hv,hvv,ho,hl,ht⟩|⟨g,cap,k,hv,hvv,hle,hmx,hk1,hk2⟩
         ·exact⟨hvv.trans hv.symm,_,_,_,hv,Nat.le_refl _⟩
         ·have:k=0:=by omega
          subst this
          refine⟨?_,_,_,_,hv,hle⟩
          rw [hvv,hv]
          simp
        obtain⟨hsv,a,n,c,hLv,hnc⟩:=hsv
        rcases hsrc with ⟨hy,hu,hxv⟩|⟨hm,a',c',hxv,hcell⟩
        ·subst hy
         refine⟨sv,w,σ,?_,?_,Ext.refl σ w,by simpa using hs⟩
         ·rw [hsv,hLv]
          exact TJ w u ty e infe hd' hie a n c hnc xv hxv
         ·have:H.set id { b with xs:=b.xs++[],DZ:=b.DZ&&List.isEmpty ([]:List V) }=H:=by
           apply gQ
           rw [m.hb]
           cases b
           simp
          simp_all
        ·have hown:=m.own
         rw [hLe,c2] at hown
         rw [hxl] at hown
         obtain⟨v',w',hrun,hown',hgr,hne,hnew,hkeep⟩:=Vx (P:=P) w B u ty e infe zv ei.size hd' hie hzv hsz hzs L.v len (flat vs) hown a' ys.length c' (flat us) hnews hcell src.ones hm l2
          (by rw [<- e3];exact l1) h.size
         obtain⟨h1,h2⟩:=h.upd m.hb m.live m.box hgr { b with xs:=b.xs++ys,DZ:=b.DZ&&ys.isEmpty } m.live ⟨v',len+ys.length,L.AZ⟩ rfl (.inr (by simp only [m.tot,hxl];omega)) rfl (by simp)
          hnew (fun g c0 hg hc0=>hkeep g c0 hg (by
           rw [<- hLe,<- hxl]
           exact Nat.lt_of_lt_of_le hc0 (Nat.mul_le_mul_right _ (h.low id b m.hb m.live)))) (fun ex=>by
           refine⟨by simp [hxl],⟨vs++us,(m.CU.ext ex).append (src.CU.ext ex),?_,?_,?_⟩,?_,m.AZ,?_,fun hrow=>?_⟩
           ·intro y hy
            rcases List.mem_append.1 hy with hy|hy
            ·exact m.sizes y hy
            ·rw [src.sizes y hy,hLe]
           ·intro y hy
            rw [LQ] at hy
            rcases List.mem_append.1 hy with hy|hy
            ·exact m.ones y hy
            ·exact src.ones y hy
           ·rw [LQ]
            simp_all
           ·grind
           ·intro y hy
            rcases List.mem_append.1 hy with hy|hy
            ·exact m.oks y hy
            ·exact YD (src.oks y hy)
           ·intro y hy
            rcases List.mem_append.1 hy with hy|hy
            ·exact m.F7 hrow y hy
            ·exact OE (src.oks y hy))
         obtain⟨g,cap,hv'⟩:=ownBlock_ne hown' hne
         refine⟨v',w',_,by simp_all,h1,h2,.Az (L:=⟨v',len+ys.length,L.AZ⟩) (by simp [Sg.put]) (Nat.le_refl _) (fun _=>⟨by omega,_,_,_,0,hv',?_,Nat.zero_le _,Nat.le_refl _,fun _=>rfl⟩) ⟨_,_,_,hv'⟩ .nil⟩
         rw [hv']
         simp [Addr.add]
       ·cases ha
      ·split at ha
       ·rename_i hc
        simp only [Bool.and_eq_true,beq_iff_eq,decide_eq_true_eq] at hc
        obtain⟨⟨⟨⟨⟨⟨c1,c2⟩,c3⟩,c4⟩,c6⟩,c7⟩,c8⟩:=hc
        subst c3
        simp only [Option.some.injEq,Prod.mk.injEq] at ha
        obtain⟨rfl,rfl⟩:=ha
        exact Z98 h ty hd' hie hs hb c1 c2 (by rw [c4,hsz]) c6 c7 c8 src.CU src.oks (fun y hy=>by rw [src.sizes y hy,hsz]) src.ones hsrc
       ·cases ha
     ·cases ha
    ·
     split at ha
     ·rename_i hlim
      simp only [Bool.and_eq_true,decide_eq_true_eq] at hlim
      obtain⟨l1,l2⟩:=hlim
      simp only [Option.some.injEq,Prod.mk.injEq] at ha
      obtain⟨rfl,rfl⟩:=ha
      have hsv:sv = .slice none 0 0:=by cases hs<;>rfl
      subst hsv
      rcases hsrc with ⟨hy,hu,hxv⟩|⟨hm,a',c',hxv,hcell⟩
      ·subst hy
       subst hu
       obtain⟨σ',h1,h2,h3⟩:=KQ (e:=e) (AZ:=ei.size) h hk0 (grownBy_refl w none) (xs:=[]) (us:=[]) .nil (by simp) (by simp) (by simp [flat]) (Qw w B e ei.size) (by simp [Value.ownBlock]) false (by simp)
       exact⟨_,w,σ',TJ w u ty e infe hd' hie none 0 0 (Nat.le_refl _) xv hxv,h1,h2,h3⟩
      ·obtain⟨v',w',hrun,hown',hgr,hne,hnew,hkeep⟩:=Vx (P:=P) w B u ty e infe zv ei.size hd' hie hzv hsz hzs (.slice none 0 0) 0 [] (Qw w B e ei.size) a' ys.length c' (flat us) hnews hcell src.ones hm (by simpa using l2)
        (by rw [<- e3];simpa [lim] using l1) h.size
       simp only [Nat.zero_add,List.nil_append] at hown'
       obtain⟨σ',h1,h2,h3⟩:=KQ (e:=e) (AZ:=ei.size) h hk0 hgr src.CU src.oks src.sizes src.ones hown' (fun g hg=>by
        rcases hnew g hg with hh|hh
        ·simp [Value.ownBlock] at hh
        ·exact hh) false (by simp)
       grind
     ·cases ha
    ·
     split at ha
     ·rename_i hlim
      simp only [Bool.and_eq_true,decide_eq_true_eq] at hlim
      obtain⟨l1,l2⟩:=hlim
      simp only [Option.some.injEq,Prod.mk.injEq] at ha
      obtain⟨rfl,rfl⟩:=ha
      have hsv:sv = .slice none 0 0:=by cases hs<;>rfl
      subst hsv
      rcases hsrc with ⟨hy,hu,hxv⟩|⟨hm,a',c',hxv,hcell⟩
      ·subst hy
       subst hu
       obtain⟨σ',h1,h2,h3⟩:=KQ (e:=e) (AZ:=ei.size) h hk0 (grownBy_refl w none) (xs:=[]) (us:=[]) .nil (by simp) (by simp) (by simp [flat]) (Qw w B e ei.size) (by simp [Value.ownBlock]) false (by simp)
       exact⟨_,w,σ',TJ w u ty e infe hd' hie none 0 0 (Nat.le_refl _) xv hxv,h1,h2,h3⟩
      ·obtain⟨v',w',hrun,hown',hgr,hne,hnew,hkeep⟩:=Vx (P:=P) w B u ty e infe zv ei.size hd' hie hzv hsz hzs (.slice none 0 0) 0 [] (Qw w B e ei.size) a' ys.length c' (flat us) hnews hcell src.ones hm (by simpa using l2)
        (by rw [<- e3];simpa [lim] using l1) h.size
       simp only [Nat.zero_add,List.nil_append] at hown'
       obtain⟨σ',h1,h2,h3⟩:=KQ (e:=e) (AZ:=ei.size) h hk0 hgr src.CU src.oks src.sizes src.ones hown' (fun g hg=>by
        rcases hnew g hg with hh|hh
        ·simp [Value.ownBlock] at hh
        ·exact hh) false (by simp)
       grind
     ·cases ha
    ·
     rename_i es xs
     split at ha
     ·rename_i hlim
      simp only [Bool.and_eq_true,decide_eq_true_eq,beq_iff_eq] at hlim
      obtain⟨⟨l0,l1⟩,l2⟩:=hlim
      by_cases l3:ys.isEmpty=true
      ·rw [if_pos l3] at ha
       simp only [Option.some.injEq,Prod.mk.injEq] at ha
       obtain⟨rfl,rfl⟩:=ha
       have hxz:xv = .slice none 0 0\/∃b k,xv = .slice (some b) 0 k:=by
        rcases hsrc with ⟨hy,hu,hxv⟩|⟨hm,a',c',hxv,hcell⟩
        ·exact hxv
        ·cases ys with
         | nil=>simp at hm
         | cons y ys=>simp at l3
       have hsv:∃a n,sv = .slice a n n:=by
        cases hs with
        | Eg _=>exact⟨_,_,rfl⟩
        | Es a _=>exact⟨_,_,rfl⟩
        | BR b o _ k0 k1 k2 k3 k4 k5 _=>exact⟨_,_,rfl⟩
       obtain⟨sa,sn,rfl⟩:=hsv
       exact⟨_,w,σ,TJ w u ty e infe hd' hie sa sn sn (Nat.le_refl _) xv hxz,h,Ext.refl σ w,hs⟩
      rw [if_neg l3] at ha
      simp only [Option.some.injEq,Prod.mk.injEq] at ha
      obtain⟨rfl,rfl⟩:=ha
      cases hs with
      | Eg _=>
       rcases hsrc with ⟨hy,hu,hxv⟩|⟨hm,a',c',hxv,hcell⟩
       ·subst hy;simp at l3
       ·obtain⟨v',w',hrun,hown',hgr,hne,hnew,hkeep⟩:=Vx (P:=P) w B u ty e infe zv ei.size hd' hie hzv hsz hzs (.slice none 0 0) 0 [] (Qw w B e ei.size) a' ys.length c' (flat us) hnews hcell src.ones hm (by simpa using l2)
         (by rw [<- e3];simpa [lim] using l1) h.size
        simp only [Nat.zero_add,List.nil_append] at hown'
        obtain⟨σ',h1,h2,h3⟩:=KQ (e:=e) (AZ:=ei.size) h hk0 hgr src.CU src.oks src.sizes src.ones hown' (fun g hg=>by
         rcases hnew g hg with hh|hh
         ·simp [Value.ownBlock] at hh
         ·exact hh) false (by simp [hne])
        grind
      | Es sa _=>
       rcases hsrc with ⟨hy,hu,hxv⟩|⟨hm,a',c',hxv,hcell⟩
       ·subst hy;simp at l3
       ·have hold:(flat []).length=0*infe.size:=by simp [flat]
        have l2' : ys.length<=maxLen:=by simpa using l2
        have hsmall:ys.length<=9223372036854775807:=by simpa [maxLen] using l2'
        have hrun:=run_append_grow (P:=P) w u ty e infe zv hd' hie hzv sa 0 0 (flat []) hold (fun j u hj=>by simp [flat] at hj) a' ys.length c' (flat us) (by rw [hnews,hsz]) hcell (by omega) (by omega)
         (growslice_fits (by omega) (by rw [<- e3];simpa [lim] using l1))
        simp only [Nat.zero_add] at hrun
        have hge:=grownCap_ge w ys.length 0 e
        have hcm:grownCap w ys.length 0 e<=maxLen:=grownCap_le_maxLen w _ _ e l2'
        have hown:(w.drew.alloc (.cells ((flat []).toArray++(flat us).toArray++Builtin.zeroCells zv.cells (grownCap w ys.length 0 e - ys.length)) e)).ownsRow B e ei.size
          (.slice (some ⟨w.heap.size,0,none⟩) ys.length (grownCap w ys.length 0 e)) ys.length (flat us):=by
         have hl:(flat us).length=ys.length*ei.size:=by rw [hnews]
         refine⟨hl,.inr ⟨w.heap.size,_,_,rfl,h.size,heap_alloc_new w.drew _,hge,hcm,?_,?_⟩⟩
         ·simp only [Array.size_append,List.size_toArray,size_zeroCells,hzs,hnews]
          simp only [flat,List.flatMap_nil,List.length_nil,Nat.zero_add]
          rw [<- Nat.add_mul]
          simp_all
         ·simp_all
        have hgr2:w.grownBy (w.drew.alloc (.cells ((flat []).toArray++(flat us).toArray++Builtin.zeroCells zv.cells (grownCap w ys.length 0 e - ys.length)) e)) none:=
         ⟨rfl,rfl,rfl,by simp,fun k hk _=>heap_alloc_old w.drew _ hk⟩
        obtain⟨σ',h1,h2,h3⟩:=KQ (e:=e) (AZ:=ei.size) h hk0 hgr2 src.CU src.oks src.sizes src.ones (.of hown) (by simp [Value.ownBlock]) false (by simp)
        grind
      | BR b o e' k0 k1 k2 k3 k4 k5 k6=>
       rename_i vs
       rcases hsrc with ⟨hy,hu,hxv⟩|⟨hm,a',c',hxv,hcell⟩
       ·subst hy;simp at l3
       ·have hold:(flat vs).length=xs.length*infe.size:=by rw [flat_length k2,<- k0.length,hsz,l0]
        have hsmall:xs.length+ys.length<=9223372036854775807:=by simp only [maxLen] at l2;omega
        have hrun:=run_append_grow (P:=P) w u ty e infe zv hd' hie hzv ⟨b,o,none⟩ xs.length xs.length (flat vs) hold (fun j u hj=>by rw [Addr.add_mid];exact(k5 j u hj).2) a' ys.length c' (flat us) (by rw [hnews,hsz]) hcell (by omega) (by omega)
         (growslice_fits (by omega) (by rw [<- e3];simpa [lim] using l1))
        have hge:=grownCap_ge w (xs.length+ys.length) xs.length e
        have hcm:grownCap w (xs.length+ys.length) xs.length e<=maxLen:=grownCap_le_maxLen w _ _ e l2
        have hown:(w.drew.alloc (.cells ((flat vs).toArray++(flat us).toArray++Builtin.zeroCells zv.cells (grownCap w (xs.length+ys.length) xs.length e - (xs.length+ys.length))) e)).ownsRow B e ei.size
          (.slice (some ⟨w.heap.size,0,none⟩) (xs.length+ys.length) (grownCap w (xs.length+ys.length) xs.length e)) (xs++ys).length (flat (vs++us)):=by
         have hl:(flat (vs++us)).length=(xs.length+ys.length)*ei.size:=by rw [LQ,List.length_append,hold,hnews,hsz,Nat.add_mul]
         rw [List.length_append]
         refine⟨hl,.inr ⟨w.heap.size,_,_,rfl,h.size,heap_alloc_new w.drew _,hge,hcm,?_,?_⟩⟩
         ·simp only [Array.size_append,List.size_toArray,size_zeroCells,hzs,hold,hnews,hsz,<- Nat.add_mul]
          simp_all
         ·simp only [Array.toList_append,List.append_assoc]
          rw [<- List.append_assoc,<- LQ,<- hl]
          exact List.take_left
        have hgr2:w.grownBy (w.drew.alloc (.cells ((flat vs).toArray++(flat us).toArray++Builtin.zeroCells zv.cells (grownCap w (xs.length+ys.length) xs.length e - (xs.length+ys.length))) e)) none:=
         ⟨rfl,rfl,rfl,by simp,fun k hk _=>heap_alloc_old w.drew _ hk⟩
        obtain⟨σ',h1,h2,h3⟩:=KQ (e:=e) (AZ:=ei.size) h hk0 hgr2 (k0.append src.CU)
         (fun y hy=>by rcases List.mem_append.1 hy with hy|hy;exact k1 y hy;exact src.oks y hy)
         (fun y hy=>by rcases List.mem_append.1 hy with hy|hy;exact(k2 y hy).trans l0;exact src.sizes y hy)
         (fun y hy=>by rw [LQ] at hy;rcases List.mem_append.1 hy with hy|hy;exact k3 y hy;exact src.ones y hy) (.of hown) (by simp [Value.ownBlock]) false (by simp)
        grind
     ·cases ha
    ·cases ha
   ·cases ha
  ·cases ha
 ·cases ha
theorem Z0K {P:Program} (w:World) (t u ty e:TypeId) (i:TypeInfo) (ht:P.underlying t=some (.slice e)) (hi:P.info? e=some i) (a:Option Addr) (dl dc:Nat) (s:Option Addr) (sl sc:Nat) (cs:List Value) (w' : World)
  (hcs:cs.length=Nat.min sl dl*i.size) (hs:s=none->cs=[]) (hsrc:∀b,s=some b->∀j v,cs[j]? = some v->w.cell? (b.add j)=some v)
  (hst:∀a',a=some a' -> (storeCells a' cs).run P w = .ok () w') (hn:a=none->w' = w) :
  (Builtin.copy_ #[t,u] ty #[.slice a dl dc,.slice s sl sc]).run P w = .ok (goInt (Nat.min sl dl:Nat)) w' :=by
 have hf:(Builtin.firstCells i.size (Nat.min sl dl) (.slice s sl sc)).run P w = .ok cs.toArray w:=by
  cases s with
  | none=>rw [hs rfl];rfl
  | some b=>
   have:=run_loadCells_list (P:=P) w b cs (hsrc b rfl)
   rw [hcs] at this
   exact this
 cases a with
 | none=>
  rw [hn rfl]
  simp [Builtin.copy_,run_underlying ht,Builtin.lenOf,sizeOf,typeInfo,hi,hf]
 | some a' =>simp [Builtin.copy_,run_underlying ht,Builtin.lenOf,sizeOf,typeInfo,hi,hf,hst a' rfl]
theorem Zh5 {E B w0 σ H w} {P:Program} (hE:BP E) (hP:E.P=P) (h:Inv B w0 σ H w) {t u:TypeId} (ty:TypeId) {d x r:V} {dv xv:Value} {H' : Heap}
  (hd:AL σ w [d] [dv]) (hx:AL σ w [x] [xv]) (hc:Uy E H t u d x=some (r,H')) :
  ∃v' w' σ',(Builtin.copy_ #[t,u] ty #[dv,xv]).run P w = .ok v' w' /\ Inv B w0 σ' H' w' /\ Ext σ w σ' w' /\ AL σ' w' [r] [v']:=by
 unfold Uy at hc
 split at hc
 ·rename_i e sz by' z0 hti
  split at hc
  ·rename_i ei ys id off len tot hei hys
   obtain⟨inf,dd,hi,hdd,q1,q2,q3,q4⟩:=Dz (hE.ti _ _ hti)
   have hd' : P.underlying t=some (.slice e):=by rw [hP] at hdd;rw [hdd,LV q1]
   obtain⟨infe,de,hie,hde,e1,e2,e3,e4⟩:=Dz (hE.ti _ _ hei)
   rw [hP] at hie
   split at hc
   ·rename_i b hb
    split at hc
    ·rename_i hcond
     simp only [Bool.and_eq_true,beq_iff_eq,decide_eq_true_eq] at hcond
     obtain⟨⟨⟨⟨⟨c1,c2⟩,c3⟩,c4⟩,c5⟩,c6⟩:=hcond
     subst c2
     subst c3
     simp only [Option.some.injEq,Prod.mk.injEq] at hc
     obtain⟨rfl,rfl⟩:=hc
     obtain⟨us,src⟩:=src_ok h hx hys c5
     obtain⟨L,vs,m,hxl,hol,hsub,hview⟩:=L6 h hd hb
     have hLe:L.AZ=ei.size:=by rw [<- m.AZ];exact c4
     have hsz:infe.size=ei.size:=e2.symm
     have hlus:us.length=ys.length:=src.CU.length.symm
     have hnum:∀n:Nat,n<=maxLen->∀(σ' : Sg) (w' : World),AL σ' w' [.lit (.int .i64 (n:Nat))] [goInt n]:=fun n hn σ' w' =>by
      refine .lit ?_ .nil
      have:(Lit.int .i64 (n:Int)).wf=true:=by
       simp [Lit.wf,IntKind.min,IntKind.max,IntKind.signed,IntKind.bits,maxLen] at hn ⊢
       omega
      exact this
     obtain⟨sa,sc,hxv,hsn,hcell⟩:∃(sa:Option Addr) (sc:Nat),xv = .slice sa ys.length sc/\(sa=none->us=[])/\∀b',sa=some b' -> ∀j v,(flat us)[j]? = some v->w.cell? (b'.add j)=some v:=by
      rcases src.val with ⟨hv,hy,hu⟩|⟨b',o,c,hv,hc',hcell⟩
      ·rcases hv with hv|⟨a,k,hv⟩
       ·exact⟨none,0,by rw [hy];exact hv,fun _=>hu,fun b' hb' =>by cases hb'⟩
       ·exact⟨some a,k,by rw [hy];exact hv,fun _=>hu,fun b' _ j v hj=>by rw [hu] at hj;simp [flat] at hj⟩
      ·exact⟨some ⟨b',o,none⟩,c,hv,(fun hh=>by cases hh),(fun b2 hb2 j v hj=>by cases hb2;rw [Addr.add_mid];exact hcell j v hj)⟩
     have hsrc' : ∀b',sa=some b' -> ∀j v,(flat (us.take len))[j]? = some v->w.cell? (b'.add j)=some v:=fun b' hb' j v hj=>by
      rw [Tz src.sizes] at hj
      refine hcell b' hb' j v ?_
      rw [List.getElem?_take] at hj
      split at hj
      ·exact hj
      ·cases hj
     have hmin:Nat.min ys.length len=min ys.length len:=rfl
     have hcsl:(flat (us.take len)).length=Nat.min ys.length len*infe.size:=by
      rw [flat_length (Tq src.sizes len),List.length_take,hlus,hsz,hmin,Nat.min_comm]
     have hsn' : sa=none->flat (us.take len)=[]:=fun hh=>by rw [hsn hh];simp [flat]
     rw [hxv]
     rcases hview with ⟨hv,hvv,ho,hl,ht⟩|⟨g,cap,k,hv,hvv,hle,hmx,hk1,hk2⟩
     ·subst hl
      refine⟨_,w,σ,?_,?_,Ext.refl σ w,hnum _ (by simp) σ w⟩
      ·rw [hvv]
       have:=Z0K (P:=P) w t u ty e infe hd' hie none 0 0 sa ys.length sc (flat (us.take 0)) w hcsl hsn' hsrc' (fun a' ha' =>by cases ha') (fun _=>rfl)
       simpa [hmin] using this
      ·have hxs:b.xs=[]:=List.eq_nil_of_length_eq_zero hxl
       have:H.set id { b with xs:=ys.take 0++b.xs.drop ys.length }=H:=by
        apply gQ
        rw [m.hb]
        cases b
        simp only at hxs
        simp [hxs]
       rw [this]
       exact h
     ·have hk0:k=0:=by omega
      subst hk0
      rcases m.shape with ⟨hn,_,_⟩|⟨g',cap',cur,tg,hv',hB,hh,htg,hn,hm,hcs,ht⟩
      ·rw [hn] at hv;cases hv
      ·rw [hv'] at hv
       simp only [Value.slice.injEq,Option.some.injEq,Addr.mk.injEq,and_true] at hv
       obtain⟨hgg,_,hcc⟩:=hv
       have hgg:=hgg.symm
       subst hgg
       have hcc:=hcc.symm
       subst hcc
       have hfit:0+0+(flat (us.take len)).length<=cur.size:=by
        rw [hcsl,hcs,hsz,hLe,hmin]
        have:min ys.length len<=cap:=by omega
        simpa using Nat.mul_le_mul_right ei.size this
       have hones:∀v∈flat (us.take len),v.oneCell' = true:=XX src.ones len
       have hrun:=Vp P g 0 b.elem tg (flat (us.take len)) 0 cur w hh htg hfit hones
       simp only [Nat.add_zero,Nat.zero_add,List.take_zero,List.nil_append] at hrun
       have hnew:flat (us.take len++vs.drop ys.length)=flat (us.take len)++(flat vs).drop (ys.length*L.AZ):=by
        rw [LQ,lW m.sizes]
       have hlv:vs.length=len:=by rw [m.len,hxl]
       have hcurE:cur.toList=flat vs++cur.toList.drop (len*L.AZ):=by
        rw [<- ht,hxl,List.take_append_drop]
       have hFl:(flat vs).length=len*L.AZ:=by rw [flat_length m.sizes,hlv]
       have hTl:(flat (us.take len)).length=min ys.length len*L.AZ:=by rw [hcsl,hsz,hLe]
       have hrest:cur.toList.drop (flat (us.take len)).length=(flat vs).drop (ys.length*L.AZ)++cur.toList.drop (len*L.AZ):=by
        rw [hTl]
        by_cases hyl:ys.length<=len
        ·rw [Nat.min_eq_left hyl]
         conv=>lhs;rw [hcurE]
         rw [List.drop_append_of_le_length (by rw [hFl];exact Nat.mul_le_mul_right _ hyl)]
        ·have hyl' : len<=ys.length:=by omega
         rw [Nat.min_eq_right hyl',List.drop_eq_nil_of_le (as:=flat vs) (by rw [hFl];exact Nat.mul_le_mul_right _ hyl'),List.nil_append]
       rw [hrest,<- List.append_assoc,<- hnew] at hrun
       have hsizes' : ∀u∈us.take len++vs.drop ys.length,u.cells.size=L.AZ:=by
        intro u hu
        rcases List.mem_append.1 hu with hu|hu
        ·rw [Tq src.sizes len u hu,hLe]
        ·exact m.sizes u (List.mem_of_mem_drop hu)
       have hlenN:(us.take len++vs.drop ys.length).length=len:=by
        simp only [List.length_append,List.length_take,List.length_drop,hlus,hlv]
        omega
       have hlenX:(ys.take len++b.xs.drop ys.length).length=len:=by
        simp only [List.length_append,List.length_take,List.length_drop,hxl]
        omega
       have hlen' : (flat (us.take len++vs.drop ys.length)).length=len*L.AZ:=by
        rw [flat_length hsizes',hlenN]
       have hheap:=setRow_heap w g cur (flat (us.take len++vs.drop ys.length)++cur.toList.drop (len*L.AZ)).toArray b.elem tg hh
       have hown:L.v.ownBlock=some g:=by rw [hv'];rfl
       have hgb:w.grownBy (w.setRow g (flat (us.take len++vs.drop ys.length)++cur.toList.drop (len*L.AZ)).toArray) L.v.ownBlock:=
        ⟨rfl,rfl,rfl,by simp,fun k _ hk=>setRow_other w g k _ (fun e=>hk (by rw [hown,e]))⟩
       obtain⟨h1,h2⟩:=h.upd m.hb m.live m.box hgb { b with xs:=ys.take len++b.xs.drop ys.length } m.live L rfl (.inl rfl) rfl (by grind) (fun g' hg' =>.inl hg')
        (fun g' c' _ hc' =>by grind) (fun ex=>by
         refine⟨by simp only [hlenX];rw [m.tot,hxl],⟨us.take len++vs.drop ys.length,((src.CU.ext ex).take len).append ((m.CU.ext ex).drop ys.length),hsizes',?_,?_⟩,m.DZ,m.AZ,?_,fun hrow=>?_⟩
         ·intro v hv2
          rw [hnew] at hv2
          rcases List.mem_append.1 hv2 with hv2|hv2
          ·exact hones v hv2
          ·exact m.ones v (List.mem_of_mem_drop hv2)
         ·simp only [hlenX]
          refine⟨hlen',.inr ⟨g,cap,_,tg,by rw [hv',hxl],hB,hheap,?_,by omega,hm,?_,?_⟩⟩
          ·grind
          ·grind
          grind
         ·intro y hy
          rcases List.mem_append.1 hy with hy|hy
          ·exact YD (src.oks y (List.mem_of_mem_take hy))
          ·exact m.oks y (List.mem_of_mem_drop hy)
         ·intro y hy
          rcases List.mem_append.1 hy with hy|hy
          ·exact OE (src.oks y (List.mem_of_mem_take hy))
          ·exact m.F7 hrow y (List.mem_of_mem_drop hy))
       refine⟨_,_,_,?_,h1,h2,hnum _ (by grind) _ _⟩
       rw [hvv]
       have:=Z0K (P:=P) w t u ty e infe hd' hie (some ⟨g,0*L.AZ,none⟩) len (cap - 0) sa ys.length sc (flat (us.take len)) _ hcsl hsn' hsrc' (fun a' ha' =>by cases ha';simpa using hrun) (fun hh=>by cases hh)
       simpa [hmin] using this
    ·cases hc
   ·cases hc
  ·cases hc
 ·cases hc
end Go.Proofs.YtlabamnhpgoekaaGreatDoor.Le
namespace Go.Proofs.YtlabamnhpgoekaaGreatDoor.Le
open Go.RowKit (Below)
theorem Z8S {zv:Value} {s:Nat} (hs:0<s) (hz:zv.cells.size=s) (n:Nat):∀k,(flat (List.replicate n zv))[k]? = if k<n*s then zv.cells[k % s]? else none:=by
 intro k
 have:=Go.Great.flat_get hs (List.replicate n zv) (fun v hv=>by simp_all) k
 have h2:(List.flatMap (fun v:Value=>v.cells.toList) (List.replicate n zv))[k]? = (flat (List.replicate n zv))[k]?:=rfl
 rw [<- h2,this,List.getElem?_replicate]
 by_cases h:k<n*s
 ·have:k / s<n:=(Nat.div_lt_iff_lt_mul hs).2 h
  rw [if_pos this,if_pos h]
  rfl
 ·have:¬k / s<n:=fun hh=>h ((Nat.div_lt_iff_lt_mul hs).1 hh)
  grind
theorem zS {zv:Value} {s:Nat} (hs:0<s) (hz:zv.cells.size=s) (n:Nat):(madeCells zv.cells (n*s)).toList=flat (List.replicate n zv):=by
 apply List.ext_getElem?
 intro k
 rw [Z8S hs hz]
 by_cases h:k<n*s
 ·rw [if_pos h]
  have hm:k % s<zv.cells.size:=by rw [hz];exact Nat.mod_lt _ hs
  simp [madeCells,h,hz]
  simp_all
 ·rw [if_neg h]
  simp [madeCells,h]
theorem X8 {E:Env} {P:Program} (hE:BP E) (hP:E.P=P) {e:TypeId} {ei:TI} (hei:E.ti e=some ei) {z:V} (hz:ei.zero=some z) (σ:Sg) (w:World) :
  ∃infe zv,P.info? e=some infe/\infe.zero=some zv/\infe.size=ei.size/\infe.bytes=ei.bytes/\AL σ w [z] [zv]:=by
 obtain⟨infe,de,hie,hde,e1,e2,e3,e4⟩:=Dz (hE.ti _ _ hei)
 rw [hP] at hie
 rw [hz] at e4
 cases hzz:infe.zero with
 | none=>simp [hzz] at e4
 | some zv=>
  simp only [hzz,Option.map_some,Option.some.injEq] at e4
  exact⟨infe,zv,hie,hzz,e2.symm,e3.symm,by rw [e4];exact TU σ w zv⟩
theorem Z06 (v:Value):BQ (Lm v)=true:=by
 unfold Lm
 split
 ·rfl
 ·split<;>rfl
theorem Z9f (v:Value):BQ (NI v)=true:=by
 unfold NI
 split
 ·split
  ·rename_i cs _
   rw [show BQ (.agg (cs.toList.map Lm))=BJ (cs.toList.map Lm) from rfl,JA]
   intro x hx
   obtain⟨c,_,rfl⟩:=List.mem_map.1 hx
   exact Z06 c
  ·rfl
 ·split<;>rfl
 ·split
  ·exact Z06 _
  ·rfl
theorem Z0W {E:Env} (hE:BP E) {e:TypeId} {ei:TI} (hei:E.ti e=some ei) {z:V} (hz:ei.zero=some z):BQ z=true:=by
 obtain⟨infe,de,hie,hde,e1,e2,e3,e4⟩:=Dz (hE.ti _ _ hei)
 rw [hz] at e4
 cases hzz:infe.zero with
 | none=>simp [hzz] at e4
 | some zv=>
  simp only [hzz,Option.map_some,Option.some.injEq] at e4
  rw [e4]
  exact Z9f zv
theorem ZhD {E B w0 σ H w} {P:Program} (hE:BP E) (hP:E.P=P) (h:Inv B w0 σ H w) {k:Nat} (hk0:EL H k=true) {t e:TypeId} {ei:TI} {z:V} {kl kc:IntKind} {n m:Int}
  (ht:P.underlying t=some (.slice e)) (hei:E.ti e=some ei) (hz:ei.zero=some z)
  (h0:0<=n) (hnm:n<=m) (hby:m.toNat*ei.bytes<=lim) (hmx:m<=maxLen) (hpos:0<ei.size) (hzl:z.cells.length=ei.size) (hzo:okV z=true) (es:List Nat) :
  ∃v' w' σ',(Instr.makeSlice t (.int kl n) (.int kc m)).run P w = .ok v' w' /\ Inv B w0 σ' (place H k (BH true false e ei.size (List.replicate n.toNat (DJ es z)))) w' /\ Ext σ w σ' w' /\
   AL σ' w' [.Az k 0 n.toNat n.toNat] [v']:=by
 obtain⟨infe,zv,hie,hzv,hsz,hbz,hzr⟩:=X8 hE hP hei hz σ w
 have hzs:zv.cells.size=ei.size:=by rw [<- hzr.OG hzo];exact hzl
 have hmm:m<=9223372036854775807:=by
  have:(maxLen:Int)=9223372036854775807:=by simp [maxLen]
  omega
 have hbb:(infe.bytes:Int)*m<=281474976710656:=by
  have h1:((m.toNat*ei.bytes:Nat):Int)<=140737488355328:=by
   have:m.toNat*ei.bytes<=140737488355328:=by simpa [lim] using hby
   omega
  rw [Int.natCast_mul,Int.toNat_of_nonneg (by omega),Int.mul_comm] at h1
  rw [hbz]
  omega
 have hrun:=run_make (P:=P) w t e infe zv ht hie hzv kl kc n m h0 hnm hbb hmm
 rw [hsz] at hrun
 have hnn:n.toNat<=m.toNat:=by omega
 have hrep:=AL.replicate n.toNat (Ol es hzr)
 have hsizes:∀u∈List.replicate n.toNat zv,u.cells.size=ei.size:=fun u hu=>by simp_all
 have hones:∀u∈flat (List.replicate n.toNat zv),u.oneCell' = true:=by
  intro u hu
  simp only [flat,List.mem_flatMap] at hu
  obtain⟨a,ha,hb⟩:=hu
  rw [(List.mem_replicate.1 ha).2] at hb
  exact(hzr.cells hzo).2 u hb
 have hlen:(List.replicate n.toNat (DJ es z)).length=n.toNat:=by simp
 have hmd:=zS hpos hzs m.toNat
 have hown:(w.alloc (.cells (madeCells zv.cells (m.toNat*ei.size)) e)).ownsRow B e ei.size (.slice (some ⟨w.heap.size,0,none⟩) n.toNat m.toNat) (List.replicate n.toNat (DJ es z)).length (flat (List.replicate n.toNat zv)):=by
  rw [hlen]
  refine⟨by rw [flat_length hsizes];simp,.inr ⟨w.heap.size,m.toNat,_,rfl,h.size,heap_alloc_new w _,hnn,by omega,size_madeCells _ _,?_⟩⟩
  rw [hmd]
  have:List.replicate n.toNat zv=(List.replicate m.toNat zv).take n.toNat:=by rw [List.take_replicate,Nat.min_eq_left hnn]
  rw [this,Tz (e:=ei.size) (fun u hu=>by rw [(List.mem_replicate.1 hu).2];exact hzs)]
 obtain⟨σ',h1,h2,h3⟩:=KQ (e:=e) (AZ:=ei.size) h hk0 (w.grownBy_alloc _ none) hrep (fun x hx=>by rw [(List.mem_replicate.1 hx).2];simp [Dp,XW,Oi,hzo,Z0W hE hei hz]) hsizes hones (.of hown) (by simp [Value.ownBlock]) false (by simp)
 grind
theorem Z24 (v:Value) (off:Nat) (cs:Array Value) (h:off+v.cells.size<=cs.size) :
  (v.cells.zipIdx.foldl (fun cs (x:Value×Nat)=>cs.setIfInBounds (off+x.2) x.1) cs).toList=cs.toList.take off++v.cells.toList++cs.toList.drop (off+v.cells.size):=by
 obtain⟨h1,h2⟩:=Go.Great.foldl_set off v.cells.toList 0 cs
 have he:v.cells.zipIdx.foldl (fun cs (x:Value×Nat)=>cs.setIfInBounds (off+x.2) x.1) cs=(v.cells.toList.zipIdx 0).foldl (fun cs (x:Value×Nat)=>cs.setIfInBounds (off+x.2) x.1) cs:=by
  rw [<- Array.foldl_toList]
  simp
 rw [he]
 apply List.ext_getElem?
 intro k
 rw [Array.getElem?_toList,h2 k]
 simp only [Nat.add_zero,Array.length_toList]
 by_cases hk1:k<off
 ·grind
 ·by_cases hk2:k<off+v.cells.size
  ·grind
  ·rw [if_neg (by omega),List.append_assoc,List.getElem?_append_right (by simp;omega),List.getElem?_append_right (by simp;omega),List.getElem?_drop,Array.getElem?_toList]
   congr 1
   simp
   omega
inductive Parts (σ:Sg) (w:World):List (Nat×V)->List (Nat×Value)->Prop where
 | nil:Parts σ w [] []
 | cons {i x v xs vs}:AL σ w [x] [v]->Parts σ w xs vs->Parts σ w ((i,x)::xs) ((i,v)::vs)
theorem Z1U {σ w} {place:Nat->Option (Nat×Nat)}:∀{parts:List (Nat×V)} {vparts:List (Nat×Value)} {cs cs' : List V} {ws:List Value},Parts σ w parts vparts->AL σ w cs ws->(∀u∈ws,u.oneCell' = true) ->
  MF cs parts place=some cs' -> ∃ws',Instr.fill place ws.toArray vparts=some ws'.toArray/\AL σ w cs' ws' /\ (∀u∈ws',u.oneCell' = true):=by
 intro parts
 induction parts with
 | nil=>
  intro vparts cs cs' ws hp hr ho hf
  cases hp
  simp only [MF,Option.some.injEq] at hf
  subst hf
  exact⟨ws,rfl,hr,ho⟩
 | cons p parts ih=>
  intro vparts cs cs' ws hp hr ho hf
  cases hp with
  | cons hx hp=>
   rename_i i x v vs
   simp only [MF] at hf
   split at hf
   ·cases hf
   ·rename_i off size hpl
    split at hf
    ·rename_i hc
     simp only [Bool.and_eq_true,beq_iff_eq,decide_eq_true_eq] at hc
     obtain⟨⟨c1,c2⟩,c3⟩:=hc
     obtain⟨hcr,hco⟩:=hx.cells c3
     have hvs:v.cells.size=size:=by rw [<- hx.OG c3];exact c1
     have hlen:=hr.length
     have hstep:=Z24 v off ws.toArray (by simp;omega)
     have hr' : AL σ w (cs.take off++x.cells++cs.drop (off+size)) (ws.take off++v.cells.toList++ws.drop (off+size)):=((hr.take off).append hcr).append (hr.drop _)
     obtain⟨ws',f1,f2,f3⟩:=ih hp hr' (by
      grind) hf
     refine⟨ws',?_,f2,f3⟩
     simp only [Instr.fill,hpl,hvs]
     have hcond:(decide (size≠size)||decide (off+size>ws.toArray.size))=false:=by simp;omega
     simp only [ne_eq,not_true_eq_false,decide_false,Bool.false_or,List.size_toArray,gt_iff_lt,decide_eq_true_eq]
     rw [if_neg (by omega)]
     rw [<- f1]
     congr 1
     grind
    ·cases hf
end Go.Proofs.YtlabamnhpgoekaaGreatDoor.Le
namespace Go.Proofs.YtlabamnhpgoekaaGreatDoor.Le
open Go.RowKit (Below)
theorem jK {d:TypeDesc} {fs:List (Nat×Nat)} (h:Ty.struct fs=JM d):∃fields,d = .struct fields/\fs=fields.toList.map fun f=>(f.offset,f.type):=by
 cases d<;>simp [JM] at h
 exact⟨_,rfl,h⟩
theorem XC {d:TypeDesc} {n e:Nat} (h:Ty.array n e=JM d):d = .array n e:=by
 cases d<;>simp [JM] at h
 rw [h.1,h.2]
theorem Z0J {E:Env} {P:Program} (hE:BP E) (hP:E.P=P):∀(fields:List Field),(∀f∈fields,(E.ti f.type).isSome=true) ->
  ∃places:List (Nat×Nat),fields.mapM (fun f=>(P.info? f.type).map fun i=>(f.offset,i.size))=some places/\places.length=fields.length /\
   ∀i:Nat,places[i]? = placesOf E (fields.map fun f=>(f.offset,f.type)) i
 | [],_=>⟨[],rfl,rfl,fun i=>by simp [placesOf]⟩
 | f::fields,h=>by
  obtain⟨places,h1,h2,h3⟩:=Z0J hE hP fields (fun g hg=>h g (by simp [hg]))
  have hf:=h f (by simp)
  cases hti:E.ti f.type with
  | none=>simp [hti] at hf
  | some ti=>
   obtain⟨inf,d,hi,hd,q1,q2,q3,q4⟩:=Dz (hE.ti _ _ hti)
   rw [hP] at hi
   refine⟨(f.offset,inf.size)::places,?_,by simp [h2],?_⟩
   ·simp_all
   ·intro i
    cases i with
    | zero=>simp [placesOf,hti,q2]
    | succ i=>simpa [placesOf] using h3 i
theorem Zfz {E:Env} {σ w} {P:Program} (hE:BP E) (hP:E.P=P) {t:TypeId} {parts:List (Nat×V)} {vparts:Array (Nat×Value)} {x:V} (hp:Parts σ w parts vparts.toList) (hb:Rh E t parts=some x) :
  ∃u,(Instr.build t vparts).run P w = .ok u w/\AL σ w [x] [u]:=by
 unfold Rh at hb
 split at hb
 ·rename_i i hti
  obtain⟨inf,d,hi,hd,q1,q2,q3,q4⟩:=Dz (hE.ti _ _ hti)
  rw [hP] at hi hd
  split at hb
  ·rename_i z hz
   split at hb
   ·rename_i hzo
    rw [hz] at q4
    cases hzz:inf.zero with
    | none=>simp [hzz] at q4
    | some zv=>
     simp only [hzz,Option.map_some,Option.some.injEq] at q4
     have hzr:AL σ w [z] [zv]:=by rw [q4];exact TU σ w zv
     obtain⟨hcr,hco⟩:=hzr.cells hzo
     split at hb
     ·rename_i fs hfs
      obtain⟨fields,hdf,hfl⟩:=jK (hfs.symm.trans q1)
      split at hb
      ·rename_i hall
       cases hf:MF z.cells parts (placesOf E fs) with
       | none=>simp [hf] at hb
       | some cs=>
        simp only [hf,Option.map_some,Option.some.injEq] at hb
        subst hb
        obtain⟨places,m1,m2,m3⟩:=Z0J hE hP fields.toList (by
         intro f hf
         have:=List.all_eq_true.1 hall (f.offset,f.type) (by rw [hfl];exact List.mem_map.2 ⟨f,hf,rfl⟩)
         exact this)
        have hpl:(fun i:Nat=>places.toArray[i]?)=placesOf E fs:=by
         funext i
         rw [hfl,<- m3 i]
         simp
        obtain⟨ws,f1,f2,f3⟩:=Z1U hp hcr hco hf
        refine⟨.agg ws.toArray,run_build w t vparts ws.toArray ?_,.agg f2 f3 .nil⟩
        simp only [Program.built,hi,hd,hdf,hzz,m1]
        simp_all
      ·cases hb
     ·rename_i n e hfs
      have hdf:=XC (hfs.symm.trans q1)
      split at hb
      ·rename_i ei hei
       obtain⟨infe,de,hie,hde,e1,e2,e3,e4⟩:=Dz (hE.ti _ _ hei)
       rw [hP] at hie
       cases hf:MF z.cells parts (fun i=>some (i*ei.size,ei.size)) with
       | none=>simp [hf] at hb
       | some cs=>
        simp only [hf,Option.map_some,Option.some.injEq] at hb
        subst hb
        obtain⟨ws,f1,f2,f3⟩:=Z1U hp hcr hco hf
        refine⟨.agg ws.toArray,run_build w t vparts ws.toArray ?_,.agg f2 f3 .nil⟩
        simp only [Program.built,hi,hd,hdf,hzz,hie,<- e2]
        simpa using f1
      ·cases hb
     ·cases hb
   ·cases hb
  ·cases hb
 ·cases hb
theorem ZcV {σ w} {sz:Nat}:∀{parts:List (Nat×V)} {vparts:List (Nat×Value)} {xs xs' : List V} {us:List Value},Parts σ w parts vparts->AL σ w xs us->(∀x∈xs,okV x=true)->(∀u∈us,u.cells.size=sz)->(∀u∈flat us,u.oneCell' = true) ->
  Jo xs sz parts=some xs' -> ∃us',Instr.fill (fun i=>some (i*sz,sz)) (flat us).toArray vparts=some (flat us').toArray/\AL σ w xs' us' /\ (∀x∈xs',okV x=true)/\(∀u∈us',u.cells.size=sz)/\(∀u∈flat us',u.oneCell' = true)/\xs'.length=xs.length:=by
 intro parts
 induction parts with
 | nil=>
  intro vparts xs xs' us hp hr hk hs ho hf
  cases hp
  simp only [Jo,Option.some.injEq] at hf
  subst hf
  exact⟨us,rfl,hr,hk,hs,ho,rfl⟩
 | cons p parts ih=>
  intro vparts xs xs' us hp hr hk hs ho hf
  cases hp with
  | cons hx hp=>
   rename_i i x v vs
   simp only [Jo] at hf
   split at hf
   ·rename_i hc
    simp only [Bool.and_eq_true,beq_iff_eq,decide_eq_true_eq] at hc
    obtain⟨⟨c1,c2⟩,c3⟩:=hc
    obtain⟨hcr,hco⟩:=hx.cells c3
    have hvs:v.cells.size=sz:=by rw [<- hx.OG c3];exact c1
    have hlen:=hr.length
    have hi:i<us.length:=by omega
    have hget:us[i]? = some us[i]:=List.getElem?_eq_getElem hi
    have hfs:=oH hs hget hvs
    have hfl:(flat us).length=us.length*sz:=flat_length hs
    have hle:i*sz+sz<=us.length*sz:=by rw [<- Nat.succ_mul];exact Nat.mul_le_mul_right _ hi
    have hstep:=Z24 v (i*sz) (flat us).toArray (by simp_all)
    obtain⟨us',f1,f2,f3,f4,f5,f6⟩:=ih hp (hr.set i hx) (by
     grind) (by
     grind) (by
     grind) hf
    refine⟨us',?_,f2,f3,f4,f5,by rw [f6];simp⟩
    simp only [Instr.fill,hvs]
    simp only [ne_eq,not_true_eq_false,decide_false,Bool.false_or,List.size_toArray,gt_iff_lt,decide_eq_true_eq]
    rw [if_neg (by rw [hfl];omega)]
    rw [<- f1]
    congr 1
    grind
   ·cases hf
theorem Zb7 {σ w}:∀{parts:List (Nat×V)} {vparts:List (Nat×Value)},Parts σ w parts vparts->AL σ w (parts.map (·.2)) (vparts.map (·.2))/\parts.map (·.1)=vparts.map (·.1):=by
 intro parts
 induction parts with
 | nil=>intro vparts h;cases h;exact⟨.nil,rfl⟩
 | cons p parts ih=>
  intro vparts h
  cases h with
  | cons hx hp=>
   obtain⟨h1,h2⟩:=ih hp
   exact⟨AL.ED.2 ⟨hx,h1⟩,by simp [h2]⟩
theorem Z0C {α β:Type}:∀(l:List (α×β)),(l.map (·.1)).zip (l.map (·.2))=l
 | []=>rfl
 | x::l=>by simp [Z0C l]
theorem Zeu {σ w}:∀{is:List Nat} {xs:List V} {vs:List Value},AL σ w xs vs->is.length=xs.length->Parts σ w (is.zip xs) (is.zip vs):=by
 intro is
 induction is with
 | nil=>intro xs vs h hl;exact .nil
 | cons i is ih=>
  intro xs vs h hl
  cases xs with
  | nil=>simp at hl
  | cons x xs=>
   obtain⟨v,vs',rfl,h1,h2⟩:=h.Cf
   exact .cons h1 (ih h2 (by simpa using hl))
theorem Z0M {sz:Nat}:∀{parts:List (Nat×V)} {xs xs' : List V},(∀x∈xs,BQ x=true)->(∀p∈parts,BQ p.2=true)->Jo xs sz parts=some xs' -> ∀x∈xs',BQ x=true
 | [],xs,xs',hx,hp,hf=>by
  simp only [Jo,Option.some.injEq] at hf
  subst hf
  exact hx
 | (i,v)::rest,xs,xs',hx,hp,hf=>by
  simp only [Jo] at hf
  split at hf
  ·refine Z0M (fun x hx' =>?_) (fun p hp' =>hp p (List.mem_cons_of_mem _ hp')) hf
   rcases List.mem_or_eq_of_mem_set hx' with h|h
   ·exact hx x h
   simp_all
  ·cases hf
theorem Z9D {E B w0 σ H w} {P:Program} (hE:BP E) (hP:E.P=P) (h:Inv B w0 σ H w) {k:Nat} (hk0:EL H k=true) {t:TypeId} {n:Nat} {parts:List (Nat×V)} {vparts:Array (Nat×Value)} {r:V} {H' : Heap}
  (hp:Parts σ w parts vparts.toList) (hb:MV E k H t n parts=some (r,H')) :
  ∃u w' σ',(Instr.buildSlice t n vparts).run P w = .ok u w' /\ Inv B w0 σ' H' w' /\ Ext σ w σ' w' /\ AL σ' w' [r] [u]:=by
 unfold MV at hb
 split at hb
 ·rename_i e sz by' z0 hti
  split at hb
  ·rename_i ei hei
   split at hb
   ·rename_i z vs hz hf
    split at hb
    ·rename_i hc
     obtain⟨c1,c2,c3,c4,c5⟩:=hc
     split at hb
     ·rename_i xs hfe
      simp only [Option.some.injEq,Prod.mk.injEq] at hb
      obtain⟨rfl,rfl⟩:=hb
      obtain⟨inf,d,hi,hd,q1,q2,q3,q4⟩:=Dz (hE.ti _ _ hti)
      have hd' : P.underlying t=some (.slice e):=by rw [hP] at hd;rw [hd,LV q1]
      obtain⟨infe,zv,hie,hzv,hsz,hbz,_⟩:=X8 hE hP hei hz σ w
      obtain⟨hI,hEx⟩:=h.freeze ((parts.map (·.2)).flatMap CV)
      have hzr:AL (σ.freeze H ((parts.map (·.2)).flatMap CV)) w [z] [zv]:=by
       obtain⟨infe',zv',hie',hzv',_,_,hr⟩:=X8 hE hP hei hz (σ.freeze H ((parts.map (·.2)).flatMap CV)) w
       rw [hie] at hie'
       cases hie'
       rw [hzv] at hzv'
       cases hzv'
       exact hr
      have hzs:zv.cells.size=ei.size:=by rw [<- hzr.OG c4];exact c3
      obtain⟨hu1,hu2⟩:=Zb7 hp
      have hfr:=Wi h hu1 hf _ (fun i hi=>hi)
      have hfr' :=ZaZ (E.rows e) hfr
      have hlen:(parts.map (·.1)).length=(vs.map (DJ (E.rows e))).length:=by rw [hfr'.length,<- hu1.length];simp
      have hpz:=Zeu hfr' hlen
      have hvp:(parts.map (·.1)).zip (vparts.toList.map (·.2))=vparts.toList:=by
       rw [hu2]
       exact Z0C _
      rw [hvp] at hpz
      have hones:∀u∈flat (List.replicate n zv),u.oneCell' = true:=by
       intro u hu
       simp only [flat,List.mem_flatMap] at hu
       obtain⟨a,ha,hb⟩:=hu
       rw [(List.mem_replicate.1 ha).2] at hb
       exact(hzr.cells c4).2 u hb
      obtain⟨us',f1,f2,f3,f4,f5,f6⟩:=ZcV hpz (AL.replicate n (Ol (E.rows e) hzr)) (fun x hx=>by rw [(List.mem_replicate.1 hx).2,XW];exact c4) (fun u hu=>by rw [(List.mem_replicate.1 hu).2];exact hzs) hones hfe
      have hxl:xs.length=n:=by rw [f6];simp
      have hnm:n<=maxLen:=by
       have:n<=n*ei.size:=Nat.le_mul_of_pos_right _ c2
       simp [maxLen]
       omega
      obtain⟨σ',i1,i2,i3⟩:=Z2n (n:=n) hI (k:=k) (by rw [Zd4];exact hk0) e true f2 (fun _=>Z0M (fun x hx=>by rw [(List.mem_replicate.1 hx).2,Oi];exact Z0W hE hei hz) (fun p hp=>by
       obtain⟨q,hq,hq'⟩:=List.mem_map.1 (List.of_mem_zip hp).2
       rw [<- hq',Oi]
       exact(JA vs).1 (TZ h hu1 hf) q hq) hfe) f3 f4 f5 (by rw [hxl];exact hnm)
      rw [hxl] at i3
      refine⟨.slice (some ⟨w.heap.size,0,none⟩) n n,_,σ',?_,i1,hEx.trans i2,?_⟩
      ·by_cases hn:n=0
       ·subst hn
        have hpn:parts=[]:=by simpa using c5
        subst hpn
        cases hp0:vparts.toList with
        | nil=>
         have:vparts = #[]:=by simpa using hp0
         subst this
         have hx:xs=[]:=List.eq_nil_of_length_eq_zero hxl
         subst hx
         cases f2.EN
         simp [Instr.buildSlice,run_underlying hd',sizeOf,typeInfo,hie,Instr.fill,newRow,flat,Array.range_zero']
        | cons a b=>simp_all
       ·have hpos:¬n*infe.size=0:=by rw [hsz];exact Nat.mul_ne_zero hn (by omega)
        refine run_buildSlice w t e n vparts (flat us').toArray infe zv hd' hie hzv (by rw [hsz];omega) hpos ?_
        rw [hsz]
        have hm:(Array.range (n*ei.size)).map (zv.cells[· % zv.cells.size]!)=(flat (List.replicate n zv)).toArray:=by
         apply Array.ext'
         exact zS c2 hzs n
        simp_all
      ·exact .Az (L:=⟨.slice (some ⟨w.heap.size,0,none⟩) n n,n,ei.size⟩) i3 (Nat.le_refl _) (fun _=>⟨by omega,_,_,_,0,rfl,by simp [Addr.add],Nat.zero_le _,Nat.le_refl _,fun _=>rfl⟩) ⟨_,_,_,rfl⟩ .nil
     ·cases hb
    ·cases hb
   ·cases hb
  ·cases hb
 ·cases hb
end Go.Proofs.YtlabamnhpgoekaaGreatDoor.Le
namespace Go.Proofs.YtlabamnhpgoekaaGreatDoor.Le
open Go.RowKit (Below)
theorem addr_add_add (a:Addr) (x y:Nat):(a.add x).add y=a.add (x+y):=by
 unfold Addr.add
 grind
theorem Zgn {B w0 σ H w} (h:Inv B w0 σ H w) {x:V} {v:Value} {n:Nat} (hr:AL σ w [x] [v]) (hl:lenOf H x=some n) :
  (∃s,x = .lit (.string s)/\v = .string s/\n=s.size)\/∃a c,v = .slice a n c/\n<=c:=by
 unfold lenOf at hl
 split at hl
 ·simp only [Option.some.injEq] at hl
  subst hl
  right
  cases hr with
  | Dj _=>simp_all
  | EG a _=>simp_all
  | sl b o c e k0 k1 k2 k3 k4 k5 k6 k7=>grind
 ·simp only [Option.some.injEq] at hl
  subst hl
  right
  cases hr with
  | Eg _=>simp_all
  | Es a _=>simp_all
  | BR b o e k0 k1 k2 k3 k4 k5 k6=>grind
 ·rename_i id off len tot
  split at hl
  ·rename_i b hb
   simp only [Option.some.injEq] at hl
   subst hl
   right
   obtain⟨L,us,m,hxl,hol,hs,hview⟩:=L6 h hr hb
   grind
  ·cases hl
 ·rename_i s
  simp only [Option.some.injEq] at hl
  subst hl
  left
  cases hr with
  | lit _ _=>simp_all
 ·cases hl
theorem Z43 {B w0 σ H w} {P:Program} (h:Inv B w0 σ H w) {x:V} {v:Value} {n:Nat} {t ty:TypeId} {d:TypeDesc} (hr:AL σ w [x] [v]) (hl:lenOf H x=some n)
  (ht:P.underlying t=some d) (hd:(∃e,d = .slice e)\/d = .string) (hc:(∃e,d = .slice e)↔∀s,x≠.lit (.string s)) :
  (Builtin.len_ #[t] ty #[v]).run P w = .ok (.int .i64 n) w:=by
 rcases Zgn h hr hl with ⟨s,hx,hv,hn⟩|⟨a,c,hv,hn⟩
 ·have hds:d = .string:=by
   rcases hd with hd|hd
   ·exact absurd hx (hc.1 hd s)
   ·exact hd
  subst hv hn
  simp [Builtin.len_,run_underlying ht,hds,goInt]
 ·have hds:∃e,d = .slice e:=hc.2 (fun s hs=>by subst hs;cases hr;cases hv)
  obtain⟨e,hds⟩:=hds
  subst hv
  simp [Builtin.len_,run_underlying ht,hds,goInt]
theorem Qn {σ w} {P:Program} {x:V} {v:Value} {hi n:Nat} (code:BoundsCode) (hr:AL σ w [x] [v]) (hb:Gz x hi=some n) :
  (Instr.sliceBound v hi code).run P w = .ok n w/\n<=hi:=by
 unfold Gz at hb
 split at hb
 ·rename_i k m
  split at hb
  ·rename_i hc
   simp only [Option.some.injEq] at hb
   subst hb
   cases hr with
   | lit _ _=>
    refine⟨?_,by omega⟩
    simp [Instr.sliceBound,asIntOf,hc]
  ·cases hb
 ·cases hb
inductive Ie (σ:Sg) (w:World):Option V->Option Value->Prop where
 | none:Ie σ w none none
 | some {x v}:AL σ w [x] [v]->Ie σ w (some x) (some v)
theorem Z1T {σ w} {P:Program} {x:V} {v:Value} {n cap h:Nat} (code:BoundsCode) (hnc:n<=cap) (hr:AL σ w [x] [v]) (eh:Gz x n=some h):(Instr.sliceBound v cap code).run P w = .ok h w/\h<=n:=by
 have hk:=(Qn (P:=P) code hr eh).2
 refine⟨?_,hk⟩
 have:Gz x cap=some h:=by
  unfold Gz at eh ⊢
  split at eh
  ·grind
  ·cases eh
 exact(Qn (P:=P) _ hr this).1
theorem Me {σ w} {P:Program} {n cap:Nat} (hnc:n<=cap) (isSlice:Bool) {lo hi:Option V} {vlo vhi:Option Value} {l h:Nat}
  (hlo:Ie σ w lo vlo) (hhi:Ie σ w hi vhi)
  (eh:G7 hi n n=some h) (el:G7 lo h 0=some l) :
  (Instr.sliceBounds isSlice n cap vlo vhi none).run P w = .ok (l,h,cap) w/\l<=h/\h<=n:=by
 cases hhi with
 | none=>
  simp only [G7,Option.some.injEq] at eh
  subst eh
  cases hlo with
  | none=>
   simp only [G7,Option.some.injEq] at el
   subst el
   exact⟨rfl,Nat.zero_le _,Nat.le_refl _⟩
  | some hr=>
   obtain⟨r1,r2⟩:=Qn (P:=P) .sliceB hr el
   refine⟨?_,r2,Nat.le_refl _⟩
   simp [Instr.sliceBounds,r1]
 | some hr' =>
  obtain⟨q1,q2⟩:=Z1T (P:=P) (if isSlice then .sliceAcap else .sliceAlen) hnc hr' eh
  cases hlo with
  | none=>
   simp only [G7,Option.some.injEq] at el
   subst el
   refine⟨?_,Nat.zero_le _,q2⟩
   simp [Instr.sliceBounds,q1]
  | some hr=>
   obtain⟨r1,r2⟩:=Qn (P:=P) .sliceB hr el
   refine⟨?_,r2,q2⟩
   simp [Instr.sliceBounds,q1,r1]
theorem Wu {σ w} {P:Program} {n cap:Nat} (hnc:n<=cap) {lo:Option V} {xh xm:V} {vlo:Option Value} {vh vm:Value} {l h:Nat}
  (hlo:Ie σ w lo vlo) (hhi:AL σ w [xh] [vh]) (hmx:AL σ w [xm] [vm])
  (eh:Gz xh n=some h) (em:Gz xm n=some h) (el:G7 lo h 0=some l) :
  (Instr.sliceBounds true n cap vlo (some vh) (some vm)).run P w = .ok (l,h,h) w/\l<=h/\h<=n:=by
 obtain⟨m1,m2⟩:=Z1T (P:=P) .slice3Acap hnc hmx em
 have q1:(Instr.sliceBound vh h .slice3B).run P w = .ok h w:=by
  have:Gz xh h=some h:=by
   unfold Gz at eh ⊢
   split at eh
   ·grind
   ·cases eh
  exact(Qn (P:=P) _ hhi this).1
 cases hlo with
 | none=>
  simp only [G7,Option.some.injEq] at el
  subst el
  refine⟨?_,Nat.zero_le _,m2⟩
  simp [Instr.sliceBounds,m1,q1]
 | some hr=>
  obtain⟨r1,r2⟩:=Qn (P:=P) .slice3C hr el
  refine⟨?_,r2,m2⟩
  simp [Instr.sliceBounds,m1,q1,r1]
theorem KD {P:Program} {w:World} {t e:TypeId} {inf:TypeInfo} {a:Option Addr} {n c l h m:Nat} {lo hi mx:Option Value} (ht:P.underlying t=some (.slice e)) (hi' : P.info? e=some inf)
  (hb:(Instr.sliceBounds true n c lo hi mx).run P w = .ok (l,h,m) w) :
  (Instr.sliceAt t (.slice a n c) lo hi mx).run P w = .ok (.slice (if m=l then a else a.map (·.add (l*inf.size))) (h - l) (m - l)) w:=by
 simp [Instr.sliceAt,Instr.slice,run_underlying ht,hb,sizeOf,typeInfo,hi']
theorem Lies.sub {σ w b o us e} (h:Lies σ w b o us) (hs:∀u∈us,u.cells.size=e) (l n:Nat):Lies σ w b (o+l*e) ((us.drop l).take n):=by
 intro j u hu
 rw [nY hs] at hu
 have hj:j<n*e:=by
  have:=(List.getElem?_eq_some_iff.1 hu).1
  simp at this
  omega
 rw [List.getElem?_take,if_pos hj,List.getElem?_drop] at hu
 have:=h (l*e+j) u hu
 grind
theorem Xw {σ w} {es:List V} {us:List Value} {b o c e l h:Nat} (k0:AL σ w es us) (k1:∀x∈es,Dp x=true) (k2:∀u∈us,u.cells.size=e) (k3:∀u∈flat us,u.oneCell' = true)
  (k4:es.length<=c) (k5:c<=maxLen) (k6:Lies σ w b o us) (hl:l<=h) (hh:h<=es.length) (m:Nat) (hm:h<=m) (hm2:m<=c) :
  AL σ w [.sl false e ((es.drop l).take (h - l))] [.slice (if m=l then some ⟨b,o,none⟩ else (some (⟨b,o,none⟩:Addr)).map (·.add (l*e))) (h - l) (m - l)] /\
  (m=h->AL σ w [.BR false e ((es.drop l).take (h - l))] [.slice (if m=l then some ⟨b,o,none⟩ else (some (⟨b,o,none⟩:Addr)).map (·.add (l*e))) (h - l) (m - l)]):=by
 have hlen:((es.drop l).take (h - l)).length=h - l:=by simp;omega
 have haddr:∃o',(if m=l then some (⟨b,o,none⟩:Addr) else (some (⟨b,o,none⟩:Addr)).map (·.add (l*e)))=some ⟨b,o',none⟩/\Lies σ w b o' ((us.drop l).take (h - l)):=by
  by_cases hml:m=l
  ·rw [if_pos hml]
   refine⟨o,rfl,?_⟩
   have:h - l=0:=by omega
   rw [this,List.take_zero]
   intro j u hu
   simp [flat] at hu
  ·rw [if_neg hml]
   exact⟨o+l*e,by simp [Addr.add_mid],k6.sub k2 l (h - l)⟩
 obtain⟨o',ha,hlies⟩:=haddr
 rw [ha]
 have r:=Xe k0 l (h - l)
 have ok:∀x∈(es.drop l).take (h - l),Dp x=true:=fun x hx=>k1 x (List.mem_of_mem_drop (List.mem_of_mem_take hx))
 have sz:=Tq (Wv k2 l) (h - l)
 have on:=XX (nX k3 l) (h - l)
 constructor
 ·have:=AL.sl (σ:=σ) (w:=w) (xs:=[]) (vs:=[]) b o' (m - l) e r ok sz on (by rw [hlen];omega) (by omega) hlies .nil
  rw [hlen] at this
  exact this
 ·intro hmh
  have:=AL.BR (σ:=σ) (w:=w) (xs:=[]) (vs:=[]) b o' e r ok sz on (by rw [hlen];omega) hlies .nil
  rw [hlen] at this
  rw [hmh]
  exact this
theorem Ql {E:Env} {P:Program} (hE:BP E) (hP:E.P=P) {H:Heap} {t:TypeId} {x:V} (hx:∀s,x≠.lit (.string s)) (hf:NC E H t x=true) :
  ∃e inf,P.underlying t=some (.slice e)/\P.info? e=some inf/\Df H x inf.size=true:=by
 unfold NC at hf
 split at hf
 ·exact absurd rfl (hx _)
 ·split at hf
  ·rename_i e sz by' z0 hti
   split at hf
   ·rename_i ei hei
    obtain⟨inf,d,hi,hd,q1,q2,q3,q4⟩:=Dz (hE.ti _ _ hti)
    obtain⟨infe,de,hie,hde,e1,e2,e3,e4⟩:=Dz (hE.ti _ _ hei)
    rw [hP] at hd hie
    exact⟨e,infe,by rw [hd,LV q1],hie,by rw [<- e2];exact hf⟩
   ·cases hf
  ·cases hf
theorem uA {E:Env} {σ w} {P:Program} {x:V} {t te:TypeId} {inf:TypeInfo} {b:Bool} {e:Nat} {xs:List V} {v:Value} {lo:Option V} {xh xm:V} {vlo:Option Value} {vh vm:Value} {l h:Nat}
  (ht:P.underlying t=some (.slice te)) (hi' : P.info? te=some inf) (hes:(b||e==inf.size)=true)
  (hx:x = .sl b e xs\/x = .BR b e xs) (hr:AL σ w [x] [v]) (hlo:Ie σ w lo vlo) (hhi:AL σ w [xh] [vh]) (hmx:AL σ w [xm] [vm])
  (eh:Gz xh xs.length=some h) (em:Gz xm xs.length=some h) (el:G7 lo h 0=some l) :
  ∃u,(Instr.sliceAt t v vlo (some vh) (some vm)).run P w = .ok u w/\AL σ w [.BR false e ((xs.drop l).take (h - l))] [u]:=by
 have empc:∀e a,v = .slice (some a) 0 0->xs=[]->∃u,(Instr.sliceAt t v vlo (some vh) (some vm)).run P w = .ok u w/\AL σ w [.BR false e ((xs.drop l).take (h - l))] [u]:=by
  intro e a hv hxs
  subst hv hxs
  obtain⟨b1,b2,b3⟩:=Wu (P:=P) (Nat.le_refl 0) hlo hhi hmx eh em el
  have hh0:h=0:=by simpa using b3
  have hl0:l=0:=by omega
  subst hh0
  subst hl0
  refine⟨_,KD ht hi' b1,?_⟩
  simp
  exact .Es a .nil
 have nilc:∀e,v = .slice none 0 0->xs=[]->∃u,(Instr.sliceAt t v vlo (some vh) (some vm)).run P w = .ok u w/\AL σ w [.BR false e ((xs.drop l).take (h - l))] [u]:=by
  intro e hv hxs
  subst hv hxs
  obtain⟨b1,b2,b3⟩:=Wu (P:=P) (Nat.le_refl 0) hlo hhi hmx eh em el
  have hh0:h=0:=by simpa using b3
  have hl0:l=0:=by omega
  subst hh0
  subst hl0
  refine⟨_,KD ht hi' b1,?_⟩
  simp
  exact .Eg .nil
 rcases hx with rfl|rfl
 ·cases hr with
  | Dj _=>exact nilc e rfl rfl
  | EG a _=>exact empc e a rfl rfl
  | sl b' o c e' k0 k1 k2 k3 k4 k5 k6 k7=>
   have hee:e=inf.size:=by simpa using hes
   obtain⟨b1,b2,b3⟩:=Wu (P:=P) k4 hlo hhi hmx eh em el
   refine⟨_,KD ht hi' b1,?_⟩
   rw [<- hee]
   exact(Xw k0 k1 k2 k3 k4 k5 k6 b2 b3 h (Nat.le_refl _) (by omega)).2 rfl
 ·cases hr with
  | Eg _=>exact nilc e rfl rfl
  | Es a _=>exact empc e a rfl rfl
  | BR b' o e' k0 k1 k2 k3 k4 k5 k6=>
   have hee:e=inf.size:=by simpa using hes
   obtain⟨b1,b2,b3⟩:=Wu (P:=P) (Nat.le_refl _) hlo hhi hmx eh em el
   refine⟨_,KD ht hi' b1,?_⟩
   rw [<- hee]
   exact(Xw k0 k1 k2 k3 (Nat.le_refl _) k4 k5 b2 b3 h (Nat.le_refl _) b3).2 rfl
theorem Zg9 {E B w0 σ H w} {P:Program} (hE:BP E) (hP:E.P=P) (h:Inv B w0 σ H w) {t:TypeId} {x r:V} {v:Value} {lo hi mx:Option V} {vlo vhi vmx:Option Value} {H' : Heap}
  (hr:AL σ w [x] [v]) (hlo:Ie σ w lo vlo) (hhi:Ie σ w hi vhi) (hmx:Ie σ w mx vmx) (hs:IQ E H t x lo hi mx=some (r,H')) :
  ∃u σ',(Instr.sliceAt t v vlo vhi vmx).run P w = .ok u w/\Inv B w0 σ' H' w/\Ext σ w σ' w/\AL σ' w [r] [u]:=by
 unfold IQ at hs
 split at hs
 ·rename_i hfits
  split at hs
  ·cases hs
  ·rename_i n hn
   split at hs
   ·cases hs
   ·rename_i hh eh
    split at hs
    ·cases hs
    ·rename_i l el
     cases hmx with
     | none=>
      simp only at hs
      split at hs
      ·
       rename_i s
       simp only [Option.some.injEq,Prod.mk.injEq] at hs
       obtain⟨rfl,rfl⟩:=hs
       have hst:P.underlying t=some .string:=by rw [<- hP];exact hE.isStr t hfits
       cases hr with
       | lit hlf _=>
        have hns:n=s.size:=by simpa [lenOf] using hn.symm
        subst hns
        obtain⟨b1,b2,b3⟩:=Me (P:=P) (Nat.le_refl _) false hlo hhi eh el
        refine⟨.string (s.extract l hh),σ,?_,h,Ext.refl σ w,.lit ?_ .nil⟩
        ·simp [Instr.sliceAt,Instr.slice,run_underlying hst,b1]
        ·have:s.size<=maxLen:=by simpa [leaf] using hlf
         simp only [leaf,decide_eq_true_eq,ByteArray.size_extract]
         omega
      ·rename_i b e xs
       simp only [Option.some.injEq,Prod.mk.injEq] at hs
       obtain⟨rfl,rfl⟩:=hs
       obtain⟨te,inf,ht,hi',hes⟩:=Ql hE hP (by simp) hfits
       cases hr with
       | Dj _=>
        have hns:n=0:=by simpa [lenOf] using hn.symm
        subst hns
        obtain⟨b1,b2,b3⟩:=Me (P:=P) (Nat.le_refl 0) true hlo hhi eh el
        have hh0:hh=0:=by omega
        have hl0:l=0:=by omega
        subst hh0
        subst hl0
        refine⟨_,σ,KD ht hi' b1,h,Ext.refl σ w,?_⟩
        simp
        exact .Dj .nil
       | EG a _=>
        have hns:n=0:=by simpa [lenOf] using hn.symm
        subst hns
        obtain⟨b1,b2,b3⟩:=Me (P:=P) (Nat.le_refl 0) true hlo hhi eh el
        have hh0:hh=0:=by omega
        have hl0:l=0:=by omega
        subst hh0
        subst hl0
        refine⟨_,σ,KD ht hi' b1,h,Ext.refl σ w,?_⟩
        simp
        exact .EG a .nil
       | sl b o c e k0 k1 k2 k3 k4 k5 k6 k7=>
        have hns:n=xs.length:=by simpa [lenOf] using hn.symm
        subst hns
        have hee:e=inf.size:=by simpa [Df] using hes
        obtain⟨b1,b2,b3⟩:=Me (P:=P) k4 true hlo hhi eh el
        refine⟨_,σ,KD ht hi' b1,h,Ext.refl σ w,?_⟩
        rw [<- hee]
        exact(Xw k0 k1 k2 k3 k4 k5 k6 b2 b3 c (by omega) (Nat.le_refl _)).1
      ·rename_i b e xs
       simp only [Option.some.injEq,Prod.mk.injEq] at hs
       obtain⟨rfl,rfl⟩:=hs
       obtain⟨te,inf,ht,hi',hes⟩:=Ql hE hP (by simp) hfits
       cases hr with
       | Eg _=>
        have hns:n=0:=by simpa [lenOf] using hn.symm
        subst hns
        obtain⟨b1,b2,b3⟩:=Me (P:=P) (Nat.le_refl 0) true hlo hhi eh el
        have hh0:hh=0:=by omega
        have hl0:l=0:=by omega
        subst hh0
        subst hl0
        refine⟨_,σ,KD ht hi' b1,h,Ext.refl σ w,?_⟩
        simp
        exact .Dj .nil
       | Es a _=>
        have hns:n=0:=by simpa [lenOf] using hn.symm
        subst hns
        obtain⟨b1,b2,b3⟩:=Me (P:=P) (Nat.le_refl 0) true hlo hhi eh el
        have hh0:hh=0:=by omega
        have hl0:l=0:=by omega
        subst hh0
        subst hl0
        refine⟨_,σ,KD ht hi' b1,h,Ext.refl σ w,?_⟩
        simp
        exact .EG a .nil
       | BR b o e k0 k1 k2 k3 k4 k5 k6=>
        have hns:n=xs.length:=by simpa [lenOf] using hn.symm
        subst hns
        have hee:e=inf.size:=by simpa [Df] using hes
        obtain⟨b1,b2,b3⟩:=Me (P:=P) (Nat.le_refl _) true hlo hhi eh el
        refine⟨_,σ,KD ht hi' b1,h,Ext.refl σ w,?_⟩
        rw [<- hee]
        exact(Xw k0 k1 k2 k3 (Nat.le_refl _) k4 k5 b2 b3 xs.length b3 (Nat.le_refl _)).1
      ·rename_i id off len tot
       simp only [Option.some.injEq,Prod.mk.injEq] at hs
       obtain⟨rfl,rfl⟩:=hs
       obtain⟨te,inf,ht,hi',hes⟩:=Ql hE hP (by simp) hfits
       cases hb:CB H id tot with
       | none=>simp [lenOf,hb] at hn
       | some b=>
        have hns:n=len:=by simpa [lenOf,hb] using hn.symm
        subst hns
        obtain⟨L,us,m,hxl,hol,hsub,hview⟩:=L6 h hr hb
        have hLe:L.AZ=inf.size:=by
         have:b.AZ=inf.size:=by simpa [Df,hb] using hes
         rw [<- m.AZ];exact this
        obtain⟨a,nn,c,k,e1,e2,e3,e4,e5⟩:=hsub
        have hnc:nn<=c/\nn=tot:=by
         rcases m.shape with ⟨hv,hx,hu⟩|⟨g,cap,cur,tg,hv,hg,hhh,htg,hnn,hm,hsz,htk⟩
         ·rw [hv] at e1;cases e1;exact⟨Nat.le_refl _,by rw [<- hxl,hx];rfl⟩
         ·rw [hv] at e1;cases e1;exact⟨hnn,hxl⟩
        subst e2
        obtain⟨b1,b2,b3⟩:=Me (P:=P) (n:=n) (cap:=c - off) (by omega) true hlo hhi eh el
        refine⟨_,σ,KD ht hi' b1,h,Ext.refl σ w,?_⟩
        refine .Az m.box (by rw [m.tot,hxl];exact Nat.le_refl _) (fun _=>⟨by omega,a,nn,c,if c - off=l then k else k+l,e1,?_,by omega,by split<;>omega,fun hlt=>by split<;>omega⟩) ⟨_,_,_,rfl⟩ .nil
        rw [hLe]
        congr 1
        ·split
         ·rfl
         ·cases a with
          | none=>rfl
          | some ad=>simp [addr_add_add,Nat.add_mul]
        ·omega
      ·cases hs
     | some hmr=>
      rename_i xm vm
      simp only at hs
      have common:∀k,Gz xm n=some k->k=hh->∀xh,hi=some xh->∃vh,vhi=some vh/\AL σ w [xh] [vh]/\Gz xh n=some hh:=by
       intro k hk hkh xh hxh
       subst hxh
       cases hhi with
       | some hhr=>exact⟨_,rfl,hhr,eh⟩
      split at hs
      ·rename_i xh k xs' b e xs hk hxs
       split at hs
       ·rename_i hkh
        simp only [Option.some.injEq,Prod.mk.injEq] at hs
        obtain⟨rfl,rfl⟩:=hs
        obtain⟨te,inf,ht,hi',hes⟩:=Ql hE hP (by simp) hfits
        obtain⟨vh,hvh,hhr,ehh⟩:=common k hk hkh xh rfl
        have hns:n=xs.length:=by simpa [lenOf] using hn.symm
        have hxx:xs' = xs:=by simpa [elemsOf] using hxs.symm
        subst hns hxx hkh hvh
        obtain⟨u,hu,hru⟩:=uA (E:=E) (P:=P) ht hi' (by simpa [Df] using hes) (.inl rfl) hr hlo hhr hmr ehh hk el
        exact⟨u,σ,hu,h,Ext.refl σ w,hru⟩
       ·cases hs
      ·rename_i xh k xs' b e xs hk hxs
       split at hs
       ·rename_i hkh
        simp only [Option.some.injEq,Prod.mk.injEq] at hs
        obtain⟨rfl,rfl⟩:=hs
        obtain⟨te,inf,ht,hi',hes⟩:=Ql hE hP (by simp) hfits
        obtain⟨vh,hvh,hhr,ehh⟩:=common k hk hkh xh rfl
        have hns:n=xs.length:=by simpa [lenOf] using hn.symm
        have hxx:xs' = xs:=by simpa [elemsOf] using hxs.symm
        subst hns hxx hkh hvh
        obtain⟨u,hu,hru⟩:=uA (E:=E) (P:=P) ht hi' (by simpa [Df] using hes) (.inr rfl) hr hlo hhr hmr ehh hk el
        exact⟨u,σ,hu,h,Ext.refl σ w,hru⟩
       ·cases hs
      ·rename_i xh k xs' id off len tot hk hxs
       split at hs
       ·rename_i hkh
        simp only [Option.some.injEq,Prod.mk.injEq] at hs
        obtain⟨rfl,rfl⟩:=hs
        obtain⟨te,inf,ht,hi',hes⟩:=Ql hE hP (by simp) hfits
        obtain⟨vh,hvh,hhr,ehh⟩:=common k hk hkh xh rfl
        cases hb:CB H id tot with
        | none=>simp [lenOf,hb] at hn
        | some b=>
         have hns:n=len:=by simpa [lenOf,hb] using hn.symm
         have hbe:b.AZ=inf.size:=by simpa [Df,hb] using hes
         obtain⟨p1,p2,p3⟩:=Qc hb
         have hget:H.getD id default=b:=by simp [List.getD,p1]
         simp only [elemsOf,hb] at hxs
         split at hxs
         ·rename_i hcc
          simp only [Option.some.injEq] at hxs
          simp only [Bool.and_eq_true,decide_eq_true_eq] at hcc
          have hfz:Ee H (.Az id off len tot)=some (.sl false b.AZ ((b.xs.drop off).take len)):=by
           simp [Ee,hb,hcc.1,hcc.2]
          obtain⟨hI,hEx⟩:=h.freeze [id]
          have hr' :=XN h hr hfz [id] (by simp [Dn])
          have hlen:xs'.length=n:=by rw [<- hxs,hns];simp;omega
          rw [hxs] at hr'
          subst hkh hvh
          rw [<- hlen] at ehh hk
          have hlo' : Ie (σ.freeze H [id]) w lo vlo:=by cases hlo with
           | none=>exact .none
           | some q=>exact .some (q.ext hEx)
          obtain⟨u,hu,hru⟩:=uA (E:=E) (P:=P) ht hi' (by simp [hbe]) (.inl rfl) hr' hlo' (hhr.ext hEx) (hmr.ext hEx) ehh hk el
          grind
         ·cases hxs
       ·cases hs
      ·cases hs
 ·cases hs
end Go.Proofs.YtlabamnhpgoekaaGreatDoor.Le
namespace Go.Proofs.YtlabamnhpgoekaaGreatDoor.Le
open Go.RowKit (Below)
theorem Qk {E:Env} {P:Program} (hE:BP E) (hP:E.P=P) {t:TypeId} {n:Nat} (h:E.size t=some n):∃inf,P.info? t=some inf/\inf.size=n:=by
 unfold Env.size at h
 cases hti:E.ti t with
 | none=>simp [hti] at h
 | some i=>
  obtain⟨inf,d,hi,hd,q1,q2,q3,q4⟩:=Dz (hE.ti _ _ hti)
  simp_all
theorem ZaD {E B w0 σ H w} {P:Program} (hE:BP E) (hP:E.P=P) (h:Inv B w0 σ H w) {t:TypeId} {x i r:V} {xv iv:Value} (hx:AL σ w [x] [xv]) (hi:AL σ w [i] [iv])
  (hr:MX E H t x i=some r):∃u,(Instr.indexAt t xv iv).run P w = .ok u w/\AL σ w [r] [u]:=by
 unfold MX at hr
 split at hr
 ·rename_i k n ti hti
  obtain⟨inf,d,hin,hd,q1,q2,q3,q4⟩:=Dz (hE.ti _ _ hti)
  rw [hP] at hin hd
  cases hi with
  | lit hl _=>
   split at hr
   ·
    rename_i ty el b e xs hty
    have hds:=LV (hty.symm.trans q1)
    subst hds
    split at hr
    ·rename_i hc
     obtain⟨c1,c2,c3⟩:=hc
     obtain⟨infe,hie,hse⟩:=Qk hE hP c3
     simp only [Option.some.injEq] at hr
     subst hr
     cases hx with
     | Dj _=>simp at c2;omega
     | EG a _=>simp at c2;omega
     | sl b' o c e' k0 k1 k2 k3 k4 k5 k6 k7=>
      refine⟨.pointer (some ⟨b',o+n.toNat*e,none⟩),?_,?_⟩
      ·simp [Instr.indexAt,asIntOf,run_underlying hd,c1,c2,sizeOf,typeInfo,hie,hse,Addr.add_mid]
      ·have:=AL.BK (σ:=σ) (w:=w) (xs:=[]) (vs:=[]) b' o e n.toNat 0 k0 k1 k2 k3 k6 .nil
       simpa using this
    ·cases hr
   ·rename_i ty el b e xs hty
    have hds:=LV (hty.symm.trans q1)
    subst hds
    split at hr
    ·rename_i hc
     obtain⟨c1,c2,c3⟩:=hc
     obtain⟨infe,hie,hse⟩:=Qk hE hP c3
     simp only [Option.some.injEq] at hr
     subst hr
     cases hx with
     | Eg _=>simp at c2;omega
     | Es a _=>simp at c2;omega
     | BR b' o e' k0 k1 k2 k3 k4 k5 k6=>
      refine⟨.pointer (some ⟨b',o+n.toNat*e,none⟩),?_,?_⟩
      ·simp [Instr.indexAt,asIntOf,run_underlying hd,c1,c2,sizeOf,typeInfo,hie,hse,Addr.add_mid]
      ·have:=AL.BK (σ:=σ) (w:=w) (xs:=[]) (vs:=[]) b' o e n.toNat 0 k0 k1 k2 k3 k5 .nil
       simpa using this
    ·cases hr
   ·rename_i ty el id off len tot hty
    have hds:=LV (hty.symm.trans q1)
    subst hds
    split at hr
    ·rename_i b hb
     split at hr
     ·rename_i hc
      obtain⟨c1,c2,c3⟩:=hc
      obtain⟨infe,hie,hse⟩:=Qk hE hP c3
      simp only [Option.some.injEq] at hr
      subst hr
      obtain⟨L,us,m,hxl,hol,hsub,hview⟩:=L6 h hx hb
      rcases hview with ⟨hv,hvv,ho,hl',ht⟩|⟨g,cap,k',hv,hvv,hle,hmx,hk1,hk2⟩
      ·grind
      ·have hk:k' = off:=hk2 (by omega)
       subst hk
       subst hvv
       have hLe:L.AZ=b.AZ:=m.AZ.symm
       refine⟨.pointer (some ⟨g,(k' + n.toNat)*L.AZ+0,none⟩),?_,.ptr g m.box (by rw [m.tot,hxl];exact Nat.le_refl _) (fun _=>⟨_,_,hv⟩) rfl .nil⟩
       simp [Instr.indexAt,asIntOf,run_underlying hd,c1,c2,sizeOf,typeInfo,hie,hse,Addr.add_mid,Nat.add_mul,hLe]
     ·cases hr
    ·cases hr
   ·rename_i ty len e id j off tot hty
    have hds:=XC (hty.symm.trans q1)
    subst hds
    split at hr
    ·rename_i sz hsz
     obtain⟨infe,hie,hse⟩:=Qk hE hP hsz
     split at hr
     ·rename_i hc
      simp only [Option.some.injEq] at hr
      subst hr
      cases hx with
      | ptr g k1 k2 k3 k4 _=>
       subst k4
       refine⟨.pointer (some ⟨g,j*_+(off+n.toNat*sz),none⟩),?_,.ptr g k1 k2 k3 rfl .nil⟩
       simp [Instr.indexAt,Instr.sureAddr,asIntOf,run_underlying hd,hc.1,hc.2,sizeOf,typeInfo,hie,hse,Addr.add_mid,Nat.add_assoc]
     ·cases hr
    ·cases hr
   ·rename_i ty len e d' xs j off hty
    have hds:=XC (hty.symm.trans q1)
    subst hds
    split at hr
    ·rename_i sz hsz
     obtain⟨infe,hie,hse⟩:=Qk hE hP hsz
     split at hr
     ·rename_i hc
      simp only [Option.some.injEq] at hr
      subst hr
      cases hx with
      | BK b o e' i' off' k0 k1 k2 k3 k4 _=>
       refine⟨.pointer (some ⟨b,o+j*d' + (off+n.toNat*sz),none⟩),?_,.BK b o d' j _ k0 k1 k2 k3 k4 .nil⟩
       simp [Instr.indexAt,Instr.sureAddr,asIntOf,run_underlying hd,hc.1,hc.2,sizeOf,typeInfo,hie,hse,Addr.add_mid,Nat.add_assoc]
     ·cases hr
    ·cases hr
   ·cases hr
 ·cases hr
theorem Z9T {E σ w} {P:Program} (hE:BP E) (hP:E.P=P) {t:TypeId} {x r:V} {xv:Value} {f:Nat} (hx:AL σ w [x] [xv])
  (hr:Qe E t x f=some r):∃u,(Instr.fieldAt t xv f).run P w = .ok u w/\AL σ w [r] [u]:=by
 unfold Qe at hr
 split at hr
 ·rename_i fs sz by' z0 hti
  obtain⟨inf,d,hin,hd,q1,q2,q3,q4⟩:=Dz (hE.ti _ _ hti)
  rw [hP] at hd
  obtain⟨fields,hdf,hfl⟩:=jK q1
  subst hdf
  split at hr
  ·rename_i o ft hft
   have hfield:∃fd,fields[f]? = some fd/\fd.offset=o/\fd.type=ft:=by
    rw [hfl,List.getElem?_map] at hft
    rw [<- Array.getElem?_toList]
    cases hh:fields.toList[f]? with
    | none=>simp [hh] at hft
    | some fd=>
     simp only [hh,Option.map_some,Option.some.injEq,Prod.mk.injEq] at hft
     exact⟨fd,rfl,hft.1,hft.2⟩
   obtain⟨fd,hfd,hof,htf⟩:=hfield
   split at hr
   ·rename_i fsz hsz
    obtain⟨infe,hie,hse⟩:=Qk hE hP hsz
    split at hr
    ·cases hr
    ·rename_i hne
     have hplace:∀a:Addr,(fieldPlace a fd).run P w = .ok (a.add o) w:=by
      intro a
      have hz:¬infe.size=0:=by rw [hse];exact hne
      simp [fieldPlace,sizeOf,typeInfo,htf,hie,hz,hof]
     split at hr
     ·rename_i id j off tot
      simp only [Option.some.injEq] at hr
      subst hr
      cases hx with
      | ptr g k1 k2 k3 k4 _=>
       subst k4
       refine⟨.pointer (some ⟨g,j*_+(off+o),none⟩),?_,.ptr g k1 k2 k3 rfl .nil⟩
       simp [Instr.fieldAt,run_underlying hd,hfd,Instr.sureAddr,hplace,Addr.add_mid,Nat.add_assoc]
     ·rename_i e xs j off
      simp only [Option.some.injEq] at hr
      subst hr
      cases hx with
      | BK b o' e' i' off' k0 k1 k2 k3 k4 _=>
       refine⟨.pointer (some ⟨b,o' + j*e+(off+o),none⟩),?_,.BK b o' e j _ k0 k1 k2 k3 k4 .nil⟩
       simp [Instr.fieldAt,run_underlying hd,hfd,Instr.sureAddr,hplace,Addr.add_mid,Nat.add_assoc]
     ·cases hr
   ·cases hr
  ·cases hr
 ·cases hr
theorem Z2Q {E:Env} {P:Program} {σ w} (hE:BP E) (hP:E.P=P) {t:TypeId} {i:TI} (hti:E.ti t=some i) {cs:List V} {ws:List Value} {off:Nat} {x' : V}
  (h:AL σ w cs ws) (ho:∀u∈ws,u.oneCell' = true) (hp:partOf cs off i.size i.isAgg=some x') :
  ∃u,(part t ws.toArray off).run P w = .ok u w/\AL σ w [x'] [u]:=by
 obtain⟨inf,d,hin,hd,q1,q2,q3,q4⟩:=Dz (hE.ti _ _ hti)
 rw [hP] at hin hd
 have hag:=Z31 q1
 rcases Z1I h ho hp with ⟨ha,hle,hres⟩|⟨ha,u,hu,hres⟩
 ·refine⟨_,?_,hres⟩
  have:d.isRow=true:=by rw [<- hag];exact ha
  unfold part
  rw [Sem.run_bind,lZ w hd,this]
  simp only [Result.andThen_ok,if_true,Sem.run_bind,run_sizeOf w hin,Sem.run_pure]
  simp_all
 ·refine⟨u,?_,hres⟩
  have:d.isRow=false:=by rw [<- hag];exact ha
  unfold part
  rw [Sem.run_bind,lZ w hd,this]
  simp [hu]
theorem Zgd {E σ w} {P:Program} (hE:BP E) (hP:E.P=P) {t:TypeId} {x r:V} {xv:Value} {f:Nat} (hx:AL σ w [x] [xv])
  (hr:RN E t x f=some r):∃u,(Instr.field t xv f).run P w = .ok u w/\AL σ w [r] [u]:=by
 unfold RN at hr
 split at hr
 ·rename_i fs sz by' z0 cs hti
  obtain⟨inf,d,hin,hd,q1,q2,q3,q4⟩:=Dz (hE.ti _ _ hti)
  rw [hP] at hd
  obtain⟨fields,hdf,hfl⟩:=jK q1
  subst hdf
  split at hr
  ·rename_i o ft hft
   have hfield:∃fd,fields[f]? = some fd/\fd.offset=o/\fd.type=ft:=by
    rw [hfl,List.getElem?_map] at hft
    rw [<- Array.getElem?_toList]
    cases hh:fields.toList[f]? with
    | none=>simp [hh] at hft
    | some fd=>
     simp only [hh,Option.map_some,Option.some.injEq,Prod.mk.injEq] at hft
     exact⟨fd,rfl,hft.1,hft.2⟩
   obtain⟨fd,hfd,hof,htf⟩:=hfield
   split at hr
   ·rename_i i hti'
    cases hx with
    | agg h1 h2 _=>
     obtain⟨u,hu,hres⟩:=Z2Q hE hP (t:=fd.type) (by rw [htf];exact hti') h1 h2 hr
     refine⟨u,?_,hres⟩
     rw [<- hof] at hu
     simp [Instr.field,run_underlying hd,hfd,asAgg,hu]
   ·cases hr
  ·cases hr
 ·cases hr
theorem Zg3 {E σ w} {P:Program} (hE:BP E) (hP:E.P=P) {t:TypeId} {x i r:V} {xv iv:Value} (hx:AL σ w [x] [xv]) (hi:AL σ w [i] [iv])
  (hr:RH E t x i=some r):∃u,(Instr.index t xv iv).run P w = .ok u w/\AL σ w [r] [u]:=by
 unfold RH at hr
 split at hr
 ·rename_i k n
  cases hi with
  | lit hl _=>
   split at hr
   ·rename_i len e sz by' z0 cs hti
    obtain⟨inf,d,hin,hd,q1,q2,q3,q4⟩:=Dz (hE.ti _ _ hti)
    rw [hP] at hd
    have hds:=XC q1
    subst hds
    split at hr
    ·rename_i ei hei
     obtain⟨infe,de,hie,hde,e1,e2,e3,e4⟩:=Dz (hE.ti _ _ hei)
     rw [hP] at hie
     split at hr
     ·rename_i hc
      cases hx with
      | agg h1 h2 _=>
       obtain⟨u,hu,hres⟩:=Z2Q hE hP hei h1 h2 hr
       refine⟨u,?_,hres⟩
       rw [e2] at hu
       simp [Instr.index,asIntOf,run_underlying hd,hc.1,hc.2,sizeOf,typeInfo,hie,hu]
     ·cases hr
    ·cases hr
   ·rename_i sz by' z0 s hti
    split at hr
    ·rename_i hst
     have hd:P.underlying t=some .string:=by rw [<- hP];exact hE.isStr t hst
     split at hr
     ·rename_i h0
      cases hg:s[n.toNat]? with
      | none=>simp [hg] at hr
      | some b=>
       simp only [hg,Option.map_some,Option.some.injEq] at hr
       subst hr
       cases hx with
       | lit _ _=>
        refine⟨.int .u8 b.toNat,?_,.lit ?_ .nil⟩
        ·simp [Instr.index,asIntOf,run_underlying hd,h0,hg]
        ·have:=b.toNat_lt
         simp [leaf,Lit.wf,IntKind.min,IntKind.max,IntKind.signed,IntKind.bits]
         omega
     ·cases hr
    ·cases hr
   ·cases hr
 ·cases hr
end Go.Proofs.YtlabamnhpgoekaaGreatDoor.Le
namespace Go.Proofs.YtlabamnhpgoekaaGreatDoor.Le
open Go.RowKit (Below)
theorem ZlJ (k:IntKind) (n:Int):(Lit.int k n).wf=true↔k.min<=n/\n<=k.max:=by simp [Lit.wf]
theorem Zfm (k:IntKind):k.min<=0/\0<=k.max:=by cases k<;>decide
theorem Z18 {k:IntKind} {a n:Int} (h:(Lit.int k a).wf=true) (hn:(0<=a/\0<=n/\n<=a)\/(a<=0/\a<=n/\n<=0)):(Lit.int k n).wf=true:=by
 rw [ZlJ] at h ⊢
 have:=Zfm k
 omega
theorem Za9 (a b:Int):(0<=a/\0<=a.tmod b/\a.tmod b<=a)\/(a<=0/\a<=a.tmod b/\a.tmod b<=0):=by
 have key:∀x:Int,0<=x->0<=x.tmod b/\x.tmod b<=x:=by
  intro x hx
  rw [Int.tmod_eq_emod_of_nonneg hx]
  by_cases hb:b=0
  ·subst hb;simp [hx]
  ·refine⟨Int.emod_nonneg x hb,?_⟩
   have h1:=Int.emod_nonneg x hb
   have h2:=Int.mul_ediv_add_emod x b
   have h3:0<=b*(x / b):=by
    rcases Int.lt_or_gt_of_ne hb with hb|hb
    ·exact Int.mul_nonneg_of_nonpos_of_nonpos (by omega) (Int.ediv_nonpos_of_nonneg_of_nonpos hx (by omega))
    ·exact Int.mul_nonneg (by omega) (Int.ediv_nonneg hx (by omega))
   omega
 rcases Int.le_total 0 a with h|h
 ·simp_all
 ·right
  have:=key (-a) (by omega)
  rw [Int.neg_tmod] at this
  omega
theorem Za7 (a:Int) (n:Nat):(0<=a/\0<=a.fdiv (2 ^ n)/\a.fdiv (2 ^ n)<=a)\/(a<=0/\a<=a.fdiv (2 ^ n)/\a.fdiv (2 ^ n)<=0):=by
 have hp:(0:Int)<2 ^ n:=Int.pow_pos (by decide)
 rw [Int.fdiv_eq_ediv_of_nonneg _ (Int.le_of_lt hp)]
 have h2:=Int.mul_ediv_add_emod a (2 ^ n)
 have h3:=Int.emod_nonneg a (Int.ne_of_gt hp)
 have h4:=Int.emod_lt_of_pos a hp
 rcases Int.le_total 0 a with h|h
 ·refine .inl ⟨h,Int.ediv_nonneg h (Int.le_of_lt hp),Int.ediv_le_self _ h⟩
 ·right
  have h5:a / 2 ^ n<=0:=by
   rcases Int.lt_or_eq_of_le h with hl|he
   ·exact Int.le_of_lt (Int.ediv_neg_of_neg_of_pos hl hp)
   ·rw [he];simp
  refine⟨h,?_,h5⟩
  rw [Int.le_ediv_iff_mul_le hp]
  have h1:(1:Int)<=2 ^ n:=hp
  have:=Int.mul_le_mul_of_nonneg_left h1 (show 0 <= -a by omega)
  grind
theorem KG {P:Program} {w:World} (op:BinOp) (t:TypeId) (x y:Operand) (a b:Value) (h1:∀cs,a≠.agg cs) (h2:a≠.nilIface):(eqGuard op t x y a b).run P w = .ok () w:=by
 unfold eqGuard
 simp_all
theorem Zku {P:Program} {w:World} {op:BinOp} {t:TypeId} {k:IntKind} {a b:Int} {r:Value} (ha:leaf (.int k a)=true) (hs:op≠.shl/\op≠.shr) (hr:Lr op k a b=some r) :
  (binOp op t (.int k a) (.int k b)).run P w = .ok r w/\leaf r=true:=by
 have ha' : (Lit.int k a).wf=true:=by simpa [leaf] using ha
 cases op<;>simp only [Lr,Option.some.injEq,reduceCtorEq] at hr
 all_goals try (exact absurd rfl hs.1)
 all_goals try (exact absurd rfl hs.2)
 all_goals try (subst hr;refine⟨?_,rfl⟩;simp [binOp,Op.intCmp];done)
 all_goals try (subst hr;refine⟨?_,show (Lit.int _ _).wf=true from wf_wrap _ _⟩;simp [binOp,Op.intArith];done)
 all_goals try (subst hr;refine⟨?_,show (Lit.int _ _).wf=true from wf_bits _ _ _ _⟩;simp [binOp,Op.intBits,bits];done)
 all_goals (split at hr)
 all_goals try (cases hr;done)
 all_goals rename_i hb
 all_goals simp only [Option.some.injEq] at hr
 all_goals subst hr
 ·exact⟨by simp [binOp,Op.intDiv,hb],show (Lit.int _ _).wf=true from wf_wrap _ _⟩
 ·exact⟨by simp [binOp,Op.intDiv,hb],show (Lit.int _ _).wf=true from Z18 ha' (Za9 a b)⟩
theorem Z2M {P:Program} {w:World} {op:BinOp} {t:TypeId} {k j:IntKind} {a b:Int} {r:Value} (ha:leaf (.int k a)=true) (hs:op = .shl\/op = .shr) (hr:NP op k a b=some r) :
  (binOp op t (.int k a) (.int j b)).run P w = .ok r w/\leaf r=true:=by
 have ha' : (Lit.int k a).wf=true:=by simpa [leaf] using ha
 unfold NP at hr
 split at hr
 ·cases hr
 ·rename_i hb
  rcases hs with rfl|rfl
  ·simp only [Option.some.injEq] at hr
   subst hr
   exact⟨by simp [binOp,Op.shift,hb],show (Lit.int _ _).wf=true from wf_wrap _ _⟩
  ·simp only [Option.some.injEq] at hr
   subst hr
   exact⟨by simp [binOp,Op.shift,hb],show (Lit.int _ _).wf=true from Z18 ha' (Za7 a _)⟩
theorem ZkW {P:Program} {w:World} {op:BinOp} {t:TypeId} {a b:ByteArray} {r:Value} (hr:Rj op a b=some r) :
  (binOp op t (.string a) (.string b)).run P w = .ok r w/\leaf r=true:=by
 cases op<;>simp only [Rj,Option.some.injEq,reduceCtorEq] at hr
 ·split at hr
  ·rename_i hc
   simp only [decide_eq_true_eq] at hc
   simp only [Option.some.injEq] at hr
   subst hr
   have h63:¬(9223372036854775807<((a.size+b.size:Nat):Int)):=by simp [maxLen] at hc;omega
   refine⟨?_,by simpa [leaf] using hc⟩
   simp only [binOp,Op.stringOp]
   simp_all
  ·cases hr
 all_goals (subst hr;exact⟨by simp [binOp,Op.stringOp],rfl⟩)
end Go.Proofs.YtlabamnhpgoekaaGreatDoor.Le
namespace Go.Proofs.YtlabamnhpgoekaaGreatDoor.Le
open Go.RowKit (Below)
def Ls:FK->Value->Option Lit
 | .b,.bool b=>some (.bool b)
 | .i k,.int j n=>if j=k/\(Lit.int k n).wf=true then some (.int k n) else none
 | .s,.string s=>if s.size<=maxLen then some (.string s.data.toList) else none
 | _,_=>none
def Dt:List FK->List Value->Option (List Lit)
 | [],[]=>some []
 | k::ks,v::vs=>match Ls k v,Dt ks vs with|some l,some ls=>some (l::ls)|_,_=>none
 | _,_=>none
theorem XD:∀{ks:List FK} {vs:List Value} {ls:List Lit},Dt ks vs=some ls->vs.length=ks.length/\ls.length=ks.length
 | [],[],ls,h=>by simp [Dt] at h;subst h;simp
 | [],v::vs,ls,h=>by simp [Dt] at h
 | k::ks,[],ls,h=>by simp [Dt] at h
 | k::ks,v::vs,ls,h=>by
  simp only [Dt] at h
  split at h
  ·rename_i l ls' h1 h2
   simp only [Option.some.injEq] at h
   subst h
   obtain⟨a,b⟩:=XD h2
   simp [a,b]
  ·cases h
theorem gX:∀{ks ks' : List FK} {vs:List Value} {ls:List Lit},Dt (ks++ks') vs=some ls->∃l1 l2,Dt ks (vs.take ks.length)=some l1/\Dt ks' (vs.drop ks.length)=some l2/\ls=l1++l2
 | [],ks',vs,ls,h=>⟨[],ls,by simp [Dt],by simpa using h,rfl⟩
 | k::ks,ks',[],ls,h=>by simp [Dt] at h
 | k::ks,ks',v::vs,ls,h=>by
  simp only [List.cons_append,Dt] at h
  split at h
  ·rename_i l ls' h1 h2
   simp only [Option.some.injEq] at h
   subst h
   obtain⟨l1,l2,a,b,c⟩:=gX h2
   exact⟨l::l1,l2,by simp [Dt,h1,a],by simpa using b,by simp [c]⟩
  ·cases h
theorem Z0E {P:Program} {d:Nat} (ih:∀t ks vs ls,MM P d t=some ks->Dt ks vs=some ls->P.keyLits d t vs=some ls) :
  ∀(fs:List Field) (off:Nat) (ks:List FK) (vs:List Value) (ls:List Lit),UL P (MM P d) off fs=some ks->Dt ks (vs.drop off)=some ls ->
   (fs.mapM fun f=>P.keyLits d f.type ((vs.drop f.offset).take (P.cellsOf f.type))).map List.flatten=some ls/\(∀f∈fs,(f.name != "_")=true)
 | [],off,ks,vs,ls,h,hl=>by
  simp only [UL,Option.some.injEq] at h
  subst h
  cases hd:vs.drop off with
  | nil=>rw [hd] at hl;simp [Dt] at hl;subst hl;simp
  | cons a b=>rw [hd] at hl;simp [Dt] at hl
 | f::fs,off,ks,vs,ls,h,hl=>by
  simp only [UL] at h
  split at h
  ·rename_i hc
   obtain⟨c1,c2⟩:=hc
   split at h
   ·rename_i k1 hk1
    split at h
    ·rename_i hsz
     split at h
     ·rename_i rest hrest
      simp only [Option.some.injEq] at h
      subst h
      obtain⟨l1,l2,a,b,rfl⟩:=gX hl
      rw [List.drop_drop] at b
      obtain⟨r1,r2⟩:=Z0E ih fs (off+k1.length) rest vs l2 hrest b
      have h1:=ih f.type k1 _ l1 hk1 a
      refine⟨?_,?_⟩
      ·rw [List.mapM_cons]
       rw [c1,hsz,h1]
       cases hm:fs.mapM fun f=>P.keyLits d f.type ((vs.drop f.offset).take (P.cellsOf f.type)) with
       | none=>simp [hm] at r1
       | some ms=>
        simp_all
      simp_all
     ·cases h
    ·cases h
   ·cases h
  ·cases h
theorem Z12 {P:Program} {d:Nat} {e:TypeId} {ks:List FK} (ih:∀vs ls,Dt ks vs=some ls->P.keyLits d e vs=some ls) (hsz:P.cellsOf e=ks.length) :
  ∀(n s:Nat) (vs:List Value) (ls:List Lit),Dt (List.replicate n ks).flatten (vs.drop (s*ks.length))=some ls ->
   ((List.range' s n).mapM fun i=>P.keyLits d e ((vs.drop (i*P.cellsOf e)).take (P.cellsOf e))).map List.flatten=some ls
 | 0,s,vs,ls,h=>by
  cases hd:vs.drop (s*ks.length) with
  | nil=>rw [hd] at h;simp [Dt] at h;subst h;simp
  | cons a b=>rw [hd] at h;simp [Dt] at h
 | n+1,s,vs,ls,h=>by
  rw [List.replicate_succ,List.flatten_cons] at h
  obtain⟨l1,l2,a,b,rfl⟩:=gX h
  rw [List.drop_drop,<- Nat.succ_mul] at b
  have r:=Z12 ih hsz n (s+1) vs l2 b
  have h1:=ih _ l1 a
  rw [List.range'_succ,List.mapM_cons,hsz,h1]
  rw [hsz] at r
  cases hm:(List.range' (s+1) n).mapM fun i=>P.keyLits d e ((vs.drop (i*ks.length)).take ks.length) with
  | none=>simp [hm] at r
  | some ms=>
   simp_all
theorem pX {P:Program}:∀(d:Nat) (t:TypeId) (ks:List FK) (vs:List Value) (ls:List Lit),MM P d t=some ks->Dt ks vs=some ls->P.keyLits d t vs=some ls
 | 0,t,ks,vs,ls,h,hl=>by simp [MM] at h
 | d+1,t,ks,vs,ls,h,hl=>by
  have ih:=pX (P:=P) d
  have hlen:=XD hl
  unfold MM at h
  split at h
  ·rename_i hu
   simp only [Option.some.injEq] at h
   subst h
   match vs,hl with
   | [v],hl=>
    cases v<;>simp [Dt,Ls] at hl
    subst hl
    simp [Program.keyLits,hu]
  ·rename_i k hu
   simp only [Option.some.injEq] at h
   subst h
   match vs,hl with
   | [v],hl=>
    cases v<;>simp [Dt,Ls] at hl
    rename_i j n
    by_cases hc:j=k/\(Lit.int k n).wf=true
    ·rw [if_pos hc] at hl
     simp at hl
     subst hl
     simp [Program.keyLits,hu,hc.1,hc.2]
    simp_all
  ·rename_i hu
   simp only [Option.some.injEq] at h
   subst h
   match vs,hl with
   | [v],hl=>
    cases v<;>simp [Dt,Ls] at hl
    rename_i s
    by_cases hc:s.size<=maxLen
    ·rw [if_pos hc] at hl
     simp at hl
     subst hl
     simp [Program.keyLits,hu,hc]
    simp_all
  ·rename_i n e hu
   split at h
   ·rename_i k1 hk1
    split at h
    ·rename_i hc
     simp only [Option.some.injEq] at h
     subst h
     have hl2:vs.length=P.cellsOf t:=by rw [hlen.1,hc.2];simp
     have r:=Z12 (fun vs ls h=>ih e k1 vs ls hk1 h) hc.1 n 0 vs ls (by simpa using hl)
     unfold Program.keyLits
     rw [hu]
     simp only [hl2,if_true,List.range_eq_range']
     exact r
    ·cases h
   ·cases h
  ·rename_i fs hu
   split at h
   ·rename_i k1 hk1
    split at h
    ·rename_i hc
     simp only [Option.some.injEq] at h
     subst h
     have hl2:vs.length=P.cellsOf t:=by rw [hlen.1,hc]
     obtain⟨r1,r2⟩:=Z0E ih fs.toList 0 k1 vs ls hk1 (by simpa using hl)
     unfold Program.keyLits
     simp_all
    ·cases h
   ·cases h
  ·cases h
theorem Zbd (a b:ByteArray):(a==b)=true↔a.data.toList=b.data.toList:=by
 rw [beq_toListBytes,beq_iff_eq,ByteArray.toList_eq,ByteArray.toList_eq]
theorem ZaR {σ w}:∀{ks:List FK} {xs ys:List V} {vx vy:List Value} {r:Bool},AL σ w xs vx->AL σ w ys vy->Hm ks xs ys=some r ->
  ∃la lb,Dt ks vx=some la/\Dt ks vy=some lb/\(r=true↔la=lb):=by
 intro ks
 induction ks with
 | nil=>
  intro xs ys vx vy r hx hy he
  cases xs<;>cases ys<;>simp [Hm] at he
  cases hx.EN
  cases hy.EN
  exact⟨[],[],rfl,rfl,by simp [he]⟩
 | cons k ks ih=>
  intro xs ys vx vy r hx hy he
  unfold Hm at he
  split at he
  ·simp_all
  ·rename_i ks' a xs b ys h1
   cases h1
   obtain⟨v1,vx',rfl,p1,p2⟩:=hx.Cf
   obtain⟨v2,vy',rfl,q1,q2⟩:=hy.Cf
   cases p1 with
   | lit _ _=>
   cases q1 with
   | lit _ _=>
   split at he
   ·rename_i r' hr
    obtain⟨la,lb,e1,e2,e3⟩:=ih p2 q2 hr
    simp only [Option.some.injEq] at he
    subst he
    refine⟨.bool a::la,.bool b::lb,by simp [Dt,Ls,e1],by simp [Dt,Ls,e2],?_⟩
    simp [e3]
   ·cases he
  ·rename_i k' ks' k1 a xs k2 b ys h1
   cases h1
   obtain⟨v1,vx',rfl,p1,p2⟩:=hx.Cf
   obtain⟨v2,vy',rfl,q1,q2⟩:=hy.Cf
   split at he
   ·rename_i hk
    obtain⟨rfl,rfl⟩:=hk
    cases p1 with
    | lit l1 _=>
    cases q1 with
    | lit l2 _=>
    split at he
    ·rename_i r' hr
     obtain⟨la,lb,e1,e2,e3⟩:=ih p2 q2 hr
     simp only [Option.some.injEq] at he
     subst he
     have w1:(Lit.int k2 a).wf=true:=by simpa [leaf] using l1
     have w2:(Lit.int k2 b).wf=true:=by simpa [leaf] using l2
     refine⟨.int k2 a::la,.int k2 b::lb,by simp [Dt,Ls,e1,w1],by simp [Dt,Ls,e2,w2],?_⟩
     simp [e3]
    ·cases he
   ·cases he
  ·rename_i ks' a xs b ys h1
   cases h1
   obtain⟨v1,vx',rfl,p1,p2⟩:=hx.Cf
   obtain⟨v2,vy',rfl,q1,q2⟩:=hy.Cf
   cases p1 with
   | lit l1 _=>
   cases q1 with
   | lit l2 _=>
   split at he
   ·rename_i r' hr
    obtain⟨la,lb,e1,e2,e3⟩:=ih p2 q2 hr
    simp only [Option.some.injEq] at he
    subst he
    have w1:a.size<=maxLen:=by simpa [leaf] using l1
    have w2:b.size<=maxLen:=by simpa [leaf] using l2
    refine⟨.string a.data.toList::la,.string b.data.toList::lb,by simp [Dt,Ls,e1,w1],by simp [Dt,Ls,e2,w2],?_⟩
    rw [Bool.and_eq_true,Zbd,e3]
    simp
   ·cases he
  ·cases he
theorem Z0A {E:Env} {P:Program} {σ w} (hE:BP E) (hP:E.P=P) {t:TypeId} {ks:List FK} {xs ys:List V} {vx vy:List Value} {r:Bool} (hf:E.flat t=some ks) (hx:AL σ w xs vx) (hy:AL σ w ys vy)
  (he:Hm ks xs ys=some r):(Op.equalIn 10000 t (.agg vx.toArray) (.agg vy.toArray)).run P w = .ok r w/\P.eqGuardType P.depth t=false:=by
 have hfl:=hE.flat t ks hf
 rw [hP] at hfl
 obtain⟨la,lb,h1,h2,h3⟩:=ZaR hx hy he
 have hrow:(∃fs,P.underlying t=some (.struct fs))\/∃n e,P.underlying t=some (.array n e):=by
  unfold YT at hfl
  split at hfl
  ·simp_all
  ·simp_all
  ·cases hfl
 have hk:P.keyTypeAt 20 t=true/\P.eqGuardType P.depth t=false/\MM P 20 t=some ks:=by
  unfold YT at hfl
  grind
 obtain⟨k1,k2,k3⟩:=hk
 have l1:=pX 20 t ks vx la k3 h1
 have l2:=pX 20 t ks vy lb k3 h2
 have hcells:P.cellsOf t=ks.length:=by
  rcases hrow with ⟨fs,hu⟩|⟨n,e,hu⟩<;>unfold MM at k3<;>rw [hu] at k3<;>simp only [] at k3
  ·grind
  ·split at k3
   ·split at k3
    ·rename_i hc;simp only [Option.some.injEq] at k3;rw [<- k3,hc.2];simp
    ·cases k3
   ·cases k3
 have f1:(Value.agg vx.toArray).formed P t=true:=by
  rcases hrow with ⟨fs,hu⟩|⟨n,e,hu⟩<;>simp [Value.formed,hu,hcells,(XD h1).1]
 have f2:(Value.agg vy.toArray).formed P t=true:=by
  rcases hrow with ⟨fs,hu⟩|⟨n,e,hu⟩<;>simp [Value.formed,hu,hcells,(XD h2).1]
 obtain⟨r',hr',hiff⟩:=run_equalIn_deep (P:=P) 9980 20 t k1 w 20 20 (.agg vx.toArray) (.agg vy.toArray) la lb f1 f2 (by simpa [Value.cells] using l1) (by simpa [Value.cells] using l2)
 grind
end Go.Proofs.YtlabamnhpgoekaaGreatDoor.Le
namespace Go.Proofs.YtlabamnhpgoekaaGreatDoor.Le
open Go.RowKit (Below)
theorem un_ok {P:Program} {σ w} {op:UnOp} {x r:V} {v:Value} (hx:AL σ w [x] [v]) (h:VZ op x=some r):∃u,(Op.unary op v).run P w = .ok u w/\AL σ w [r] [u]:=by
 unfold VZ at h
 split at h
 ·simp only [Option.some.injEq] at h
  subst h
  cases hx with
  | lit hl _=>exact⟨_,by simp [Op.unary,Op.intArith],.lit (show (Lit.int _ _).wf=true from wf_wrap _ _) .nil⟩
 ·simp only [Option.some.injEq] at h
  subst h
  cases hx with
  | lit hl _=>exact⟨_,by simp [Op.unary,Op.intBits,bits],.lit (show (Lit.int _ _).wf=true from wf_bits _ _ _ _) .nil⟩
 ·simp only [Option.some.injEq] at h
  subst h
  cases hx with
  | lit hl _=>exact⟨_,by simp [Op.unary],.lit rfl .nil⟩
 ·cases h
theorem Xp {E:Env} {P:Program} (hP:E.P=P) {t:TypeId} (h:Ry E t=true):P.underlying t=some (.pointer (P.pointee t)):=by
 unfold Ry at h
 rw [hP] at h
 split at h
 ·rename_i e he
  rw [he,Program.pointee,he]
 ·cases h
theorem ZlD {E:Env} {P:Program} {σ w} (hE:BP E) (hP:E.P=P) {op:BinOp} {t:TypeId} {x y r:V} {vx vy:Value} (ox oy:Operand) (hx:AL σ w [x] [vx]) (hy:AL σ w [y] [vy]) (h:Ju E op t x y=some r) :
  ∃u,(eqGuard op t ox oy vx vy).run P w = .ok () w/\(binOp op t vx vy).run P w = .ok u w/\AL σ w [r] [u]:=by
 unfold Ju at h
 split at h
 ·rename_i k a j b
  cases hx with
  | lit l1 _=>
  cases hy with
  | lit l2 _=>
  cases hs:NP .shl k a b with
  | none=>simp [hs] at h
  | some q=>
   simp only [hs,Option.map_some,Option.some.injEq] at h
   subst h
   obtain⟨h1,h2⟩:=Z2M (P:=P) (w:=w) (t:=t) (j:=j) l1 (.inl rfl) hs
   exact⟨q,KG _ _ _ _ _ _ (by simp) (by simp),h1,.lit h2 .nil⟩
 ·rename_i k a j b
  cases hx with
  | lit l1 _=>
  cases hy with
  | lit l2 _=>
  cases hs:NP .shr k a b with
  | none=>simp [hs] at h
  | some q=>
   simp only [hs,Option.map_some,Option.some.injEq] at h
   subst h
   obtain⟨h1,h2⟩:=Z2M (P:=P) (w:=w) (t:=t) (j:=j) l1 (.inr rfl) hs
   exact⟨q,KG _ _ _ _ _ _ (by simp) (by simp),h1,.lit h2 .nil⟩
 ·rename_i k a j b hn1 hn2
  split at h
  ·rename_i hk
   subst hk
   cases hx with
   | lit l1 _=>
   cases hy with
   | lit l2 _=>
   cases hs:Lr op k a b with
   | none=>simp [hs] at h
   | some q=>
    simp only [hs,Option.map_some,Option.some.injEq] at h
    subst h
    obtain⟨h1,h2⟩:=Zku (P:=P) (w:=w) (t:=t) l1 ⟨hn1,hn2⟩ hs
    exact⟨q,KG _ _ _ _ _ _ (by simp) (by simp),h1,.lit h2 .nil⟩
  ·cases h
 ·rename_i a b
  cases hx with
  | lit l1 _=>
  cases hy with
  | lit l2 _=>
  cases hs:Rj op a b with
  | none=>simp [hs] at h
  | some q=>
   simp only [hs,Option.map_some,Option.some.injEq] at h
   subst h
   obtain⟨h1,h2⟩:=ZkW (P:=P) (w:=w) (t:=t) hs
   exact⟨q,KG _ _ _ _ _ _ (by simp) (by simp),h1,.lit h2 .nil⟩
 ·split at h
  ·rename_i hb
   have hu:P.underlying t=some .bool:=by rw [<- hP];exact hE.isBool t hb
   simp only [Option.some.injEq] at h
   subst h
   cases hx with
   | lit l1 _=>
   cases hy with
   | lit l2 _=>
   exact⟨_,KG _ _ _ _ _ _ (by simp) (by simp),by simp [binOp,run_equal_bool w t _ _ hu],.lit rfl .nil⟩
  ·cases h
 ·split at h
  ·rename_i hb
   have hu:P.underlying t=some .bool:=by rw [<- hP];exact hE.isBool t hb
   simp only [Option.some.injEq] at h
   subst h
   cases hx with
   | lit l1 _=>
   cases hy with
   | lit l2 _=>
   exact⟨_,KG _ _ _ _ _ _ (by simp) (by simp),by simp [binOp,run_equal_bool w t _ _ hu],.lit rfl .nil⟩
  ·cases h
 ·rename_i xs ys
  split at h
  ·rename_i ks hf
   cases hc:Hm ks xs ys with
   | none=>simp [hc] at h
   | some q=>
    simp only [hc,Option.map_some,Option.some.injEq] at h
    subst h
    cases hx with
    | agg p1 _ _=>
    cases hy with
    | agg q1 _ _=>
    obtain⟨h1,h2⟩:=Z0A hE hP hf p1 q1 hc
    exact⟨.bool q,run_eqGuard_agg w _ _ _ _ _ _ h2,by rw [run_eql_struct,h1];rfl,.lit rfl .nil⟩
  ·cases h
 ·rename_i xs ys
  split at h
  ·rename_i ks hf
   cases hc:Hm ks xs ys with
   | none=>simp [hc] at h
   | some q=>
    simp only [hc,Option.map_some,Option.some.injEq] at h
    subst h
    cases hx with
    | agg p1 _ _=>
    cases hy with
    | agg q1 _ _=>
    obtain⟨h1,h2⟩:=Z0A hE hP hf p1 q1 hc
    exact⟨.bool (!q),run_eqGuard_agg w _ _ _ _ _ _ h2,by rw [run_neq_struct,h1];rfl,.lit rfl .nil⟩
  ·cases h
 ·split at h
  ·rename_i hb
   have hu:=Xp hP hb
   simp only [Option.some.injEq] at h
   subst h
   cases hx with
   | lit l1 _=>
   cases hy with
   | lit l2 _=>
   exact⟨_,KG _ _ _ _ _ _ (by simp) (by simp),run_eql_pointer_nil w t none hu,.lit rfl .nil⟩
  ·cases h
 ·split at h
  ·rename_i hb
   have hu:=Xp hP hb
   simp only [Option.some.injEq] at h
   subst h
   cases hx with
   | lit l1 _=>
   cases hy with
   | lit l2 _=>
   exact⟨_,KG _ _ _ _ _ _ (by simp) (by simp),run_neq_pointer_nil w t none hu,.lit rfl .nil⟩
  ·cases h
 ·split at h
  ·rename_i hb
   have hu:=Xp hP hb
   simp only [Option.some.injEq] at h
   subst h
   cases hx with
   | ptr g _ _ _ hv _=>
   subst hv
   cases hy with
   | lit l2 _=>
   exact⟨_,KG _ _ _ _ _ _ (by simp) (by simp),run_eql_pointer_nil w t (some _) hu,.lit rfl .nil⟩
  ·cases h
 ·split at h
  ·rename_i hb
   have hu:=Xp hP hb
   simp only [Option.some.injEq] at h
   subst h
   cases hx with
   | ptr g _ _ _ hv _=>
   subst hv
   cases hy with
   | lit l2 _=>
   exact⟨_,KG _ _ _ _ _ _ (by simp) (by simp),run_neq_pointer_nil w t (some _) hu,.lit rfl .nil⟩
  ·cases h
 ·cases h
theorem Z1t {σ w}:∀{xs:List V} {us:List Value} {bs:List UInt8},AL σ w xs us->bytesOf xs=some bs->∃ns:List Int,us=ns.map (Value.int .u8)/\bs=ns.map fun n=>UInt8.ofNat n.toNat
 | [],us,bs,h,hb=>by
  cases h.EN
  simp only [bytesOf,Option.some.injEq] at hb
  simp_all
 | x::xs,us,bs,h,hb=>by
  obtain⟨v,us',rfl,h1,h2⟩:=h.Cf
  simp only [bytesOf] at hb
  split at hb
  ·rename_i b bs' hbx hbs
   simp only [Option.some.injEq] at hb
   subst hb
   obtain⟨ns,e1,e2⟩:=Z1t h2 hbs
   unfold byteOf at hbx
   split at hbx
   ·rename_i n
    simp only [Option.some.injEq] at hbx
    subst hbx
    cases h1 with
    | lit _ _=>exact⟨n::ns,by simp [e1],by simp [e2]⟩
   ·cases hbx
  ·cases hb
theorem ZdI (ns:List Int) (s:ByteArray):(ns.foldl (fun r n=>r.push (UInt8.ofNat n.toNat)) s)=⟨s.data++(ns.map fun n=>UInt8.ofNat n.toNat).toArray⟩:=by
 induction ns generalizing s with
 | nil=>cases s;simp
 | cons n ns ih=>
  simp_all
theorem Zdp {v:Value} (h:leaf v=true):v.cells = #[v]/\v.oneCell' = true:=by
 unfold leaf at h
 split at h<;>first|exact⟨rfl,rfl⟩|cases h
theorem lS {σ:Sg} {w:World}:∀{cs:List V} {ws:List Value},AL σ w cs ws->cs.all HY=true->(∀u∈ws,u.cells = #[u]/\u.oneCell' = true)/\flat ws=ws/\∀x∈cs,Dp x=true:=by
 intro cs
 induction cs with
 | nil=>intro ws h _;cases h.EN;exact⟨by simp,rfl,by simp⟩
 | cons c cs ih=>
  intro ws h hl
  obtain⟨v,vs,rfl,h1,h2⟩:=h.Cf
  simp only [List.all_cons,Bool.and_eq_true] at hl
  obtain⟨i1,i2,i3⟩:=ih h2 hl.2
  cases h1 with
  | lit hl' _=>
   obtain⟨k1,k2⟩:=Zdp hl'
   refine⟨fun u hu=>?_,?_,fun x hx=>?_⟩
   ·grind
   ·rw [JC,k1,i2];rfl
   ·rcases List.mem_cons.1 hx with rfl|hx
    ·rfl
    ·exact i3 x hx
  | _=>simp [HY] at hl
theorem ZeN {E B w0 σ H w} {P:Program} (hE:BP E) (hP:E.P=P) (h:Inv B w0 σ H w) {t e:TypeId} {n sz by' : Nat} {z0:Option V} (hti:E.ti t=some ⟨.array n e,sz,by',z0⟩) {x r:V} {v:Value} {lo hi mx:Option V} {lo' hi' mx' : Option Value} {H' : Heap} (hx:AL σ w [x] [v])
  (hlo:Ie σ w lo lo') (hhi:Ie σ w hi hi') (hmx:Ie σ w mx mx') (hs:Ll E H n e x lo hi mx=some (r,H')) :
  ∃u σ',(Instr.sliceAt t v lo' hi' mx').run P w = .ok u w/\Inv B w0 σ' H' w/\Ext σ w σ' w/\AL σ' w [r] [u]:=by
 unfold Ll at hs
 split at hs
 ·rename_i id i off tot m' hm'
  cases hmx
  obtain⟨bd,_,hmn⟩:=Me (P:=P) (w:=w) (Nat.le_refl n) false hlo hhi hm' (l:=0) rfl
  split at hs
  ·rename_i b hb
   obtain⟨b1,b2,b3⟩:=Qc hb
   split at hs
   ·rename_i cs hrow hxs
    split at hs
    ·rename_i hc
     obtain⟨rfl,rfl,rfl,hmax,hsz,hlit⟩:=hc
     simp only [Option.some.injEq,Prod.mk.injEq] at hs
     obtain⟨rfl,rfl⟩:=hs
     obtain⟨L,us,m⟩:=h.meet b1 b2
     cases hx with
     | ptr g k1 k2 k3 k4 k5=>
      rename_i L'
      have hL:L' = L:=by
       have:=m.box
       rw [k1] at this
       cases this
       rfl
      subst hL
      obtain⟨n0,c0,hv⟩:=k3 (m.tot.trans b3)
      have hrep:=m.CU
      rw [hxs] at hrep
      obtain⟨ws,hus,hcs⟩:∃ws:List Value,us=[.agg ws.toArray]/\AL σ w cs ws:=by
       cases hrep with
       | agg q1 q2 q3=>cases q3;exact⟨_,rfl,q1⟩
      obtain⟨c1,c2,c3⟩:=lS hcs hlit
      have hlen:ws.length=cs.length:=hcs.length.symm
      have hesz:L'.AZ=cs.length:=by
       have:=m.sizes (.agg ws.toArray) (by rw [hus];simp)
       simp only [Value.cells,List.size_toArray] at this
       omega
      have hflat:flat us=ws:=by rw [hus,KI];rfl
      obtain⟨inf,d,hi',hd,q1,q2,q3,q4⟩:=Dz (hE.ti _ _ hti)
      have hd' : P.underlying t=some (.array cs.length e):=by
       rw [hP] at hd
       rw [hd]
       cases d<;>simp [JM] at q1
       rw [q1.1,q1.2]
      obtain⟨ei,hei,hez⟩:∃ei,E.ti e=some ei/\ei.size=1:=by
       unfold Env.size at hsz
       simp_all
      obtain⟨infe,de,hie,hde,e1,e2,e3,e4⟩:=Dz (hE.ti _ _ hei)
      rw [hP] at hie
      obtain⟨hI,hEx⟩:=h.freeze [id]
      have htk:=(hcs.take m').ext hEx
      obtain⟨c1',c2',c3'⟩:=lS htk (List.all_eq_true.2 fun x hx=>List.all_eq_true.1 hlit x (List.mem_of_mem_take hx))
      have hml:(cs.take m').length=m' :=by rw [List.length_take];omega
      refine⟨.slice (some ⟨g,0,none⟩) (cs.take m').length cs.length,_,?_,hI,hEx,?_⟩
      ·rw [k4,hml]
       simp [Instr.sliceAt,Instr.sureAddr,bd,run_underlying hd',sizeOf,typeInfo,hie,Addr.add_mid]
      ·refine .sl g 0 cs.length 1 htk c3' (fun u hu=>by rw [(c1' u hu).1];rfl) (fun u hu=>by simp_all) (by omega) hmax ?_ .nil
       intro j u hu
       rw [c2',List.getElem?_take] at hu
       split at hu
       rotate_left
       ·cases hu
       have hj:j<cs.length:=by rw [<- hlen];exact(List.getElem?_eq_some_iff.1 hu).1
       refine⟨.inr ⟨id,b,L',by simp,b1,b2,m.box,by rw [hv];rfl,?_⟩,?_⟩
       ·grind
       ·rw [Nat.zero_add];exact m.cell (g:=g) (by rw [hv];rfl) j u (by rw [hflat];exact hu)
    ·cases hs
   ·cases hs
  ·cases hs
 ·cases hs
theorem Zjo {E σ w} {P:Program} (hE:BP E) (hP:E.P=P) {t:TypeId} {x r:V} {v:Value} (hx:AL σ w [x] [v]) (hs:SS E t x=some r):∃u,(Instr.arrayAt t v).run P w = .ok u w/\AL σ w [r] [u]:=by
 unfold SS at hs
 split at hs
 ·rename_i n e sz0 by' z0 sz xs hti
  split at hs
  ·rename_i hc
   obtain⟨hsz,rfl,hn,hle,hlit⟩:=hc
   simp only [Option.some.injEq] at hs
   subst hs
   obtain⟨inf,d,hi',hd,q1,q2,q3,q4⟩:=Dz (hE.ti _ _ hti)
   have hd' : P.underlying t=some (.array n e):=by
    rw [hP] at hd
    rw [hd]
    cases d<;>simp [JM] at q1
    rw [q1.1,q1.2]
   cases hx with
   | Dj _=>simp at hle;omega
   | EG a _=>simp at hle;omega
   | sl b o c e' k0 k1 k2 k3 k4 k5 k6 k7=>
    rename_i us
    have htk:=k0.take n
    obtain⟨c1,c2,c3⟩:=lS htk hlit
    have hlen:(us.take n).length=n:=by
     have:=k0.length
     rw [List.length_take];omega
    refine⟨.pointer (some ⟨b,o,none⟩),?_,?_⟩
    ·simp [Instr.arrayAt,run_underlying hd',Nat.not_lt.2 hle]
    ·have key:AL σ w [.BK n [.agg (xs.take n)] 0 0] [.pointer (some ⟨b,o+0*n+0,none⟩)]:=by
      refine .BK (us:=[.agg (us.take n).toArray]) b o n 0 0 (.agg htk (fun u hu=>(c1 u hu).2) .nil) ?_ ?_ ?_ ?_ .nil
      ·intro y hy
       simp only [List.mem_singleton] at hy
       subst hy
       have:BJ (xs.take n)=true:=MZ c3
       simp [Dp,okV,BQ,this]
      ·intro u hu
       simp only [List.mem_singleton] at hu
       subst hu
       simpa [Value.cells] using hlen
      ·intro u hu
       rw [KI] at hu
       exact(c1 u (by simpa [Value.cells] using hu)).2
      ·intro j u hu
       rw [KI] at hu
       have hu' : (us.take n)[j]? = some u:=by simpa [Value.cells] using hu
       rw [<- c2,Tz k2,List.getElem?_take] at hu'
       split at hu'
       ·exact k6 j u hu'
       ·cases hu'
     simpa using key
  ·cases hs
 ·cases hs
theorem Zgh {E B w0 σ H w} {P:Program} (hE:BP E) (hP:E.P=P) (h:Inv B w0 σ H w) {k:Nat} (hk0:EL H k=true) {src dst:TypeId} {x r:V} {v:Value} {H' : Heap} (hx:AL σ w [x] [v]) (hsrc:E.isStr src=true) (hdst:E.isBytes dst=true) (hc:Jn E k H dst x=some (r,H')) :
  ∃u w' σ',(convert src dst v).run P w = .ok u w' /\ Inv B w0 σ' H' w' /\ Ext σ w σ' w' /\ AL σ' w' [r] [u]:=by
 unfold Jn at hc
 split at hc
 ·rename_i st e sz by' z0 hti
  split at hc
  ·simp only [Option.some.injEq,Prod.mk.injEq] at hc
   obtain⟨rfl,rfl⟩:=hc
   cases hx with
   | lit hl _=>
    have hlen:st.size<=maxLen:=by simpa [leaf] using hl
    obtain⟨e',h1,h2⟩:=hE.isBytes _ hdst
    have h0:=hE.isStr _ hsrc
    rw [hP] at h0 h1 h2
    obtain⟨inf,d,hi,hd,q1,q2,q3,q4⟩:=Dz (hE.ti _ _ hti)
    have hee:e' = e:=by
     rw [hP] at hd
     rw [h1] at hd
     cases hd
     have:=q1
     simp only [JM,Ty.slice.injEq] at this
     exact this.symm
    subst hee
    have hrun:=run_bytes_of_string (P:=P) w src dst e' st h0 h1 h2
    have hus:∀u∈(st.data.toList.map fun b=>Value.int .u8 b.toNat),u.cells.size=1/\u.oneCell' = true:=by
     intro u hu
     obtain⟨b,_,rfl⟩:=List.mem_map.1 hu
     exact⟨rfl,rfl⟩
    have hflat:flat (st.data.toList.map fun b=>Value.int .u8 b.toNat)=st.data.toList.map fun b=>Value.int .u8 b.toNat:=by
     have:∀l:List Value,(∀u∈l,u.cells = #[u])->flat l=l:=by
      intro l
      induction l with
      | nil=>intro _;rfl
      | cons u l ih=>intro hh;rw [JC,hh u (by simp),ih (fun v hv=>hh v (by simp [hv]))];rfl
     refine this _ (fun u hu=>?_)
     obtain⟨b,_,rfl⟩:=List.mem_map.1 hu
     rfl
    have hsz:st.data.toList.length=st.size:=Array.length_toList
    have hge:=grownCap_ge w st.size 0 e'
    have hbs:(bytesRow st (grownCap w st.size 0 e')).size=grownCap w st.size 0 e' :=by
     simp only [bytesRow,Array.size_append,Array.size_map,Array.size_replicate]
     have:st.data.size=st.size:=rfl
     omega
    have hown:E5 (w.drew.alloc (.cells (bytesRow st (grownCap w st.size 0 e')) e' ((bytesRow st (grownCap w st.size 0 e')).size,(bytesRow st (grownCap w st.size 0 e')).size+1))) B e' 1 (.slice (some ⟨w.heap.size,0,none⟩) st.size (grownCap w st.size 0 e')) (bytesV st).length (flat (st.data.toList.map fun b=>Value.int .u8 b.toNat)):=by
     have hbl:(bytesV st).length=st.size:=by simp only [bytesV,List.length_map];exact hsz
     rw [hbl,hflat]
     refine⟨by simp_all,.inr ⟨w.heap.size,_,_,_,rfl,h.size,heap_alloc_new w.drew _,.inr (Nat.le_refl _),hge,grownCap_le_maxLen w st.size 0 e' hlen,by rw [hbs,Nat.mul_one],?_⟩⟩
     rw [Nat.mul_one]
     simp only [bytesRow,Array.toList_append,Array.toList_map]
     simp_all
    have hgr:w.grownBy (w.drew.alloc (.cells (bytesRow st (grownCap w st.size 0 e')) e' ((bytesRow st (grownCap w st.size 0 e')).size,(bytesRow st (grownCap w st.size 0 e')).size+1))) none:=
     ⟨rfl,rfl,rfl,by simp,fun k hk _=>heap_alloc_old w.drew _ hk⟩
    have hreps:∀l:List UInt8,AL σ w (l.map fun c=>V.lit (.int .u8 c.toNat)) (l.map fun b=>Value.int .u8 b.toNat):=by
     intro l
     induction l with
     | nil=>exact .nil
     | cons b l ih=>
      refine .lit ?_ ih
      have:=b.toNat_lt
      simp [leaf,Lit.wf,IntKind.min,IntKind.max,IntKind.signed,IntKind.bits]
      omega
    obtain⟨σ',g1,g2,g3⟩:=KQ (e:=e') (AZ:=1) h hk0 hgr (xs:=bytesV st) (hreps st.data.toList)
     (fun x hx=>by obtain⟨b,_,rfl⟩:=List.mem_map.1 hx;rfl) (fun u hu=>(hus u hu).1) (fun u hu=>by grind) hown (by simp [Value.ownBlock]) false (by simp)
    have hbl:(bytesV st).length=st.size:=by simp only [bytesV,List.length_map];exact hsz
    grind
  ·cases hc
 ·cases hc
theorem Zjz {E B w0 σ H w} {P:Program} (hE:BP E) (hP:E.P=P) (h:Inv B w0 σ H w) {src dst:TypeId} {x r:V} {v:Value} {H' : Heap} (hx:AL σ w [x] [v]) (hc:Gf E H src dst x=some (r,H')) :
  H' = H/\∃u,(convert src dst v).run P w = .ok u w/\AL σ w [r] [u]:=by
 unfold Gf at hc
 split at hc
 ·split at hc
  ·rename_i k hk
   split at hc
   ·rename_i hsrc
    simp only [Option.some.injEq,Prod.mk.injEq] at hc
    obtain⟨rfl,rfl⟩:=hc
    have hd:P.underlying dst=some (.int k):=by rw [<- hP];exact hE.kind dst k hk
    cases hti:E.ti src with
    | none=>simp [hti] at hsrc
    | some i=>
     obtain⟨inf,d,hi,hds,_⟩:=Dz (hE.ti _ _ hti)
     rw [hP] at hds
     cases hx with
     | lit l _=>
      refine⟨rfl,_,?_,.lit (show (Lit.int _ _).wf=true from wf_wrap _ _) .nil⟩
      simp [convert,run_underlying hds,run_underlying hd,Conv.intToInt]
   ·cases hc
  ·cases hc
 ·split at hc
  ·rename_i hst
   simp only [Bool.and_eq_true] at hst
   simp only [Option.some.injEq,Prod.mk.injEq] at hc
   obtain⟨rfl,rfl⟩:=hc
   have h1:P.underlying src=some .string:=by rw [<- hP];exact hE.isStr _ hst.1
   have h2:P.underlying dst=some .string:=by rw [<- hP];exact hE.isStr _ hst.2
   cases hx with
   | lit l _=>
    refine⟨rfl,_,?_,.lit l .nil⟩
    simp [convert,run_underlying h1,run_underlying h2]
  ·cases hc
 ·split at hc
  ·rename_i hn1 hn2 hst
   simp only [Bool.and_eq_true] at hst
   obtain⟨⟨s1,s2⟩,s3⟩:=hst
   split at hc
   ·rename_i xs hxs
    split at hc
    ·rename_i bs hbs
     split at hc
     ·rename_i hlen
      simp only [Option.some.injEq,Prod.mk.injEq] at hc
      obtain⟨rfl,rfl⟩:=hc
      obtain⟨us,S⟩:=src_ok h hx hxs s3
      obtain⟨ns,e1,e2⟩:=Z1t S.CU hbs
      have hd:P.underlying dst=some .string:=by rw [<- hP];exact hE.isStr _ s1
      obtain⟨e,hs,he⟩:=hE.isBytes _ s2
      rw [hP] at hs he
      refine⟨rfl,.string ⟨bs.toArray⟩,?_,.lit (by simpa [leaf,ByteArray.size] using hlen) .nil⟩
      rcases S.val with ⟨hv,hy,hu⟩|⟨b,o,c,hv,hc,hcell⟩
      ·subst hy
       simp only [bytesOf,Option.some.injEq] at hbs
       subst hbs
       rcases hv with rfl|⟨a,k,rfl⟩
       ·rw [run_convert_bytes_string w src dst e _ _ _ hs he hd]
        rfl
       ·rw [run_convert_bytes_string w src dst e _ _ _ hs he hd]
        have hload:=run_loadCells_list (P:=P) w a [] (fun j v hj=>by simp at hj)
        rw [run_bytesToString (P:=P) w a 0 k [] (by simpa using hload)]
        rfl
      ·subst hv
       rw [run_convert_bytes_string w src dst e _ _ _ hs he hd]
       have hfl:flat us=us:=by
        rw [e1]
        clear e1 e2 hcell
        induction ns with
        | nil=>rfl
        | cons n ns ih=>simp [flat,Value.cells] at ih ⊢;exact ih
       have hll:xs.length=us.length:=S.CU.length
       have hload:=run_loadCells_list (P:=P) w ⟨b,o,none⟩ us (fun j v hj=>by rw [Addr.add_mid];exact hcell j v (by rw [hfl];exact hj))
       rw [run_bytesToString (P:=P) w ⟨b,o,none⟩ xs.length c ns (by rw [hll,hload,e1])]
       rw [ZdI,e2]
       simp
     ·cases hc
    ·cases hc
   ·cases hc
  ·cases hc
theorem rY {P:Program} {σ w} (isMax:Bool):∀{xs:List V} {vs:List Value} {k:IntKind} {a:Int} {r:V},AL σ w xs vs->leaf (.int k a)=true->mm isMax k a xs=some r ->
  ∃u,(vs.foldlM (if isMax then Builtin.max2 else Builtin.min2) (.int k a)).run P w = .ok u w/\AL σ w [r] [u]
 | [],vs,k,a,r,h,hl,hm=>by
  cases h.EN
  simp only [mm,Option.some.injEq] at hm
  subst hm
  exact⟨_,rfl,.lit hl .nil⟩
 | x::xs,vs,k,a,r,h,hl,hm=>by
  obtain⟨v,vs',rfl,h1,h2⟩:=h.Cf
  unfold mm at hm
  split at hm
  ·rename_i h3;cases h3
  ·rename_i j b rest h3
   cases h3
   split at hm
   ·rename_i hk
    subst hk
    cases h1 with
    | lit l1 _=>
    cases isMax
    ·simp only [Bool.false_eq_true,if_false] at hm ⊢
     obtain⟨u,hu,hr⟩:=rY (P:=P) false h2 (by split<;>assumption) hm
     simp only [Bool.false_eq_true,if_false] at hu
     exact⟨u,by rw [List.foldlM_cons];simp only [Builtin.min2,Sem.run_bind,Sem.run_pure,Result.andThen_ok];exact hu,hr⟩
    ·simp only [if_true] at hm ⊢
     obtain⟨u,hu,hr⟩:=rY (P:=P) true h2 (by split<;>assumption) hm
     simp only [if_true] at hu
     exact⟨u,by rw [List.foldlM_cons];simp only [Builtin.max2,Sem.run_bind,Sem.run_pure,Result.andThen_ok];exact hu,hr⟩
   ·cases hm
  ·cases hm
end Go.Proofs.YtlabamnhpgoekaaGreatDoor.Le
namespace Go.Proofs.YtlabamnhpgoekaaGreatDoor.Le
open Go.RowKit (Below)
def IV (P:Program) (E:Env) (B:Nat) (w0:Start) (call:CS):Prop:=
 ∀(f:FuncId) (args:List V) (H:Heap) (x:V) (H' : Heap) (σ:Sg) (w:World) (vs:List Value),call f args H=some (x,H')->Inv B w0 σ H w->CW E σ w->AL σ w args vs ->
  (∃fn,P.funcs[f]? = some fn/\fn.body.isNone=false/\(fn.name == "runtime.NumGoroutine")=false) /\
  Calls P f vs.toArray w fun e w' =>∃u σ',e = .returned u/\Inv B w0 σ' H' w' /\ Ext σ w σ' w' /\ AL σ' w' [x] [u]
section
variable {P:Program} {o:Oper} {a:Act} {w:World} {next:Act->World->Prop} {Q:Exit->Act->World->Prop}
theorem Gx {s:Sem Value} {u:Value} {w' : World} (he:execOp a.eval o=(do let x <- s;pure (Next.value x))) (hr:s.run P w = .ok u w') (hn:next (a.put o.dst u) w'):o.wp P a w next Q:=by
 unfold Oper.wp
 rw [he]
 simp only [Sem.run_bind,hr,Result.andThen_ok,Sem.run_pure]
 exact hn
theorem Zh3 {s:Sem Unit} {w' : World} (he:execOp a.eval o=(do s;pure Next.skip)) (hr:s.run P w = .ok () w') (hn:next (a.put o.dst undef) w'):o.wp P a w next Q:=by
 unfold Oper.wp
 rw [he]
 simp only [Sem.run_bind,hr,Result.andThen_ok,Sem.run_pure]
 exact hn
end
theorem Z2A {E:Env} {σ w s} {a:Act} (hg:CW E σ w) (h:AL σ w s a.tmps.toList) (parts:List (Nat×Operand)) :
  Parts σ w (parts.map fun(i,x)=>(i,ev E s x)) (parts.map fun(i,x)=>(i,a.eval x)):=by
 induction parts with
 | nil=>exact .nil
 | cons p ps ih=>exact .cons (D8 hg h p.2) ih
theorem Qh {E:Env} {σ w s} {a:Act} (hg:CW E σ w) (h:AL σ w s a.tmps.toList) (x:Option Operand):Ie σ w (x.map (ev E s)) (x.map a.eval):=by
 cases x with
 | none=>exact .none
 | some x=>exact .some (D8 hg h x)
theorem nI {B w0 σ H w} (h:Inv B w0 σ H w) {x x' : V} {v:Value} (hr:AL σ w [x] [v]) (hf:IB H x=some x') (ids:List Nat) (hids:∀i∈MK x,i∈ids) :
  AL (σ.freeze H ids) w [x'] [v]:=by
 unfold IB at hf
 split at hf
 ·rename_i vs
  cases hr with
  | Aw h1 _=>
   cases hl:EE H vs with
   | none=>simp [hl] at hf
   | some vs' =>
    simp only [hl,Option.map_some,Option.some.injEq] at hf
    subst hf
    exact .Aw (Wi h h1 hl ids hids) .nil
 ·refine Xf h hr hf ids (fun i hi=>hids i ?_)
  cases x<;>simp_all [MK]
def EP (P:Program) (E:Env) (B:Nat) (w0:Start) (call:CS) (σ:Sg) (k:Nat) (H:Heap) (w:World) (s:List V) (a:Act) (o:Oper):Prop:=
 ∀x H',Ak call E k H s o=some (x,H')->∀(next:Act->World->Prop) (Q:Exit->Act->World->Prop),
  (∀u w' σ',Inv B w0 σ' H' w' -> Ext σ w σ' w' -> AL σ' w' [x] [u]->next (a.put o.dst u) w')->o.wp P a w next Q
section
variable {E:Env} {B:Nat} {w0:Start} {σ:Sg} {H:Heap} {w:World} {P:Program} {call:CS} {s:List V} {a:Act} {o:Oper} {k:Nat}
theorem JW {y:Option V} {m:Sem Value} (hI:Inv B w0 σ H w) (he:execOp a.eval o=(do let x <- m;pure (Next.value x))) (hd:Ak call E k H s o=y.map (·,H))
  (h:∀x,y=some x->∃u,m.run P w = .ok u w/\AL σ w [x] [u]):EP P E B w0 call σ k H w s a o:=by
 intro x H' ho next Q hn
 rw [hd] at ho
 cases y with
 | none=>cases ho
 | some x' =>
  simp only [Option.map_some,Option.some.injEq,Prod.mk.injEq] at ho
  obtain⟨rfl,rfl⟩:=ho
  obtain⟨u,hu,hr⟩:=h x' rfl
  exact Gx he hu (hn _ w σ hI (Ext.refl σ w) hr)
theorem Z1o {y:V} {u:Value} (hI:Inv B w0 σ H w) (he:execOp a.eval o=pure (Next.value u)) (hd:Ak call E k H s o=some (y,H)) (h:AL σ w [y] [u]):EP P E B w0 call σ k H w s a o:=
 JW (m:=pure u) (y:=some y) hI (by rw [he];rfl) hd (fun x hx=>⟨u,rfl,by cases hx;exact h⟩)
theorem Zda (hI:Inv B w0 σ H w) (hg:CW E σ w) (hs:AL σ w s a.tmps.toList) {y:Operand} (hop:o.op = .move y):EP P E B w0 call σ k H w s a o:=
 Z1o hI (u:=a.eval y) (y:=ev E s y) (by unfold execOp;rw [hop]) (by unfold Ak;rw [hop]) (D8 hg hs y)
theorem Zad (hk0:EL H k=true) (hI:Inv B w0 σ H w) (hg:CW E σ w) (hs:AL σ w s a.tmps.toList) {y:Operand} (hop:o.op = .assign y):EP P E B w0 call σ k H w s a o:=by
 by_cases hy:y = .const (.slice none 0 0)
 ·subst hy
  intro x H' ho next Q hn
  unfold Ak at ho
  rw [hop] at ho
  simp only at ho
  split at ho
  ·rename_i e sz by' z0 hti
   simp only [Option.some.injEq,Prod.mk.injEq] at ho
   obtain⟨rfl,rfl⟩:=ho
   obtain⟨σ',h1,h2,h3⟩:=KQ (e:=e) (AZ:=(E.size e).getD 0) hI hk0 (grownBy_refl w none) (xs:=[]) (us:=[]) .nil (by simp) (by simp) (by simp [flat]) (Qw w B e _) (by simp [Value.ownBlock]) false (by simp)
   unfold Oper.wp execOp
   rw [hop]
   exact hn _ w σ' h1 h2 h3
  ·cases ho
 ·refine Z1o hI (u:=a.eval y) (y:=ev E s y) (by unfold execOp;rw [hop]) ?_ (D8 hg hs y)
  unfold Ak
  simp_all
theorem ZdE (hI:Inv B w0 σ H w) (hg:CW E σ w) (hs:AL σ w s a.tmps.toList) {c y z:Operand} (hop:o.op = .pick c y z):EP P E B w0 call σ k H w s a o:=by
 intro x H' ho next Q hn
 unfold Ak at ho
 rw [hop] at ho
 simp only at ho
 split at ho
 ·rename_i t hc
  simp only [Option.some.injEq,Prod.mk.injEq] at ho
  obtain⟨rfl,rfl⟩:=ho
  have hcv:=D8 hg hs c
  rw [hc] at hcv
  have hcb:a.eval c = .bool t:=by generalize a.eval c=cv at hcv;cases hcv;rfl
  unfold Oper.wp execOp
  rw [hop]
  simp only [hcb,asBool,Sem.run_bind,Sem.run_pure,Result.andThen_ok]
  refine hn _ w σ hI (Ext.refl σ w) ?_
  cases t
  ·exact D8 hg hs z
  ·exact D8 hg hs y
 ·cases ho
theorem ZbD (hE:BP E) (hP:E.P=P) (hk0:EL H k=true) (hI:Inv B w0 σ H w) {t:TypeId} (hop:o.op = .alloc t):EP P E B w0 call σ k H w s a o:=by
 intro x H' ho next Q hn
 unfold Ak at ho
 rw [hop] at ho
 simp only at ho
 split at ho
 ·rename_i i hti
  split at ho
  ·rename_i z hz
   split at ho
   ·rename_i hc
    simp only [Option.some.injEq,Prod.mk.injEq] at ho
    obtain⟨rfl,rfl⟩:=ho
    obtain⟨inf,zv,hi,hzv,hsz,hbz,hzr⟩:=X8 hE hP hti hz σ w
    obtain⟨w',σ',hrun,h1,h2,h3⟩:=Z1B (P:=P) hI hk0 t hzr hc.2 hc.1
    refine Gx (s:=Instr.alloc t true (.tuple #[])) (u:=.pointer (some ⟨w.heap.size,0,none⟩)) (w' :=w') (by unfold execOp;rw [hop]) ?_ (hn _ w' σ' h1 h2 h3)
    simp [Instr.alloc,zeroValue,typeInfo,hi,hzv,hrun]
   ·cases ho
  ·cases ho
 ·cases ho
theorem ZeG (hk0:EL H k=true) (hI:Inv B w0 σ H w) (hg:CW E σ w) (hs:AL σ w s a.tmps.toList) {t:TypeId} {y:Operand} (hop:o.op = .box t y):EP P E B w0 call σ k H w s a o:=by
 intro x H' ho next Q hn
 unfold Ak at ho
 rw [hop] at ho
 simp only at ho
 split at ho
 ·rename_i i hti
  split at ho
  ·rename_i hc
   simp only [Option.some.injEq,Prod.mk.injEq] at ho
   obtain⟨rfl,rfl⟩:=ho
   obtain⟨w',σ',hrun,h1,h2,h3⟩:=Z1B (P:=P) hI hk0 t (D8 hg hs y) hc.2 hc.1
   refine Gx (s:=Instr.box t (a.eval y)) (u:=.pointer (some ⟨w.heap.size,0,none⟩)) (w' :=w') (by unfold execOp;rw [hop]) ?_ (hn _ w' σ' h1 h2 h3)
   simp [Instr.box,hrun]
  ·cases ho
 ·cases ho
theorem ZbY (hE:BP E) (hP:E.P=P) (hI:Inv B w0 σ H w) (hg:CW E σ w) (hs:AL σ w s a.tmps.toList) {t:TypeId} {parts:Array (Nat×Operand)} (hop:o.op = .build t parts):EP P E B w0 call σ k H w s a o:=
 JW (m:=Instr.build t (parts.map fun(i,x)=>(i,a.eval x))) hI (by unfold execOp;rw [hop]) (by unfold Ak;rw [hop])
  (fun x hx=>Zfz hE hP (by simpa using Z2A hg hs parts.toList) hx)
theorem Z7v (hE:BP E) (hP:E.P=P) (hk0:EL H k=true) (hI:Inv B w0 σ H w) (hg:CW E σ w) (hs:AL σ w s a.tmps.toList) {t:TypeId} {n:Nat} {parts:Array (Nat×Operand)} (hop:o.op = .buildSlice t n parts):EP P E B w0 call σ k H w s a o:=by
 intro x H' ho next Q hn
 unfold Ak at ho
 rw [hop] at ho
 simp only at ho
 obtain⟨vp,hvp⟩:∃vp:Array (Nat×Value),vp=parts.map (fun(i,x)=>(i,a.eval x)):=⟨_,rfl⟩
 obtain⟨u,w',σ',hu,h1,h2,h3⟩:=Z9D (P:=P) (vparts:=vp) hE hP hI hk0 (by rw [hvp];simpa using Z2A hg hs parts.toList) ho
 exact Gx (s:=Instr.buildSlice t n vp) (by unfold execOp;rw [hop,hvp]) hu (hn _ w' σ' h1 h2 h3)
theorem Zdt (hE:BP E) (hP:E.P=P) (hI:Inv B w0 σ H w) (hg:CW E σ w) (hs:AL σ w s a.tmps.toList) {t:TypeId} {y:Operand} (hop:o.op = .load t y):EP P E B w0 call σ k H w s a o:=
 JW (m:=Instr.loadAt t (a.eval y)) hI (by unfold execOp;rw [hop]) (by unfold Ak;rw [hop]) (fun x hx=>Z3n hE hP hI (D8 hg hs y) hx)
theorem Zc6 (hE:BP E) (hP:E.P=P) (hI:Inv B w0 σ H w) (hg:CW E σ w) (hs:AL σ w s a.tmps.toList) {t:TypeId} {y z:Operand} (hop:o.op = .store t y z):EP P E B w0 call σ k H w s a o:=by
 intro x H' ho next Q hn
 unfold Ak at ho
 rw [hop] at ho
 simp only at ho
 cases hb:JZ E H t (ev E s y) (ev E s z) with
 | none=>simp [hb] at ho
 | some H2=>
  simp only [hb,Option.map_some,Option.some.injEq,Prod.mk.injEq] at ho
  obtain⟨rfl,rfl⟩:=ho
  obtain⟨w',σ',hu,h1,h2⟩:=ZgE (P:=P) hE hP hI (D8 hg hs y) (D8 hg hs z) hb
  exact Zh3 (s:=Instr.storeAt t (a.eval y) (a.eval z)) (by unfold execOp;rw [hop]) hu (hn _ w' σ' h1 h2 (.no .nil))
theorem Z8L (hI:Inv B w0 σ H w) (hg:CW E σ w) (hs:AL σ w s a.tmps.toList) {y:Operand} (hop:o.op = .nilCheck y):EP P E B w0 call σ k H w s a o:=by
 intro x H' ho next Q hn
 unfold Ak at ho
 rw [hop] at ho
 simp only at ho
 split at ho
 ·rename_i hnil
  simp only [Option.some.injEq,Prod.mk.injEq] at ho
  obtain⟨rfl,rfl⟩:=ho
  have hv:=D8 hg hs y
  have hrun:execOp a.eval o=pure (Next.value (a.eval y)):=by
   unfold execOp
   rw [hop]
   simp only
   generalize ev E s y=ey at hv hnil
   generalize a.eval y=vy at hv
   cases hv with
   | FI _ _ _ _ _ _ _=>cases hnil
   | und _ _=>cases hnil
   | no _=>cases hnil
   | @lit v _ _ hl _=>unfold P9 at hnil;split at hnil<;>simp_all
   | agg _ _ _=>cases hnil
   | Aw _ _=>cases hnil
   | Dj _=>rfl
   | EG a _=>rfl
   | Eg _=>rfl
   | Es a _=>rfl
   | sl _ _ _ _ _ _ _ _ _ _ _ _=>rfl
   | BR _ _ _ _ _ _ _ _ _ _=>rfl
   | Az _ _ _ _ _=>cases hnil
   | ptr g _ _ _ h4 _=>subst h4;rfl
   | BK _ _ _ _ _ _ _ _ _ _ _=>rfl
   | fn _ _ _=>rfl
   | FD _ _=>rfl
  unfold Oper.wp
  rw [hrun]
  exact hn _ w σ hI (Ext.refl σ w) hv
 ·cases ho
theorem Zc0 (hE:BP E) (hP:E.P=P) (hI:Inv B w0 σ H w) (hg:CW E σ w) (hs:AL σ w s a.tmps.toList) {op:BinOp} {t yt:TypeId} {y z:Operand} (hop:o.op = .binOp op t y z yt):EP P E B w0 call σ k H w s a o:=
 JW (m:=(do eqGuard op t y z (a.eval y) (a.eval z);binOp op t (a.eval y) (a.eval z))) hI (by unfold execOp;rw [hop]) (by unfold Ak;rw [hop])
  (fun x hx=>by
   obtain⟨u,hu1,hu2,hr⟩:=ZlD (P:=P) hE hP y z (D8 hg hs y) (D8 hg hs z) hx
   simp_all)
theorem Zdg (hI:Inv B w0 σ H w) (hg:CW E σ w) (hs:AL σ w s a.tmps.toList) {op:UnOp} {t:TypeId} {y:Operand} (hop:o.op = .unOp op t y):EP P E B w0 call σ k H w s a o:=
 JW (m:=Op.unary op (a.eval y)) hI (by unfold execOp;rw [hop]) (by unfold Ak;rw [hop]) (fun x hx=>un_ok (D8 hg hs y) hx)
theorem Z9c (hE:BP E) (hP:E.P=P) (hk0:EL H k=true) (hI:Inv B w0 σ H w) (hg:CW E σ w) (hs:AL σ w s a.tmps.toList) {src dst:TypeId} {y:Operand} (hop:o.op = .convert src dst y):EP P E B w0 call σ k H w s a o:=by
 intro x H' ho next Q hn
 unfold Ak at ho
 rw [hop] at ho
 simp only at ho
 split at ho
 ·rename_i hb
  simp only [Bool.and_eq_true] at hb
  obtain⟨u,w',σ',hu,i1,i2,i3⟩:=Zgh (P:=P) hE hP hI hk0 (D8 hg hs y) hb.1 hb.2 ho
  exact Gx (s:=convert src dst (a.eval y)) (by unfold execOp;rw [hop]) hu (hn _ w' σ' i1 i2 i3)
 obtain⟨rfl,u,hu,hr⟩:=Zjz (P:=P) hE hP hI (D8 hg hs y) ho
 exact Gx (s:=convert src dst (a.eval y)) (by unfold execOp;rw [hop]) hu (hn _ w σ hI (Ext.refl σ w) hr)
theorem Z7I (hE:BP E) (hP:E.P=P) (hk0:EL H k=true) (hI:Inv B w0 σ H w) (hg:CW E σ w) (hs:AL σ w s a.tmps.toList) {t:TypeId} {l c:Operand} (hop:o.op = .makeSlice t l c):EP P E B w0 call σ k H w s a o:=by
 intro x H' ho next Q hn
 unfold Ak at ho
 rw [hop] at ho
 simp only at ho
 split at ho
 ·rename_i e sz by' z0 kl n kc m hti hl hc
  split at ho
  ·rename_i ei hei
   split at ho
   ·rename_i z hz
    split at ho
    ·rename_i hcond
     obtain⟨c1,c2,c3,c4,c5,c6,c7⟩:=hcond
     simp only [Option.some.injEq,Prod.mk.injEq] at ho
     obtain⟨rfl,rfl⟩:=ho
     obtain⟨inf,d,hi,hd,q1,q2,q3,q4⟩:=Dz (hE.ti _ _ hti)
     have hd' : P.underlying t=some (.slice e):=by rw [hP] at hd;rw [hd,LV q1]
     have hlv:=D8 hg hs l
     have hcv:=D8 hg hs c
     rw [hl] at hlv
     rw [hc] at hcv
     have e1:a.eval l = .int kl n:=by generalize a.eval l=q at hlv;cases hlv;rfl
     have e2:a.eval c = .int kc m:=by generalize a.eval c=q at hcv;cases hcv;rfl
     obtain⟨u,w',σ',hu,h1,h2,h3⟩:=ZhD (P:=P) (kl:=kl) (kc:=kc) hE hP hI hk0 hd' hei hz c1 c2 c3 c4 c5 c6 c7 _
     exact Gx (s:=Instr.makeSlice t (a.eval l) (a.eval c)) (by unfold execOp;rw [hop]) (by rw [e1,e2];exact hu) (hn _ w' σ' h1 h2 h3)
    ·cases ho
   ·cases ho
  ·cases ho
 ·cases ho
theorem ZbG (hE:BP E) (hP:E.P=P) (hI:Inv B w0 σ H w) (hg:CW E σ w) (hs:AL σ w s a.tmps.toList) {t:TypeId} {y:Operand} {lo hi mx:Option Operand} (hop:o.op = .slice t y lo hi mx):EP P E B w0 call σ k H w s a o:=by
 intro x H' ho next Q hn
 unfold Ak at ho
 rw [hop] at ho
 simp only at ho
 split at ho
 ·rename_i n e sz by' z0 hti
  obtain⟨u,σ',hu,h1,h2,h3⟩:=ZeN (P:=P) (lo' :=lo.map a.eval) (hi' :=hi.map a.eval) (mx' :=mx.map a.eval) hE hP hI hti (D8 hg hs y) (Qh hg hs lo) (Qh hg hs hi) (Qh hg hs mx) ho
  exact Gx (s:=Instr.sliceAt t (a.eval y) (lo.map a.eval) (hi.map a.eval) (mx.map a.eval)) (by unfold execOp;rw [hop]) hu (hn _ w σ' h1 h2 h3)
 obtain⟨u,σ',hu,h1,h2,h3⟩:=Zg9 (P:=P) hE hP hI (D8 hg hs y) (Qh hg hs lo) (Qh hg hs hi) (Qh hg hs mx) ho
 exact Gx (s:=Instr.sliceAt t (a.eval y) (lo.map a.eval) (hi.map a.eval) (mx.map a.eval)) (by unfold execOp;rw [hop]) hu (hn _ w σ' h1 h2 h3)
theorem Zeo (hE:BP E) (hP:E.P=P) (hI:Inv B w0 σ H w) (hg:CW E σ w) (hs:AL σ w s a.tmps.toList) {t:TypeId} {y:Operand} (hop:o.op = .sliceToArrayPointer t y):EP P E B w0 call σ k H w s a o:=
 JW (m:=Instr.arrayAt t (a.eval y)) hI (by unfold execOp;rw [hop]) (by unfold Ak;rw [hop]) (fun x hx=>Zjo hE hP (D8 hg hs y) hx)
theorem Z7R (hE:BP E) (hP:E.P=P) (hI:Inv B w0 σ H w) (hg:CW E σ w) (hs:AL σ w s a.tmps.toList) {t:TypeId} {y:Operand} {f:Nat} (hop:o.op = .fieldAddr t y f):EP P E B w0 call σ k H w s a o:=
 JW (m:=Instr.fieldAt t (a.eval y) f) hI (by unfold execOp;rw [hop]) (by unfold Ak;rw [hop]) (fun x hx=>Z9T hE hP (D8 hg hs y) hx)
theorem Zb5 (hE:BP E) (hP:E.P=P) (hI:Inv B w0 σ H w) (hg:CW E σ w) (hs:AL σ w s a.tmps.toList) {t:TypeId} {y:Operand} {f:Nat} (hop:o.op = .field t y f):EP P E B w0 call σ k H w s a o:=
 JW (m:=Instr.field t (a.eval y) f) hI (by unfold execOp;rw [hop]) (by unfold Ak;rw [hop]) (fun x hx=>Zgd hE hP (D8 hg hs y) hx)
theorem Z7F (hE:BP E) (hP:E.P=P) (hI:Inv B w0 σ H w) (hg:CW E σ w) (hs:AL σ w s a.tmps.toList) {t:TypeId} {y i:Operand} (hop:o.op = .indexAddr t y i):EP P E B w0 call σ k H w s a o:=
 JW (m:=Instr.indexAt t (a.eval y) (a.eval i)) hI (by unfold execOp;rw [hop]) (by unfold Ak;rw [hop]) (fun x hx=>ZaD hE hP hI (D8 hg hs y) (D8 hg hs i) hx)
theorem Zbm (hE:BP E) (hP:E.P=P) (hI:Inv B w0 σ H w) (hg:CW E σ w) (hs:AL σ w s a.tmps.toList) {t:TypeId} {y i:Operand} (hop:o.op = .index t y i):EP P E B w0 call σ k H w s a o:=
 JW (m:=Instr.index t (a.eval y) (a.eval i)) hI (by unfold execOp;rw [hop]) (by unfold Ak;rw [hop]) (fun x hx=>Zg3 hE hP (D8 hg hs y) (D8 hg hs i) hx)
theorem Z0U {σ:Sg} {w:World} {kd:IntKind} {n:Int}:∀(l:List MapEntry) (kvs:List V) (i:Nat),AL σ w kvs (l.flatMap fun e=>[e.key,e.val]) ->
  (Jh kd n kvs=some none->Instr.findNow (.int kd) (.int kd n) l i=some none)/\(∀v,Jh kd n kvs=some (some v)->∃j u,Instr.findNow (.int kd) (.int kd n) l i=some (some (j,u))/\AL σ w [v] [u])
 | [],kvs,i,h=>by
  cases h
  exact⟨fun _=>rfl,fun v hv=>by cases hv⟩
 | e::l,kvs,i,h=>by
  have h' : AL σ w kvs (e.key::e.val::l.flatMap fun e=>[e.key,e.val]):=h
  cases kvs with
  | nil=>cases h'
  | cons x kvs=>
   obtain⟨h1,h2⟩:=AL.ED.1 h'
   cases kvs with
   | nil=>cases h2
   | cons y kvs=>
    obtain⟨h3,h4⟩:=AL.ED.1 h2
    have ih:=Z0U (kd:=kd) (n:=n) l kvs (i+1) h4
    generalize hk:e.key=key at h1
    have no:(∀k a,x≠.lit (.int k a))->Jh kd n (x::y::kvs)=none:=fun hx=>by
     unfold Jh
     simp_all
    by_cases hx:∃k a,x = .lit (.int k a)
    ·obtain⟨k,a,rfl⟩:=hx
     cases h1 with
     | lit _ _=>
      unfold Jh
      by_cases hkd:k=kd
      ·subst hkd
       simp only [if_true]
       unfold Instr.findNow
       rw [hk]
       simp only [Instr.sameNow,if_true]
       grind
      simp_all
    simp_all
theorem Zfu (hE:BP E) (hP:E.P=P) {t:TypeId} {ok:Bool} {m x r:V} {mv xv:Value} (hm:AL σ w [m] [mv]) (hx:AL σ w [x] [xv]) (h:Rl E t ok m x=some r) :
  ∃v,(Instr.lookup t mv xv ok).run P w = .ok v w/\AL σ w [r] [v]:=by
 unfold Rl at h
 split at h
 ·rename_i k e sz by' z0 kvs kd n hti
  obtain⟨inf,d,hi,hd,q1,q2,q3,q4⟩:=Dz (hE.ti _ _ hti)
  have hd' : P.underlying t=some (.map k e):=by
   rw [hP] at hd
   rw [hd]
   cases d<;>simp [JM] at q1
   exact congrArg some (by rw [q1.1,q1.2])
  split at h
  ·rename_i hkd
   have hk:P.underlying k=some (.int kd):=by rw [<- hP];exact hE.kind _ _ hkd
   cases hm with
   | FI g es c h0 hg hus _=>
    subst hus
    cases hx with
    | lit _ _=>
     obtain⟨f1,f2⟩:=Z0U (kd:=kd) (n:=n) es.toList kvs 0 h0
     have hck:(Instr.checkKey es.isEmpty 10000 k (.int kd n)).run P w = .ok () w:=MapKept.run_checkKey (k:=.int kd n) hk (by simp [MapKept.IsKey]) es.isEmpty 9999
     have hfk:∀q,Instr.findNow (.int kd) (.int kd n) es.toList 0=some q->(Instr.findKey k (.int kd n) es.toList).run P w = .ok q w:=fun q hq=>by simp [Instr.findKey,run_underlying hk,hq]
     split at h
     ·rename_i v hv
      obtain⟨j,u,h1,h2⟩:=f2 v hv
      simp only [Option.some.injEq] at h
      subst h
      refine⟨if ok then .tuple #[u,.bool true] else u,by simp [Instr.lookup,run_underlying hd',MapKept.run_getObj_map hg,hck,hfk _ h1,Result.andThen],?_⟩
      cases ok with
      | true=>exact .Aw (AL.ED.2 ⟨h2,.lit rfl .nil⟩) .nil
      | false=>exact h2
     ·rename_i hv
      have h1:=f1 hv
      split at h
      ·rename_i ei hei
       obtain⟨infe,de,hie,hde,e1,e2,e3,e4⟩:=Dz (hE.ti _ _ hei)
       cases hz:ei.zero with
       | none=>simp [hz] at h
       | some z=>
        simp only [hz,Option.map_some,Option.some.injEq] at h
        subst h
        rw [hz] at e4
        cases hzz:infe.zero with
        | none=>simp [hzz] at e4
        | some zv=>
         simp only [hzz,Option.map_some,Option.some.injEq] at e4
         have hzr:(zeroValue e).run P w = .ok zv w:=by rw [hP] at hie;simp [zeroValue,typeInfo,hie,hzz]
         have h2:=TU σ w zv
         rw [<- e4] at h2
         refine⟨if ok then .tuple #[zv,.bool false] else zv,by simp [Instr.lookup,run_underlying hd',MapKept.run_getObj_map hg,hck,hfk _ h1,hzr,Result.andThen],?_⟩
         cases ok with
         | true=>exact .Aw (AL.ED.2 ⟨h2,.lit rfl .nil⟩) .nil
         | false=>exact h2
      ·cases h
     ·cases h
  ·cases h
 ·cases h
theorem Zam (hE:BP E) (hP:E.P=P) (hI:Inv B w0 σ H w) (hg:CW E σ w) (hs:AL σ w s a.tmps.toList) {t:TypeId} {y i:Operand} {ok:Bool} (hop:o.op = .lookup t y i ok):EP P E B w0 call σ k H w s a o:=
 JW (m:=Instr.lookup t (a.eval y) (a.eval i) ok) hI (by unfold execOp;rw [hop]) (by unfold Ak;rw [hop]) (fun x hx=>Zfu hE hP (D8 hg hs y) (D8 hg hs i) hx)
theorem Z9E (hI:Inv B w0 σ H w) (hg:CW E σ w) (hs:AL σ w s a.tmps.toList) {y:Operand} {i:Nat} (hop:o.op = .extract y i):EP P E B w0 call σ k H w s a o:=by
 intro x H' ho next Q hn
 unfold Ak at ho
 rw [hop] at ho
 simp only at ho
 split at ho
 ·rename_i vs hy
  cases hb:vs[i]? with
  | none=>simp [hb] at ho
  | some r=>
   simp only [hb,Option.map_some,Option.some.injEq,Prod.mk.injEq] at ho
   obtain⟨rfl,rfl⟩:=ho
   have hv:=D8 hg hs y
   rw [hy] at hv
   have:∃ws,a.eval y = .tuple ws.toArray/\AL σ w vs ws:=by
    generalize a.eval y=q at hv
    cases hv with
    | Aw h1 _=>exact⟨_,rfl,h1⟩
   obtain⟨ws,e1,e2⟩:=this
   obtain⟨u,hu,hr⟩:=e2.get hb
   exact Gx (s:=Instr.extract (a.eval y) i) (by unfold execOp;rw [hop]) (by rw [e1];simp [Instr.extract,hu]) (hn _ w σ hI (Ext.refl σ w) hr)
 ·cases ho
theorem Z8q (hI:Inv B w0 σ H w) (hg:CW E σ w) (hs:AL σ w s a.tmps.toList) {f:FuncId} {first caps:Array Operand} (hop:o.op = .makeFunc (.func f) first caps):EP P E B w0 call σ k H w s a o:=
 JW (m:=Instr.makeFunc (.func f) (first.map a.eval) (caps.map a.eval)) (y:=some (.fn f (evs E s first) (evs E s caps))) hI (by unfold execOp;rw [hop]) (by unfold Ak;rw [hop];rfl)
  (fun x hx=>by
   cases hx
   refine⟨.func (.func f) (first.map a.eval) (caps.map a.eval),rfl,?_⟩
   have h1:(first.toList.map a.eval).toArray=first.map a.eval:=by rw [<- Array.toList_map]
   have h2:(caps.toList.map a.eval).toArray=caps.map a.eval:=by rw [<- Array.toList_map]
   rw [<- h1,<- h2]
   exact AL.fn (f:=f) (XZ (a:=a) hg hs first.toList) (XZ (a:=a) hg hs caps.toList) (xs:=[]) (vs:=[]) .nil)
theorem Zas {P:Program} {f:FuncId} {fn:Func} (h:P.funcs[f]? = some fn) (hn:(fn.name == "runtime.NumGoroutine")=false) (hb:fn.body.isNone=false) (args:Array Value) (w:World) :
  (callFunc f args).run P w = .ok (.enter f args) w:=by
 unfold callFunc
 rw [Sem.run_bind]
 have hp:(Go.program).run P w = .ok P w:=rfl
 rw [hp]
 simp only [Result.andThen_ok,h,hn,hb,Bool.false_eq_true,if_false]
 rfl
theorem Z7S (hcall:IV P E B w0 call) (hI:Inv B w0 σ H w) (hg:CW E σ w) (hs:AL σ w s a.tmps.toList) {c:Call} {f:Operand} (hop:o.op = .call c) (hc:c.callee = .value f):EP P E B w0 call σ k H w s a o:=by
 intro x H' ho next Q hn
 unfold Ak at ho
 rw [hop] at ho
 simp only [hc] at ho
 split at ho
 ·rename_i g first caps hf
  have hv:=D8 hg hs f
  rw [hf] at hv
  have:∃us ws,a.eval f = .func (.func g) us.toArray ws.toArray/\AL σ w first us/\AL σ w caps ws:=by
   generalize a.eval f=q at hv
   cases hv with
   | fn h1 h2 _=>grind
  obtain⟨us,ws,e1,r1,r2⟩:=this
  have r3:=XZ (a:=a) hg hs c.args.toList
  obtain⟨⟨fn,hfn,hbody,hname⟩,hcalls⟩:=hcall g _ H x H' σ w _ ho hI hg ((r1.append r3).append r2)
  have hrun:(execOp a.eval o).run P w = .ok (.enter g (us++c.args.toList.map a.eval++ws).toArray) w:=by
   have hca:us.toArray++c.args.map a.eval++ws.toArray=(us++c.args.toList.map a.eval++ws).toArray:=by
    rw [<- Array.toList_map];simp
   have he:execOp a.eval o=callFunc g (us.toArray++c.args.map a.eval++ws.toArray):=by
    unfold execOp
    rw [hop]
    simp [resolve,hc,e1,Deferred.ofValue,invoke]
   rw [he,hca]
   exact Zas hfn hname hbody _ w
  unfold Oper.wp
  rw [hrun,Oper.upon_enter]
  refine hcalls.mono ?_
  grind
 ·cases ho
theorem ZeQ (h:Inv B w0 σ H w) {x:V} {v:Value} {n:Nat} (hr:AL σ w [x] [v]) (hl:lenOf H x=some n):n<=maxLen:=by
 unfold lenOf at hl
 split at hl
 ·simp only [Option.some.injEq] at hl
  subst hl
  cases hr with
  | Dj _=>exact Nat.zero_le _
  | EG a _=>exact Nat.zero_le _
  | sl b o c e k0 k1 k2 k3 k4 k5 k6 k7=>grind
 ·simp only [Option.some.injEq] at hl
  subst hl
  cases hr with
  | Eg _=>exact Nat.zero_le _
  | Es a _=>exact Nat.zero_le _
  | BR b o e k0 k1 k2 k3 k4 k5 k6=>exact k4
 ·rename_i id off len tot
  split at hl
  ·rename_i b hb
   simp only [Option.some.injEq] at hl
   subst hl
   obtain⟨L,us,m,hxl,hol,hs,hview⟩:=L6 h hr hb
   grind
  ·cases hl
 ·rename_i s
  simp only [Option.some.injEq] at hl
  subst hl
  cases hr with
  | lit hlf _=>simpa [leaf] using hlf
 ·cases hl
theorem Z30 (isMax:Bool) {b:Builtin} (hI:Inv B w0 σ H w) {c:Call} (hop:o.op = .call c) (hc:c.callee = .builtin b) {xs:List V} {vs:List Value} (hr:AL σ w xs vs) (hargs:c.args.map a.eval=vs.toArray)
  (hb:b=if isMax then .max else .min) {x:V} {H' : Heap} (hm:(NU isMax xs).map (·,H)=some (x,H')) {next:Act->World->Prop} {Q:Exit->Act->World->Prop}
  (hn:∀u w' σ',Inv B w0 σ' H' w' -> Ext σ w σ' w' -> AL σ' w' [x] [u]->next (a.put o.dst u) w'):o.wp P a w next Q:=by
 cases hm' : NU isMax xs with
 | none=>simp [hm'] at hm
 | some y=>
  simp only [hm',Option.map_some,Option.some.injEq,Prod.mk.injEq] at hm
  obtain⟨rfl,rfl⟩:=hm
  unfold NU at hm'
  split at hm'
  ·rename_i k n rest
   obtain⟨v,vs',rfl,h1,h2⟩:=hr.Cf
   have hlf:leaf (.int k n)=true/\v = .int k n:=by cases h1 with|lit l _=>exact⟨l,rfl⟩
   obtain⟨hlf,rfl⟩:=hlf
   obtain⟨u,hu,hru⟩:=rY (P:=P) isMax h2 hlf hm'
   cases isMax
   ·simp only [Bool.false_eq_true,if_false] at hb hu
    subst hb
    exact Gx (s:=Builtin.min_ c.argTypes o.type (Value.int k n::vs').toArray) (by unfold execOp;rw [hop];simp only [resolve,hc,hargs];rfl) (by simpa [Builtin.min_] using hu) (hn _ w σ hI (Ext.refl σ w) hru)
   ·simp only [if_true] at hb hu
    subst hb
    exact Gx (s:=Builtin.max_ c.argTypes o.type (Value.int k n::vs').toArray) (by unfold execOp;rw [hop];simp only [resolve,hc,hargs];rfl) (by simpa [Builtin.max_] using hu) (hn _ w σ hI (Ext.refl σ w) hru)
  ·cases hm'
theorem Z75 (hE:BP E) (hP:E.P=P) (hk0:EL H k=true) (hI:Inv B w0 σ H w) (hg:CW E σ w) (hs:AL σ w s a.tmps.toList) {c:Call} {b:Builtin} (hop:o.op = .call c) (hc:c.callee = .builtin b):EP P E B w0 call σ k H w s a o:=by
 intro x H' ho next Q hn
 unfold Ak at ho
 rw [hop] at ho
 simp only [hc] at ho
 have hr:=XZ (a:=a) hg hs c.args.toList
 have hargs:c.args.map a.eval=(c.args.toList.map a.eval).toArray:=by rw [<- Array.toList_map]
 unfold evs at ho
 generalize c.args.toList.map (ev E s)=xs at ho hr
 generalize hvs:c.args.toList.map a.eval=vs at hr hargs
 generalize htys:c.argTypes.toList=tys at ho
 have htys' : c.argTypes=tys.toArray:=by rw [<- htys]
 unfold LZ at ho
 split at ho
 ·rename_i x0 t
  obtain⟨v,vs',rfl,h1,h2⟩:=hr.Cf
  cases h2.EN
  split at ho
  ·rename_i hfit
   cases hl:lenOf H x0 with
   | none=>simp [hl] at ho
   | some n=>
    simp only [hl] at ho
    cases ho
    have hlen:(Builtin.len_ #[t] o.type #[v]).run P w = .ok (.int .i64 n) w:=by
     unfold Xh at hfit
     split at hfit
     ·rename_i st
      have:=hE.isStr _ hfit
      rw [hP] at this
      exact Z43 hI h1 hl this (.inr rfl) ⟨fun⟨e,he⟩=>(by cases he),fun hh=>absurd rfl (hh st)⟩
     ·rename_i hne
      split at hfit
      ·rename_i e sz by' z0 hti
       obtain⟨inf,d,hi,hd,q1,q2,q3,q4⟩:=Dz (hE.ti _ _ hti)
       rw [hP] at hd
       exact Z43 hI h1 hl hd (.inl ⟨e,LV q1⟩) ⟨fun _=>hne,fun _=>⟨e,LV q1⟩⟩
      ·cases hfit
    have hbd:=hlen
    have hlf:leaf (.int .i64 (n:Int))=true:=by
     have:=ZeQ hI h1 hl
     have:(Lit.int .i64 (n:Int)).wf=true:=by
      simp [Lit.wf,IntKind.min,IntKind.max,IntKind.signed,IntKind.bits,maxLen] at this ⊢
      omega
     simpa [leaf] using this
    exact Gx (s:=Builtin.len_ #[t] o.type #[v]) (by unfold execOp;rw [hop];simp only [resolve,hc,hargs,htys'];rfl) hlen (hn _ w σ hI (Ext.refl σ w) (.lit hlf .nil))
  ·cases ho
 ·rename_i s0 x0 t u
  obtain⟨v,vs',rfl,h1,h2⟩:=hr.Cf
  obtain⟨v2,vs2,rfl,h3,h4⟩:=h2.Cf
  cases h4.EN
  obtain⟨u',w',σ',hu,i1,i2,i3⟩:=Zf0 (P:=P) hE hP hI hk0 o.type h1 h3 ho
  exact Gx (s:=Builtin.append_ #[t,u] o.type #[v,v2]) (by unfold execOp;rw [hop];simp only [resolve,hc,hargs,htys'];rfl) hu (hn _ w' σ' i1 i2 i3)
 ·rename_i d0 x0 t u
  obtain⟨v,vs',rfl,h1,h2⟩:=hr.Cf
  obtain⟨v2,vs2,rfl,h3,h4⟩:=h2.Cf
  cases h4.EN
  obtain⟨u',w',σ',hu,i1,i2,i3⟩:=Zh5 (P:=P) hE hP hI o.type h1 h3 ho
  exact Gx (s:=Builtin.copy_ #[t,u] o.type #[v,v2]) (by unfold execOp;rw [hop];simp only [resolve,hc,hargs,htys'];rfl) hu (hn _ w' σ' i1 i2 i3)
 ·rename_i tys0
  exact Z30 false hI hop hc hr hargs rfl (by simpa using ho) hn
 ·exact Z30 true hI hop hc hr hargs rfl (by simpa using ho) hn
 ·cases ho
end
theorem Zgv {E B w0 σ H w} {P:Program} (hE:BP E) (hP:E.P=P) {call:CS} (hcall:IV P E B w0 call) (hI:Inv B w0 σ H w) (hg:CW E σ w) {k:Nat} (hk0:EL H k=true) {s:List V} {a:Act} (hs:AL σ w s a.tmps.toList)
  (o:Oper):EP P E B w0 call σ k H w s a o:=by
 cases hop:o.op with
 | move y=>exact Zda hI hg hs hop
 | assign y=>exact Zad hk0 hI hg hs hop
 | pick c y z=>exact ZdE hI hg hs hop
 | alloc t=>exact ZbD hE hP hk0 hI hop
 | box t y=>exact ZeG hk0 hI hg hs hop
 | build t parts=>exact ZbY hE hP hI hg hs hop
 | buildSlice t n parts=>exact Z7v hE hP hk0 hI hg hs hop
 | load t y=>exact Zdt hE hP hI hg hs hop
 | store t y z=>exact Zc6 hE hP hI hg hs hop
 | nilCheck y=>exact Z8L hI hg hs hop
 | binOp op t y z yt=>exact Zc0 hE hP hI hg hs hop
 | unOp op t y=>exact Zdg hI hg hs hop
 | convert src dst y=>exact Z9c hE hP hk0 hI hg hs hop
 | makeSlice t l c=>exact Z7I hE hP hk0 hI hg hs hop
 | slice t y lo hi mx=>exact ZbG hE hP hI hg hs hop
 | sliceToArrayPointer t y=>exact Zeo hE hP hI hg hs hop
 | fieldAddr t y f=>exact Z7R hE hP hI hg hs hop
 | field t y f=>exact Zb5 hE hP hI hg hs hop
 | indexAddr t y i=>exact Z7F hE hP hI hg hs hop
 | index t y i=>exact Zbm hE hP hI hg hs hop
 | extract y i=>exact Z9E hI hg hs hop
 | lookup t y i ok=>exact Zam hE hP hI hg hs hop
 | makeFunc fn first caps=>
  cases fn with
  | func f=>exact Z8q hI hg hs hop
  | _=>intro x H' ho;unfold Ak at ho;rw [hop] at ho;cases ho
 | call c=>
  cases hc:c.callee with
  | value f=>exact Z7S hcall hI hg hs hop hc
  | builtin b=>exact Z75 hE hP hk0 hI hg hs hop hc
  | _=>intro x H' ho;unfold Ak at ho;rw [hop] at ho;simp only [hc] at ho;cases ho
 | _=>intro x H' ho;unfold Ak at ho;rw [hop] at ho;cases ho
end Go.Proofs.YtlabamnhpgoekaaGreatDoor.Le
