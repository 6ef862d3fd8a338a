/- A part of it. -/
import Derived.Test.YteinepnbndegdaaGreatL1
import Derived.Great.FillDense
import Derived.Great.BuildSlice
import Derived.OpenShut
import Derived.DeepKeys
import Derived.Laws.Pointers
import Derived.MapKept
import Derived.ChangeMaps5
set_option linter.unusedVariables false
set_option linter.unusedSimpArgs false
namespace Go.Proofs.YteinepnbndegdaaGreat.Le
open Go.RowKit (Below)
structure Src (σ:Sg) (w:World) (n:Nat) (ys:List V) (us:List Value) (v:Value):Prop where
 Cj:AL σ w ys us
 oks:∀x∈ys,DU x=true
 sizes:∀u∈us,u.cells.size=n
 ones:∀u∈flat us,u.oneCell' = true
 val:((v = .slice none 0 0\/∃a k,v = .slice (some a) 0 k)/\ys=[]/\us=[])\/∃b o c,v = .slice (some ⟨b,o,none⟩) ys.length c/\ys.length<=c/\∀j u,(flat us)[j]? = some u->w.cell? ⟨b,o+j,none⟩=some u
theorem Src.ext {σ w n ys us v σ'} (h:Src σ w n ys us v) (e:Ext σ w σ' w):Src σ' w n ys us v:=⟨h.Cj.ext e,h.oks,h.sizes,h.ones,h.val⟩
theorem src_ok {B w0 σ H w} (h:Inv B w0 σ H w) {x:V} {v:Value} {ys:List V} {n:Nat} (S:AL σ w [x] [v]) (z:elemsOf H x=some ys) (G:EW H x n=true) :
  ∃us,Src σ w n ys us v:=by
 unfold elemsOf at z;split at z
 ·simp only[Option.some.injEq]at z;subst z;cases S with
  | EI _=>exact⟨[],.nil,by simp,by simp,by simp[flat],.inl ⟨.inl rfl,rfl,rfl⟩⟩
  | Et a _=>exact⟨[],.nil,by simp,by simp,by simp[flat],.inl ⟨.inr ⟨a,0,rfl⟩,rfl,rfl⟩⟩
  | sl b o c e k0 k1 k2 k3 k4 k5 k6 k7=>
   simp only[EW,Bool.false_or,beq_iff_eq]at G;subst G;exact⟨_,k0,k1,k2,k3,.inr ⟨b,o,c,rfl,k4,fun j u D=>(k6 j u D).2⟩⟩
 ·simp only[Option.some.injEq]at z;subst z;cases S with
  | Fh _=>exact⟨[],.nil,by simp,by simp,by simp[flat],.inl ⟨.inl rfl,rfl,rfl⟩⟩
  | GM a _=>exact⟨[],.nil,by simp,by simp,by simp[flat],.inl ⟨.inr ⟨a,0,rfl⟩,rfl,rfl⟩⟩
  | CE b o e k0 k1 k2 k3 k4 k5 k6=>
   simp only[EW,Bool.false_or,beq_iff_eq]at G;subst G;exact⟨_,k0,k1,k2,k3,.inr ⟨b,o,_,rfl,Nat.le_refl _,fun j u D=>(k5 j u D).2⟩⟩
 ·rename_i id off len tot;split at z
  ·rename_i b hb;split at z
   ·rename_i hc;simp only[Bool.and_eq_true,decide_eq_true_eq]at hc;simp only[Option.some.injEq]at z;subst z;obtain⟨L,us,m,hxl,hol,hs,I⟩:=MQ h S hb;simp only[EW,hb,beq_iff_eq]at G;have R : L.Ag=n:=by rw[<- m.Ag];exact G
    subst R;have C:((b.xs.drop off).take len).length=len:=by simp;omega
    refine⟨(us.drop off).take len,jF m.Cj off len,fun x hx=>m.fz hc.1 x (List.mem_of_mem_drop (List.mem_of_mem_take hx)),XO (gX m.sizes off) len,jG (ZW m.ones off) len,?_⟩;rcases I with ⟨hv,J,ho,hl,ht⟩|⟨g,cap,k,hv,J,hle,hmx,hk1,M⟩
    ·simp_all
    ·right;refine⟨g,k*L.Ag,cap - off,by rw[C];exact J,by rw[C];omega,?_⟩;intro j u D;rw[Z00 m.sizes]at D;have Y:j<len*L.Ag:=by
      have:=(List.getElem?_eq_some_iff.1 D).1;simp at this;omega
     rw[List.getElem?_take,if_pos Y,List.getElem?_drop]at D;have Q:0<len:=by
      cases len with
      | zero=>simp at Y
      | succ n=>omega
     have hk:k=off:=M (by omega);subst hk;exact m.cell (g:=g) (by rw[hv];rfl) _ _ D
   ·cases z
  ·cases z
 ·simp[EW]at G
 ·cases z
theorem Wu {P:Program} (w:World) (t ty e:TypeId) (i:TypeInfo) (C:P.underlying t=some (.slice e)) (hi:P.info? e=some i) (a:Option Addr) (n c:Nat) (z:n<=c) (x:Value) (D:x = .slice none 0 0\/∃b k,x = .slice (some b) 0 k) :
  (Builtin.append_ #[t,t] ty #[.slice a n c,x]).run P w = .ok (.slice a n c) w:=by
 rcases D with rfl|⟨b,k,rfl⟩
 ·cases a<;>simp[Builtin.append_,run_underlying C,sizeOf,typeInfo,hi,Builtin.lenOf,Builtin.firstCells,loadCells,z,storeCells]
 ·cases a<;>simp[Builtin.append_,run_underlying C,sizeOf,typeInfo,hi,Builtin.lenOf,Builtin.firstCells,loadCells,loadCellsFrom,z,storeCells]
theorem dH {P:Program} (w:World) (base:Nat) (t ty e:TypeId) (i:TypeInfo) (z:Value) (size:Nat) (ht:P.underlying t=some (.slice e)) (hi:P.info? e=some i) (hz:i.zero=some z)
  (hsize:i.size=size) (hzs:z.cells.size=size)
  (v:Value) (n:Nat) (xs:List Value) (D:FY w base e size v n xs)
  (a:Addr) (m c:Nat) (C:List Value) (hl:C.length=m*size) (I:∀j u,C[j]? = some u->w.cell? (a.add j)=some u) (h1:∀u∈C,u.oneCell' = true) (hm:0<m)
  (h63:n+m<=maxLen) (M:(n+m)*i.bytes<=140737488355328) (R:base<=w.heap.size) :
  ∃v' w',(Builtin.append_ #[t,t] ty #[v,.slice (some a) m c]).run P w = .ok v' w' /\ FY w' base e size v' (n+m) (xs++C)/\w.grownBy w' v.ownBlock /\
   v' ≠.slice none 0 0/\(∀g,v'.ownBlock=some g->v.ownBlock=some g\/w.heap.size<=g) /\
   (∀g j,v.ownBlock=some g->j<n*size->w'.cell? ⟨g,j,none⟩=w.cell? ⟨g,j,none⟩):=by
 subst hsize;have hsmall:n+m<=9223372036854775807:=by simp only[maxLen]at h63;omega
 have Q:(xs++C).length=(n+m)*i.size:=by rw[List.length_append,D.1,hl,Nat.add_mul]
 have grown:∀(old:Nat),old<n+m->∀(row:Option Nat),
   FY (w.drew.alloc (.cells (xs.toArray++C.toArray++Builtin.zeroCells z.cells (grownCap w (n+m) old e - (n+m))) e)) base e i.size
    (.slice (some ⟨w.heap.size,0,none⟩) (n+m) (grownCap w (n+m) old e)) (n+m) (xs++C) /\
   w.grownBy (w.drew.alloc (.cells (xs.toArray++C.toArray++Builtin.zeroCells z.cells (grownCap w (n+m) old e - (n+m))) e)) row:=by
  intro old ho row;have hge:=grownCap_ge w (n+m) old e;have S:grownCap w (n+m) old e<=maxLen:=grownCap_le_maxLen w (n+m) old e h63;refine⟨⟨Q,.inr ⟨w.heap.size,_,_,(0,0),rfl,R,heap_alloc_new w.drew _,.inl rfl,hge,S,?_,?_⟩⟩,⟨rfl,rfl,rfl,by simp,fun k hk _=>heap_alloc_old w.drew _ hk⟩⟩
  ·simp only[Array.size_append,List.size_toArray,size_zeroCells,hzs,D.1,hl,<- Nat.add_mul];congr 1;omega
  ·grind
 have hnew:∀g n c,(Value.slice (some ⟨w.heap.size,0,none⟩) n c).ownBlock=some g->w.heap.size<=g:=by
  intro g n c hg;simp[Value.ownBlock]at hg;omega
 rcases D.2 with ⟨rfl,rfl⟩|⟨g,cap,cur,tg,rfl,hbg,hg,htg,hnc,S,hcs,htake⟩
 ·have hx:xs=[]:=List.eq_nil_of_length_eq_zero (by simpa using D.1);subst hx;have hr:=run_append_nil (P:=P) w t ty e i z ht hi hz a m c C hl I hm (by omega) (by grind);have Y:=grown 0 (by omega) (Value.ownBlock (.slice none 0 0))
  grind
 ·by_cases J:n+m<=cap
  ·have hfit:n*i.size+C.length<=cur.size:=by rw[hl,hcs,<- Nat.add_mul];exact Nat.mul_le_mul_right _ J
   have hr:=Z3K (P:=P) (w:=w) t ty e i ht hi g n cap cur tg hg htg a m c C hl I h1 J hfit;refine⟨_,_,hr,⟨Q,.inr ⟨g,cap,_,tg,rfl,hbg,setRow_heap w g cur _ e _ hg,?_,J,S,?_,?_⟩⟩,⟨rfl,rfl,rfl,by simp,fun k _ hk=>setRow_other w g k _ (fun e=>hk (by simp[Value.ownBlock,e]))⟩,by simp,fun g' G =>.inl G,?_⟩
   ·grind
   ·grind
   ·grind
   ·intro g' j G hj;simp only[Value.ownBlock,Option.some.injEq]at G;subst G;rw[cell_setRow_same w g j cur _ e tg hg,cell_of_row w g j cur e tg hg]
    grind
  ·have holds:∀j u,xs[j]? = some u->w.cell? ((⟨g,0,none⟩:Addr).add j)=some u:=D.cells (g:=g) rfl;have hr:=run_append_grow (P:=P) w t ty e i z ht hi hz ⟨g,0,none⟩ n cap xs D.1 holds a m c C hl I (by omega) (by omega) (growslice_fits (by omega) M);have Y:=grown cap (by omega) (Value.ownBlock (.slice (some ⟨g,0,none⟩) n cap));refine⟨_,_,hr,Y.1,Y.2,by simp,fun g' G =>.inr (hnew g' _ _ G),?_⟩;intro g' j G hj;simp only[Value.ownBlock,Option.some.injEq]at G;subst G;exact World.cell?_of_block (heap_alloc_old w.drew _ (by simpa using (FY.lt D g rfl).2))
theorem MN {d:TypeDesc} {e:Nat} (h:Ty.slice e=Jw d):d = .slice e:=by
 cases d<;>simp[Jw]at h;rw[h]
theorem wS {α:Type} (l:List α) (i:Nat) (x:α) (h:l[i]? = some x):l.set i x=l:=by
 apply List.ext_getElem?
 grind
theorem ownBlock_ne {v:Value} {B e size n xs} {w:World} (h:FY w B e size v n xs) (z:v≠.slice none 0 0):∃g cap,v = .slice (some ⟨g,0,none⟩) n cap:=by
 rcases h.2 with ⟨C,_⟩|⟨g,cap,cur,tg,C,_⟩
 ·exact absurd C z
 simp_all
theorem MR {B w0 σ H w w'} (h:Inv B w0 σ H w) {k:Nat} (I:Eg H k=true) (hg:w.grownBy w' none) {xs:List V} {us:List Value} {e Ag:Nat} {v' : Value} (hr:AL σ w xs us) (R:∀x∈xs,DU x=true)
  (hs:∀u∈us,u.cells.size=Ag) (ho:∀u∈flat us,u.oneCell' = true) (z:FY w' B e Ag v' xs.length (flat us)) (C:∀g,v'.ownBlock=some g->w.heap.size<=g) (Q:Bool) (M:Q=true->v' = .slice none 0 0) :
  ∃σ',Inv B w0 σ' (place H k (BO true Q e Ag xs)) w' /\ Ext σ w σ' w' /\ AL σ' w' [.BK k 0 xs.length xs.length] [v']:=by
 obtain⟨Y,h2⟩:=h.push hg I (BO true Q e Ag xs) rfl ⟨v',xs.length,Ag⟩ (by simp[BO]) C (fun ex=>⟨rfl,⟨us,hr.ext ex,hs,ho,by simpa[BO]using z⟩,by simpa[BO]using M,rfl,Z0h R,fun _ x hx=>Oy (R x hx)⟩);have G:∃a n c,v' = .slice a n c/\n=xs.length/\n<=c:=by
  rcases z.2 with ⟨D,S⟩|⟨g,cap,cur,tg,D,_,_,_,J,_⟩
  ·grind
  ·grind
 obtain⟨a,n,c,D,S,J⟩:=G;refine⟨_,Y,h2,.BK (L:=⟨v',xs.length,Ag⟩) (by simp[Sg.put]) (Nat.le_refl _) (fun _=>⟨by omega,a,n,c,0,D,?_,Nat.zero_le _,Nat.le_refl _,fun _=>rfl⟩) ⟨a,n,c,D⟩ .nil⟩;subst S;rw[D];cases a with
 | none=>simp
 | some a=>simp[Addr.add]
theorem ZhX {B w0 σ H w} {P:Program} (h:Inv B w0 σ H w) {u e:TypeId} (ty:TypeId) {z:TypeInfo} {id len tot:Nat} {sv xv:Value} {b:Box} {ys:List V} {us:List Value}
  (hd' : P.underlying u=some (.slice e)) (hie:P.info? e=some z) (hs:AL σ w [.BK id 0 len tot] [sv]) (hb:Cc H id tot=some b) (c1:b.row=true) (c2:b.elem=e) (c4:b.Ag=z.size) (c6:b.floor<=len) (c7:len<tot)
  (c8:len+ys.length<=tot) (src:AL σ w ys us) (soks:∀y∈ys,DU y=true) (ssz:∀y∈us,y.cells.size=z.size) (Q:∀v∈flat us,v.oneCell' = true)
  (hsrc:(ys=[]/\us=[]/\(xv = .slice none 0 0\/∃b k,xv = .slice (some b) 0 k))\/(0<ys.length/\∃a c,xv = .slice (some a) ys.length c/\∀j u,(flat us)[j]? = some u->w.cell? (a.add j)=some u)) :
  ∃v' w' σ',(Builtin.append_ #[u,u] ty #[sv,xv]).run P w = .ok v' w' /\ Inv B w0 σ' (H.set id { b with xs:=b.xs.take len++ys++b.xs.drop (len+ys.length) }) w' /\ Ext σ w σ' w' /\ AL σ' w' [.BK id 0 (len+ys.length) tot] [v']:=by
 obtain⟨L,vs,m,G,hol,hsub,hview⟩:=MQ h hs hb;have D:L.Ag=z.size:=by rw[<- m.Ag];exact c4
 have hlus:us.length=ys.length:=src.length.symm;rcases hview with ⟨hv,hvv,ho,hl,ht⟩|⟨g,cap,k,hv,hvv,hle,hmx,hk1,hk2⟩
 ·omega
 have hk0:k=0:=by omega
 subst hk0;have hsv:sv = .slice (some ⟨g,0,none⟩) len cap:=by rw[hvv];simp
 rcases hsrc with ⟨hy,hu,hxv⟩|⟨hm,a',c',hxv,hcell⟩
 ·subst hy;refine⟨sv,w,σ,?_,?_,Ext.refl σ w,by simpa using hs⟩
  ·rw[hsv];exact Wu w u ty e z hd' hie _ len cap (by omega) xv hxv
  ·have:H.set id { b with xs:=b.xs.take len++[]++b.xs.drop (len+([]:List V).length) }=H:=by
    apply wS;rw[m.hb];cases b;simp
   rw[this];exact h
 rcases m.shape with ⟨hn,_,_⟩|⟨g',cap',cur,tg,Y,hB,hh,htg,hn,hm',hcs,ht⟩
 ·rw[hn]at hv;cases hv
 rw[Y]at hv;simp only[Value.slice.injEq,Option.some.injEq,Addr.mk.injEq,and_true]at hv;obtain⟨hgg,_,R⟩:=hv;have hgg:=hgg.symm;subst hgg;have R:=R.symm;subst R;have hTl:(flat us).length=ys.length*z.size:=by rw[flat_length ssz,hlus]
 have hmul:len*z.size+ys.length*z.size<=tot*z.size:=by rw[<- Nat.add_mul];exact Nat.mul_le_mul_right _ c8
 have hcapm:tot*z.size<=cap*z.size:=Nat.mul_le_mul_right _ hle;have hcs' : cur.size=cap*z.size:=by rw[hcs,D]
 have hrun:=Z3K (P:=P) (w:=w) u ty e z hd' hie g len cap cur tg (by rw[<- c2];exact hh) htg a' ys.length c' (flat us) hTl hcell Q (by omega) (by rw[hTl];omega);have hlv:vs.length=tot:=by rw[m.len,G]
 have hFl:(flat vs).length=tot*z.size:=by rw[flat_length m.sizes,hlv,D]
 have I:cur.toList=flat vs++cur.toList.drop (tot*z.size):=by
  rw[<- D,<- ht,G,List.take_append_drop]
 have hnew:flat (vs.take len++us++vs.drop (len+ys.length))=(flat vs).take (len*z.size)++flat us++(flat vs).drop ((len+ys.length)*z.size):=by
  rw[Nc,Nc,X3 m.sizes,ZK m.sizes,D]
 have hcells:cur.toList.take (len*z.size)++flat us++cur.toList.drop (len*z.size+(flat us).length)=flat (vs.take len++us++vs.drop (len+ys.length))++cur.toList.drop (tot*z.size):=by
  rw[hnew,hTl,<- Nat.add_mul];have e1:cur.toList.take (len*z.size)=(flat vs).take (len*z.size):=by
   conv=>lhs;rw[I]
   rw[List.take_append_of_le_length (by rw[hFl];omega)]
  have e2:cur.toList.drop ((len+ys.length)*z.size)=(flat vs).drop ((len+ys.length)*z.size)++cur.toList.drop (tot*z.size):=by
   conv=>lhs;rw[I]
   rw[List.drop_append_of_le_length (by rw[hFl,Nat.add_mul];omega)]
  grind
 rw[hcells]at hrun;have C : ∀x∈vs.take len++us++vs.drop (len+ys.length),x.cells.size=L.Ag:=by
  intro x hx;rcases List.mem_append.1 hx with hx|hx
  ·rcases List.mem_append.1 hx with hx|hx
   ·exact m.sizes x (List.mem_of_mem_take hx)
   ·rw[ssz x hx,D]
  ·exact m.sizes x (List.mem_of_mem_drop hx)
 have hlenN:(vs.take len++us++vs.drop (len+ys.length)).length=tot:=by
  simp only[List.length_append,List.length_take,List.length_drop,hlus,hlv];omega
 have M:(b.xs.take len++ys++b.xs.drop (len+ys.length)).length=tot:=by
  simp only[List.length_append,List.length_take,List.length_drop,G];omega
 have hlen' : (flat (vs.take len++us++vs.drop (len+ys.length))).length=tot*L.Ag:=by
  rw[flat_length C,hlenN]
 have J:=setRow_heap w g cur (flat (vs.take len++us++vs.drop (len+ys.length))++cur.toList.drop (tot*z.size)).toArray b.elem tg hh;have hown:L.v.ownBlock=some g:=by rw[Y];rfl
 have hgb:w.grownBy (w.setRow g (flat (vs.take len++us++vs.drop (len+ys.length))++cur.toList.drop (tot*z.size)).toArray) L.v.ownBlock:=
  ⟨rfl,rfl,rfl,by simp,fun k _ hk=>setRow_other w g k _ (fun e=>hk (by rw[hown,e]))⟩
 have hmulE:tot*z.size<=cap*z.size:=hcapm;obtain⟨h1,h2⟩:=h.upd m.hb m.live m.box hgb { b with xs:=b.xs.take len++ys++b.xs.drop (len+ys.length) } m.live L rfl (.inl rfl) rfl (by grind) (fun g' S =>.inl S)
  (fun g' c' S hc' =>by
   rw[hown]at S;cases S;have hfl:b.floor*L.Ag<=len*L.Ag:=Nat.mul_le_mul_right _ c6;have hc2:c' < len*z.size:=by rw[<- D];omega
   have R:c' < cur.size:=by rw[hcs'];omega
   unfold World.cell?;simp only[J,hh];have:(flat (vs.take len++us++vs.drop (len+ys.length))++cur.toList.drop (tot*z.size)).toArray[c']? = cur[c']?:=by
    rw[<- hcells];simp only[List.getElem?_toArray];rw[List.append_assoc,List.getElem?_append_left (by simp only[List.length_take,Array.length_toList];omega),List.getElem?_take,if_pos hc2];simp
   rw[this]) (fun ex=>by
   refine⟨by simp only[M];rw[m.tot,G],⟨vs.take len++us++vs.drop (len+ys.length),(((m.Cj.ext ex).take len).append (src.ext ex)).append ((m.Cj.ext ex).drop (len+ys.length)),C,?_,?_⟩,m.Dc,m.Ag,?_,fun hrow=>?_⟩
   ·intro v hv2;rw[hnew]at hv2;rcases List.mem_append.1 hv2 with hv2|hv2
    ·rcases List.mem_append.1 hv2 with hv2|hv2
     ·exact m.ones v (List.mem_of_mem_take hv2)
     ·exact Q v hv2
    ·exact m.ones v (List.mem_of_mem_drop hv2)
   ·simp only[M];refine⟨hlen',.inr ⟨g,cap,_,tg,by rw[Y,G],hB,J,?_,by omega,hm',?_,?_⟩⟩
    ·grind
    ·grind
    grind
   ·intro y hy;rcases List.mem_append.1 hy with hy|hy
    ·rcases List.mem_append.1 hy with hy|hy
     ·exact m.oks y (List.mem_of_mem_take hy)
     ·exact lC (soks y hy)
    ·exact m.oks y (List.mem_of_mem_drop hy)
   ·intro y hy;rcases List.mem_append.1 hy with hy|hy
    ·rcases List.mem_append.1 hy with hy|hy
     ·exact m.Gg hrow y (List.mem_of_mem_take hy)
     ·exact Oy (soks y hy)
    ·exact m.Gg hrow y (List.mem_of_mem_drop hy))
 refine⟨_,_,_,by rw[hsv,hxv];exact hrun,h1,h2,?_⟩;refine .BK (L:=L) (by simp[Sg.put]) (by rw[m.tot,G];exact Nat.le_refl _) (fun _=>⟨by omega,_,_,_,0,Y,by simp[Addr.add],Nat.zero_le _,Nat.le_refl _,fun _=>rfl⟩) ⟨_,_,_,rfl⟩ .nil
theorem Zn5 {E B w0 σ H w} {P:Program} (hE:Bl E) (hP:E.P=P) (h:Inv B w0 σ H w) {k:Nat} (hk0:Eg H k=true) {t u:TypeId} (ty:TypeId) {s x r:V} {sv xv:Value} {H' : Heap}
  (hs:AL σ w [s] [sv]) (hx:AL σ w [x] [xv]) (J:IP E k H t u s x=some (r,H')) :
  ∃v' w' σ',(Builtin.append_ #[t,u] ty #[sv,xv]).run P w = .ok v' w' /\ Inv B w0 σ' H' w' /\ Ext σ w σ' w' /\ AL σ' w' [r] [v']:=by
 unfold IP at J;split at J
 ·rename_i e sz by' z0 hti;split at J
  ·rename_i S ys hei hut hys;have hut' : u=t:=by simpa using hut
   subst hut';obtain⟨inf,d,hi,hd,q1,q2,q3,q4⟩:=Eo (hE.ti _ _ hti);have hd' : P.underlying u=some (.slice e):=by rw[hP]at hd;rw[hd,MN q1]
   obtain⟨D,de,Y,hde,e1,e2,e3,e4⟩:=Eo (hE.ti _ _ hei);rw[hP]at Y;split at J
   ·rename_i hcond;simp only[Bool.and_eq_true,decide_eq_true_eq]at hcond;obtain⟨⟨hpos,hesz⟩,hzok⟩:=hcond;obtain⟨us,src⟩:=src_ok h hx hys hesz;have hsz:D.size=S.size:=e2.symm;obtain⟨zv,hzv,hzs⟩:∃zv,D.zero=some zv/\zv.cells.size=S.size:=by
     unfold TI.TQ at hzok;cases hz:S.zero with
     | none=>simp[hz]at hzok
     | some z=>
      rw[hz]at e4 hzok;cases hzz:D.zero with
      | none=>simp[hzz]at e4
      | some zv=>
       simp only[hzz,Option.map_some,Option.some.injEq]at e4;simp only[Bool.and_eq_true,beq_iff_eq]at hzok;refine⟨zv,rfl,?_⟩;have:=(XF σ w zv).Ov (by rw[<- e4];exact hzok.1);rw[<- this,<- e4];exact hzok.2
    have G:(flat us).length=ys.length*S.size:=by rw[flat_length src.sizes,src.Cj.length]
    have R:(ys=[]/\us=[]/\(xv = .slice none 0 0\/∃b k,xv = .slice (some b) 0 k))\/(0<ys.length/\∃a c,xv = .slice (some a) ys.length c/\∀j u,(flat us)[j]? = some u->w.cell? (a.add j)=some u):=by
     rcases src.val with ⟨hv,hy,hu⟩|⟨b,o,c,hv,hc,C⟩
     ·simp_all
     ·cases hy:ys with
      | nil=>
       left;subst hy;exact⟨rfl,src.Cj.Dx,.inr ⟨_,_,hv⟩⟩
      | cons y yl=>
       right;refine⟨by simp,⟨b,o,none⟩,c,by rw[<- hy];exact hv,fun j u hj=>by rw[Addr.add_mid];exact C j u hj⟩
    split at J
    ·rename_i id off len tot;split at J
     ·rename_i b hb;split at J
      ·rename_i hc;simp only[Bool.and_eq_true,beq_iff_eq,decide_eq_true_eq]at hc;obtain⟨⟨⟨⟨c1,c2⟩,c3⟩,c4⟩,c5⟩:=hc;subst c3;subst c4;split at J
       ·rename_i M;simp only[Bool.and_eq_true,decide_eq_true_eq]at M;obtain⟨l1,l2⟩:=M;simp only[Option.some.injEq,Prod.mk.injEq]at J;obtain⟨rfl,rfl⟩:=J;obtain⟨L,vs,m,hxl,hol,hsub,hview⟩:=MQ h hs hb;have hLe:L.Ag=S.size:=by rw[<- m.Ag];exact c5
        have hsv:sv=L.v/\∃a n c,L.v = .slice a n c/\n<=c:=by
         rcases hview with ⟨hv,hvv,ho,hl,ht⟩|⟨g,cap,k,hv,hvv,hle,hmx,hk1,hk2⟩
         ·exact⟨hvv.trans hv.symm,_,_,_,hv,Nat.le_refl _⟩
         ·have:k=0:=by omega
          subst this;refine⟨?_,_,_,_,hv,hle⟩;rw[hvv,hv];simp
        obtain⟨hsv,a,n,c,hLv,hnc⟩:=hsv;rcases R with ⟨hy,hu,Q⟩|⟨hm,a',c',Q,C⟩
        ·subst hy;refine⟨sv,w,σ,?_,?_,Ext.refl σ w,by simpa using hs⟩
         ·rw[hsv,hLv];exact Wu w u ty e D hd' Y a n c hnc xv Q
         ·have:H.set id { b with xs:=b.xs++[],Dc:=b.Dc&&List.isEmpty ([]:List V) }=H:=by
           apply wS;rw[m.hb];cases b;simp
          simp_all
        ·have hown:=m.own;rw[hLe,c2]at hown;rw[hxl]at hown;obtain⟨v',w',hrun,I,hgr,hne,hnew,hkeep⟩:=dH (P:=P) w B u ty e D zv S.size hd' Y hzv hsz hzs L.v len (flat vs) hown a' ys.length c' (flat us) G C src.ones hm l2
          (by rw[<- e3];exact l1) h.size
         obtain⟨h1,h2⟩:=h.upd m.hb m.live m.box hgr { b with xs:=b.xs++ys,Dc:=b.Dc&&ys.isEmpty } m.live ⟨v',len+ys.length,L.Ag⟩ rfl (.inr (by simp only[m.tot,hxl];omega)) rfl (by simp)
          hnew (fun g c0 hg hc0=>hkeep g c0 hg (by
           rw[<- hLe,<- hxl];exact Nat.lt_of_lt_of_le hc0 (Nat.mul_le_mul_right _ (h.low id b m.hb m.live)))) (fun ex=>by
           refine⟨by simp[hxl],⟨vs++us,(m.Cj.ext ex).append (src.Cj.ext ex),?_,?_,?_⟩,?_,m.Ag,?_,fun hrow=>?_⟩
           ·intro y hy;rcases List.mem_append.1 hy with hy|hy
            ·exact m.sizes y hy
            ·rw[src.sizes y hy,hLe]
           ·intro y hy;rw[Nc]at hy;rcases List.mem_append.1 hy with hy|hy
            ·exact m.ones y hy
            ·exact src.ones y hy
           ·rw[Nc]
            simp_all
           ·grind
           ·intro y hy;rcases List.mem_append.1 hy with hy|hy
            ·exact m.oks y hy
            ·exact lC (src.oks y hy)
           ·intro y hy;rcases List.mem_append.1 hy with hy|hy
            ·exact m.Gg hrow y hy
            ·exact Oy (src.oks y hy))
         obtain⟨g,cap,hv'⟩:=ownBlock_ne I hne;refine⟨v',w',_,by simp_all,h1,h2,.BK (L:=⟨v',len+ys.length,L.Ag⟩) (by simp[Sg.put]) (Nat.le_refl _) (fun _=>⟨by omega,_,_,_,0,hv',?_,Nat.zero_le _,Nat.le_refl _,fun _=>rfl⟩) ⟨_,_,_,hv'⟩ .nil⟩;rw[hv'];simp[Addr.add]
       ·cases J
      ·split at J
       ·rename_i hc;simp only[Bool.and_eq_true,beq_iff_eq,decide_eq_true_eq]at hc;obtain⟨⟨⟨⟨⟨⟨c1,c2⟩,c3⟩,c4⟩,c6⟩,c7⟩,c8⟩:=hc;subst c3;simp only[Option.some.injEq,Prod.mk.injEq]at J;obtain⟨rfl,rfl⟩:=J;exact ZhX h ty hd' Y hs hb c1 c2 (by rw[c4,hsz]) c6 c7 c8 src.Cj src.oks (fun y hy=>by rw[src.sizes y hy,hsz]) src.ones R
       ·cases J
     ·cases J
    ·
     split at J
     ·rename_i M;simp only[Bool.and_eq_true,decide_eq_true_eq]at M;obtain⟨l1,l2⟩:=M;simp only[Option.some.injEq,Prod.mk.injEq]at J;obtain⟨rfl,rfl⟩:=J;have hsv:sv = .slice none 0 0:=by cases hs<;>rfl
      subst hsv;rcases R with ⟨hy,hu,Q⟩|⟨hm,a',c',Q,C⟩
      ·subst hy;subst hu;obtain⟨σ',h1,h2,h3⟩:=MR (e:=e) (Ag:=S.size) h hk0 (grownBy_refl w none) (xs:=[]) (us:=[]) .nil (by simp) (by simp) (by simp[flat]) (VF w B e S.size) (by simp[Value.ownBlock]) false (by simp);exact⟨_,w,σ',Wu w u ty e D hd' Y none 0 0 (Nat.le_refl _) xv Q,h1,h2,h3⟩
      ·obtain⟨v',w',hrun,I,hgr,hne,hnew,hkeep⟩:=dH (P:=P) w B u ty e D zv S.size hd' Y hzv hsz hzs (.slice none 0 0) 0 [] (VF w B e S.size) a' ys.length c' (flat us) G C src.ones hm (by simpa using l2)
        (by rw[<- e3];simpa[lim]using l1) h.size
       simp only[Nat.zero_add,List.nil_append]at I;obtain⟨σ',h1,h2,h3⟩:=MR (e:=e) (Ag:=S.size) h hk0 hgr src.Cj src.oks src.sizes src.ones I (fun g hg=>by
        rcases hnew g hg with hh|hh
        ·simp[Value.ownBlock]at hh
        ·exact hh) false (by simp)
       grind
     ·cases J
    ·
     split at J
     ·rename_i M;simp only[Bool.and_eq_true,decide_eq_true_eq]at M;obtain⟨l1,l2⟩:=M;simp only[Option.some.injEq,Prod.mk.injEq]at J;obtain⟨rfl,rfl⟩:=J;have hsv:sv = .slice none 0 0:=by cases hs<;>rfl
      subst hsv;rcases R with ⟨hy,hu,Q⟩|⟨hm,a',c',Q,C⟩
      ·subst hy;subst hu;obtain⟨σ',h1,h2,h3⟩:=MR (e:=e) (Ag:=S.size) h hk0 (grownBy_refl w none) (xs:=[]) (us:=[]) .nil (by simp) (by simp) (by simp[flat]) (VF w B e S.size) (by simp[Value.ownBlock]) false (by simp);exact⟨_,w,σ',Wu w u ty e D hd' Y none 0 0 (Nat.le_refl _) xv Q,h1,h2,h3⟩
      ·obtain⟨v',w',hrun,I,hgr,hne,hnew,hkeep⟩:=dH (P:=P) w B u ty e D zv S.size hd' Y hzv hsz hzs (.slice none 0 0) 0 [] (VF w B e S.size) a' ys.length c' (flat us) G C src.ones hm (by simpa using l2)
        (by rw[<- e3];simpa[lim]using l1) h.size
       simp only[Nat.zero_add,List.nil_append]at I;obtain⟨σ',h1,h2,h3⟩:=MR (e:=e) (Ag:=S.size) h hk0 hgr src.Cj src.oks src.sizes src.ones I (fun g hg=>by
        rcases hnew g hg with hh|hh
        ·simp[Value.ownBlock]at hh
        ·exact hh) false (by simp)
       grind
     ·cases J
    ·
     rename_i es xs;split at J
     ·rename_i M;simp only[Bool.and_eq_true,decide_eq_true_eq,beq_iff_eq]at M;obtain⟨⟨l0,l1⟩,l2⟩:=M
      by_cases l3:ys.isEmpty=true
      ·rw[if_pos l3]at J;simp only[Option.some.injEq,Prod.mk.injEq]at J;obtain⟨rfl,rfl⟩:=J;have hxz:xv = .slice none 0 0\/∃b k,xv = .slice (some b) 0 k:=by
        rcases R with ⟨hy,hu,Q⟩|⟨hm,a',c',Q,C⟩
        ·exact Q
        ·cases ys with
         | nil=>simp at hm
         | cons y ys=>simp at l3
       have hsv:∃a n,sv = .slice a n n:=by
        cases hs with
        | Fh _=>exact⟨_,_,rfl⟩
        | GM a _=>exact⟨_,_,rfl⟩
        | CE b o _ k0 k1 k2 k3 k4 k5 _=>exact⟨_,_,rfl⟩
       obtain⟨sa,sn,rfl⟩:=hsv;exact⟨_,w,σ,Wu w u ty e D hd' Y sa sn sn (Nat.le_refl _) xv hxz,h,Ext.refl σ w,hs⟩
      rw[if_neg l3]at J;simp only[Option.some.injEq,Prod.mk.injEq]at J;obtain⟨rfl,rfl⟩:=J;cases hs with
      | Fh _=>
       rcases R with ⟨hy,hu,Q⟩|⟨hm,a',c',Q,C⟩
       ·subst hy;simp at l3
       ·obtain⟨v',w',hrun,I,hgr,hne,hnew,hkeep⟩:=dH (P:=P) w B u ty e D zv S.size hd' Y hzv hsz hzs (.slice none 0 0) 0 [] (VF w B e S.size) a' ys.length c' (flat us) G C src.ones hm (by simpa using l2)
         (by rw[<- e3];simpa[lim]using l1) h.size
        simp only[Nat.zero_add,List.nil_append]at I;obtain⟨σ',h1,h2,h3⟩:=MR (e:=e) (Ag:=S.size) h hk0 hgr src.Cj src.oks src.sizes src.ones I (fun g hg=>by
         rcases hnew g hg with hh|hh
         ·simp[Value.ownBlock]at hh
         ·exact hh) false (by simp[hne])
        grind
      | GM sa _=>
       rcases R with ⟨hy,hu,Q⟩|⟨hm,a',c',Q,C⟩
       ·subst hy;simp at l3
       ·have hold:(flat []).length=0*D.size:=by simp[flat]
        have l2' : ys.length<=maxLen:=by simpa using l2
        have hsmall:ys.length<=9223372036854775807:=by simpa[maxLen]using l2'
        have hrun:=run_append_grow (P:=P) w u ty e D zv hd' Y hzv sa 0 0 (flat []) hold (fun j u hj=>by simp[flat]at hj) a' ys.length c' (flat us) (by rw[G,hsz]) C (by omega) (by omega)
         (growslice_fits (by omega) (by rw[<- e3];simpa[lim]using l1))
        simp only[Nat.zero_add]at hrun;have hge:=grownCap_ge w ys.length 0 e;have hcm:grownCap w ys.length 0 e<=maxLen:=grownCap_le_maxLen w _ _ e l2';have hown:(w.drew.alloc (.cells ((flat []).toArray++(flat us).toArray++Builtin.zeroCells zv.cells (grownCap w ys.length 0 e - ys.length)) e)).ownsRow B e S.size
          (.slice (some ⟨w.heap.size,0,none⟩) ys.length (grownCap w ys.length 0 e)) ys.length (flat us):=by
         have hl:(flat us).length=ys.length*S.size:=by rw[G]
         refine⟨hl,.inr ⟨w.heap.size,_,_,rfl,h.size,heap_alloc_new w.drew _,hge,hcm,?_,?_⟩⟩
         ·simp only[Array.size_append,List.size_toArray,size_zeroCells,hzs,G];simp only[flat,List.flatMap_nil,List.length_nil,Nat.zero_add];rw[<- Nat.add_mul]
          simp_all
         ·simp_all
        have hgr2:w.grownBy (w.drew.alloc (.cells ((flat []).toArray++(flat us).toArray++Builtin.zeroCells zv.cells (grownCap w ys.length 0 e - ys.length)) e)) none:=
         ⟨rfl,rfl,rfl,by simp,fun k hk _=>heap_alloc_old w.drew _ hk⟩
        obtain⟨σ',h1,h2,h3⟩:=MR (e:=e) (Ag:=S.size) h hk0 hgr2 src.Cj src.oks src.sizes src.ones (.of hown) (by simp[Value.ownBlock]) false (by simp)
        grind
      | CE b o e' k0 k1 k2 k3 k4 k5 k6=>
       rename_i vs;rcases R with ⟨hy,hu,Q⟩|⟨hm,a',c',Q,C⟩
       ·subst hy;simp at l3
       ·have hold:(flat vs).length=xs.length*D.size:=by rw[flat_length k2,<- k0.length,hsz,l0]
        have hsmall:xs.length+ys.length<=9223372036854775807:=by simp only[maxLen]at l2;omega
        have hrun:=run_append_grow (P:=P) w u ty e D zv hd' Y hzv ⟨b,o,none⟩ xs.length xs.length (flat vs) hold (fun j u hj=>by rw[Addr.add_mid];exact(k5 j u hj).2) a' ys.length c' (flat us) (by rw[G,hsz]) C (by omega) (by omega)
         (growslice_fits (by omega) (by rw[<- e3];simpa[lim]using l1))
        have hge:=grownCap_ge w (xs.length+ys.length) xs.length e;have hcm:grownCap w (xs.length+ys.length) xs.length e<=maxLen:=grownCap_le_maxLen w _ _ e l2;have hown:(w.drew.alloc (.cells ((flat vs).toArray++(flat us).toArray++Builtin.zeroCells zv.cells (grownCap w (xs.length+ys.length) xs.length e - (xs.length+ys.length))) e)).ownsRow B e S.size
          (.slice (some ⟨w.heap.size,0,none⟩) (xs.length+ys.length) (grownCap w (xs.length+ys.length) xs.length e)) (xs++ys).length (flat (vs++us)):=by
         have hl:(flat (vs++us)).length=(xs.length+ys.length)*S.size:=by rw[Nc,List.length_append,hold,G,hsz,Nat.add_mul]
         rw[List.length_append];refine⟨hl,.inr ⟨w.heap.size,_,_,rfl,h.size,heap_alloc_new w.drew _,hge,hcm,?_,?_⟩⟩
         ·simp only[Array.size_append,List.size_toArray,size_zeroCells,hzs,hold,G,hsz,<- Nat.add_mul]
          simp_all
         ·simp only[Array.toList_append,List.append_assoc];rw[<- List.append_assoc,<- Nc,<- hl];exact List.take_left
        have hgr2:w.grownBy (w.drew.alloc (.cells ((flat vs).toArray++(flat us).toArray++Builtin.zeroCells zv.cells (grownCap w (xs.length+ys.length) xs.length e - (xs.length+ys.length))) e)) none:=
         ⟨rfl,rfl,rfl,by simp,fun k hk _=>heap_alloc_old w.drew _ hk⟩
        obtain⟨σ',h1,h2,h3⟩:=MR (e:=e) (Ag:=S.size) h hk0 hgr2 (k0.append src.Cj)
         (fun y hy=>by rcases List.mem_append.1 hy with hy|hy;exact k1 y hy;exact src.oks y hy)
         (fun y hy=>by rcases List.mem_append.1 hy with hy|hy;exact(k2 y hy).trans l0;exact src.sizes y hy)
         (fun y hy=>by rw[Nc]at hy;rcases List.mem_append.1 hy with hy|hy;exact k3 y hy;exact src.ones y hy) (.of hown) (by simp[Value.ownBlock]) false (by simp)
        grind
     ·cases J
    ·cases J
   ·cases J
  ·cases J
 ·cases J
theorem Z6N {P:Program} (w:World) (t u ty e:TypeId) (i:TypeInfo) (M:P.underlying t=some (.slice e)) (hi:P.info? e=some i) (a:Option Addr) (D R:Nat) (s:Option Addr) (sl Q:Nat) (cs:List Value) (w' : World)
  (G:cs.length=Nat.min sl D*i.size) (Y:s=none->cs=[]) (z:∀b,s=some b->∀j v,cs[j]? = some v->w.cell? (b.add j)=some v)
  (I:∀C,a=some C -> (storeCells C cs).run P w = .ok () w') (S:a=none->w' = w) :
  (Builtin.copy_ #[t,u] ty #[.slice a D R,.slice s sl Q]).run P w = .ok (goInt (Nat.min sl D:Nat)) w' :=by
 have J:(Builtin.firstCells i.size (Nat.min sl D) (.slice s sl Q)).run P w = .ok cs.toArray w:=by
  cases s with
  | none=>rw[Y rfl];rfl
  | some b=>
   have:=run_loadCells_list (P:=P) w b cs (z b rfl);rw[G]at this;exact this
 cases a with
 | none=>
  rw[S rfl];simp[Builtin.copy_,run_underlying M,Builtin.lenOf,sizeOf,typeInfo,hi,J]
 | some C =>simp[Builtin.copy_,run_underlying M,Builtin.lenOf,sizeOf,typeInfo,hi,J,I C rfl]
theorem Zqw {E B w0 σ H w} {P:Program} (hE:Bl E) (hP:E.P=P) (h:Inv B w0 σ H w) {t u:TypeId} (ty:TypeId) {d x r:V} {dv xv:Value} {H' : Heap}
  (hd:AL σ w [d] [dv]) (hx:AL σ w [x] [xv]) (hc:S9 E H t u d x=some (r,H')) :
  ∃v' w' σ',(Builtin.copy_ #[t,u] ty #[dv,xv]).run P w = .ok v' w' /\ Inv B w0 σ' H' w' /\ Ext σ w σ' w' /\ AL σ' w' [r] [v']:=by
 unfold S9 at hc;split at hc
 ·rename_i e sz by' z0 hti;split at hc
  ·rename_i ei ys id off len tot hei hys;obtain⟨inf,dd,hi,hdd,q1,q2,q3,q4⟩:=Eo (hE.ti _ _ hti);have hd' : P.underlying t=some (.slice e):=by rw[hP]at hdd;rw[hdd,MN q1]
   obtain⟨J,de,hie,hde,e1,e2,e3,e4⟩:=Eo (hE.ti _ _ hei);rw[hP]at hie;split at hc
   ·rename_i b hb;split at hc
    ·rename_i R;simp only[Bool.and_eq_true,beq_iff_eq,decide_eq_true_eq]at R;obtain⟨⟨⟨⟨⟨c1,c2⟩,c3⟩,c4⟩,c5⟩,c6⟩:=R;subst c2;subst c3;simp only[Option.some.injEq,Prod.mk.injEq]at hc;obtain⟨rfl,rfl⟩:=hc;obtain⟨us,src⟩:=src_ok h hx hys c5;obtain⟨L,vs,m,M,hol,hsub,hview⟩:=MQ h hd hb;have hLe:L.Ag=ei.size:=by rw[<- m.Ag];exact c4
     have hsz:J.size=ei.size:=e2.symm;have hlus:us.length=ys.length:=src.Cj.length.symm;have hnum:∀n:Nat,n<=maxLen->∀(σ' : Sg) (w' : World),AL σ' w' [.lit (.int .i64 (n:Nat))] [goInt n]:=fun n hn σ' w' =>by
      refine .lit ?_ .nil;have:(Lit.int .i64 (n:Int)).wf=true:=by
       simp[Lit.wf,IntKind.min,IntKind.max,IntKind.signed,IntKind.bits,maxLen]at hn ⊢;omega
      exact this
     obtain⟨sa,sc,hxv,hsn,C⟩:∃(sa:Option Addr) (sc:Nat),xv = .slice sa ys.length sc/\(sa=none->us=[])/\∀Q,sa=some Q -> ∀j v,(flat us)[j]? = some v->w.cell? (Q.add j)=some v:=by
      rcases src.val with ⟨I,hy,hu⟩|⟨Q,o,c,I,hc',C⟩
      ·rcases I with I|⟨a,k,I⟩
       ·exact⟨none,0,by rw[hy];exact I,fun _=>hu,fun Q hb' =>by cases hb'⟩
       ·exact⟨some a,k,by rw[hy];exact I,fun _=>hu,fun Q _ j v hj=>by rw[hu]at hj;simp[flat]at hj⟩
      ·exact⟨some ⟨Q,o,none⟩,c,I,(fun hh=>by cases hh),(fun b2 hb2 j v hj=>by cases hb2;rw[Addr.add_mid];exact C j v hj)⟩
     have hsrc' : ∀Q,sa=some Q -> ∀j v,(flat (us.take len))[j]? = some v->w.cell? (Q.add j)=some v:=fun Q hb' j v hj=>by
      rw[X3 src.sizes]at hj;refine C Q hb' j v ?_;rw[List.getElem?_take]at hj;split at hj
      ·exact hj
      ·cases hj
     have G:Nat.min ys.length len=min ys.length len:=rfl;have D:(flat (us.take len)).length=Nat.min ys.length len*J.size:=by
      rw[flat_length (XO src.sizes len),List.length_take,hlus,hsz,G,Nat.min_comm]
     have hsn' : sa=none->flat (us.take len)=[]:=fun hh=>by rw[hsn hh];simp[flat]
     rw[hxv];rcases hview with ⟨I,hvv,ho,hl,ht⟩|⟨g,cap,k,I,hvv,hle,hmx,hk1,hk2⟩
     ·subst hl;refine⟨_,w,σ,?_,?_,Ext.refl σ w,hnum _ (by simp) σ w⟩
      ·rw[hvv];have:=Z6N (P:=P) w t u ty e J hd' hie none 0 0 sa ys.length sc (flat (us.take 0)) w D hsn' hsrc' (fun a' ha' =>by cases ha') (fun _=>rfl);simpa[G]using this
      ·have hxs:b.xs=[]:=List.eq_nil_of_length_eq_zero M;have:H.set id { b with xs:=ys.take 0++b.xs.drop ys.length }=H:=by
        apply wS;rw[m.hb];cases b;simp only at hxs;simp[hxs]
       rw[this];exact h
     ·have hk0:k=0:=by omega
      subst hk0;rcases m.shape with ⟨hn,_,_⟩|⟨g',cap',cur,tg,hv',hB,hh,htg,hn,hm,hcs,ht⟩
      ·rw[hn]at I;cases I
      ·rw[hv']at I;simp only[Value.slice.injEq,Option.some.injEq,Addr.mk.injEq,and_true]at I;obtain⟨hgg,_,hcc⟩:=I;have hgg:=hgg.symm;subst hgg;have hcc:=hcc.symm;subst hcc;have hfit:0+0+(flat (us.take len)).length<=cur.size:=by
        rw[D,hcs,hsz,hLe,G];have:min ys.length len<=cap:=by omega
        simpa using Nat.mul_le_mul_right ei.size this
       have Y:∀v∈flat (us.take len),v.oneCell' = true:=jG src.ones len;have hrun:=UO P g 0 b.elem tg (flat (us.take len)) 0 cur w hh htg hfit Y;simp only[Nat.add_zero,Nat.zero_add,List.take_zero,List.nil_append]at hrun;have hnew:flat (us.take len++vs.drop ys.length)=flat (us.take len)++(flat vs).drop (ys.length*L.Ag):=by
        rw[Nc,ZK m.sizes]
       have hlv:vs.length=len:=by rw[m.len,M]
       have hcurE:cur.toList=flat vs++cur.toList.drop (len*L.Ag):=by
        rw[<- ht,M,List.take_append_drop]
       have hFl:(flat vs).length=len*L.Ag:=by rw[flat_length m.sizes,hlv]
       have hTl:(flat (us.take len)).length=min ys.length len*L.Ag:=by rw[D,hsz,hLe]
       have hrest:cur.toList.drop (flat (us.take len)).length=(flat vs).drop (ys.length*L.Ag)++cur.toList.drop (len*L.Ag):=by
        rw[hTl]
        by_cases hyl:ys.length<=len
        ·rw[Nat.min_eq_left hyl]
         conv=>lhs;rw[hcurE]
         rw[List.drop_append_of_le_length (by rw[hFl];exact Nat.mul_le_mul_right _ hyl)]
        ·have hyl' : len<=ys.length:=by omega
         rw[Nat.min_eq_right hyl',List.drop_eq_nil_of_le (as:=flat vs) (by rw[hFl];exact Nat.mul_le_mul_right _ hyl'),List.nil_append]
       rw[hrest,<- List.append_assoc,<- hnew]at hrun;have z : ∀u∈us.take len++vs.drop ys.length,u.cells.size=L.Ag:=by
        intro u hu;rcases List.mem_append.1 hu with hu|hu
        ·rw[XO src.sizes len u hu,hLe]
        ·exact m.sizes u (List.mem_of_mem_drop hu)
       have hlenN:(us.take len++vs.drop ys.length).length=len:=by
        simp only[List.length_append,List.length_take,List.length_drop,hlus,hlv];omega
       have S:(ys.take len++b.xs.drop ys.length).length=len:=by
        simp only[List.length_append,List.length_take,List.length_drop,M];omega
       have hlen' : (flat (us.take len++vs.drop ys.length)).length=len*L.Ag:=by
        rw[flat_length z,hlenN]
       have hheap:=setRow_heap w g cur (flat (us.take len++vs.drop ys.length)++cur.toList.drop (len*L.Ag)).toArray b.elem tg hh;have hown:L.v.ownBlock=some g:=by rw[hv'];rfl
       have hgb:w.grownBy (w.setRow g (flat (us.take len++vs.drop ys.length)++cur.toList.drop (len*L.Ag)).toArray) L.v.ownBlock:=
        ⟨rfl,rfl,rfl,by simp,fun k _ hk=>setRow_other w g k _ (fun e=>hk (by rw[hown,e]))⟩
       obtain⟨h1,h2⟩:=h.upd m.hb m.live m.box hgb { b with xs:=ys.take len++b.xs.drop ys.length } m.live L rfl (.inl rfl) rfl (by grind) (fun g' hg' =>.inl hg')
        (fun g' c' _ hc' =>by grind) (fun ex=>by
         refine⟨by simp only[S];rw[m.tot,M],⟨us.take len++vs.drop ys.length,((src.Cj.ext ex).take len).append ((m.Cj.ext ex).drop ys.length),z,?_,?_⟩,m.Dc,m.Ag,?_,fun hrow=>?_⟩
         ·intro v hv2;rw[hnew]at hv2;rcases List.mem_append.1 hv2 with hv2|hv2
          ·exact Y v hv2
          ·exact m.ones v (List.mem_of_mem_drop hv2)
         ·simp only[S];refine⟨hlen',.inr ⟨g,cap,_,tg,by rw[hv',M],hB,hheap,?_,by omega,hm,?_,?_⟩⟩
          ·grind
          ·grind
          grind
         ·intro y hy;rcases List.mem_append.1 hy with hy|hy
          ·exact lC (src.oks y (List.mem_of_mem_take hy))
          ·exact m.oks y (List.mem_of_mem_drop hy)
         ·intro y hy;rcases List.mem_append.1 hy with hy|hy
          ·exact Oy (src.oks y (List.mem_of_mem_take hy))
          ·exact m.Gg hrow y (List.mem_of_mem_drop hy))
       refine⟨_,_,_,?_,h1,h2,hnum _ (by grind) _ _⟩;rw[hvv];have:=Z6N (P:=P) w t u ty e J hd' hie (some ⟨g,0*L.Ag,none⟩) len (cap - 0) sa ys.length sc (flat (us.take len)) _ D hsn' hsrc' (fun a' ha' =>by cases ha';simpa using hrun) (fun hh=>by cases hh);simpa[G]using this
    ·cases hc
   ·cases hc
  ·cases hc
 ·cases hc
end Go.Proofs.YteinepnbndegdaaGreat.Le
namespace Go.Proofs.YteinepnbndegdaaGreat.Le
open Go.RowKit (Below)
theorem Zh6 {z:Value} {s:Nat} (C:0<s) (I:z.cells.size=s) (n:Nat):∀k,(flat (List.replicate n z))[k]? = if k<n*s then z.cells[k % s]? else none:=by
 intro k;have:=Go.Great.flat_get C (List.replicate n z) (fun v G=>by simp_all) k;have D:(List.flatMap (fun v:Value=>v.cells.toList) (List.replicate n z))[k]? = (flat (List.replicate n z))[k]?:=rfl;rw[<- D,this,List.getElem?_replicate]
 by_cases h:k<n*s
 ·have:k / s<n:=(Nat.div_lt_iff_lt_mul C).2 h;rw[if_pos this,if_pos h];rfl
 ·have:¬k / s<n:=fun hh=>h ((Nat.div_lt_iff_lt_mul C).1 hh)
  grind
theorem vW {z:Value} {s:Nat} (D:0<s) (C:z.cells.size=s) (n:Nat):(madeCells z.cells (n*s)).toList=flat (List.replicate n z):=by
 apply List.ext_getElem?;intro k;rw[Zh6 D C]
 by_cases h:k<n*s
 ·rw[if_pos h];have hm:k % s<z.cells.size:=by rw[C];exact Nat.mod_lt _ D
  simp[madeCells,h,C]
  simp_all
 ·rw[if_neg h];simp[madeCells,h]
theorem X6 {E:Env} {P:Program} (Y:Bl E) (hP:E.P=P) {e:TypeId} {M:TI} (Q:E.ti e=some M) {z:V} (hz:M.zero=some z) (σ:Sg) (w:World) :
  ∃C I,P.info? e=some C/\C.zero=some I/\C.size=M.size/\C.bytes=M.bytes/\AL σ w [z] [I]:=by
 obtain⟨C,de,G,hde,e1,R,S,J⟩:=Eo (Y.ti _ _ Q);rw[hP]at G;rw[hz]at J;cases D:C.zero with
 | none=>simp[D]at J
 | some I=>
  simp only[D,Option.map_some,Option.some.injEq]at J;exact⟨C,I,G,D,R.symm,S.symm,by rw[J];exact XF σ w I⟩
theorem Z6b (v:Value):Bz (Nv v)=true:=by
 unfold Nv;split
 ·rfl
 ·split<;>rfl
theorem Zif (v:Value):Bz (PH v)=true:=by
 unfold PH;split
 ·split
  ·rename_i cs _;rw[show Bz (.agg (cs.toList.map Nv))=Be (cs.toList.map Nv) from rfl,JU];intro x z;obtain⟨c,_,rfl⟩:=List.mem_map.1 z;exact Z6b c
  ·rfl
 ·split<;>rfl
 ·split
  ·exact Z6b _
  ·rfl
theorem zD {E:Env} (M:Bl E) {e:TypeId} {J:TI} (I:E.ti e=some J) {z:V} (S:J.zero=some z):Bz z=true:=by
 obtain⟨D,de,R,Q,e1,e2,e3,G⟩:=Eo (M.ti _ _ I);rw[S]at G;cases C:D.zero with
 | none=>simp[C]at G
 | some Y=>
  simp only[C,Option.map_some,Option.some.injEq]at G;rw[G];exact Zif Y
theorem Zqe {E B w0 σ H w} {P:Program} (hE:Bl E) (hP:E.P=P) (h:Inv B w0 σ H w) {k:Nat} (hk0:Eg H k=true) {t e:TypeId} {C:TI} {z:V} {kl kc:IntKind} {n m:Int}
  (ht:P.underlying t=some (.slice e)) (R:E.ti e=some C) (hz:C.zero=some z)
  (h0:0<=n) (hnm:n<=m) (hby:m.toNat*C.bytes<=lim) (hmx:m<=maxLen) (hpos:0<C.size) (hzl:z.cells.length=C.size) (M:okV z=true) (es:List Nat) :
  ∃v' w' σ',(Instr.makeSlice t (.int kl n) (.int kc m)).run P w = .ok v' w' /\ Inv B w0 σ' (place H k (BO true false e C.size (List.replicate n.toNat (DX es z)))) w' /\ Ext σ w σ' w' /\
   AL σ' w' [.BK k 0 n.toNat n.toNat] [v']:=by
 obtain⟨G,I,hie,hzv,hsz,hbz,Q⟩:=X6 hE hP R hz σ w;have hzs:I.cells.size=C.size:=by rw[<- Q.Ov M];exact hzl
 have hmm:m<=9223372036854775807:=by
  have:(maxLen:Int)=9223372036854775807:=by simp[maxLen]
  omega
 have hbb:(G.bytes:Int)*m<=281474976710656:=by
  have h1:((m.toNat*C.bytes:Nat):Int)<=140737488355328:=by
   have:m.toNat*C.bytes<=140737488355328:=by simpa[lim]using hby
   omega
  rw[Int.natCast_mul,Int.toNat_of_nonneg (by omega),Int.mul_comm]at h1;rw[hbz];omega
 have hrun:=run_make (P:=P) w t e G I ht hie hzv kl kc n m h0 hnm hbb hmm;rw[hsz]at hrun;have Y:n.toNat<=m.toNat:=by omega
 have hrep:=AL.replicate n.toNat (QS es Q);have D:∀u∈List.replicate n.toNat I,u.cells.size=C.size:=fun u hu=>by simp_all
 have J:∀u∈flat (List.replicate n.toNat I),u.oneCell' = true:=by
  intro u hu;simp only[flat,List.mem_flatMap]at hu;obtain⟨a,ha,hb⟩:=hu;rw[(List.mem_replicate.1 ha).2]at hb;exact(Q.cells M).2 u hb
 have S:(List.replicate n.toNat (DX es z)).length=n.toNat:=by simp
 have hmd:=vW hpos hzs m.toNat;have hown:(w.alloc (.cells (madeCells I.cells (m.toNat*C.size)) e)).ownsRow B e C.size (.slice (some ⟨w.heap.size,0,none⟩) n.toNat m.toNat) (List.replicate n.toNat (DX es z)).length (flat (List.replicate n.toNat I)):=by
  rw[S];refine⟨by rw[flat_length D];simp,.inr ⟨w.heap.size,m.toNat,_,rfl,h.size,heap_alloc_new w _,Y,by omega,size_madeCells _ _,?_⟩⟩;rw[hmd];have:List.replicate n.toNat I=(List.replicate m.toNat I).take n.toNat:=by rw[List.take_replicate,Nat.min_eq_left Y]
  rw[this,X3 (e:=C.size) (fun u hu=>by rw[(List.mem_replicate.1 hu).2];exact hzs)]
 obtain⟨σ',h1,h2,h3⟩:=MR (e:=e) (Ag:=C.size) h hk0 (w.grownBy_alloc _ none) hrep (fun x hx=>by rw[(List.mem_replicate.1 hx).2];simp[DU,XV,QQ,M,zD hE R hz]) D J (.of hown) (by simp[Value.ownBlock]) false (by simp)
 grind
theorem Z8p (v:Value) (off:Nat) (cs:Array Value) (h:off+v.cells.size<=cs.size) :
  (v.cells.zipIdx.foldl (fun cs (x:Value×Nat)=>cs.setIfInBounds (off+x.2) x.1) cs).toList=cs.toList.take off++v.cells.toList++cs.toList.drop (off+v.cells.size):=by
 obtain⟨I,z⟩:=Go.Great.foldl_set off v.cells.toList 0 cs;have C:v.cells.zipIdx.foldl (fun cs (x:Value×Nat)=>cs.setIfInBounds (off+x.2) x.1) cs=(v.cells.toList.zipIdx 0).foldl (fun cs (x:Value×Nat)=>cs.setIfInBounds (off+x.2) x.1) cs:=by
  rw[<- Array.foldl_toList];simp
 rw[C];apply List.ext_getElem?;intro k;rw[Array.getElem?_toList,z k];simp only[Nat.add_zero,Array.length_toList]
 by_cases D:k<off
 ·grind
 ·by_cases G:k<off+v.cells.size
  ·grind
  ·rw[if_neg (by omega),List.append_assoc,List.getElem?_append_right (by simp;omega),List.getElem?_append_right (by simp;omega),List.getElem?_drop,Array.getElem?_toList];congr 1;simp;omega
inductive Parts (σ:Sg) (w:World):List (Nat×V)->List (Nat×Value)->Prop where
 | nil:Parts σ w [] []
 | cons {i x v xs vs}:AL σ w [x] [v]->Parts σ w xs vs->Parts σ w ((i,x)::xs) ((i,v)::vs)
theorem Z88 {σ w} {place:Nat->Option (Nat×Nat)}:∀{z:List (Nat×V)} {vparts:List (Nat×Value)} {cs D : List V} {ws:List Value},Parts σ w z vparts->AL σ w cs ws->(∀u∈ws,u.oneCell' = true) ->
  OG cs z place=some D -> ∃C,Instr.fill place ws.toArray vparts=some C.toArray/\AL σ w D C /\ (∀u∈C,u.oneCell' = true):=by
 intro z;induction z with
 | nil=>
  intro vparts cs D ws I J ho G;cases I;simp only[OG,Option.some.injEq]at G;subst G;exact⟨ws,rfl,J,ho⟩
 | cons p z ih=>
  intro vparts cs D ws I J ho G;cases I with
  | cons hx I=>
   rename_i i x v vs;simp only[OG]at G;split at G
   ·cases G
   ·rename_i off size R;split at G
    ·rename_i hc;simp only[Bool.and_eq_true,beq_iff_eq,decide_eq_true_eq]at hc;obtain⟨⟨c1,c2⟩,c3⟩:=hc;obtain⟨Q,hco⟩:=hx.cells c3;have hvs:v.cells.size=size:=by rw[<- hx.Ov c3];exact c1
     have hlen:=J.length;have Y:=Z8p v off ws.toArray (by simp;omega);have S : AL σ w (cs.take off++x.cells++cs.drop (off+size)) (ws.take off++v.cells.toList++ws.drop (off+size)):=((J.take off).append Q).append (J.drop _);obtain⟨C,f1,f2,f3⟩:=ih I S (by
      grind) G
     refine⟨C,?_,f2,f3⟩;simp only[Instr.fill,R,hvs];have M:(decide (size≠size)||decide (off+size>ws.toArray.size))=false:=by simp;omega
     simp only[ne_eq,not_true_eq_false,decide_false,Bool.false_or,List.size_toArray,gt_iff_lt,decide_eq_true_eq];rw[if_neg (by omega)];rw[<- f1];congr 1
     grind
    ·cases G
end Go.Proofs.YteinepnbndegdaaGreat.Le
namespace Go.Proofs.YteinepnbndegdaaGreat.Le
open Go.RowKit (Below)
theorem yR {d:TypeDesc} {fs:List (Nat×Nat)} (h:Ty.struct fs=Jw d):∃fields,d = .struct fields/\fs=fields.toList.map fun f=>(f.offset,f.type):=by
 cases d<;>simp[Jw]at h;exact⟨_,rfl,h⟩
theorem gJ {d:TypeDesc} {n e:Nat} (h:Ty.array n e=Jw d):d = .array n e:=by
 cases d<;>simp[Jw]at h;rw[h.1,h.2]
theorem Z72 {E:Env} {P:Program} (G:Bl E) (I:E.P=P):∀(fields:List Field),(∀f∈fields,(E.ti f.type).isSome=true) ->
  ∃z:List (Nat×Nat),fields.mapM (fun f=>(P.info? f.type).map fun i=>(f.offset,i.size))=some z/\z.length=fields.length /\
   ∀i:Nat,z[i]? = placesOf E (fields.map fun f=>(f.offset,f.type)) i
 | [],_=>⟨[],rfl,rfl,fun i=>by simp[placesOf]⟩
 | f::fields,h=>by
  obtain⟨z,S,J,M⟩:=Z72 G I fields (fun g R=>h g (by simp[R]));have Q:=h f (by simp);cases C:E.ti f.type with
  | none=>simp[C]at Q
  | some ti=>
   obtain⟨D,d,hi,Y,q1,q2,q3,q4⟩:=Eo (G.ti _ _ C);rw[I]at hi;refine⟨(f.offset,D.size)::z,?_,by simp[J],?_⟩
   ·simp_all
   ·intro i;cases i with
    | zero=>simp[placesOf,C,q2]
    | succ i=>simpa[placesOf]using M i
theorem Zow {E:Env} {σ w} {P:Program} (hE:Bl E) (hP:E.P=P) {t:TypeId} {C:List (Nat×V)} {vparts:Array (Nat×Value)} {x:V} (hp:Parts σ w C vparts.toList) (hb:VP E t C=some x) :
  ∃u,(Instr.build t vparts).run P w = .ok u w/\AL σ w [x] [u]:=by
 unfold VP at hb;split at hb
 ·rename_i i hti;obtain⟨inf,d,hi,hd,q1,q2,q3,q4⟩:=Eo (hE.ti _ _ hti);rw[hP]at hi hd;split at hb
  ·rename_i z hz;split at hb
   ·rename_i hzo;rw[hz]at q4;cases G:inf.zero with
    | none=>simp[G]at q4
    | some zv=>
     simp only[G,Option.map_some,Option.some.injEq]at q4;have hzr:AL σ w [z] [zv]:=by rw[q4];exact XF σ w zv
     obtain⟨S,R⟩:=hzr.cells hzo;split at hb
     ·rename_i fs M;obtain⟨fields,J,Y⟩:=yR (M.symm.trans q1);split at hb
      ·rename_i Q;cases D:OG z.cells C (placesOf E fs) with
       | none=>simp[D]at hb
       | some cs=>
        simp only[D,Option.map_some,Option.some.injEq]at hb;subst hb;obtain⟨I,m1,m2,m3⟩:=Z72 hE hP fields.toList (by
         intro f D;have:=List.all_eq_true.1 Q (f.offset,f.type) (by rw[Y];exact List.mem_map.2 ⟨f,D,rfl⟩);exact this)
        have hpl:(fun i:Nat=>I.toArray[i]?)=placesOf E fs:=by
         funext i;rw[Y,<- m3 i];simp
        obtain⟨ws,f1,f2,f3⟩:=Z88 hp S R D;refine⟨.agg ws.toArray,run_build w t vparts ws.toArray ?_,.agg f2 f3 .nil⟩;simp only[Program.built,hi,hd,J,G,m1]
        simp_all
      ·cases hb
     ·rename_i n e M;have J:=gJ (M.symm.trans q1);split at hb
      ·rename_i ei hei;obtain⟨infe,de,hie,hde,e1,e2,e3,e4⟩:=Eo (hE.ti _ _ hei);rw[hP]at hie;cases D:OG z.cells C (fun i=>some (i*ei.size,ei.size)) with
       | none=>simp[D]at hb
       | some cs=>
        simp only[D,Option.map_some,Option.some.injEq]at hb;subst hb;obtain⟨ws,f1,f2,f3⟩:=Z88 hp S R D;refine⟨.agg ws.toArray,run_build w t vparts ws.toArray ?_,.agg f2 f3 .nil⟩;simp only[Program.built,hi,hd,J,G,hie,<- e2];simpa using f1
      ·cases hb
     ·cases hb
   ·cases hb
  ·cases hb
 ·cases hb
theorem Zly {σ w} {sz:Nat}:∀{z:List (Nat×V)} {vparts:List (Nat×Value)} {xs D : List V} {us:List Value},Parts σ w z vparts->AL σ w xs us->(∀x∈xs,okV x=true)->(∀u∈us,u.cells.size=sz)->(∀u∈flat us,u.oneCell' = true) ->
  L8 xs sz z=some D -> ∃C,Instr.fill (fun i=>some (i*sz,sz)) (flat us).toArray vparts=some (flat C).toArray/\AL σ w D C /\ (∀x∈D,okV x=true)/\(∀u∈C,u.cells.size=sz)/\(∀u∈flat C,u.oneCell' = true)/\D.length=xs.length:=by
 intro z;induction z with
 | nil=>
  intro vparts xs D us J Q hk R ho G;cases J;simp only[L8,Option.some.injEq]at G;subst G;exact⟨us,rfl,Q,hk,R,ho,rfl⟩
 | cons p z ih=>
  intro vparts xs D us J Q hk R ho G;cases J with
  | cons hx J=>
   rename_i i x v vs;simp only[L8]at G;split at G
   ·rename_i hc;simp only[Bool.and_eq_true,beq_iff_eq,decide_eq_true_eq]at hc;obtain⟨⟨c1,c2⟩,c3⟩:=hc;obtain⟨hcr,hco⟩:=hx.cells c3;have M:v.cells.size=sz:=by rw[<- hx.Ov c3];exact c1
    have hlen:=Q.length;have hi:i<us.length:=by omega
    have I:us[i]? = some us[i]:=List.getElem?_eq_getElem hi;have hfs:=ZV R I M;have S:(flat us).length=us.length*sz:=flat_length R;have hle:i*sz+sz<=us.length*sz:=by rw[<- Nat.succ_mul];exact Nat.mul_le_mul_right _ hi
    have Y:=Z8p v (i*sz) (flat us).toArray (by simp_all);obtain⟨C,f1,f2,f3,f4,f5,f6⟩:=ih J (Q.set i hx) (by
     grind) (by
     grind) (by
     grind) G
    refine⟨C,?_,f2,f3,f4,f5,by rw[f6];simp⟩;simp only[Instr.fill,M];simp only[ne_eq,not_true_eq_false,decide_false,Bool.false_or,List.size_toArray,gt_iff_lt,decide_eq_true_eq];rw[if_neg (by rw[S];omega)];rw[<- f1];congr 1
    grind
   ·cases G
theorem Zka {σ w}:∀{z:List (Nat×V)} {vparts:List (Nat×Value)},Parts σ w z vparts->AL σ w (z.map (·.2)) (vparts.map (·.2))/\z.map (·.1)=vparts.map (·.1):=by
 intro z;induction z with
 | nil=>intro vparts h;cases h;exact⟨.nil,rfl⟩
 | cons p z J=>
  intro vparts h;cases h with
  | cons I G=>
   obtain⟨C,D⟩:=J G;exact⟨AL.Dk.2 ⟨I,C⟩,by simp[D]⟩
theorem Z6M {α z:Type}:∀(l:List (α×z)),(l.map (·.1)).zip (l.map (·.2))=l
 | []=>rfl
 | x::l=>by simp[Z6M l]
theorem Znw {σ w}:∀{z:List Nat} {xs:List V} {vs:List Value},AL σ w xs vs->z.length=xs.length->Parts σ w (z.zip xs) (z.zip vs):=by
 intro z;induction z with
 | nil=>intro xs vs h C;exact .nil
 | cons i z I=>
  intro xs vs h C;cases xs with
  | nil=>simp at C
  | cons x xs=>
   obtain⟨v,J,rfl,D,G⟩:=h.Bd;exact .cons D (I G (by simpa using C))
theorem Z6x {sz:Nat}:∀{z:List (Nat×V)} {xs C : List V},(∀x∈xs,Bz x=true)->(∀p∈z,Bz p.2=true)->L8 xs sz z=some C -> ∀x∈C,Bz x=true
 | [],xs,C,I,M,D=>by
  simp only[L8,Option.some.injEq]at D;subst D;exact I
 | (i,v)::Q,xs,C,I,M,D=>by
  simp only[L8]at D;split at D
  ·refine Z6x (fun x J =>?_) (fun p G =>M p (List.mem_cons_of_mem _ G)) D;rcases List.mem_or_eq_of_mem_set J with h|h
   ·exact I x h
   simp_all
  ·cases D
theorem ZhO {E B w0 σ H w} {P:Program} (hE:Bl E) (hP:E.P=P) (h:Inv B w0 σ H w) {k:Nat} (hk0:Eg H k=true) {t:TypeId} {n:Nat} {C:List (Nat×V)} {vparts:Array (Nat×Value)} {r:V} {H' : Heap}
  (hp:Parts σ w C vparts.toList) (hb:MM E k H t n C=some (r,H')) :
  ∃u w' σ',(Instr.buildSlice t n vparts).run P w = .ok u w' /\ Inv B w0 σ' H' w' /\ Ext σ w σ' w' /\ AL σ' w' [r] [u]:=by
 unfold MM at hb;split at hb
 ·rename_i e sz by' z0 hti;split at hb
  ·rename_i ei M;split at hb
   ·rename_i z vs hz hf;split at hb
    ·rename_i hc;obtain⟨c1,c2,c3,c4,c5⟩:=hc;split at hb
     ·rename_i xs hfe;simp only[Option.some.injEq,Prod.mk.injEq]at hb;obtain⟨rfl,rfl⟩:=hb;obtain⟨inf,d,hi,hd,q1,q2,q3,q4⟩:=Eo (hE.ti _ _ hti);have hd' : P.underlying t=some (.slice e):=by rw[hP]at hd;rw[hd,MN q1]
      obtain⟨J,zv,Q,hzv,S,hbz,_⟩:=X6 hE hP M hz σ w;obtain⟨hI,hEx⟩:=h.freeze ((C.map (·.2)).flatMap DC);have hzr:AL (σ.freeze H ((C.map (·.2)).flatMap DC)) w [z] [zv]:=by
       obtain⟨infe',zv',G,I,_,_,hr⟩:=X6 hE hP M hz (σ.freeze H ((C.map (·.2)).flatMap DC)) w;rw[Q]at G;cases G;rw[hzv]at I;cases I;exact hr
      have hzs:zv.cells.size=ei.size:=by rw[<- hzr.Ov c4];exact c3
      obtain⟨Y,hu2⟩:=Zka hp;have hfr:=fO h Y hf _ (fun i hi=>hi);have D :=ZiW (E.rows e) hfr;have hlen:(C.map (·.1)).length=(vs.map (DX (E.rows e))).length:=by rw[D.length,<- Y.length];simp
      have hpz:=Znw D hlen;have hvp:(C.map (·.1)).zip (vparts.toList.map (·.2))=vparts.toList:=by
       rw[hu2];exact Z6M _
      rw[hvp]at hpz;have R:∀u∈flat (List.replicate n zv),u.oneCell' = true:=by
       intro u hu;simp only[flat,List.mem_flatMap]at hu;obtain⟨a,ha,hb⟩:=hu;rw[(List.mem_replicate.1 ha).2]at hb;exact(hzr.cells c4).2 u hb
      obtain⟨us',f1,f2,f3,f4,f5,f6⟩:=Zly hpz (AL.replicate n (QS (E.rows e) hzr)) (fun x hx=>by rw[(List.mem_replicate.1 hx).2,XV];exact c4) (fun u hu=>by rw[(List.mem_replicate.1 hu).2];exact hzs) R hfe;have hxl:xs.length=n:=by rw[f6];simp
      have hnm:n<=maxLen:=by
       have:n<=n*ei.size:=Nat.le_mul_of_pos_right _ c2;simp[maxLen];omega
      obtain⟨σ',i1,i2,i3⟩:=Z7V (n:=n) hI (k:=k) (by rw[Zmh];exact hk0) e true f2 (fun _=>Z6x (fun x hx=>by rw[(List.mem_replicate.1 hx).2,QQ];exact zD hE M hz) (fun p hp=>by
       obtain⟨q,hq,hq'⟩:=List.mem_map.1 (List.of_mem_zip hp).2;rw[<- hq',QQ];exact(JU vs).1 (XB h Y hf) q hq) hfe) f3 f4 f5 (by rw[hxl];exact hnm)
      rw[hxl]at i3;refine⟨.slice (some ⟨w.heap.size,0,none⟩) n n,_,σ',?_,i1,hEx.trans i2,?_⟩
      ·by_cases hn:n=0
       ·subst hn;have hpn:C=[]:=by simpa using c5
        subst hpn;cases hp0:vparts.toList with
        | nil=>
         have:vparts = #[]:=by simpa using hp0
         subst this;have hx:xs=[]:=List.eq_nil_of_length_eq_zero hxl;subst hx;cases f2.Dx;simp[Instr.buildSlice,run_underlying hd',sizeOf,typeInfo,Q,Instr.fill,newRow,flat,Array.range_zero']
        | cons a b=>simp_all
       ·have hpos:¬n*J.size=0:=by rw[S];exact Nat.mul_ne_zero hn (by omega)
        refine run_buildSlice w t e n vparts (flat us').toArray J zv hd' Q hzv (by rw[S];omega) hpos ?_;rw[S];have hm:(Array.range (n*ei.size)).map (zv.cells[· % zv.cells.size]!)=(flat (List.replicate n zv)).toArray:=by
         apply Array.ext';exact vW c2 hzs n
        simp_all
      ·exact .BK (L:=⟨.slice (some ⟨w.heap.size,0,none⟩) n n,n,ei.size⟩) i3 (Nat.le_refl _) (fun _=>⟨by omega,_,_,_,0,rfl,by simp[Addr.add],Nat.zero_le _,Nat.le_refl _,fun _=>rfl⟩) ⟨_,_,_,rfl⟩ .nil
     ·cases hb
    ·cases hb
   ·cases hb
  ·cases hb
 ·cases hb
end Go.Proofs.YteinepnbndegdaaGreat.Le
namespace Go.Proofs.YteinepnbndegdaaGreat.Le
open Go.RowKit (Below)
theorem addr_add_add (a:Addr) (x y:Nat):(a.add x).add y=a.add (x+y):=by
 unfold Addr.add
 grind
theorem ZoI {B w0 σ H w} (h:Inv B w0 σ H w) {x:V} {v:Value} {n:Nat} (C:AL σ w [x] [v]) (z:lenOf H x=some n) :
  (∃s,x = .lit (.string s)/\v = .string s/\n=s.size)\/∃a c,v = .slice a n c/\n<=c:=by
 unfold lenOf at z;split at z
 ·simp only[Option.some.injEq]at z;subst z;right;cases C with
  | EI _=>simp_all
  | Et a _=>simp_all
  | sl b o c e k0 k1 k2 k3 k4 k5 k6 k7=>grind
 ·simp only[Option.some.injEq]at z;subst z;right;cases C with
  | Fh _=>simp_all
  | GM a _=>simp_all
  | CE b o e k0 k1 k2 k3 k4 k5 k6=>grind
 ·rename_i id off len tot;split at z
  ·rename_i b hb;simp only[Option.some.injEq]at z;subst z;right;obtain⟨L,us,m,I,G,J,D⟩:=MQ h C hb
   grind
  ·cases z
 ·rename_i s;simp only[Option.some.injEq]at z;subst z;left;cases C with
  | lit _ _=>simp_all
 ·cases z
theorem ZaA {B w0 σ H w} {P:Program} (h:Inv B w0 σ H w) {x:V} {v:Value} {n:Nat} {t ty:TypeId} {d:TypeDesc} (G:AL σ w [x] [v]) (J:lenOf H x=some n)
  (I:P.underlying t=some d) (hd:(∃e,d = .slice e)\/d = .string) (hc:(∃e,d = .slice e)↔∀s,x≠.lit (.string s)) :
  (Builtin.len_ #[t] ty #[v]).run P w = .ok (.int .i64 n) w:=by
 rcases ZoI h G J with ⟨s,Q,C,D⟩|⟨a,c,C,D⟩
 ·have z:d = .string:=by
   rcases hd with hd|hd
   ·exact absurd Q (hc.1 hd s)
   ·exact hd
  subst C D;simp[Builtin.len_,run_underlying I,z,goInt]
 ·have z:∃e,d = .slice e:=hc.2 (fun s M=>by subst M;cases G;cases C);obtain⟨e,z⟩:=z;subst C;simp[Builtin.len_,run_underlying I,z,goInt]
theorem Us {σ w} {P:Program} {x:V} {v:Value} {hi n:Nat} (z:BoundsCode) (C:AL σ w [x] [v]) (hb:Ij x hi=some n) :
  (Instr.sliceBound v hi z).run P w = .ok n w/\n<=hi:=by
 unfold Ij at hb;split at hb
 ·rename_i k m;split at hb
  ·rename_i hc;simp only[Option.some.injEq]at hb;subst hb;cases C with
   | lit _ _=>
    refine⟨?_,by omega⟩;simp[Instr.sliceBound,asIntOf,hc]
  ·cases hb
 ·cases hb
inductive Jl (σ:Sg) (w:World):Option V->Option Value->Prop where
 | none:Jl σ w none none
 | some {x v}:AL σ w [x] [v]->Jl σ w (some x) (some v)
theorem Z8y {σ w} {P:Program} {x:V} {v:Value} {n cap h:Nat} (z:BoundsCode) (I:n<=cap) (D:AL σ w [x] [v]) (C:Ij x n=some h):(Instr.sliceBound v cap z).run P w = .ok h w/\h<=n:=by
 have G:=(Us (P:=P) z D C).2;refine⟨?_,G⟩;have:Ij x cap=some h:=by
  unfold Ij at C ⊢;split at C
  ·grind
  ·cases C
 exact(Us (P:=P) _ D this).1
theorem PE {σ w} {P:Program} {n cap:Nat} (Q:n<=cap) (z:Bool) {lo hi:Option V} {I G:Option Value} {l h:Nat}
  (D:Jl σ w lo I) (M:Jl σ w hi G)
  (J:IM hi n n=some h) (C:IM lo h 0=some l) :
  (Instr.sliceBounds z n cap I G none).run P w = .ok (l,h,cap) w/\l<=h/\h<=n:=by
 cases M with
 | none=>
  simp only[IM,Option.some.injEq]at J;subst J;cases D with
  | none=>
   simp only[IM,Option.some.injEq]at C;subst C;exact⟨rfl,Nat.zero_le _,Nat.le_refl _⟩
  | some R=>
   obtain⟨Y,r2⟩:=Us (P:=P) .sliceB R C;refine⟨?_,r2,Nat.le_refl _⟩;simp[Instr.sliceBounds,Y]
 | some S =>
  obtain⟨q1,q2⟩:=Z8y (P:=P) (if z then .sliceAcap else .sliceAlen) Q S J;cases D with
  | none=>
   simp only[IM,Option.some.injEq]at C;subst C;refine⟨?_,Nat.zero_le _,q2⟩;simp[Instr.sliceBounds,q1]
  | some R=>
   obtain⟨Y,r2⟩:=Us (P:=P) .sliceB R C;refine⟨?_,r2,q2⟩;simp[Instr.sliceBounds,q1,Y]
theorem fZ {σ w} {P:Program} {n cap:Nat} (M:n<=cap) {lo:Option V} {R xm:V} {z:Option Value} {Q vm:Value} {l h:Nat}
  (I:Jl σ w lo z) (G:AL σ w [R] [Q]) (J:AL σ w [xm] [vm])
  (C:Ij R n=some h) (em:Ij xm n=some h) (D:IM lo h 0=some l) :
  (Instr.sliceBounds true n cap z (some Q) (some vm)).run P w = .ok (l,h,h) w/\l<=h/\h<=n:=by
 obtain⟨S,Y⟩:=Z8y (P:=P) .slice3Acap M J em;have q1:(Instr.sliceBound Q h .slice3B).run P w = .ok h w:=by
  have:Ij R h=some h:=by
   unfold Ij at C ⊢;split at C
   ·grind
   ·cases C
  exact(Us (P:=P) _ G this).1
 cases I with
 | none=>
  simp only[IM,Option.some.injEq]at D;subst D;refine⟨?_,Nat.zero_le _,Y⟩;simp[Instr.sliceBounds,S,q1]
 | some hr=>
  obtain⟨r1,r2⟩:=Us (P:=P) .slice3C hr D;refine⟨?_,r2,Y⟩;simp[Instr.sliceBounds,S,q1,r1]
theorem MC {P:Program} {w:World} {t e:TypeId} {z:TypeInfo} {a:Option Addr} {n c l h m:Nat} {lo hi C:Option Value} (D:P.underlying t=some (.slice e)) (hi' : P.info? e=some z)
  (hb:(Instr.sliceBounds true n c lo hi C).run P w = .ok (l,h,m) w) :
  (Instr.sliceAt t (.slice a n c) lo hi C).run P w = .ok (.slice (if m=l then a else a.map (·.add (l*z.size))) (h - l) (m - l)) w:=by
 simp[Instr.sliceAt,Instr.slice,run_underlying D,hb,sizeOf,typeInfo,hi']
theorem Lies.sub {σ w b o us e} (h:Lies σ w b o us) (D:∀u∈us,u.cells.size=e) (l n:Nat):Lies σ w b (o+l*e) ((us.drop l).take n):=by
 intro j u z;rw[Z00 D]at z;have C:j<n*e:=by
  have:=(List.getElem?_eq_some_iff.1 z).1;simp at this;omega
 rw[List.getElem?_take,if_pos C,List.getElem?_drop]at z;have:=h (l*e+j) u z
 grind
theorem lD {σ w} {es:List V} {us:List Value} {b o c e l h:Nat} (k0:AL σ w es us) (k1:∀x∈es,DU x=true) (k2:∀u∈us,u.cells.size=e) (k3:∀u∈flat us,u.oneCell' = true)
  (k4:es.length<=c) (k5:c<=maxLen) (k6:Lies σ w b o us) (Y:l<=h) (hh:h<=es.length) (m:Nat) (hm:h<=m) (Q:m<=c) :
  AL σ w [.sl false e ((es.drop l).take (h - l))] [.slice (if m=l then some ⟨b,o,none⟩ else (some (⟨b,o,none⟩:Addr)).map (·.add (l*e))) (h - l) (m - l)] /\
  (m=h->AL σ w [.CE false e ((es.drop l).take (h - l))] [.slice (if m=l then some ⟨b,o,none⟩ else (some (⟨b,o,none⟩:Addr)).map (·.add (l*e))) (h - l) (m - l)]):=by
 have z:((es.drop l).take (h - l)).length=h - l:=by simp;omega
 have D:∃o',(if m=l then some (⟨b,o,none⟩:Addr) else (some (⟨b,o,none⟩:Addr)).map (·.add (l*e)))=some ⟨b,o',none⟩/\Lies σ w b o' ((us.drop l).take (h - l)):=by
  by_cases G:m=l
  ·rw[if_pos G];refine⟨o,rfl,?_⟩;have:h - l=0:=by omega
   rw[this,List.take_zero];intro j u R;simp[flat]at R
  ·rw[if_neg G];exact⟨o+l*e,by simp[Addr.add_mid],k6.sub k2 l (h - l)⟩
 obtain⟨o',M,C⟩:=D;rw[M];have r:=jF k0 l (h - l);have ok:∀x∈(es.drop l).take (h - l),DU x=true:=fun x S=>k1 x (List.mem_of_mem_drop (List.mem_of_mem_take S));have sz:=XO (gX k2 l) (h - l);have J:=jG (ZW k3 l) (h - l);constructor
 ·have:=AL.sl (σ:=σ) (w:=w) (xs:=[]) (vs:=[]) b o' (m - l) e r ok sz J (by rw[z];omega) (by omega) C .nil;rw[z]at this;exact this
 ·intro I;have:=AL.CE (σ:=σ) (w:=w) (xs:=[]) (vs:=[]) b o' e r ok sz J (by rw[z];omega) C .nil;rw[z]at this;rw[I];exact this
theorem Uw {E:Env} {P:Program} (M:Bl E) (S:E.P=P) {H:Heap} {t:TypeId} {x:V} (hx:∀s,x≠.lit (.string s)) (z:PD E H t x=true) :
  ∃e C,P.underlying t=some (.slice e)/\P.info? e=some C/\EW H x C.size=true:=by
 unfold PD at z;split at z
 ·exact absurd rfl (hx _)
 ·split at z
  ·rename_i e sz by' z0 J;split at z
   ·rename_i ei I;obtain⟨C,d,hi,Q,q1,q2,q3,q4⟩:=Eo (M.ti _ _ J);obtain⟨G,de,D,Y,e1,R,e3,e4⟩:=Eo (M.ti _ _ I);rw[S]at Q D;exact⟨e,G,by rw[Q,MN q1],D,by rw[<- R];exact z⟩
   ·cases z
  ·cases z
theorem cut3 {E:Env} {σ w} {P:Program} {x:V} {t te:TypeId} {G:TypeInfo} {b:Bool} {e:Nat} {xs:List V} {v:Value} {lo:Option V} {xh xm:V} {I:Option Value} {vh vm:Value} {l h:Nat}
  (ht:P.underlying t=some (.slice te)) (hi' : P.info? te=some G) (hes:(b||e==G.size)=true)
  (hx:x = .sl b e xs\/x = .CE b e xs) (hr:AL σ w [x] [v]) (C:Jl σ w lo I) (z:AL σ w [xh] [vh]) (D:AL σ w [xm] [vm])
  (eh:Ij xh xs.length=some h) (em:Ij xm xs.length=some h) (el:IM lo h 0=some l) :
  ∃u,(Instr.sliceAt t v I (some vh) (some vm)).run P w = .ok u w/\AL σ w [.CE false e ((xs.drop l).take (h - l))] [u]:=by
 have J:∀e a,v = .slice (some a) 0 0->xs=[]->∃u,(Instr.sliceAt t v I (some vh) (some vm)).run P w = .ok u w/\AL σ w [.CE false e ((xs.drop l).take (h - l))] [u]:=by
  intro e a hv Y;subst hv Y;obtain⟨b1,b2,b3⟩:=fZ (P:=P) (Nat.le_refl 0) C z D eh em el;have R:h=0:=by simpa using b3
  have S:l=0:=by omega
  subst R;subst S;refine⟨_,MC ht hi' b1,?_⟩;simp;exact .GM a .nil
 have M:∀e,v = .slice none 0 0->xs=[]->∃u,(Instr.sliceAt t v I (some vh) (some vm)).run P w = .ok u w/\AL σ w [.CE false e ((xs.drop l).take (h - l))] [u]:=by
  intro e hv Y;subst hv Y;obtain⟨b1,b2,b3⟩:=fZ (P:=P) (Nat.le_refl 0) C z D eh em el;have R:h=0:=by simpa using b3
  have S:l=0:=by omega
  subst R;subst S;refine⟨_,MC ht hi' b1,?_⟩;simp;exact .Fh .nil
 rcases hx with rfl|rfl
 ·cases hr with
  | EI _=>exact M e rfl rfl
  | Et a _=>exact J e a rfl rfl
  | sl b' o c e' k0 k1 k2 k3 k4 k5 k6 k7=>
   have Q:e=G.size:=by simpa using hes
   obtain⟨b1,b2,b3⟩:=fZ (P:=P) k4 C z D eh em el;refine⟨_,MC ht hi' b1,?_⟩;rw[<- Q];exact(lD k0 k1 k2 k3 k4 k5 k6 b2 b3 h (Nat.le_refl _) (by omega)).2 rfl
 ·cases hr with
  | Fh _=>exact M e rfl rfl
  | GM a _=>exact J e a rfl rfl
  | CE b' o e' k0 k1 k2 k3 k4 k5 k6=>
   have Q:e=G.size:=by simpa using hes
   obtain⟨b1,b2,b3⟩:=fZ (P:=P) (Nat.le_refl _) C z D eh em el;refine⟨_,MC ht hi' b1,?_⟩;rw[<- Q];exact(lD k0 k1 k2 k3 (Nat.le_refl _) k4 k5 b2 b3 h (Nat.le_refl _) b3).2 rfl
theorem Zp8 {E B w0 σ H w} {P:Program} (hE:Bl E) (hP:E.P=P) (h:Inv B w0 σ H w) {t:TypeId} {x r:V} {v:Value} {lo hi mx:Option V} {vlo vhi vmx:Option Value} {H' : Heap}
  (hr:AL σ w [x] [v]) (I:Jl σ w lo vlo) (R:Jl σ w hi vhi) (hmx:Jl σ w mx vmx) (C:Ii E H t x lo hi mx=some (r,H')) :
  ∃u σ',(Instr.sliceAt t v vlo vhi vmx).run P w = .ok u w/\Inv B w0 σ' H' w/\Ext σ w σ' w/\AL σ' w [r] [u]:=by
 unfold Ii at C;split at C
 ·rename_i D;split at C
  ·cases C
  ·rename_i n hn;split at C
   ·cases C
   ·rename_i hh eh;split at C
    ·cases C
    ·rename_i l el;cases hmx with
     | none=>
      simp only at C;split at C
      ·
       rename_i s;simp only[Option.some.injEq,Prod.mk.injEq]at C;obtain⟨rfl,rfl⟩:=C;have hst:P.underlying t=some .string:=by rw[<- hP];exact hE.isStr t D
       cases hr with
       | lit hlf _=>
        have z:n=s.size:=by simpa[lenOf]using hn.symm
        subst z;obtain⟨b1,b2,b3⟩:=PE (P:=P) (Nat.le_refl _) false I R eh el;refine⟨.string (s.extract l hh),σ,?_,h,Ext.refl σ w,.lit ?_ .nil⟩
        ·simp[Instr.sliceAt,Instr.slice,run_underlying hst,b1]
        ·have:s.size<=maxLen:=by simpa[leaf]using hlf
         simp only[leaf,decide_eq_true_eq,ByteArray.size_extract];omega
      ·rename_i b e xs;simp only[Option.some.injEq,Prod.mk.injEq]at C;obtain⟨rfl,rfl⟩:=C;obtain⟨te,M,ht,hi',G⟩:=Uw hE hP (by simp) D;cases hr with
       | EI _=>
        have z:n=0:=by simpa[lenOf]using hn.symm
        subst z;obtain⟨b1,b2,b3⟩:=PE (P:=P) (Nat.le_refl 0) true I R eh el;have Y:hh=0:=by omega
        have hl0:l=0:=by omega
        subst Y;subst hl0;refine⟨_,σ,MC ht hi' b1,h,Ext.refl σ w,?_⟩;simp;exact .EI .nil
       | Et a _=>
        have z:n=0:=by simpa[lenOf]using hn.symm
        subst z;obtain⟨b1,b2,b3⟩:=PE (P:=P) (Nat.le_refl 0) true I R eh el;have Y:hh=0:=by omega
        have hl0:l=0:=by omega
        subst Y;subst hl0;refine⟨_,σ,MC ht hi' b1,h,Ext.refl σ w,?_⟩;simp;exact .Et a .nil
       | sl b o c e k0 k1 k2 k3 k4 k5 k6 k7=>
        have z:n=xs.length:=by simpa[lenOf]using hn.symm
        subst z;have hee:e=M.size:=by simpa[EW]using G
        obtain⟨b1,b2,b3⟩:=PE (P:=P) k4 true I R eh el;refine⟨_,σ,MC ht hi' b1,h,Ext.refl σ w,?_⟩;rw[<- hee];exact(lD k0 k1 k2 k3 k4 k5 k6 b2 b3 c (by omega) (Nat.le_refl _)).1
      ·rename_i b e xs;simp only[Option.some.injEq,Prod.mk.injEq]at C;obtain⟨rfl,rfl⟩:=C;obtain⟨te,M,ht,hi',G⟩:=Uw hE hP (by simp) D;cases hr with
       | Fh _=>
        have z:n=0:=by simpa[lenOf]using hn.symm
        subst z;obtain⟨b1,b2,b3⟩:=PE (P:=P) (Nat.le_refl 0) true I R eh el;have Y:hh=0:=by omega
        have hl0:l=0:=by omega
        subst Y;subst hl0;refine⟨_,σ,MC ht hi' b1,h,Ext.refl σ w,?_⟩;simp;exact .EI .nil
       | GM a _=>
        have z:n=0:=by simpa[lenOf]using hn.symm
        subst z;obtain⟨b1,b2,b3⟩:=PE (P:=P) (Nat.le_refl 0) true I R eh el;have Y:hh=0:=by omega
        have hl0:l=0:=by omega
        subst Y;subst hl0;refine⟨_,σ,MC ht hi' b1,h,Ext.refl σ w,?_⟩;simp;exact .Et a .nil
       | CE b o e k0 k1 k2 k3 k4 k5 k6=>
        have z:n=xs.length:=by simpa[lenOf]using hn.symm
        subst z;have hee:e=M.size:=by simpa[EW]using G
        obtain⟨b1,b2,b3⟩:=PE (P:=P) (Nat.le_refl _) true I R eh el;refine⟨_,σ,MC ht hi' b1,h,Ext.refl σ w,?_⟩;rw[<- hee];exact(lD k0 k1 k2 k3 (Nat.le_refl _) k4 k5 b2 b3 xs.length b3 (Nat.le_refl _)).1
      ·rename_i id off len tot;simp only[Option.some.injEq,Prod.mk.injEq]at C;obtain⟨rfl,rfl⟩:=C;obtain⟨te,M,ht,hi',G⟩:=Uw hE hP (by simp) D;cases hb:Cc H id tot with
       | none=>simp[lenOf,hb]at hn
       | some b=>
        have z:n=len:=by simpa[lenOf,hb]using hn.symm
        subst z;obtain⟨L,us,m,hxl,hol,hsub,hview⟩:=MQ h hr hb;have hLe:L.Ag=M.size:=by
         have:b.Ag=M.size:=by simpa[EW,hb]using G
         rw[<- m.Ag];exact this
        obtain⟨a,nn,c,k,e1,e2,e3,e4,e5⟩:=hsub;have hnc:nn<=c/\nn=tot:=by
         rcases m.shape with ⟨hv,hx,hu⟩|⟨g,cap,cur,tg,hv,hg,hhh,htg,hnn,hm,hsz,htk⟩
         ·rw[hv]at e1;cases e1;exact⟨Nat.le_refl _,by rw[<- hxl,hx];rfl⟩
         ·rw[hv]at e1;cases e1;exact⟨hnn,hxl⟩
        subst e2;obtain⟨b1,b2,b3⟩:=PE (P:=P) (n:=n) (cap:=c - off) (by omega) true I R eh el;refine⟨_,σ,MC ht hi' b1,h,Ext.refl σ w,?_⟩;refine .BK m.box (by rw[m.tot,hxl];exact Nat.le_refl _) (fun _=>⟨by omega,a,nn,c,if c - off=l then k else k+l,e1,?_,by omega,by split<;>omega,fun hlt=>by split<;>omega⟩) ⟨_,_,_,rfl⟩ .nil;rw[hLe];congr 1
        ·split
         ·rfl
         ·cases a with
          | none=>rfl
          | some ad=>simp[addr_add_add,Nat.add_mul]
        ·omega
      ·cases C
     | some hmr=>
      rename_i xm vm;simp only at C;have Q:∀k,Ij xm n=some k->k=hh->∀xh,hi=some xh->∃vh,vhi=some vh/\AL σ w [xh] [vh]/\Ij xh n=some hh:=by
       intro k hk S xh hxh;subst hxh;cases R with
       | some hhr=>exact⟨_,rfl,hhr,eh⟩
      split at C
      ·rename_i xh k xs' b e xs hk J;split at C
       ·rename_i S;simp only[Option.some.injEq,Prod.mk.injEq]at C;obtain⟨rfl,rfl⟩:=C;obtain⟨te,M,ht,hi',G⟩:=Uw hE hP (by simp) D;obtain⟨vh,hvh,hhr,ehh⟩:=Q k hk S xh rfl;have z:n=xs.length:=by simpa[lenOf]using hn.symm
        have hxx:xs' = xs:=by simpa[elemsOf]using J.symm
        subst z hxx S hvh;obtain⟨u,hu,hru⟩:=cut3 (E:=E) (P:=P) ht hi' (by simpa[EW]using G) (.inl rfl) hr I hhr hmr ehh hk el;exact⟨u,σ,hu,h,Ext.refl σ w,hru⟩
       ·cases C
      ·rename_i xh k xs' b e xs hk J;split at C
       ·rename_i S;simp only[Option.some.injEq,Prod.mk.injEq]at C;obtain⟨rfl,rfl⟩:=C;obtain⟨te,M,ht,hi',G⟩:=Uw hE hP (by simp) D;obtain⟨vh,hvh,hhr,ehh⟩:=Q k hk S xh rfl;have z:n=xs.length:=by simpa[lenOf]using hn.symm
        have hxx:xs' = xs:=by simpa[elemsOf]using J.symm
        subst z hxx S hvh;obtain⟨u,hu,hru⟩:=cut3 (E:=E) (P:=P) ht hi' (by simpa[EW]using G) (.inr rfl) hr I hhr hmr ehh hk el;exact⟨u,σ,hu,h,Ext.refl σ w,hru⟩
       ·cases C
      ·rename_i xh k xs' id off len tot hk J;split at C
       ·rename_i S;simp only[Option.some.injEq,Prod.mk.injEq]at C;obtain⟨rfl,rfl⟩:=C;obtain⟨te,M,ht,hi',G⟩:=Uw hE hP (by simp) D;obtain⟨vh,hvh,hhr,ehh⟩:=Q k hk S xh rfl;cases hb:Cc H id tot with
        | none=>simp[lenOf,hb]at hn
        | some b=>
         have z:n=len:=by simpa[lenOf,hb]using hn.symm
         have hbe:b.Ag=M.size:=by simpa[EW,hb]using G
         obtain⟨p1,p2,p3⟩:=Un hb;have hget:H.getD id default=b:=by simp[List.getD,p1]
         simp only[elemsOf,hb]at J;split at J
         ·rename_i hcc;simp only[Option.some.injEq]at J;simp only[Bool.and_eq_true,decide_eq_true_eq]at hcc;have hfz:F9 H (.BK id off len tot)=some (.sl false b.Ag ((b.xs.drop off).take len)):=by
           simp[F9,hb,hcc.1,hcc.2]
          obtain⟨hI,hEx⟩:=h.freeze [id];have hr' :=iD h hr hfz [id] (by simp[Ec]);have hlen:xs'.length=n:=by rw[<- J,z];simp;omega
          rw[J]at hr';subst S hvh;rw[<- hlen]at ehh hk;have hlo' : Jl (σ.freeze H [id]) w lo vlo:=by cases I with
           | none=>exact .none
           | some q=>exact .some (q.ext hEx)
          obtain⟨u,hu,hru⟩:=cut3 (E:=E) (P:=P) ht hi' (by simp[hbe]) (.inl rfl) hr' hlo' (hhr.ext hEx) (hmr.ext hEx) ehh hk el
          grind
         ·cases J
       ·cases C
      ·cases C
 ·cases C
end Go.Proofs.YteinepnbndegdaaGreat.Le
namespace Go.Proofs.YteinepnbndegdaaGreat.Le
open Go.RowKit (Below)
theorem Uy {E:Env} {P:Program} (D:Bl E) (G:E.P=P) {t:TypeId} {n:Nat} (h:E.size t=some n):∃z,P.info? t=some z/\z.size=n:=by
 unfold Env.size at h;cases C:E.ti t with
 | none=>simp[C]at h
 | some i=>
  obtain⟨z,d,hi,I,q1,q2,q3,q4⟩:=Eo (D.ti _ _ C)
  simp_all
theorem Zj0 {E B w0 σ H w} {P:Program} (S:Bl E) (Y:E.P=P) (h:Inv B w0 σ H w) {t:TypeId} {x i r:V} {xv iv:Value} (hx:AL σ w [x] [xv]) (hi:AL σ w [i] [iv])
  (z:Ol E H t x i=some r):∃u,(Instr.indexAt t xv iv).run P w = .ok u w/\AL σ w [r] [u]:=by
 unfold Ol at z;split at z
 ·rename_i k n ti hti;obtain⟨inf,d,hin,hd,q1,q2,q3,q4⟩:=Eo (S.ti _ _ hti);rw[Y]at hin hd;cases hi with
  | lit hl _=>
   split at z
   ·
    rename_i ty el b e xs I;have C:=MN (I.symm.trans q1);subst C;split at z
    ·rename_i hc;obtain⟨c1,M,c3⟩:=hc;obtain⟨J,D,G⟩:=Uy S Y c3;simp only[Option.some.injEq]at z;subst z;cases hx with
     | EI _=>simp at M;omega
     | Et a _=>simp at M;omega
     | sl b' o c e' k0 k1 k2 k3 k4 k5 k6 k7=>
      refine⟨.pointer (some ⟨b',o+n.toNat*e,none⟩),?_,?_⟩
      ·simp[Instr.indexAt,asIntOf,run_underlying hd,c1,M,sizeOf,typeInfo,D,G,Addr.add_mid]
      ·have:=AL.Bj (σ:=σ) (w:=w) (xs:=[]) (vs:=[]) b' o e n.toNat 0 k0 k1 k2 k3 k6 .nil;simpa using this
    ·cases z
   ·rename_i ty el b e xs I;have C:=MN (I.symm.trans q1);subst C;split at z
    ·rename_i hc;obtain⟨c1,M,c3⟩:=hc;obtain⟨J,D,G⟩:=Uy S Y c3;simp only[Option.some.injEq]at z;subst z;cases hx with
     | Fh _=>simp at M;omega
     | GM a _=>simp at M;omega
     | CE b' o e' k0 k1 k2 k3 k4 k5 k6=>
      refine⟨.pointer (some ⟨b',o+n.toNat*e,none⟩),?_,?_⟩
      ·simp[Instr.indexAt,asIntOf,run_underlying hd,c1,M,sizeOf,typeInfo,D,G,Addr.add_mid]
      ·have:=AL.Bj (σ:=σ) (w:=w) (xs:=[]) (vs:=[]) b' o e n.toNat 0 k0 k1 k2 k3 k5 .nil;simpa using this
    ·cases z
   ·rename_i ty el id off len tot I;have C:=MN (I.symm.trans q1);subst C;split at z
    ·rename_i b hb;split at z
     ·rename_i hc;obtain⟨c1,M,c3⟩:=hc;obtain⟨J,D,G⟩:=Uy S Y c3;simp only[Option.some.injEq]at z;subst z;obtain⟨L,us,m,hxl,hol,hsub,R⟩:=MQ h hx hb;rcases R with ⟨hv,hvv,ho,hl',ht⟩|⟨g,cap,k',hv,hvv,hle,hmx,hk1,hk2⟩
      ·grind
      ·have hk:k' = off:=hk2 (by omega);subst hk;subst hvv;have hLe:L.Ag=b.Ag:=m.Ag.symm;refine⟨.pointer (some ⟨g,(k' + n.toNat)*L.Ag+0,none⟩),?_,.ptr g m.box (by rw[m.tot,hxl];exact Nat.le_refl _) (fun _=>⟨_,_,hv⟩) rfl .nil⟩;simp[Instr.indexAt,asIntOf,run_underlying hd,c1,M,sizeOf,typeInfo,D,G,Addr.add_mid,Nat.add_mul,hLe]
     ·cases z
    ·cases z
   ·rename_i ty len e id j off tot I;have C:=gJ (I.symm.trans q1);subst C;split at z
    ·rename_i sz Q;obtain⟨J,D,G⟩:=Uy S Y Q;split at z
     ·rename_i hc;simp only[Option.some.injEq]at z;subst z;cases hx with
      | ptr g k1 k2 k3 k4 _=>
       subst k4;refine⟨.pointer (some ⟨g,j*_+(off+n.toNat*sz),none⟩),?_,.ptr g k1 k2 k3 rfl .nil⟩;simp[Instr.indexAt,Instr.sureAddr,asIntOf,run_underlying hd,hc.1,hc.2,sizeOf,typeInfo,D,G,Addr.add_mid,Nat.add_assoc]
     ·cases z
    ·cases z
   ·rename_i ty len e d' xs j off I;have C:=gJ (I.symm.trans q1);subst C;split at z
    ·rename_i sz Q;obtain⟨J,D,G⟩:=Uy S Y Q;split at z
     ·rename_i hc;simp only[Option.some.injEq]at z;subst z;cases hx with
      | Bj b o e' i' off' k0 k1 k2 k3 k4 _=>
       refine⟨.pointer (some ⟨b,o+j*d' + (off+n.toNat*sz),none⟩),?_,.Bj b o d' j _ k0 k1 k2 k3 k4 .nil⟩;simp[Instr.indexAt,Instr.sureAddr,asIntOf,run_underlying hd,hc.1,hc.2,sizeOf,typeInfo,D,G,Addr.add_mid,Nat.add_assoc]
     ·cases z
    ·cases z
   ·cases z
 ·cases z
theorem Zj9 {E σ w} {P:Program} (hE:Bl E) (hP:E.P=P) {t:TypeId} {x r:V} {xv:Value} {f:Nat} (hx:AL σ w [x] [xv])
  (z:Ur E t x f=some r):∃u,(Instr.fieldAt t xv f).run P w = .ok u w/\AL σ w [r] [u]:=by
 unfold Ur at z;split at z
 ·rename_i fs sz by' z0 hti;obtain⟨inf,d,hin,Q,q1,q2,q3,q4⟩:=Eo (hE.ti _ _ hti);rw[hP]at Q;obtain⟨fields,R,S⟩:=yR q1;subst R;split at z
  ·rename_i o ft D;have G:∃I,fields[f]? = some I/\I.offset=o/\I.type=ft:=by
    rw[S,List.getElem?_map]at D;rw[<- Array.getElem?_toList];cases hh:fields.toList[f]? with
    | none=>simp[hh]at D
    | some I=>
     simp only[hh,Option.map_some,Option.some.injEq,Prod.mk.injEq]at D;exact⟨I,rfl,D.1,D.2⟩
   obtain⟨I,J,hof,htf⟩:=G;split at z
   ·rename_i fsz hsz;obtain⟨M,Y,hse⟩:=Uy hE hP hsz;split at z
    ·cases z
    ·rename_i hne;have C:∀a:Addr,(fieldPlace a I).run P w = .ok (a.add o) w:=by
      intro a;have hz:¬M.size=0:=by rw[hse];exact hne
      simp[fieldPlace,sizeOf,typeInfo,htf,Y,hz,hof]
     split at z
     ·rename_i id j off tot;simp only[Option.some.injEq]at z;subst z;cases hx with
      | ptr g k1 k2 k3 k4 _=>
       subst k4;refine⟨.pointer (some ⟨g,j*_+(off+o),none⟩),?_,.ptr g k1 k2 k3 rfl .nil⟩;simp[Instr.fieldAt,run_underlying Q,J,Instr.sureAddr,C,Addr.add_mid,Nat.add_assoc]
     ·rename_i e xs j off;simp only[Option.some.injEq]at z;subst z;cases hx with
      | Bj b o' e' i' off' k0 k1 k2 k3 k4 _=>
       refine⟨.pointer (some ⟨b,o' + j*e+(off+o),none⟩),?_,.Bj b o' e j _ k0 k1 k2 k3 k4 .nil⟩;simp[Instr.fieldAt,run_underlying Q,J,Instr.sureAddr,C,Addr.add_mid,Nat.add_assoc]
     ·cases z
   ·cases z
  ·cases z
 ·cases z
theorem Z8O {E:Env} {P:Program} {σ w} (Q:Bl E) (R:E.P=P) {t:TypeId} {i:TI} (J:E.ti t=some i) {cs:List V} {ws:List Value} {off:Nat} {M : V}
  (h:AL σ w cs ws) (Y:∀u∈ws,u.oneCell' = true) (hp:partOf cs off i.size i.isAgg=some M) :
  ∃u,(part t ws.toArray off).run P w = .ok u w/\AL σ w [M] [u]:=by
 obtain⟨inf,d,D,I,q1,q2,q3,q4⟩:=Eo (Q.ti _ _ J);rw[R]at D I;have C:=Z95 q1;rcases Z81 h Y hp with ⟨G,S,z⟩|⟨G,u,hu,z⟩
 ·refine⟨_,?_,z⟩;have:d.isRow=true:=by rw[<- C];exact G
  unfold part;rw[Sem.run_bind,Zu w I,this];simp only[Result.andThen_ok,if_true,Sem.run_bind,run_sizeOf w D,Sem.run_pure]
  simp_all
 ·refine⟨u,?_,z⟩;have:d.isRow=false:=by rw[<- C];exact G
  unfold part;rw[Sem.run_bind,Zu w I,this];simp[hu]
theorem Zov {E σ w} {P:Program} (hE:Bl E) (hP:E.P=P) {t:TypeId} {x r:V} {xv:Value} {f:Nat} (hx:AL σ w [x] [xv])
  (D:V5 E t x f=some r):∃u,(Instr.field t xv f).run P w = .ok u w/\AL σ w [r] [u]:=by
 unfold V5 at D;split at D
 ·rename_i fs sz by' z0 cs hti;obtain⟨inf,d,hin,hd,q1,q2,q3,q4⟩:=Eo (hE.ti _ _ hti);rw[hP]at hd;obtain⟨fields,M,R⟩:=yR q1;subst M;split at D
  ·rename_i o ft z;have C:∃G,fields[f]? = some G/\G.offset=o/\G.type=ft:=by
    rw[R,List.getElem?_map]at z;rw[<- Array.getElem?_toList];cases hh:fields.toList[f]? with
    | none=>simp[hh]at z
    | some G=>
     simp only[hh,Option.map_some,Option.some.injEq,Prod.mk.injEq]at z;exact⟨G,rfl,z.1,z.2⟩
   obtain⟨G,Q,S,Y⟩:=C;split at D
   ·rename_i i J;cases hx with
    | agg h1 h2 _=>
     obtain⟨u,hu,I⟩:=Z8O hE hP (t:=G.type) (by rw[Y];exact J) h1 h2 D;refine⟨u,?_,I⟩;rw[<- S]at hu;simp[Instr.field,run_underlying hd,Q,asAgg,hu]
   ·cases D
  ·cases D
 ·cases D
theorem Zpi {E σ w} {P:Program} (J:Bl E) (M:E.P=P) {t:TypeId} {x i r:V} {xv iv:Value} (hx:AL σ w [x] [xv]) (hi:AL σ w [i] [iv])
  (z:VX E t x i=some r):∃u,(Instr.index t xv iv).run P w = .ok u w/\AL σ w [r] [u]:=by
 unfold VX at z;split at z
 ·rename_i k n;cases hi with
  | lit hl _=>
   split at z
   ·rename_i len e sz by' z0 cs I;obtain⟨inf,d,hin,Q,q1,q2,q3,q4⟩:=Eo (J.ti _ _ I);rw[M]at Q;have R:=gJ q1;subst R;split at z
    ·rename_i ei C;obtain⟨infe,de,D,hde,e1,e2,e3,e4⟩:=Eo (J.ti _ _ C);rw[M]at D;split at z
     ·rename_i hc;cases hx with
      | agg h1 h2 _=>
       obtain⟨u,hu,G⟩:=Z8O J M C h1 h2 z;refine⟨u,?_,G⟩;rw[e2]at hu;simp[Instr.index,asIntOf,run_underlying Q,hc.1,hc.2,sizeOf,typeInfo,D,hu]
     ·cases z
    ·cases z
   ·rename_i sz by' z0 s I;split at z
    ·rename_i Y;have Q:P.underlying t=some .string:=by rw[<- M];exact J.isStr t Y
     split at z
     ·rename_i h0;cases S:s[n.toNat]? with
      | none=>simp[S]at z
      | some b=>
       simp only[S,Option.map_some,Option.some.injEq]at z;subst z;cases hx with
       | lit _ _=>
        refine⟨.int .u8 b.toNat,?_,.lit ?_ .nil⟩
        ·simp[Instr.index,asIntOf,run_underlying Q,h0,S]
        ·have:=b.toNat_lt;simp[leaf,Lit.wf,IntKind.min,IntKind.max,IntKind.signed,IntKind.bits];omega
     ·cases z
    ·cases z
   ·cases z
 ·cases z
end Go.Proofs.YteinepnbndegdaaGreat.Le
namespace Go.Proofs.YteinepnbndegdaaGreat.Le
open Go.RowKit (Below)
theorem Zt2 (k:IntKind) (n:Int):(Lit.int k n).wf=true↔k.min<=n/\n<=k.max:=by simp[Lit.wf]
theorem Zn8 (k:IntKind):k.min<=0/\0<=k.max:=by cases k<;>decide
theorem Z7g {k:IntKind} {a n:Int} (h:(Lit.int k a).wf=true) (z:(0<=a/\0<=n/\n<=a)\/(a<=0/\a<=n/\n<=0)):(Lit.int k n).wf=true:=by
 rw[Zt2]at h ⊢;have:=Zn8 k;omega
theorem ZjT (a b:Int):(0<=a/\0<=a.tmod b/\a.tmod b<=a)\/(a<=0/\a<=a.tmod b/\a.tmod b<=0):=by
 have key:∀x:Int,0<=x->0<=x.tmod b/\x.tmod b<=x:=by
  intro x z;rw[Int.tmod_eq_emod_of_nonneg z]
  by_cases hb:b=0
  ·subst hb;simp[z]
  ·refine⟨Int.emod_nonneg x hb,?_⟩;have C:=Int.emod_nonneg x hb;have D:=Int.mul_ediv_add_emod x b;have G:0<=b*(x / b):=by
    rcases Int.lt_or_gt_of_ne hb with hb|hb
    ·exact Int.mul_nonneg_of_nonpos_of_nonpos (by omega) (Int.ediv_nonpos_of_nonneg_of_nonpos z (by omega))
    ·exact Int.mul_nonneg (by omega) (Int.ediv_nonneg z (by omega))
   omega
 rcases Int.le_total 0 a with h|h
 ·simp_all
 ·right;have:=key (-a) (by omega);rw[Int.neg_tmod]at this;omega
theorem Zjd (a:Int) (n:Nat):(0<=a/\0<=a.fdiv (2 ^ n)/\a.fdiv (2 ^ n)<=a)\/(a<=0/\a<=a.fdiv (2 ^ n)/\a.fdiv (2 ^ n)<=0):=by
 have z:(0:Int)<2 ^ n:=Int.pow_pos (by decide);rw[Int.fdiv_eq_ediv_of_nonneg _ (Int.le_of_lt z)];have I:=Int.mul_ediv_add_emod a (2 ^ n);have J:=Int.emod_nonneg a (Int.ne_of_gt z);have M:=Int.emod_lt_of_pos a z;rcases Int.le_total 0 a with h|h
 ·refine .inl ⟨h,Int.ediv_nonneg h (Int.le_of_lt z),Int.ediv_le_self _ h⟩
 ·right;have D:a / 2 ^ n<=0:=by
   rcases Int.lt_or_eq_of_le h with G|he
   ·exact Int.le_of_lt (Int.ediv_neg_of_neg_of_pos G z)
   ·rw[he];simp
  refine⟨h,?_,D⟩;rw[Int.le_ediv_iff_mul_le z];have C:(1:Int)<=2 ^ n:=z;have:=Int.mul_le_mul_of_nonneg_left C (show 0 <= -a by omega)
  grind
theorem MH {P:Program} {w:World} (op:BinOp) (t:TypeId) (x y:Operand) (a b:Value) (z:∀cs,a≠.agg cs) (C:a≠.nilIface):(eqGuard op t x y a b).run P w = .ok () w:=by
 unfold eqGuard
 simp_all
theorem ZsO {P:Program} {w:World} {op:BinOp} {t:TypeId} {k:IntKind} {a b:Int} {r:Value} (G:leaf (.int k a)=true) (D:op≠.shl/\op≠.shr) (z:OI op k a b=some r) :
  (binOp op t (.int k a) (.int k b)).run P w = .ok r w/\leaf r=true:=by
 have C : (Lit.int k a).wf=true:=by simpa[leaf]using G
 cases op<;>simp only[OI,Option.some.injEq,reduceCtorEq]at z
 all_goals try (exact absurd rfl D.1)
 all_goals try (exact absurd rfl D.2)
 all_goals try (subst z;refine⟨?_,rfl⟩;simp[binOp,Op.intCmp];done)
 all_goals try (subst z;refine⟨?_,show (Lit.int _ _).wf=true from wf_wrap _ _⟩;simp[binOp,Op.intArith];done)
 all_goals try (subst z;refine⟨?_,show (Lit.int _ _).wf=true from wf_bits _ _ _ _⟩;simp[binOp,Op.intBits,bits];done)
 all_goals (split at z)
 all_goals try (cases z;done)
 all_goals rename_i hb
 all_goals simp only[Option.some.injEq]at z
 all_goals subst z
 ·exact⟨by simp[binOp,Op.intDiv,hb],show (Lit.int _ _).wf=true from wf_wrap _ _⟩
 ·exact⟨by simp[binOp,Op.intDiv,hb],show (Lit.int _ _).wf=true from Z7g C (ZjT a b)⟩
theorem Z8S {P:Program} {w:World} {op:BinOp} {t:TypeId} {k j:IntKind} {a b:Int} {r:Value} (D:leaf (.int k a)=true) (G:op = .shl\/op = .shr) (z:PK op k a b=some r) :
  (binOp op t (.int k a) (.int j b)).run P w = .ok r w/\leaf r=true:=by
 have C : (Lit.int k a).wf=true:=by simpa[leaf]using D
 unfold PK at z;split at z
 ·cases z
 ·rename_i hb;rcases G with rfl|rfl
  ·simp only[Option.some.injEq]at z;subst z;exact⟨by simp[binOp,Op.shift,hb],show (Lit.int _ _).wf=true from wf_wrap _ _⟩
  ·simp only[Option.some.injEq]at z;subst z;exact⟨by simp[binOp,Op.shift,hb],show (Lit.int _ _).wf=true from Z7g C (Zjd a _)⟩
theorem Zsx {P:Program} {w:World} {op:BinOp} {t:TypeId} {a b:ByteArray} {r:Value} (z:Vf op a b=some r) :
  (binOp op t (.string a) (.string b)).run P w = .ok r w/\leaf r=true:=by
 cases op<;>simp only[Vf,Option.some.injEq,reduceCtorEq]at z
 ·split at z
  ·rename_i hc;simp only[decide_eq_true_eq]at hc;simp only[Option.some.injEq]at z;subst z;have C:¬(9223372036854775807<((a.size+b.size:Nat):Int)):=by simp[maxLen]at hc;omega
   refine⟨?_,by simpa[leaf]using hc⟩;simp only[binOp,Op.stringOp]
   simp_all
  ·cases z
 all_goals (subst z;exact⟨by simp[binOp,Op.stringOp],rfl⟩)
end Go.Proofs.YteinepnbndegdaaGreat.Le
namespace Go.Proofs.YteinepnbndegdaaGreat.Le
open Go.RowKit (Below)
def OL:FK->Value->Option Lit
 | .b,.bool b=>some (.bool b)
 | .i k,.int j n=>if j=k/\(Lit.int k n).wf=true then some (.int k n) else none
 | .s,.string s=>if s.size<=maxLen then some (.string s.data.toList) else none
 | _,_=>none
def Ee:List FK->List Value->Option (List Lit)
 | [],[]=>some []
 | k::z,v::vs=>match OL k v,Ee z vs with|some l,some ls=>some (l::ls)|_,_=>none
 | _,_=>none
theorem gQ:∀{z:List FK} {vs:List Value} {ls:List Lit},Ee z vs=some ls->vs.length=z.length/\ls.length=z.length
 | [],[],ls,h=>by simp[Ee]at h;subst h;simp
 | [],v::vs,ls,h=>by simp[Ee]at h
 | k::z,[],ls,h=>by simp[Ee]at h
 | k::z,v::vs,ls,h=>by
  simp only[Ee]at h;split at h
  ·rename_i l ls' D C;simp only[Option.some.injEq]at h;subst h;obtain⟨a,b⟩:=gQ C;simp[a,b]
  ·cases h
theorem xB:∀{C z : List FK} {vs:List Value} {ls:List Lit},Ee (C++z) vs=some ls->∃l1 l2,Ee C (vs.take C.length)=some l1/\Ee z (vs.drop C.length)=some l2/\ls=l1++l2
 | [],z,vs,ls,h=>⟨[],ls,by simp[Ee],by simpa using h,rfl⟩
 | k::C,z,[],ls,h=>by simp[Ee]at h
 | k::C,z,v::vs,ls,h=>by
  simp only[List.cons_append,Ee]at h;split at h
  ·rename_i l ls' D G;simp only[Option.some.injEq]at h;subst h;obtain⟨l1,l2,a,b,c⟩:=xB G;exact⟨l::l1,l2,by simp[Ee,D,a],by simpa using b,by simp[c]⟩
  ·cases h
theorem Z73 {P:Program} {d:Nat} (Q:∀t D vs ls,OW P d t=some D->Ee D vs=some ls->P.keyLits d t vs=some ls) :
  ∀(fs:List Field) (off:Nat) (D:List FK) (vs:List Value) (ls:List Lit),Xe P (OW P d) off fs=some D->Ee D (vs.drop off)=some ls ->
   (fs.mapM fun f=>P.keyLits d f.type ((vs.drop f.offset).take (P.cellsOf f.type))).map List.flatten=some ls/\(∀f∈fs,(f.name != "_")=true)
 | [],off,D,vs,ls,h,z=>by
  simp only[Xe,Option.some.injEq]at h;subst h;cases M:vs.drop off with
  | nil=>rw[M]at z;simp[Ee]at z;subst z;simp
  | cons a b=>rw[M]at z;simp[Ee]at z
 | f::fs,off,D,vs,ls,h,z=>by
  simp only[Xe]at h;split at h
  ·rename_i hc;obtain⟨R,c2⟩:=hc;split at h
   ·rename_i k1 I;split at h
    ·rename_i J;split at h
     ·rename_i G C;simp only[Option.some.injEq]at h;subst h;obtain⟨l1,l2,a,b,rfl⟩:=xB z;rw[List.drop_drop]at b;obtain⟨Y,r2⟩:=Z73 Q fs (off+k1.length) G vs l2 C b;have S:=Q f.type k1 _ l1 I a;refine⟨?_,?_⟩
      ·rw[List.mapM_cons];rw[R,J,S];cases hm:fs.mapM fun f=>P.keyLits d f.type ((vs.drop f.offset).take (P.cellsOf f.type)) with
       | none=>simp[hm]at Y
       | some ms=>
        simp_all
      simp_all
     ·cases h
    ·cases h
   ·cases h
  ·cases h
theorem Z7f {P:Program} {d:Nat} {e:TypeId} {C:List FK} (G:∀vs ls,Ee C vs=some ls->P.keyLits d e vs=some ls) (z:P.cellsOf e=C.length) :
  ∀(n s:Nat) (vs:List Value) (ls:List Lit),Ee (List.replicate n C).flatten (vs.drop (s*C.length))=some ls ->
   ((List.range' s n).mapM fun i=>P.keyLits d e ((vs.drop (i*P.cellsOf e)).take (P.cellsOf e))).map List.flatten=some ls
 | 0,s,vs,ls,h=>by
  cases D:vs.drop (s*C.length) with
  | nil=>rw[D]at h;simp[Ee]at h;subst h;simp
  | cons a b=>rw[D]at h;simp[Ee]at h
 | n+1,s,vs,ls,h=>by
  rw[List.replicate_succ,List.flatten_cons]at h;obtain⟨l1,l2,a,b,rfl⟩:=xB h;rw[List.drop_drop,<- Nat.succ_mul]at b;have r:=Z7f G z n (s+1) vs l2 b;have I:=G _ l1 a;rw[List.range'_succ,List.mapM_cons,z,I];rw[z]at r;cases hm:(List.range' (s+1) n).mapM fun i=>P.keyLits d e ((vs.drop (i*C.length)).take C.length) with
  | none=>simp[hm]at r
  | some ms=>
   simp_all
theorem Z0b {P:Program}:∀(d:Nat) (t:TypeId) (J:List FK) (vs:List Value) (ls:List Lit),OW P d t=some J->Ee J vs=some ls->P.keyLits d t vs=some ls
 | 0,t,J,vs,ls,h,z=>by simp[OW]at h
 | d+1,t,J,vs,ls,h,z=>by
  have M:=Z0b (P:=P) d;have C:=gQ z;unfold OW at h;split at h
  ·rename_i D;simp only[Option.some.injEq]at h;subst h
   match vs,z with
   | [v],z=>
    cases v<;>simp[Ee,OL]at z;subst z;simp[Program.keyLits,D]
  ·rename_i k D;simp only[Option.some.injEq]at h;subst h
   match vs,z with
   | [v],z=>
    cases v<;>simp[Ee,OL]at z;rename_i j n
    by_cases hc:j=k/\(Lit.int k n).wf=true
    ·rw[if_pos hc]at z;simp at z;subst z;simp[Program.keyLits,D,hc.1,hc.2]
    simp_all
  ·rename_i D;simp only[Option.some.injEq]at h;subst h
   match vs,z with
   | [v],z=>
    cases v<;>simp[Ee,OL]at z;rename_i s
    by_cases hc:s.size<=maxLen
    ·rw[if_pos hc]at z;simp at z;subst z;simp[Program.keyLits,D,hc]
    simp_all
  ·rename_i n e D;split at h
   ·rename_i k1 G;split at h
    ·rename_i hc;simp only[Option.some.injEq]at h;subst h;have I:vs.length=P.cellsOf t:=by rw[C.1,hc.2];simp
     have r:=Z7f (fun vs ls h=>M e k1 vs ls G h) hc.1 n 0 vs ls (by simpa using z);unfold Program.keyLits;rw[D];simp only[I,if_true,List.range_eq_range'];exact r
    ·cases h
   ·cases h
  ·rename_i fs D;split at h
   ·rename_i k1 G;split at h
    ·rename_i hc;simp only[Option.some.injEq]at h;subst h;have I:vs.length=P.cellsOf t:=by rw[C.1,hc]
     obtain⟨Q,R⟩:=Z73 M fs.toList 0 k1 vs ls G (by simpa using z);unfold Program.keyLits
     simp_all
    ·cases h
   ·cases h
  ·cases h
theorem Zk3 (a b:ByteArray):(a==b)=true↔a.data.toList=b.data.toList:=by
 rw[beq_toListBytes,beq_iff_eq,ByteArray.toList_eq,ByteArray.toList_eq]
theorem ZjR {σ w}:∀{D:List FK} {xs ys:List V} {vx vy:List Value} {r:Bool},AL σ w xs vx->AL σ w ys vy->JA D xs ys=some r ->
  ∃C lb,Ee D vx=some C/\Ee D vy=some lb/\(r=true↔C=lb):=by
 intro D;induction D with
 | nil=>
  intro xs ys vx vy r R S z;cases xs<;>cases ys<;>simp[JA]at z;cases R.Dx;cases S.Dx;exact⟨[],[],rfl,rfl,by simp[z]⟩
 | cons k D ih=>
  intro xs ys vx vy r R S z;unfold JA at z;split at z
  ·simp_all
  ·rename_i Y a xs b ys M;cases M;obtain⟨v1,vx',rfl,p1,p2⟩:=R.Bd;obtain⟨v2,vy',rfl,q1,q2⟩:=S.Bd;cases p1 with
   | lit _ _=>
   cases q1 with
   | lit _ _=>
   split at z
   ·rename_i r' Q;obtain⟨C,lb,G,I,J⟩:=ih p2 q2 Q;simp only[Option.some.injEq]at z;subst z;refine⟨.bool a::C,.bool b::lb,by simp[Ee,OL,G],by simp[Ee,OL,I],?_⟩;simp[J]
   ·cases z
  ·rename_i k' Y k1 a xs k2 b ys M;cases M;obtain⟨v1,vx',rfl,p1,p2⟩:=R.Bd;obtain⟨v2,vy',rfl,q1,q2⟩:=S.Bd;split at z
   ·rename_i hk;obtain⟨rfl,rfl⟩:=hk;cases p1 with
    | lit l1 _=>
    cases q1 with
    | lit l2 _=>
    split at z
    ·rename_i r' Q;obtain⟨C,lb,G,I,J⟩:=ih p2 q2 Q;simp only[Option.some.injEq]at z;subst z;have w1:(Lit.int k2 a).wf=true:=by simpa[leaf]using l1
     have w2:(Lit.int k2 b).wf=true:=by simpa[leaf]using l2
     refine⟨.int k2 a::C,.int k2 b::lb,by simp[Ee,OL,G,w1],by simp[Ee,OL,I,w2],?_⟩;simp[J]
    ·cases z
   ·cases z
  ·rename_i Y a xs b ys M;cases M;obtain⟨v1,vx',rfl,p1,p2⟩:=R.Bd;obtain⟨v2,vy',rfl,q1,q2⟩:=S.Bd;cases p1 with
   | lit l1 _=>
   cases q1 with
   | lit l2 _=>
   split at z
   ·rename_i r' Q;obtain⟨C,lb,G,I,J⟩:=ih p2 q2 Q;simp only[Option.some.injEq]at z;subst z;have w1:a.size<=maxLen:=by simpa[leaf]using l1
    have w2:b.size<=maxLen:=by simpa[leaf]using l2
    refine⟨.string a.data.toList::C,.string b.data.toList::lb,by simp[Ee,OL,G,w1],by simp[Ee,OL,I,w2],?_⟩;rw[Bool.and_eq_true,Zk3,J];simp
   ·cases z
  ·cases z
theorem Z6R {E:Env} {P:Program} {σ w} (S:Bl E) (Y:E.P=P) {t:TypeId} {ks:List FK} {xs ys:List V} {G I:List Value} {r:Bool} (hf:E.flat t=some ks) (hx:AL σ w xs G) (hy:AL σ w ys I)
  (he:JA ks xs ys=some r):(Op.equalIn 10000 t (.agg G.toArray) (.agg I.toArray)).run P w = .ok r w/\P.eqGuardType P.depth t=false:=by
 have z:=S.flat t ks hf;rw[Y]at z;obtain⟨R,lb,J,M,h3⟩:=ZjR hx hy he;have C:(∃fs,P.underlying t=some (.struct fs))\/∃n e,P.underlying t=some (.array n e):=by
  unfold kG at z;split at z
  ·simp_all
  ·simp_all
  ·cases z
 have hk:P.keyTypeAt 20 t=true/\P.eqGuardType P.depth t=false/\OW P 20 t=some ks:=by
  unfold kG at z
  grind
 obtain⟨k1,k2,k3⟩:=hk;have l1:=Z0b 20 t ks G R k3 J;have l2:=Z0b 20 t ks I lb k3 M;have hcells:P.cellsOf t=ks.length:=by
  rcases C with ⟨fs,D⟩|⟨n,e,D⟩<;>unfold OW at k3<;>rw[D]at k3<;>simp only[]at k3
  ·grind
  ·split at k3
   ·split at k3
    ·rename_i hc;simp only[Option.some.injEq]at k3;rw[<- k3,hc.2];simp
    ·cases k3
   ·cases k3
 have f1:(Value.agg G.toArray).formed P t=true:=by
  rcases C with ⟨fs,D⟩|⟨n,e,D⟩<;>simp[Value.formed,D,hcells,(gQ J).1]
 have f2:(Value.agg I.toArray).formed P t=true:=by
  rcases C with ⟨fs,D⟩|⟨n,e,D⟩<;>simp[Value.formed,D,hcells,(gQ M).1]
 obtain⟨r',hr',Q⟩:=run_equalIn_deep (P:=P) 9980 20 t k1 w 20 20 (.agg G.toArray) (.agg I.toArray) R lb f1 f2 (by simpa[Value.cells]using l1) (by simpa[Value.cells]using l2)
 grind
end Go.Proofs.YteinepnbndegdaaGreat.Le
namespace Go.Proofs.YteinepnbndegdaaGreat.Le
open Go.RowKit (Below)
theorem un_ok {P:Program} {σ w} {op:UnOp} {x r:V} {v:Value} (z:AL σ w [x] [v]) (h:Yh op x=some r):∃u,(Op.unary op v).run P w = .ok u w/\AL σ w [r] [u]:=by
 unfold Yh at h;split at h
 ·simp only[Option.some.injEq]at h;subst h;cases z with
  | lit C _=>exact⟨_,by simp[Op.unary,Op.intArith],.lit (show (Lit.int _ _).wf=true from wf_wrap _ _) .nil⟩
 ·simp only[Option.some.injEq]at h;subst h;cases z with
  | lit C _=>exact⟨_,by simp[Op.unary,Op.intBits,bits],.lit (show (Lit.int _ _).wf=true from wf_bits _ _ _ _) .nil⟩
 ·simp only[Option.some.injEq]at h;subst h;cases z with
  | lit C _=>exact⟨_,by simp[Op.unary],.lit rfl .nil⟩
 ·cases h
theorem jU {E:Env} {P:Program} (C:E.P=P) {t:TypeId} (h:Vs E t=true):P.underlying t=some (.pointer (P.pointee t)):=by
 unfold Vs at h;rw[C]at h;split at h
 ·rename_i e z;rw[z,Program.pointee,z]
 ·cases h
theorem ZtO {E:Env} {P:Program} {σ w} (Q:Bl E) (M:E.P=P) {op:BinOp} {t:TypeId} {x y r:V} {vx vy:Value} (ox oy:Operand) (C:AL σ w [x] [vx]) (D:AL σ w [y] [vy]) (h:Lj E op t x y=some r) :
  ∃u,(eqGuard op t ox oy vx vy).run P w = .ok () w/\(binOp op t vx vy).run P w = .ok u w/\AL σ w [r] [u]:=by
 unfold Lj at h;split at h
 ·rename_i k a j b;cases C with
  | lit l1 _=>
  cases D with
  | lit l2 _=>
  cases z:PK .shl k a b with
  | none=>simp[z]at h
  | some q=>
   simp only[z,Option.map_some,Option.some.injEq]at h;subst h;obtain⟨G,I⟩:=Z8S (P:=P) (w:=w) (t:=t) (j:=j) l1 (.inl rfl) z;exact⟨q,MH _ _ _ _ _ _ (by simp) (by simp),G,.lit I .nil⟩
 ·rename_i k a j b;cases C with
  | lit l1 _=>
  cases D with
  | lit l2 _=>
  cases z:PK .shr k a b with
  | none=>simp[z]at h
  | some q=>
   simp only[z,Option.map_some,Option.some.injEq]at h;subst h;obtain⟨G,I⟩:=Z8S (P:=P) (w:=w) (t:=t) (j:=j) l1 (.inr rfl) z;exact⟨q,MH _ _ _ _ _ _ (by simp) (by simp),G,.lit I .nil⟩
 ·rename_i k a j b S Y;split at h
  ·rename_i hk;subst hk;cases C with
   | lit l1 _=>
   cases D with
   | lit l2 _=>
   cases z:OI op k a b with
   | none=>simp[z]at h
   | some q=>
    simp only[z,Option.map_some,Option.some.injEq]at h;subst h;obtain⟨G,I⟩:=ZsO (P:=P) (w:=w) (t:=t) l1 ⟨S,Y⟩ z;exact⟨q,MH _ _ _ _ _ _ (by simp) (by simp),G,.lit I .nil⟩
  ·cases h
 ·rename_i a b;cases C with
  | lit l1 _=>
  cases D with
  | lit l2 _=>
  cases z:Vf op a b with
  | none=>simp[z]at h
  | some q=>
   simp only[z,Option.map_some,Option.some.injEq]at h;subst h;obtain⟨G,I⟩:=Zsx (P:=P) (w:=w) (t:=t) z;exact⟨q,MH _ _ _ _ _ _ (by simp) (by simp),G,.lit I .nil⟩
 ·split at h
  ·rename_i hb;have J:P.underlying t=some .bool:=by rw[<- M];exact Q.isBool t hb
   simp only[Option.some.injEq]at h;subst h;cases C with
   | lit l1 _=>
   cases D with
   | lit l2 _=>
   exact⟨_,MH _ _ _ _ _ _ (by simp) (by simp),by simp[binOp,run_equal_bool w t _ _ J],.lit rfl .nil⟩
  ·cases h
 ·split at h
  ·rename_i hb;have J:P.underlying t=some .bool:=by rw[<- M];exact Q.isBool t hb
   simp only[Option.some.injEq]at h;subst h;cases C with
   | lit l1 _=>
   cases D with
   | lit l2 _=>
   exact⟨_,MH _ _ _ _ _ _ (by simp) (by simp),by simp[binOp,run_equal_bool w t _ _ J],.lit rfl .nil⟩
  ·cases h
 ·rename_i xs ys;split at h
  ·rename_i ks R;cases hc:JA ks xs ys with
   | none=>simp[hc]at h
   | some q=>
    simp only[hc,Option.map_some,Option.some.injEq]at h;subst h;cases C with
    | agg p1 _ _=>
    cases D with
    | agg q1 _ _=>
    obtain⟨G,I⟩:=Z6R Q M R p1 q1 hc;exact⟨.bool q,run_eqGuard_agg w _ _ _ _ _ _ I,by rw[run_eql_struct,G];rfl,.lit rfl .nil⟩
  ·cases h
 ·rename_i xs ys;split at h
  ·rename_i ks R;cases hc:JA ks xs ys with
   | none=>simp[hc]at h
   | some q=>
    simp only[hc,Option.map_some,Option.some.injEq]at h;subst h;cases C with
    | agg p1 _ _=>
    cases D with
    | agg q1 _ _=>
    obtain⟨G,I⟩:=Z6R Q M R p1 q1 hc;exact⟨.bool (!q),run_eqGuard_agg w _ _ _ _ _ _ I,by rw[run_neq_struct,G];rfl,.lit rfl .nil⟩
  ·cases h
 ·split at h
  ·rename_i hb;have J:=jU M hb;simp only[Option.some.injEq]at h;subst h;cases C with
   | lit l1 _=>
   cases D with
   | lit l2 _=>
   exact⟨_,MH _ _ _ _ _ _ (by simp) (by simp),run_eql_pointer_nil w t none J,.lit rfl .nil⟩
  ·cases h
 ·split at h
  ·rename_i hb;have J:=jU M hb;simp only[Option.some.injEq]at h;subst h;cases C with
   | lit l1 _=>
   cases D with
   | lit l2 _=>
   exact⟨_,MH _ _ _ _ _ _ (by simp) (by simp),run_neq_pointer_nil w t none J,.lit rfl .nil⟩
  ·cases h
 ·split at h
  ·rename_i hb;have J:=jU M hb;simp only[Option.some.injEq]at h;subst h;cases C with
   | ptr g _ _ _ hv _=>
   subst hv;cases D with
   | lit l2 _=>
   exact⟨_,MH _ _ _ _ _ _ (by simp) (by simp),run_eql_pointer_nil w t (some _) J,.lit rfl .nil⟩
  ·cases h
 ·split at h
  ·rename_i hb;have J:=jU M hb;simp only[Option.some.injEq]at h;subst h;cases C with
   | ptr g _ _ _ hv _=>
   subst hv;cases D with
   | lit l2 _=>
   exact⟨_,MH _ _ _ _ _ _ (by simp) (by simp),run_neq_pointer_nil w t (some _) J,.lit rfl .nil⟩
  ·cases h
 ·cases h
theorem Z7s {σ w}:∀{xs:List V} {us:List Value} {bs:List UInt8},AL σ w xs us->bytesOf xs=some bs->∃C:List Int,us=C.map (Value.int .u8)/\bs=C.map fun n=>UInt8.ofNat n.toNat
 | [],us,bs,h,hb=>by
  cases h.Dx;simp only[bytesOf,Option.some.injEq]at hb
  simp_all
 | x::xs,us,bs,h,hb=>by
  obtain⟨v,R,rfl,M,Q⟩:=h.Bd;simp only[bytesOf]at hb;split at hb
  ·rename_i b G z D;simp only[Option.some.injEq]at hb;subst hb;obtain⟨C,I,J⟩:=Z7s Q D;unfold byteOf at z;split at z
   ·rename_i n;simp only[Option.some.injEq]at z;subst z;cases M with
    | lit _ _=>exact⟨n::C,by simp[I],by simp[J]⟩
   ·cases z
  ·cases hb
theorem Zld (z:List Int) (s:ByteArray):(z.foldl (fun r n=>r.push (UInt8.ofNat n.toNat)) s)=⟨s.data++(z.map fun n=>UInt8.ofNat n.toNat).toArray⟩:=by
 induction z generalizing s with
 | nil=>cases s;simp
 | cons n z C=>
  simp_all
theorem ZlJ {v:Value} (h:leaf v=true):v.cells = #[v]/\v.oneCell' = true:=by
 unfold leaf at h;split at h<;>first|exact⟨rfl,rfl⟩|cases h
theorem Z4 {σ:Sg} {w:World}:∀{cs:List V} {ws:List Value},AL σ w cs ws->cs.all Ih=true->(∀u∈ws,u.cells = #[u]/\u.oneCell' = true)/\flat ws=ws/\∀x∈cs,DU x=true:=by
 intro cs;induction cs with
 | nil=>intro ws h _;cases h.Dx;exact⟨by simp,rfl,by simp⟩
 | cons c cs M=>
  intro ws h z;obtain⟨v,vs,rfl,D,G⟩:=h.Bd;simp only[List.all_cons,Bool.and_eq_true]at z;obtain⟨R,I,J⟩:=M G z.2;cases D with
  | lit C _=>
   obtain⟨k1,k2⟩:=ZlJ C;refine⟨fun u Q=>?_,?_,fun x hx=>?_⟩
   ·grind
   ·rw[KD,k1,I];rfl
   ·rcases List.mem_cons.1 hx with rfl|hx
    ·rfl
    ·exact J x hx
  | _=>simp[Ih]at z
theorem ZnF {E B w0 σ H w} {P:Program} (hE:Bl E) (hP:E.P=P) (h:Inv B w0 σ H w) {t e:TypeId} {n sz by' : Nat} {z0:Option V} (hti:E.ti t=some ⟨.array n e,sz,by',z0⟩) {x r:V} {v:Value} {lo hi mx:Option V} {lo' hi' mx' : Option Value} {H' : Heap} (hx:AL σ w [x] [v])
  (hlo:Jl σ w lo lo') (hhi:Jl σ w hi hi') (hmx:Jl σ w mx mx') (z:LH E H n e x lo hi mx=some (r,H')) :
  ∃u σ',(Instr.sliceAt t v lo' hi' mx').run P w = .ok u w/\Inv B w0 σ' H' w/\Ext σ w σ' w/\AL σ' w [r] [u]:=by
 unfold LH at z;split at z
 ·rename_i id i off tot m' hm';cases hmx;obtain⟨bd,_,hmn⟩:=PE (P:=P) (w:=w) (Nat.le_refl n) false hlo hhi hm' (l:=0) rfl;split at z
  ·rename_i b hb;obtain⟨b1,b2,b3⟩:=Un hb;split at z
   ·rename_i cs hrow hxs;split at z
    ·rename_i hc;obtain⟨rfl,rfl,rfl,S,hsz,C⟩:=hc;simp only[Option.some.injEq,Prod.mk.injEq]at z;obtain⟨rfl,rfl⟩:=z;obtain⟨L,us,m⟩:=h.meet b1 b2;cases hx with
     | ptr g k1 k2 k3 k4 k5=>
      rename_i L';have hL:L' = L:=by
       have:=m.box;rw[k1]at this;cases this;rfl
      subst hL;obtain⟨n0,c0,hv⟩:=k3 (m.tot.trans b3);have D:=m.Cj;rw[hxs]at D;obtain⟨ws,hus,I⟩:∃ws:List Value,us=[.agg ws.toArray]/\AL σ w cs ws:=by
       cases D with
       | agg q1 q2 q3=>cases q3;exact⟨_,rfl,q1⟩
      obtain⟨c1,c2,c3⟩:=Z4 I C;have R:ws.length=cs.length:=I.length.symm;have hesz:L'.Ag=cs.length:=by
       have:=m.sizes (.agg ws.toArray) (by rw[hus];simp);simp only[Value.cells,List.size_toArray]at this;omega
      have J:flat us=ws:=by rw[hus,ML];rfl
      obtain⟨inf,d,hi',hd,q1,q2,q3,q4⟩:=Eo (hE.ti _ _ hti);have hd' : P.underlying t=some (.array cs.length e):=by
       rw[hP]at hd;rw[hd];cases d<;>simp[Jw]at q1;rw[q1.1,q1.2]
      obtain⟨ei,hei,hez⟩:∃ei,E.ti e=some ei/\ei.size=1:=by
       unfold Env.size at hsz
       simp_all
      obtain⟨infe,de,Q,hde,e1,e2,e3,e4⟩:=Eo (hE.ti _ _ hei);rw[hP]at Q;obtain⟨hI,M⟩:=h.freeze [id];have Y:=(I.take m').ext M;obtain⟨c1',c2',c3'⟩:=Z4 Y (List.all_eq_true.2 fun x hx=>List.all_eq_true.1 C x (List.mem_of_mem_take hx));have hml:(cs.take m').length=m' :=by rw[List.length_take];omega
      refine⟨.slice (some ⟨g,0,none⟩) (cs.take m').length cs.length,_,?_,hI,M,?_⟩
      ·rw[k4,hml];simp[Instr.sliceAt,Instr.sureAddr,bd,run_underlying hd',sizeOf,typeInfo,Q,Addr.add_mid]
      ·refine .sl g 0 cs.length 1 Y c3' (fun u G=>by rw[(c1' u G).1];rfl) (fun u G=>by simp_all) (by omega) S ?_ .nil;intro j u G;rw[c2',List.getElem?_take]at G;split at G
       rotate_left
       ·cases G
       have hj:j<cs.length:=by rw[<- R];exact(List.getElem?_eq_some_iff.1 G).1
       refine⟨.inr ⟨id,b,L',by simp,b1,b2,m.box,by rw[hv];rfl,?_⟩,?_⟩
       ·grind
       ·rw[Nat.zero_add];exact m.cell (g:=g) (by rw[hv];rfl) j u (by rw[J];exact G)
    ·cases z
   ·cases z
  ·cases z
 ·cases z
theorem ZrD {E σ w} {P:Program} (hE:Bl E) (hP:E.P=P) {t:TypeId} {x r:V} {v:Value} (hx:AL σ w [x] [v]) (G:Vm E t x=some r):∃u,(Instr.arrayAt t v).run P w = .ok u w/\AL σ w [r] [u]:=by
 unfold Vm at G;split at G
 ·rename_i n e sz0 by' z0 sz xs R;split at G
  ·rename_i hc;obtain⟨hsz,rfl,hn,D,J⟩:=hc;simp only[Option.some.injEq]at G;subst G;obtain⟨inf,d,hi',Y,q1,q2,q3,q4⟩:=Eo (hE.ti _ _ R);have Q : P.underlying t=some (.array n e):=by
    rw[hP]at Y;rw[Y];cases d<;>simp[Jw]at q1;rw[q1.1,q1.2]
   cases hx with
   | EI _=>simp at D;omega
   | Et a _=>simp at D;omega
   | sl b o c e' k0 k1 k2 k3 k4 k5 k6 k7=>
    rename_i us;have M:=k0.take n;obtain⟨S,c2,c3⟩:=Z4 M J;have I:(us.take n).length=n:=by
     have:=k0.length;rw[List.length_take];omega
    refine⟨.pointer (some ⟨b,o,none⟩),?_,?_⟩
    ·simp[Instr.arrayAt,run_underlying Q,Nat.not_lt.2 D]
    ·have key:AL σ w [.Bj n [.agg (xs.take n)] 0 0] [.pointer (some ⟨b,o+0*n+0,none⟩)]:=by
      refine .Bj (us:=[.agg (us.take n).toArray]) b o n 0 0 (.agg M (fun u z=>(S u z).2) .nil) ?_ ?_ ?_ ?_ .nil
      ·intro y hy;simp only[List.mem_singleton]at hy;subst hy;have:Be (xs.take n)=true:=Ko c3;simp[DU,okV,Bz,this]
      ·intro u z;simp only[List.mem_singleton]at z;subst z;simpa[Value.cells]using I
      ·intro u z;rw[ML]at z;exact(S u (by simpa[Value.cells]using z)).2
      ·intro j u z;rw[ML]at z;have C : (us.take n)[j]? = some u:=by simpa[Value.cells]using z
       rw[<- c2,X3 k2,List.getElem?_take]at C;split at C
       ·exact k6 j u C
       ·cases C
     simpa using key
  ·cases G
 ·cases G
theorem Zo7 {E B w0 σ H w} {P:Program} (Y:Bl E) (hP:E.P=P) (h:Inv B w0 σ H w) {k:Nat} (hk0:Eg H k=true) {src dst:TypeId} {x r:V} {v:Value} {H' : Heap} (hx:AL σ w [x] [v]) (Q:E.isStr src=true) (I:E.isBytes dst=true) (hc:Jm E k H dst x=some (r,H')) :
  ∃u w' σ',(convert src dst v).run P w = .ok u w' /\ Inv B w0 σ' H' w' /\ Ext σ w σ' w' /\ AL σ' w' [r] [u]:=by
 unfold Jm at hc;split at hc
 ·rename_i st e sz by' z0 hti;split at hc
  ·simp only[Option.some.injEq,Prod.mk.injEq]at hc;obtain⟨rfl,rfl⟩:=hc;cases hx with
   | lit hl _=>
    have J:st.size<=maxLen:=by simpa[leaf]using hl
    obtain⟨e',S,h2⟩:=Y.isBytes _ I;have h0:=Y.isStr _ Q;rw[hP]at h0 S h2;obtain⟨inf,d,hi,hd,q1,q2,q3,q4⟩:=Eo (Y.ti _ _ hti);have hee:e' = e:=by
     rw[hP]at hd;rw[S]at hd;cases hd;have:=q1;simp only[Jw,Ty.slice.injEq]at this;exact this.symm
    subst hee;have hrun:=run_bytes_of_string (P:=P) w src dst e' st h0 S h2;have hus:∀u∈(st.data.toList.map fun b=>Value.int .u8 b.toNat),u.cells.size=1/\u.oneCell' = true:=by
     intro u D;obtain⟨b,_,rfl⟩:=List.mem_map.1 D;exact⟨rfl,rfl⟩
    have z:flat (st.data.toList.map fun b=>Value.int .u8 b.toNat)=st.data.toList.map fun b=>Value.int .u8 b.toNat:=by
     have:∀l:List Value,(∀u∈l,u.cells = #[u])->flat l=l:=by
      intro l;induction l with
      | nil=>intro _;rfl
      | cons u l ih=>intro hh;rw[KD,hh u (by simp),ih (fun v hv=>hh v (by simp[hv]))];rfl
     refine this _ (fun u D=>?_);obtain⟨b,_,rfl⟩:=List.mem_map.1 D;rfl
    have R:st.data.toList.length=st.size:=Array.length_toList;have hge:=grownCap_ge w st.size 0 e';have hbs:(bytesRow st (grownCap w st.size 0 e')).size=grownCap w st.size 0 e' :=by
     simp only[bytesRow,Array.size_append,Array.size_map,Array.size_replicate];have:st.data.size=st.size:=rfl;omega
    have M:FY (w.drew.alloc (.cells (bytesRow st (grownCap w st.size 0 e')) e' ((bytesRow st (grownCap w st.size 0 e')).size,(bytesRow st (grownCap w st.size 0 e')).size+1))) B e' 1 (.slice (some ⟨w.heap.size,0,none⟩) st.size (grownCap w st.size 0 e')) (bytesV st).length (flat (st.data.toList.map fun b=>Value.int .u8 b.toNat)):=by
     have G:(bytesV st).length=st.size:=by simp only[bytesV,List.length_map];exact R
     rw[G,z];refine⟨by simp_all,.inr ⟨w.heap.size,_,_,_,rfl,h.size,heap_alloc_new w.drew _,.inr (Nat.le_refl _),hge,grownCap_le_maxLen w st.size 0 e' J,by rw[hbs,Nat.mul_one],?_⟩⟩;rw[Nat.mul_one];simp only[bytesRow,Array.toList_append,Array.toList_map]
     simp_all
    have hgr:w.grownBy (w.drew.alloc (.cells (bytesRow st (grownCap w st.size 0 e')) e' ((bytesRow st (grownCap w st.size 0 e')).size,(bytesRow st (grownCap w st.size 0 e')).size+1))) none:=
     ⟨rfl,rfl,rfl,by simp,fun k hk _=>heap_alloc_old w.drew _ hk⟩
    have C:∀l:List UInt8,AL σ w (l.map fun c=>V.lit (.int .u8 c.toNat)) (l.map fun b=>Value.int .u8 b.toNat):=by
     intro l;induction l with
     | nil=>exact .nil
     | cons b l ih=>
      refine .lit ?_ ih;have:=b.toNat_lt;simp[leaf,Lit.wf,IntKind.min,IntKind.max,IntKind.signed,IntKind.bits];omega
    obtain⟨σ',g1,g2,g3⟩:=MR (e:=e') (Ag:=1) h hk0 hgr (xs:=bytesV st) (C st.data.toList)
     (fun x hx=>by obtain⟨b,_,rfl⟩:=List.mem_map.1 hx;rfl) (fun u D=>(hus u D).1) (fun u D=>by grind) M (by simp[Value.ownBlock]) false (by simp)
    have G:(bytesV st).length=st.size:=by simp only[bytesV,List.length_map];exact R
    grind
  ·cases hc
 ·cases hc
theorem Zrr {E B w0 σ H w} {P:Program} (I:Bl E) (J:E.P=P) (h:Inv B w0 σ H w) {src dst:TypeId} {x r:V} {v:Value} {H' : Heap} (hx:AL σ w [x] [v]) (hc:Hl E H src dst x=some (r,H')) :
  H' = H/\∃u,(convert src dst v).run P w = .ok u w/\AL σ w [r] [u]:=by
 unfold Hl at hc;split at hc
 ·split at hc
  ·rename_i k hk;split at hc
   ·rename_i Y;simp only[Option.some.injEq,Prod.mk.injEq]at hc;obtain⟨rfl,rfl⟩:=hc;have M:P.underlying dst=some (.int k):=by rw[<- J];exact I.kind dst k hk
    cases hti:E.ti src with
    | none=>simp[hti]at Y
    | some i=>
     obtain⟨inf,d,hi,Q,_⟩:=Eo (I.ti _ _ hti);rw[J]at Q;cases hx with
     | lit l _=>
      refine⟨rfl,_,?_,.lit (show (Lit.int _ _).wf=true from wf_wrap _ _) .nil⟩;simp[convert,run_underlying Q,run_underlying M,Conv.intToInt]
   ·cases hc
  ·cases hc
 ·split at hc
  ·rename_i C;simp only[Bool.and_eq_true]at C;simp only[Option.some.injEq,Prod.mk.injEq]at hc;obtain⟨rfl,rfl⟩:=hc;have h1:P.underlying src=some .string:=by rw[<- J];exact I.isStr _ C.1
   have h2:P.underlying dst=some .string:=by rw[<- J];exact I.isStr _ C.2
   cases hx with
   | lit l _=>
    refine⟨rfl,_,?_,.lit l .nil⟩;simp[convert,run_underlying h1,run_underlying h2]
  ·cases hc
 ·split at hc
  ·rename_i hn1 hn2 C;simp only[Bool.and_eq_true]at C;obtain⟨⟨s1,s2⟩,s3⟩:=C;split at hc
   ·rename_i xs hxs;split at hc
    ·rename_i bs G;split at hc
     ·rename_i R;simp only[Option.some.injEq,Prod.mk.injEq]at hc;obtain⟨rfl,rfl⟩:=hc;obtain⟨us,S⟩:=src_ok h hx hxs s3;obtain⟨ns,e1,e2⟩:=Z7s S.Cj G;have M:P.underlying dst=some .string:=by rw[<- J];exact I.isStr _ s1
      obtain⟨e,hs,he⟩:=I.isBytes _ s2;rw[J]at hs he;refine⟨rfl,.string ⟨bs.toArray⟩,?_,.lit (by simpa[leaf,ByteArray.size]using R) .nil⟩;rcases S.val with ⟨hv,hy,hu⟩|⟨b,o,c,hv,hc,D⟩
      ·subst hy;simp only[bytesOf,Option.some.injEq]at G;subst G;rcases hv with rfl|⟨a,k,rfl⟩
       ·rw[run_convert_bytes_string w src dst e _ _ _ hs he M];rfl
       ·rw[run_convert_bytes_string w src dst e _ _ _ hs he M];have z:=run_loadCells_list (P:=P) w a [] (fun j v hj=>by simp at hj);rw[run_bytesToString (P:=P) w a 0 k [] (by simpa using z)];rfl
      ·subst hv;rw[run_convert_bytes_string w src dst e _ _ _ hs he M];have hfl:flat us=us:=by
        rw[e1];clear e1 e2 D;induction ns with
        | nil=>rfl
        | cons n ns ih=>simp[flat,Value.cells]at ih ⊢;exact ih
       have hll:xs.length=us.length:=S.Cj.length;have z:=run_loadCells_list (P:=P) w ⟨b,o,none⟩ us (fun j v hj=>by rw[Addr.add_mid];exact D j v (by rw[hfl];exact hj));rw[run_bytesToString (P:=P) w ⟨b,o,none⟩ xs.length c ns (by rw[hll,z,e1])];rw[Zld,e2];simp
     ·cases hc
    ·cases hc
   ·cases hc
  ·cases hc
theorem Z1i {P:Program} {σ w} (z:Bool):∀{xs:List V} {vs:List Value} {k:IntKind} {a:Int} {r:V},AL σ w xs vs->leaf (.int k a)=true->mm z k a xs=some r ->
  ∃u,(vs.foldlM (if z then Builtin.max2 else Builtin.min2) (.int k a)).run P w = .ok u w/\AL σ w [r] [u]
 | [],vs,k,a,r,h,J,hm=>by
  cases h.Dx;simp only[mm,Option.some.injEq]at hm;subst hm;exact⟨_,rfl,.lit J .nil⟩
 | x::xs,vs,k,a,r,h,J,hm=>by
  obtain⟨v,S,rfl,Q,I⟩:=h.Bd;unfold mm at hm;split at hm
  ·rename_i D;cases D
  ·rename_i j b M D;cases D;split at hm
   ·rename_i R;subst R;cases Q with
    | lit l1 _=>
    cases z
    ·simp only[Bool.false_eq_true,if_false]at hm ⊢;obtain⟨u,C,G⟩:=Z1i (P:=P) false I (by split<;>assumption) hm;simp only[Bool.false_eq_true,if_false]at C;exact⟨u,by rw[List.foldlM_cons];simp only[Builtin.min2,Sem.run_bind,Sem.run_pure,Result.andThen_ok];exact C,G⟩
    ·simp only[if_true]at hm ⊢;obtain⟨u,C,G⟩:=Z1i (P:=P) true I (by split<;>assumption) hm;simp only[if_true]at C;exact⟨u,by rw[List.foldlM_cons];simp only[Builtin.max2,Sem.run_bind,Sem.run_pure,Result.andThen_ok];exact C,G⟩
   ·cases hm
  ·cases hm
end Go.Proofs.YteinepnbndegdaaGreat.Le
namespace Go.Proofs.YteinepnbndegdaaGreat.Le
open Go.RowKit (Below)
def Sg.map (σ:Sg) (k g:Nat):Sg:={ σ with mp:=fun i=>if i=k then some g else σ.mp i }
theorem Nk {b:Box} (h:EY b=true):b.live=false/\b.row=true:=by
 simp[EY]at h;exact⟨h.1,h.2.1⟩
theorem Inv.Zrc {B w0 σ H w w'} (h:Inv B w0 σ H w) {k:Nat} (Y:Eg H k=true) (t:TypeId) (hg:w.grownBy w' none) (hw:w'.heap[w.heap.size]? = some (.map #[] 0)) :
  Inv B w0 (σ.map k w.heap.size) (place H k (PT t)) w' /\ Ext σ w (σ.map k w.heap.size) w' :=by
 have I:∀b,H[k]? = some b->b.live=false/\b.row=false:=by
  intro b hb;rcases X0 Y with ⟨hn,_⟩|⟨b0,hb0,hl0⟩
  ·rw[hn]at hb;cases hb
  ·rw[hb0]at hb;cases hb;exact hl0
 have hnone:σ.mp k=none:=by
  cases hm:σ.mp k with
  | none=>rfl
  | some g=>
   exfalso;obtain⟨_,_,_,b,hb,hmb⟩:=h.maps.dom k g hm;have:=I b hb;simp[EY,this]at hmb
 obtain⟨h',e0⟩:=h.grown hg;have hsz:w.heap.size<w'.heap.size:=(Array.getElem?_eq_some_iff.1 hw).1;have e:Ext σ w (σ.map k w.heap.size) w' :=by
  refine⟨e0.box,e0.fz,fun id g hm=>?_⟩;have:id≠k:=fun hh=>by simp_all
  simp[Sg.map,this,hm]
 have hne:∀(id:Nat) (b:Box),H[id]? = some b->(b.live=true\/b.row=true)->id≠k:=by
  intro id b hb D z;subst z;have:=I b hb
  simp_all
 have C:∀(id:Nat) (b:Box),(place H k (PT t))[id]? = some b->b.live=true->H[id]? = some b:=by
  intro id b hb D;rw[Kt Y]at hb;split at hb
  ·cases hb;simp[PT]at D
  ·exact hb
 have S:∀(id:Nat) (b:Box),H[id]? = some b->(b.live=true\/b.row=true)->(place H k (PT t))[id]? = some b:=by
  intro id b hb D;rw[Kt Y,if_neg (hne id b hb D)];exact hb
 refine⟨⟨h'.below,h'.size,fun id L hL=>?_,fun id b hb D=>?_,fun id J b1 b2 L1 L2 g G M l1 l2=>h.apart id J b1 b2 L1 L2 g (C _ _ G l1) (C _ _ M l2) l1 l2,h'.cells,
  fun b c hc id bx L hb D=>h.floor b c hc id bx L (C _ _ hb D) D,fun id b hb D=>h.low id b (C _ _ hb D) D,h'.old,fun b hb=>h'.kept b hb,?_⟩,e⟩
 ·obtain⟨b1,c1,c2⟩:=h.dom id L hL;exact⟨b1,S id b1 c1 c2,c2⟩
 ·obtain⟨L,hL,hok⟩:=h.boxes id b (C _ _ hb D) D;refine⟨L,hL,hok.kept e hg ?_⟩;cases hh:L.v.ownBlock with
  | none=>exact .inl rfl
  | some g=>exact .inr (by simp)
 ·refine⟨fun id b hb hm=>?_,fun id g hm=>?_,fun id J g G M=>?_⟩
  ·rw[Kt Y]at hb;split at hb
   ·rename_i z;subst z;cases hb;exact⟨w.heap.size,#[],0,[],by simp[Sg.map],hw,.nil,by simp,by simp[PT]⟩
   ·rename_i z;obtain⟨g,es,c,us,G,M,R,Q⟩:=h.maps.ok id b hb hm;exact⟨g,es,c,us,by simp[Sg.map,z,G],(hg.block g (h.maps.dom id g G).2.1 (by simp)).trans M,R.ext e,Q⟩
  ·by_cases z:id=k
   ·subst z;simp only[Sg.map,if_true,Option.some.injEq]at hm;subst hm;exact⟨h.size,hsz,fun hkp=>Nat.lt_irrefl _ (h.kept _ hkp).1,PT t,by rw[Kt Y,if_pos rfl],rfl⟩
   ·simp only[Sg.map,z,if_false]at hm;obtain⟨G,M,R,b,Q,h5⟩:=h.maps.dom id g hm;exact⟨G,by omega,R,b,by rw[Kt Y,if_neg z];exact Q,h5⟩
  ·have hlt:∀i,σ.mp i=some g->g<w.heap.size:=fun i hi=>(h.maps.dom i g hi).2.1
   by_cases R:id=k
   ·by_cases Q:J = k
    ·rw[R,Q]
    ·simp only[Sg.map,R,Q,if_true,if_false,Option.some.injEq]at G M;have:=hlt _ M;omega
   ·by_cases Q:J = k
    ·simp only[Sg.map,R,Q,if_true,if_false,Option.some.injEq]at G M;have:=hlt _ G;omega
    ·simp only[Sg.map,R,Q,if_false]at G M;exact h.maps.apart id J g G M
theorem Inv.lG {B w0 σ H w} (h:Inv B w0 σ H w) {id g:Nat} {b:Box} (hb:H[id]? = some b) (Y:EY b=true) (hmp:σ.mp id=some g) {es:Array MapEntry} {c:Nat} (M:w.heap[g]? = some (.map es c))
  {es' : Array MapEntry} {c' : Nat} {xs:List V} (hr:AL σ w xs (es'.toList.flatMap fun(e:MapEntry)=>[e.key,e.val])) (hfz:∀x∈xs,DU x=true) :
  Inv B w0 σ (H.set id { b with xs:=xs }) (ChangeMaps.setBlock w g (.map es' c'))/\Ext σ w σ (ChangeMaps.setBlock w g (.map es' c')):=by
 have Q:w.grownBy (ChangeMaps.setBlock w g (.map es' c')) (some g):=⟨rfl,rfl,rfl,by simp[ChangeMaps.setBlock],fun i _ hi=>ChangeMaps.heap_setBlock_other M _ (fun e=>hi (by rw[e]))⟩;have hnew:=ChangeMaps.heap_setBlock_same M (.map es' c');have G:∀b c,σ.fz b c->(ChangeMaps.setBlock w g (.map es' c')).cell? ⟨b,c,none⟩=w.cell? ⟨b,c,none⟩:=by
  intro b1 I hc;obtain⟨u,hu⟩:=h.cells b1 I hc;have hne:b1≠g:=by
   intro hh;subst hh;simp[World.cell?,M]at hu
  exact World.cell?_of_block (Q.block b1 (cell_lt hu) (by simpa using hne))
 have e:Ext σ w σ (ChangeMaps.setBlock w g (.map es' c')):=by
  exact⟨fun i L hL=>⟨L,hL,rfl,.inl rfl⟩,fun b1 I hc=>⟨hc,G b1 I hc⟩,IE.refl σ⟩
 have D:id<H.length:=(List.getElem?_eq_some_iff.1 hb).1;have hmb' : EY { b with xs:=xs }=true:=Y;have C:∀(i:Nat) (bx:Box),(H.set id { b with xs:=xs })[i]? = some bx->bx.live=true->H[i]? = some bx:=by
  intro i bx z R
  by_cases hi:i=id
  ·subst hi;simp only[List.getElem?_set,if_true,D]at z;cases z;have:=Nk Y
   simp_all
  ·rw[List.getElem?_set_ne (fun e=>hi e.symm)]at z;exact z
 obtain⟨d1,d2,d3,_⟩:=h.maps.dom id g hmp;refine⟨⟨h.below.grown Q h.size (fun k hk=>by cases hk;exact d1),Nat.le_trans h.size Q.size,fun i L hL=>?_,fun i bx z R=>?_,
  fun i j b1 b2 L1 L2 J S h2 l1 l2=>h.apart i j b1 b2 L1 L2 J (C _ _ S l1) (C _ _ h2 l2) l1 l2,fun b1 I hc=>?_,
  fun b1 I hc i bx L z R=>h.floor b1 I hc i bx L (C _ _ z R) R,fun i bx z R=>h.low i bx (C _ _ z R) R,h.old,fun b1 hb1=>?_,?_⟩,e⟩
 ·obtain⟨b1,I,c2⟩:=h.dom i L hL
  by_cases hi:i=id
  ·subst hi;exact⟨{ b with xs:=xs },by simp[D],.inr (Nk Y).2⟩
  ·exact⟨b1,by rw[List.getElem?_set_ne (fun e=>hi e.symm)];exact I,c2⟩
 ·obtain⟨L,hL,hok⟩:=h.boxes i bx (C _ _ z R) R;refine⟨L,hL,hok.kept e Q ?_⟩;cases hh:L.v.ownBlock with
  | none=>exact .inl rfl
  | some J =>
   refine .inr fun hh' =>?_;cases hh';exact hok.Z0U hh M
 ·obtain⟨u,hu⟩:=h.cells b1 I hc;exact⟨u,(G b1 I hc).trans hu⟩
 ·obtain⟨k1,k2,k3,k4⟩:=h.kept b1 hb1;refine⟨Nat.lt_of_lt_of_le k1 Q.size,(Q.block b1 k1 (fun hh=>?_)).trans k2,k3,k4⟩;cases hh;exact d3 hb1
 ·refine⟨fun i bx z hm=>?_,fun i J hm=>?_,h.maps.apart⟩
  ·by_cases hi:i=id
   ·subst hi;simp only[List.getElem?_set,if_true,D]at z;cases z;exact⟨g,es',c',_,hmp,hnew,hr.ext e,rfl,hfz⟩
   ·rw[List.getElem?_set_ne (fun e=>hi e.symm)]at z;obtain⟨J,es0,c0,us,S,h2,h3,h4⟩:=h.maps.ok i bx z hm;have:J ≠g:=fun hh=>hi (h.maps.apart i id g (by rw[<- hh];exact S) hmp);exact⟨J,es0,c0,us,S,(Q.block J (h.maps.dom i J S).2.1 (by simpa using this)).trans h2,h3.ext e,h4⟩
  ·obtain⟨S,h2,h3,bx,h4,h5⟩:=h.maps.dom i J hm
   by_cases hi:i=id
   ·subst hi;exact⟨S,Nat.lt_of_lt_of_le h2 Q.size,h3,{ b with xs:=xs },by simp[D],hmb'⟩
   ·exact⟨S,Nat.lt_of_lt_of_le h2 Q.size,h3,bx,by rw[List.getElem?_set_ne (fun e=>hi e.symm)];exact h4,h5⟩
theorem AL.JZ {σ:Sg} {w:World} {v u:Value} (h:AL σ w [.lit v] [u]):u=v:=by cases h;rfl
theorem Z7U {σ:Sg} {w:World} {e:MapEntry} {l:List MapEntry} {kvs:List V} (h:AL σ w kvs ((e::l).flatMap fun(e:MapEntry)=>[e.key,e.val])) :
  ∃x y r,kvs=x::y::r/\AL σ w [x] [e.key]/\AL σ w [y] [e.val]/\AL σ w r (l.flatMap fun(e:MapEntry)=>[e.key,e.val]):=by
 have h' : AL σ w kvs (e.key::e.val::l.flatMap fun(e:MapEntry)=>[e.key,e.val]):=h;cases kvs with
 | nil=>cases h'
 | cons x kvs=>
  obtain⟨C,z⟩:=AL.Dk.1 h';cases kvs with
  | nil=>cases z
  | cons y r=>
   obtain⟨D,G⟩:=AL.Dk.1 z;exact⟨x,y,r,rfl,C,D,G⟩
theorem AL.two {σ:Sg} {w:World} {x y:V} {u v:Value} {r:List V} {us:List Value} (z:AL σ w [x] [u]) (C:AL σ w [y] [v]) (D:AL σ w r us):AL σ w (x::y::r) (u::v::us):=
 AL.Dk.2 ⟨z,AL.Dk.2 ⟨C,D⟩⟩
theorem Zam {σ:Sg} {w:World} {kd:IntKind} {n:Int} {y:V} {u:Value} (hy:AL σ w [y] [u]) (S:leaf (.int kd n)=true) (bn:Nat):∀(l:List MapEntry) (kvs z : List V) (i:Nat),AL σ w kvs (l.flatMap fun(e:MapEntry)=>[e.key,e.val])->OQ kd n y kvs=some z ->
  (Instr.findNow (.int kd) (.int kd n) l i=some none/\AL σ w z ((l++[(⟨.int kd n,u,bn⟩:MapEntry)]).flatMap fun(e:MapEntry)=>[e.key,e.val])) \/
  (∃j v,Instr.findNow (.int kd) (.int kd n) l i=some (some (i+j,v))/\(l[j]?).map (·.key)=some (.int kd n)/\AL σ w z ((l.modify j fun e=>{ e with key:=.int kd n,val:=u }).flatMap fun(e:MapEntry)=>[e.key,e.val]))
 | [],kvs,z,i,h,C=>by
  cases h;simp only[OQ,Option.some.injEq]at C;subst C;exact .inl ⟨rfl,AL.two (.lit S .nil) hy .nil⟩
 | e::l,kvs,z,i,h,C=>by
  obtain⟨x,y0,r,rfl,R,h2,h3⟩:=Z7U h;unfold OQ at C;split at C
  ·rename_i G;cases G
  ·rename_i k a v r' G;obtain⟨rfl,rfl,rfl⟩:x = .lit (.int k a)/\y0=v/\r=r' :=by simpa using G
   split at C
   ·rename_i hk;subst hk;have D:e.key = .int k a:=R.JZ;split at C
    ·rename_i I;subst I;simp only[Option.some.injEq]at C;subst C;refine .inr ⟨0,e.val,by simp[Instr.findNow,D,Instr.sameNow],by simp[D],?_⟩;exact AL.two (.lit S .nil) hy h3
    ·rename_i I;cases Y:OQ k n y r with
     | none=>simp[Y]at C
     | some q=>
      simp only[Y,Option.map_some,Option.some.injEq]at C;subst C;have J:Instr.findNow (.int k) (.int k n) (e::l) i=Instr.findNow (.int k) (.int k n) l (i+1):=by simp[Instr.findNow,D,Instr.sameNow,beq_eq_false_iff_ne.2 I]
      rcases Zam hy S bn l r q (i+1) h3 Y with ⟨M,Q⟩|⟨j,v',M,Q,g3⟩
      ·refine .inl ⟨by rw[J];exact M,?_⟩;rw[List.cons_append,List.flatMap_cons];exact AL.two R h2 Q
      ·refine .inr ⟨j+1,v',by rw[J,M];congr 3;omega,by simpa using Q,?_⟩;rw[List.modify_succ_cons,List.flatMap_cons];exact AL.two R h2 g3
   ·cases C
  ·cases C
theorem Zac {σ:Sg} {w:World} {kd:IntKind} {n:Int}:∀(l:List MapEntry) (kvs z : List V) (i:Nat),AL σ w kvs (l.flatMap fun(e:MapEntry)=>[e.key,e.val])->Lh kd n kvs=some z ->
  (Instr.findNow (.int kd) (.int kd n) l i=some none/\z = kvs) \/
  (∃j v,Instr.findNow (.int kd) (.int kd n) l i=some (some (i+j,v))/\AL σ w z ((l.eraseIdx j).flatMap fun(e:MapEntry)=>[e.key,e.val]))
 | [],kvs,z,i,h,C=>by
  cases h;simp only[Lh,Option.some.injEq]at C;subst C;exact .inl ⟨rfl,rfl⟩
 | e::l,kvs,z,i,h,C=>by
  obtain⟨x,y0,r,rfl,R,h2,S⟩:=Z7U h;unfold Lh at C;split at C
  ·rename_i G;cases G
  ·rename_i k a v r' G;obtain⟨rfl,rfl,rfl⟩:x = .lit (.int k a)/\y0=v/\r=r' :=by simpa using G
   split at C
   ·rename_i hk;subst hk;have D:e.key = .int k a:=R.JZ;split at C
    ·rename_i I;subst I;simp only[Option.some.injEq]at C;subst C;exact .inr ⟨0,e.val,by simp[Instr.findNow,D,Instr.sameNow],by simpa using S⟩
    ·rename_i I;cases Q:Lh k n r with
     | none=>simp[Q]at C
     | some q=>
      simp only[Q,Option.map_some,Option.some.injEq]at C;subst C;have J:Instr.findNow (.int k) (.int k n) (e::l) i=Instr.findNow (.int k) (.int k n) l (i+1):=by simp[Instr.findNow,D,Instr.sameNow,beq_eq_false_iff_ne.2 I]
      rcases Zac l r q (i+1) S Q with ⟨M,Y⟩|⟨j,v',M,g3⟩
      ·exact .inl ⟨by rw[J];exact M,by rw[Y]⟩
      ·refine .inr ⟨j+1,v',by rw[J,M];congr 3;omega,?_⟩;rw[List.eraseIdx_cons_succ,List.flatMap_cons];exact AL.two R h2 g3
   ·cases C
  ·cases C
theorem Zas {kd:IntKind} {n:Int} {y:V} (G:DU y=true):∀(kvs C : List V),(∀x∈kvs,DU x=true)->OQ kd n y kvs=some C -> ∀x∈C,DU x=true
 | kvs,C,h,z=>by
  unfold OQ at z;split at z
  ·cases z;intro x hx;simp only[List.mem_cons,List.not_mem_nil,or_false]at hx;rcases hx with rfl|rfl
   ·rfl
   ·exact G
  ·rename_i k a v r;split at z
   ·split at z
    ·cases z;intro x hx;simp only[List.mem_cons]at hx h;rcases hx with rfl|rfl|hx
     ·rfl
     ·exact G
     ·exact h x (.inr (.inr hx))
    ·cases D:OQ kd n y r with
     | none=>simp[D]at z
     | some q=>
      simp only[D,Option.map_some,Option.some.injEq]at z;subst z;have I:=Zas G r q (fun x hx=>h x (by simp[hx])) D;intro x hx;simp only[List.mem_cons]at hx h;rcases hx with rfl|rfl|hx
      ·rfl
      ·exact h _ (.inr (.inl rfl))
      ·exact I x hx
   ·cases z
  ·cases z
theorem Za2 {kd:IntKind} {n:Int}:∀(kvs C : List V),(∀x∈kvs,DU x=true)->Lh kd n kvs=some C -> ∀x∈C,DU x=true
 | kvs,C,h,z=>by
  unfold Lh at z;split at z
  ·cases z;intro x hx;cases hx
  ·rename_i k a v r;split at z
   ·split at z
    ·cases z;exact fun x hx=>h x (by simp[hx])
    ·cases D:Lh kd n r with
     | none=>simp[D]at z
     | some q=>
      simp only[D,Option.map_some,Option.some.injEq]at z;subst z;have G:=Za2 r q (fun x hx=>h x (by simp[hx])) D;intro x hx;simp only[List.mem_cons]at hx h;rcases hx with rfl|rfl|hx
      ·rfl
      ·exact h _ (.inr (.inl rfl))
      ·exact G x hx
   ·cases z
  ·cases z
theorem Z0f {E:Env} {P:Program} {B:Nat} {w0:Start} {σ:Sg} {H:Heap} {w:World} (S:Bl E) (Y:E.P=P) (Q:Inv B w0 σ H w) {id:Nat} {G:Value} (hm:AL σ w [.FQ id] [G]) {b:Box} (hb:H[id]? = some b) (z:EY b=true) :
  ∃g es c,G = .map (some g)/\σ.mp id=some g/\w.heap[g]? = some (.map es c)/\AL σ w b.xs (es.toList.flatMap fun(e:MapEntry)=>[e.key,e.val])/\∀x∈b.xs,DU x=true:=by
 obtain⟨g,es,c,us,C,I,J,rfl,M⟩:=Q.maps.ok id b hb z;cases hm with
 | FQ R D _=>
  rw[C]at D;cases D;exact⟨g,es,c,rfl,C,I,J,M⟩
theorem gK {P:Program} {w:World} {k:TypeId} {kd:IntKind} {n:Int} (z:P.underlying k=some (.int kd)) {l:List MapEntry} {q} (C:Instr.findNow (.int kd) (.int kd n) l 0=some q):(Instr.findKey k (.int kd n) l).run P w = .ok q w:=by
 simp[Instr.findKey,run_underlying z,C]
theorem Z5 {E:Env} {P:Program} (D:Bl E) (G:E.P=P) {t k e:Nat} {sz by' : Nat} {z} (h:E.ti t=some ⟨.map k e,sz,by',z⟩):P.underlying t=some (.map k e):=by
 obtain⟨I,d,hi,C,q1,q2,q3,q4⟩:=Eo (D.ti _ _ h);rw[G]at C;rw[C];cases d<;>simp[Jw]at q1;exact congrArg some (by rw[q1.1,q1.2])
theorem Zpa {E:Env} {P:Program} {B:Nat} {w0:Start} {σ:Sg} {H H' : Heap} {w:World} (S:Bl E) (Y:E.P=P) (hI:Inv B w0 σ H w) {t:TypeId} {m x v:V} {mv xv Q:Value} (hm:AL σ w [m] [mv]) (hx:AL σ w [x] [xv]) (hv:AL σ w [v] [Q])
  (h:Nz E H t m x v=some H'):∃w' σ',(Instr.mapUpdate t mv xv Q).run P w = .ok () w' /\ Inv B w0 σ' H' w' /\ Ext σ w σ' w' :=by
 unfold Nz at h;split at h
 ·rename_i y hy;split at h
  ·rename_i hfy;have hr1:=Xf hI hv hy (DC v) (fun i hi=>hi);obtain⟨C,R⟩:=hI.freeze (DC v);unfold Qp at h;split at h
   ·rename_i k e sz by' z0 id kd n hti;have hd:=Z5 S Y hti;split at h
    ·rename_i J;have hk:P.underlying k=some (.int kd):=by rw[<- Y];exact S.kind _ _ J.1
     split at h
     ·rename_i b hb;split at h
      ·rename_i D;cases M:OQ kd n y b.xs with
       | none=>simp[M]at h
       | some xs=>
        simp only[M,Option.map_some,Option.some.injEq]at h;subst h;obtain⟨g,es,c,rfl,g1,G,g3,g4⟩:=Z0f S Y C (hm.ext R) hb D;have hxv:xv = .int kd n:=hx.JZ;subst hxv;have hlf:leaf (.int kd n)=true:=by simpa[leaf]using J.2
        have I:(Instr.checkKey false 10000 k (.int kd n)).run P w = .ok () w:=MapKept.run_checkKey (k:=.int kd n) hk (by simp[MapKept.IsKey]) false 9999;have z:=Zas hfy b.xs xs g4 M;rcases Zam hr1 hlf c es.toList b.xs xs 0 g3 M with ⟨f1,f2⟩|⟨j,v0,f1,f2,f3⟩
        ·obtain⟨i1,i2⟩:=C.lG hb D g1 G (es' :=es.push ⟨.int kd n,Q,c⟩) (c' :=c+1) (by simpa using f2) z;refine⟨_,_,?_,i1,R.trans i2⟩;simp[Instr.mapUpdate,run_underlying hd,MapKept.run_getObj_map G,I,gK hk f1,MapKept.run_setObj_map _ G,Result.andThen,ChangeMaps.setBlock]
        ·rw[Nat.zero_add]at f1;obtain⟨i1,i2⟩:=C.lG hb D g1 G (es' :=es.modify j fun e=>{ e with key:=.int kd n,val:=Q }) (c' :=c) (by rw[Array.toList_modify];exact f3) z;refine⟨_,_,?_,i1,R.trans i2⟩;have hkk:((es[j]?).map (·.key)).getD (.int kd n) = .int kd n:=by
          rw[<- Array.getElem?_toList,f2];rfl
         have hst:∀v:Value,v = .int kd n->(Instr.keyThatStays v (.int kd n)).run P w = .ok (.int kd n) w:=by
          rintro v rfl
          simp[Instr.keyThatStays,Instr.sameBits]
         simp[Instr.mapUpdate,run_underlying hd,MapKept.run_getObj_map G,I,gK hk f1,hst _ hkk,MapKept.run_setObj_map _ G,Result.andThen,ChangeMaps.setBlock]
      ·cases h
     ·cases h
    ·cases h
   ·cases h
  ·cases h
 ·cases h
theorem ZmF {E:Env} {P:Program} {B:Nat} {w0:Start} {σ:Sg} {H H' : Heap} {w:World} (J:Bl E) (Q:E.P=P) (M:Inv B w0 σ H w) {t u ty:TypeId} {m x:V} {mv xv:Value} (hm:AL σ w [m] [mv]) (hx:AL σ w [x] [xv])
  (h:Qp E H t m x Lh=some H'):∃w',(Builtin.delete_ #[t,u] ty #[mv,xv]).run P w = .ok (.tuple #[]) w' /\ Inv B w0 σ H' w' /\ Ext σ w σ w' :=by
 unfold Qp at h;split at h
 ·rename_i k e sz by' z0 id kd n Y;have hd:=Z5 J Q Y;split at h
  ·rename_i S;have R:P.underlying k=some (.int kd):=by rw[<- Q];exact J.kind _ _ S.1
   split at h
   ·rename_i b hb;split at h
    ·rename_i C;cases I:Lh kd n b.xs with
     | none=>simp[I]at h
     | some xs=>
      simp only[I,Option.map_some,Option.some.injEq]at h;subst h;obtain⟨g,es,c,rfl,g1,D,g3,g4⟩:=Z0f J Q M hm hb C;have hxv:xv = .int kd n:=hx.JZ;subst hxv;have G:∀q,(Instr.checkKey q 10000 k (.int kd n)).run P w = .ok () w:=fun q=>MapKept.run_checkKey (k:=.int kd n) R (by simp[MapKept.IsKey]) q 9999;have z:=Za2 b.xs xs g4 I;rcases Zac es.toList b.xs xs 0 g3 I with ⟨f1,f2⟩|⟨j,v0,f1,f3⟩
      ·subst f2;obtain⟨i1,i2⟩:=M.lG hb C g1 D (es' :=es) (c' :=c) g3 z;refine⟨_,?_,i1,i2⟩;simp[Builtin.delete_,run_underlying hd,MapKept.run_getObj_map D,G,gK R f1,MapKept.run_setObj_map _ D,Result.andThen,ChangeMaps.setBlock]
      ·rw[Nat.zero_add]at f1;obtain⟨i1,i2⟩:=M.lG hb C g1 D (es' :=es.eraseIdxIfInBounds j) (c' :=c) (by rw[Array.toList_eraseIdxIfInBounds];exact f3) z;refine⟨_,?_,i1,i2⟩;simp[Builtin.delete_,run_underlying hd,MapKept.run_getObj_map D,G,gK R f1,MapKept.run_setObj_map _ D,Result.andThen,ChangeMaps.setBlock]
    ·cases h
   ·cases h
  ·cases h
 ·cases h
theorem Zma {P:Program} {B:Nat} {w0:Start} {σ:Sg} {H:Heap} {w:World} (z:Inv B w0 σ H w) {k:Nat} (C:Eg H k=true) (t:TypeId) :
  (newObj (.map #[] 0)).run P w = .ok w.heap.size (w.alloc (.map #[] 0))/\∃σ',Inv B w0 σ' (place H k (PT t)) (w.alloc (.map #[] 0))/\Ext σ w σ' (w.alloc (.map #[] 0))/\AL σ' (w.alloc (.map #[] 0)) [.FQ k] [.map (some w.heap.size)]:=by
 obtain⟨D,G⟩:=z.Zrc C t (w.grownBy_alloc (.map #[] 0) none) (MapKept.heap_alloc w _).1;exact⟨by simp,_,D,G,.FQ _ (by simp[Sg.map]) .nil⟩
theorem Z5l {zs:Value} {n:Nat} (h:zs.cells.size=n) (z:0<n) (k:Nat):(Builtin.zeroCells zs.cells k).toList=flat (List.replicate k zs):=by
 rw[<- vW z h k,<- h];rfl
theorem Zog {E B w0 σ H w} {P:Program} (hE:Bl E) (hP:E.P=P) (h:Inv B w0 σ H w) {t:TypeId} (ty:TypeId) {d:V} {dv:Value} {H' : Heap}
  (hd:AL σ w [d] [dv]) (hc:VU E H t d=some H') :
  ∃w' σ',(Builtin.clear_ #[t] ty #[dv]).run P w = .ok (.tuple #[]) w' /\ Inv B w0 σ' H' w' /\ Ext σ w σ' w' :=by
 unfold VU at hc;split at hc
 ·rename_i e sz by' z0 hti;split at hc
  ·rename_i ei id off len tot hei;obtain⟨inf,dd,hi,hdd,q1,q2,q3,q4⟩:=Eo (hE.ti _ _ hti);have hd' : P.underlying t=some (.slice e):=by rw[hP]at hdd;rw[hdd,MN q1]
   split at hc
   ·rename_i b z hb hz;split at hc
    ·rename_i G;simp only[Bool.and_eq_true,beq_iff_eq,decide_eq_true_eq]at G;obtain⟨⟨⟨⟨⟨c1,c2⟩,c3⟩,c4⟩,c6⟩,⟨⟨c7,c8⟩,c9⟩,c10⟩:=G;subst c2;subst c3;simp only[Option.some.injEq]at hc;subst hc;obtain⟨infe,D,hie,hzv,hsz,hbz,hzr⟩:=X6 hE hP hei hz σ w;have hzs:D.cells.size=ei.size:=by rw[<- hzr.Ov c9];exact c8
     obtain⟨L,vs,m,hxl,hol,hsub,hview⟩:=MQ h hd hb;have hLe:L.Ag=ei.size:=by rw[<- m.Ag];exact c4
     have hrep:=AL.replicate len (QS (E.rows e) hzr);have C:∀u∈List.replicate len D,u.cells.size=L.Ag:=fun u hu=>by rw[hLe,(List.mem_replicate.1 hu).2];exact hzs
     have I:∀u∈flat (List.replicate len D),u.oneCell' = true:=by
      intro u hu;simp only[flat,List.mem_flatMap]at hu;obtain⟨a,ha,hb⟩:=hu;rw[(List.mem_replicate.1 ha).2]at hb;exact(hzr.cells c9).2 u hb
     have hzf:=Z5l hzs c7 len;have hlx:(List.replicate len (DX (E.rows e) z)).length=len:=by simp
     rcases hview with ⟨hv,hvv,ho,hl,ht⟩|⟨g,cap,k,hv,hvv,hle,hmx,hk1,hk2⟩
     ·omega
     ·have hk0:k=0:=by omega
      subst hk0;rcases m.shape with ⟨hn,_,_⟩|⟨g',cap',cur,tg,Y,hB,hh,htg,hn,hm,hcs,ht⟩
      ·rw[hn]at hv;cases hv
      ·rw[Y]at hv;simp only[Value.slice.injEq,Option.some.injEq,Addr.mk.injEq,and_true]at hv;obtain⟨R,_,Q⟩:=hv;have R:=R.symm;subst R;have Q:=Q.symm;subst Q;have M:(flat (List.replicate len D)).length=len*L.Ag:=by rw[flat_length C];simp
       have hfit:0+0+(flat (List.replicate len D)).length<=cur.size:=by
        rw[M,hcs];have:len<=cap:=by omega
        simpa using Nat.mul_le_mul_right L.Ag this
       have J:=UO P g 0 b.elem tg (flat (List.replicate len D)) 0 cur w hh htg hfit I;simp only[Nat.add_zero,Nat.zero_add,List.take_zero,List.nil_append,M]at J;have S:=setRow_heap w g cur (flat (List.replicate len D)++cur.toList.drop (len*L.Ag)).toArray b.elem tg hh;have hown:L.v.ownBlock=some g:=by rw[Y];rfl
       have hgb:w.grownBy (w.setRow g (flat (List.replicate len D)++cur.toList.drop (len*L.Ag)).toArray) L.v.ownBlock:=
        ⟨rfl,rfl,rfl,by simp,fun k _ hk=>setRow_other w g k _ (fun e=>hk (by rw[hown,e]))⟩
       obtain⟨h1,h2⟩:=h.upd m.hb m.live m.box hgb { b with xs:=List.replicate len (DX (E.rows e) z) } m.live L rfl (.inl rfl) rfl (by grind) (fun g' hg' =>.inl hg')
        (fun g' c' _ hc' =>by grind) (fun ex=>by
         refine⟨by simp only[hlx];rw[m.tot,hxl],⟨List.replicate len D,hrep.ext ex,C,?_,?_⟩,m.Dc,m.Ag,?_,fun hrow=>?_⟩
         ·exact I
         ·simp only[hlx];refine⟨M,.inr ⟨g,cap,_,tg,by rw[Y,hxl],hB,S,?_,by omega,hm,?_,?_⟩⟩
          ·grind
          ·grind
          grind
         ·intro y hy;rw[(List.mem_replicate.1 hy).2,XV];exact c9
         ·intro y hy;rw[(List.mem_replicate.1 hy).2,QQ];exact zD hE hei hz)
       refine⟨_,_,?_,h1,h2⟩;rw[hvv];obtain⟨n,rfl⟩:∃n,len=n+1:=⟨len - 1,by omega⟩;have hzr' : (zeroValue e).run P w = .ok D w:=by simp[zeroValue,typeInfo,hie,hzv]
       have hz2:(Builtin.zeroCells D.cells (n+1)).toList=flat (List.replicate (n+1) D):=hzf;simp[Builtin.clear_,run_underlying hd',hzr',hz2,J]
    ·cases hc
   ·cases hc
  ·cases hc
 ·cases hc
end Go.Proofs.YteinepnbndegdaaGreat.Le
