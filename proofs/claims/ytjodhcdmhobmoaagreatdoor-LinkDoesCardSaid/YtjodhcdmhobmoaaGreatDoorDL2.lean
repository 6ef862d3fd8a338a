/- A part of it. -/
import Derived.Test.YtjodhcdmhobmoaaGreatDoorDL1
import Derived.Great.FillDense
import Derived.Great.BuildSlice
import Derived.OpenShut
import Derived.DeepKeys
set_option linter.unusedVariables false
set_option linter.unusedSimpArgs false
namespace Go.Proofs.YtjodhcdmhobmoaaGreatDoor.Le
open Go.RowKit (Below)
structure Src (σ:Sg) (w:World) (n:Nat) (ys:List V) (us:List Value) (v:Value):Prop where
 Dh:AQ σ w ys us
 oks:∀x∈ys,Ep x=true
 sizes:∀u∈us,u.cells.size=n
 ones:∀u∈flat us,u.oneCell' = true
 val:((v = .slice none 0 0\/∃a k,v = .slice (some a) 0 k)/\ys=[]/\us=[])\/∃b o c,v = .slice (some ⟨b,o,none⟩) ys.length c/\ys.length<=c/\∀j u,(flat us)[j]? = some u->w.cell? ⟨b,o+j,none⟩=some u
theorem Src.ext {σ w n ys us v σ'} (h:Src σ w n ys us v) (e:Ext σ w σ' w):Src σ' w n ys us v:=⟨h.Dh.ext e,h.oks,h.sizes,h.ones,h.val⟩
theorem src_ok {B w0 σ H w} (h:Inv B w0 σ H w) {x:V} {v:Value} {ys:List V} {n:Nat} (M:AQ σ w [x] [v]) (q:elemsOf H x=some ys) (C:Eb H x n=true) :
  ∃us,Src σ w n ys us v:=by
 unfold elemsOf at q;split at q
 ·simp only[Option.some.injEq]at q;subst q;cases M with
  | ET _=>exact⟨[],.nil,by simp,by simp,by simp[flat],.inl ⟨.inl rfl,rfl,rfl⟩⟩
  | FU a _=>exact⟨[],.nil,by simp,by simp,by simp[flat],.inl ⟨.inr ⟨a,0,rfl⟩,rfl,rfl⟩⟩
  | sl b o c e k0 k1 k2 k3 k4 k5 k6 k7=>
   simp only[Eb,Bool.false_or,beq_iff_eq]at C;subst C;exact⟨_,k0,k1,k2,k3,.inr ⟨b,o,c,rfl,k4,fun j u A=>(k6 j u A).2⟩⟩
 ·simp only[Option.some.injEq]at q;subst q;cases M with
  | Fz _=>exact⟨[],.nil,by simp,by simp,by simp[flat],.inl ⟨.inl rfl,rfl,rfl⟩⟩
  | GU a _=>exact⟨[],.nil,by simp,by simp,by simp[flat],.inl ⟨.inr ⟨a,0,rfl⟩,rfl,rfl⟩⟩
  | Ce b o e k0 k1 k2 k3 k4 k5 k6=>
   simp only[Eb,Bool.false_or,beq_iff_eq]at C;subst C;exact⟨_,k0,k1,k2,k3,.inr ⟨b,o,_,rfl,Nat.le_refl _,fun j u A=>(k5 j u A).2⟩⟩
 ·rename_i id off len tot;split at q
  ·rename_i b hb;split at q
   ·rename_i hc;simp only[Bool.and_eq_true,decide_eq_true_eq]at hc;simp only[Option.some.injEq]at q;subst q;obtain⟨L,us,m,hxl,hol,hs,D⟩:=OA h M hb;simp only[Eb,hb,beq_iff_eq]at C;have J : L.Ar=n:=by rw[<- m.Ar];exact C
    subst J;have z:((b.xs.drop off).take len).length=len:=by simp;omega
    refine⟨(us.drop off).take len,qO m.Dh off len,fun x hx=>m.fz hc.1 x (List.mem_of_mem_drop (List.mem_of_mem_take hx)),aO (o8 m.sizes off) len,rJ (Z3c m.ones off) len,?_⟩;rcases D with ⟨O,F,ho,Y,ht⟩|⟨g,cap,k,O,F,hle,hmx,S,G⟩
    ·left;subst Y;exact⟨.inl F,by simp,by simp⟩
    ·right;refine⟨g,k*L.Ar,cap - off,by rw[z];exact F,by rw[z];omega,?_⟩;intro j u A;rw[Z33 m.sizes]at A;have N:j<len*L.Ar:=by
      have:=(List.getElem?_eq_some_iff.1 A).1;simp at this;omega
     rw[List.getElem?_take,if_pos N,List.getElem?_drop]at A;have I:0<len:=by
      cases len with
      | zero=>simp at N
      | succ n=>omega
     have Q:k=off:=G (by omega);subst Q;exact m.cell (g:=g) (by rw[O];rfl) _ _ A
   ·cases q
  ·cases q
 ·simp[Eb]at C
 ·cases q
theorem Wx {P:Program} (w:World) (t ty e:TypeId) (i:TypeInfo) (A:P.underlying t=some (.slice e)) (q:P.info? e=some i) (a:Option Addr) (n c:Nat) (z:n<=c) (x:Value) (C:x = .slice none 0 0\/∃b k,x = .slice (some b) 0 k) :
  (Builtin.append_ #[t,t] ty #[.slice a n c,x]).run P w = .ok (.slice a n c) w:=by
 rcases C with rfl|⟨b,k,rfl⟩
 ·cases a<;>simp[Builtin.append_,run_underlying A,sizeOf,typeInfo,q,Builtin.lenOf,Builtin.firstCells,loadCells,z,storeCells]
 ·cases a<;>simp[Builtin.append_,run_underlying A,sizeOf,typeInfo,q,Builtin.lenOf,Builtin.firstCells,loadCells,loadCellsFrom,z,storeCells]
theorem kJ {P:Program} (w:World) (base:Nat) (t ty e:TypeId) (i:TypeInfo) (z:Value) (size:Nat) (ht:P.underlying t=some (.slice e)) (hi:P.info? e=some i) (hz:i.zero=some z)
  (hsize:i.size=size) (hzs:z.cells.size=size)
  (v:Value) (n:Nat) (xs:List Value) (A:F7 w base e size v n xs)
  (a:Addr) (m c:Nat) (q:List Value) (hl:q.length=m*size) (F:∀j u,q[j]? = some u->w.cell? (a.add j)=some u) (h1:∀u∈q,u.oneCell' = true) (hm:0<m)
  (h63:n+m<=maxLen) (I:(n+m)*i.bytes<=140737488355328) (Q:base<=w.heap.size) :
  ∃v' w',(Builtin.append_ #[t,t] ty #[v,.slice (some a) m c]).run P w = .ok v' w' /\ F7 w' base e size v' (n+m) (xs++q)/\w.grownBy w' v.ownBlock /\
   v' ≠.slice none 0 0/\(∀g,v'.ownBlock=some g->v.ownBlock=some g\/w.heap.size<=g) /\
   (∀g j,v.ownBlock=some g->j<n*size->w'.cell? ⟨g,j,none⟩=w.cell? ⟨g,j,none⟩):=by
 subst hsize;have hsmall:n+m<=9223372036854775807:=by simp only[maxLen]at h63;omega
 have J:(xs++q).length=(n+m)*i.size:=by rw[List.length_append,A.1,hl,Nat.add_mul]
 have grown:∀(old:Nat),old<n+m->∀(row:Option Nat),
   F7 (w.drew.alloc (.cells (xs.toArray++q.toArray++Builtin.zeroCells z.cells (grownCap w (n+m) old e - (n+m))) e)) base e i.size
    (.slice (some ⟨w.heap.size,0,none⟩) (n+m) (grownCap w (n+m) old e)) (n+m) (xs++q) /\
   w.grownBy (w.drew.alloc (.cells (xs.toArray++q.toArray++Builtin.zeroCells z.cells (grownCap w (n+m) old e - (n+m))) e)) row:=by
  intro old ho row;have hge:=grownCap_ge w (n+m) old e;have S:grownCap w (n+m) old e<=maxLen:=grownCap_le_maxLen w (n+m) old e h63;refine⟨⟨J,.inr ⟨w.heap.size,_,_,(0,0),rfl,Q,heap_alloc_new w.drew _,.inl rfl,hge,S,?_,?_⟩⟩,⟨rfl,rfl,rfl,by simp,fun k hk _=>heap_alloc_old w.drew _ hk⟩⟩
  ·simp only[Array.size_append,List.size_toArray,size_zeroCells,hzs,A.1,hl,<- Nat.add_mul];congr 1;omega
  ·simp only[Array.toList_append,List.append_assoc];rw[<- List.append_assoc,<- J];exact List.take_left
 have O:∀g n c,(Value.slice (some ⟨w.heap.size,0,none⟩) n c).ownBlock=some g->w.heap.size<=g:=by
  intro g n c N;simp[Value.ownBlock]at N;omega
 rcases A.2 with ⟨rfl,rfl⟩|⟨g,cap,C,tg,rfl,hbg,N,htg,hnc,S,hcs,htake⟩
 ·have hx:xs=[]:=List.eq_nil_of_length_eq_zero (by simpa using A.1);subst hx;have hr:=run_append_nil (P:=P) w t ty e i z ht hi hz a m c q hl F hm (by omega) (by have hb:=I;simp only[Nat.zero_add]at hb;omega);have M:=grown 0 (by omega) (Value.ownBlock (.slice none 0 0));simp only[Nat.zero_add,List.nil_append,Array.empty_append]at M ⊢;exact⟨_,_,hr,M.1,M.2,by simp,fun g N=>.inr (O g _ _ N),fun g j N=>by simp[Value.ownBlock]at N⟩
 ·by_cases G:n+m<=cap
  ·have hfit:n*i.size+q.length<=C.size:=by rw[hl,hcs,<- Nat.add_mul];exact Nat.mul_le_mul_right _ G
   have hr:=Z62 (P:=P) (w:=w) t ty e i ht hi g n cap C tg N htg a m c q hl F h1 G hfit;refine⟨_,_,hr,⟨J,.inr ⟨g,cap,_,tg,rfl,hbg,setRow_heap w g C _ e _ N,?_,G,S,?_,?_⟩⟩,⟨rfl,rfl,rfl,by simp,fun k _ hk=>setRow_other w g k _ (fun e=>hk (by simp[Value.ownBlock,e]))⟩,by simp,fun g' D =>.inl D,?_⟩
   ·have:(C.toList.take (n*i.size)++q++C.toList.drop (n*i.size+q.length)).toArray.size=C.size:=by
     simp only[List.size_toArray,List.length_append,List.length_take,List.length_drop,Array.length_toList];omega
    rw[this];exact htg
   ·simp only[List.size_toArray,List.length_append,List.length_take,List.length_drop,Array.length_toList];omega
   ·rw[htake,<- J];exact List.take_left
   ·intro g' j D hj;simp only[Value.ownBlock,Option.some.injEq]at D;subst D;rw[cell_setRow_same w g j C _ e tg N,cell_of_row w g j C e tg N];rw[List.getElem?_toArray,<- Array.getElem?_toList];have hjc:j<C.size:=by have:=Nat.mul_le_mul_right i.size hnc;omega
    have hlt:j<(C.toList.take (n*i.size)).length:=by simp;omega
    rw[List.append_assoc,List.getElem?_append_left hlt,List.getElem?_take,if_pos hj]
  ·have Y:∀j u,xs[j]? = some u->w.cell? ((⟨g,0,none⟩:Addr).add j)=some u:=A.cells (g:=g) rfl;have hr:=run_append_grow (P:=P) w t ty e i z ht hi hz ⟨g,0,none⟩ n cap xs A.1 Y a m c q hl F (by omega) (by omega) (growslice_fits (by omega) I);have M:=grown cap (by omega) (Value.ownBlock (.slice (some ⟨g,0,none⟩) n cap));refine⟨_,_,hr,M.1,M.2,by simp,fun g' D =>.inr (O g' _ _ D),?_⟩;intro g' j D hj;simp only[Value.ownBlock,Option.some.injEq]at D;subst D;exact World.cell?_of_block (heap_alloc_old w.drew _ (by simpa using (F7.lt A g rfl).2))
theorem Ns {d:TypeDesc} {e:Nat} (h:Ty.slice e=Kr d):d = .slice e:=by
 cases d<;>simp[Kr]at h;rw[h]
theorem Z0x {α:Type} (l:List α) (i:Nat) (x:α) (h:l[i]? = some x):l.set i x=l:=by
 apply List.ext_getElem?;intro j;rw[List.getElem?_set];split
 ·rename_i e;subst e;split
  ·exact h.symm
  ·rename_i q;rw[List.getElem?_eq_none (by omega)]
 ·rfl
theorem ownBlock_ne {v:Value} {B e size n xs} {w:World} (h:F7 w B e size v n xs) (q:v≠.slice none 0 0):∃g cap,v = .slice (some ⟨g,0,none⟩) n cap:=by
 rcases h.2 with ⟨z,_⟩|⟨g,cap,A,C,z,_⟩
 ·exact absurd z q
 ·exact⟨g,cap,z⟩
theorem NK {B w0 σ H w w'} (h:Inv B w0 σ H w) {k:Nat} (F:FO H k=true) (Y:w.grownBy w' none) {xs:List V} {us:List Value} {e Ar:Nat} {v' : Value} (hr:AQ σ w xs us) (M:∀x∈xs,Ep x=true)
  (hs:∀u∈us,u.cells.size=Ar) (ho:∀u∈flat us,u.oneCell' = true) (q:F7 w' B e Ar v' xs.length (flat us)) (C:∀g,v'.ownBlock=some g->w.heap.size<=g) (J:Bool) (I:J=true->v' = .slice none 0 0) :
  ∃σ',Inv B w0 σ' (place H k (Bg true J e Ar xs)) w' /\ Ext σ w σ' w' /\ AQ σ' w' [.Bc k 0 xs.length xs.length] [v']:=by
 obtain⟨Q,S⟩:=h.push Y F (Bg true J e Ar xs) rfl ⟨v',xs.length,Ar⟩ (by simp[Bg]) C (fun O=>⟨rfl,⟨us,hr.ext O,hs,ho,by simpa[Bg]using q⟩,by simpa[Bg]using I,rfl,Z3n M,fun _ x hx=>QZ (M x hx)⟩);have D:∃a n c,v' = .slice a n c/\n=xs.length/\n<=c:=by
  rcases q.2 with ⟨z,G⟩|⟨g,cap,N,tg,z,_,_,_,A,_⟩
  ·exact⟨none,0,0,z,G.symm,Nat.le_refl _⟩
  ·exact⟨_,_,cap,z,rfl,A⟩
 obtain⟨a,n,c,z,G,A⟩:=D;refine⟨_,Q,S,.Bc (L:=⟨v',xs.length,Ar⟩) (by simp[Sg.put]) (Nat.le_refl _) (fun _=>⟨by omega,a,n,c,0,z,?_,Nat.zero_le _,Nat.le_refl _,fun _=>rfl⟩) ⟨a,n,c,z⟩ .nil⟩;subst G;rw[z];cases a with
 | none=>simp
 | some a=>simp[Addr.add]
theorem ZnV {B w0 σ H w} {P:Program} (h:Inv B w0 σ H w) {u e:TypeId} (ty:TypeId) {q:TypeInfo} {id len tot:Nat} {sv xv:Value} {b:Box} {ys:List V} {us:List Value}
  (hd' : P.underlying u=some (.slice e)) (hie:P.info? e=some q) (hs:AQ σ w [.Bc id 0 len tot] [sv]) (hb:DZ H id tot=some b) (c1:b.row=true) (c2:b.elem=e) (c4:b.Ar=q.size) (c6:b.floor<=len) (c7:len<tot)
  (c8:len+ys.length<=tot) (src:AQ σ w ys us) (soks:∀y∈ys,Ep y=true) (ssz:∀y∈us,y.cells.size=q.size) (O:∀v∈flat us,v.oneCell' = true)
  (hsrc:(ys=[]/\us=[]/\(xv = .slice none 0 0\/∃b k,xv = .slice (some b) 0 k))\/(0<ys.length/\∃a c,xv = .slice (some a) ys.length c/\∀j u,(flat us)[j]? = some u->w.cell? (a.add j)=some u)) :
  ∃v' w' σ',(Builtin.append_ #[u,u] ty #[sv,xv]).run P w = .ok v' w' /\ Inv B w0 σ' (H.set id { b with xs:=b.xs.take len++ys++b.xs.drop (len+ys.length) }) w' /\ Ext σ w σ' w' /\ AQ σ' w' [.Bc id 0 (len+ys.length) tot] [v']:=by
 obtain⟨L,vs,m,G,hol,hsub,hview⟩:=OA h hs hb;have C:L.Ar=q.size:=by rw[<- m.Ar];exact c4
 have hlus:us.length=ys.length:=src.length.symm;rcases hview with ⟨hv,hvv,ho,hl,ht⟩|⟨g,cap,k,hv,hvv,hle,hmx,hk1,hk2⟩
 ·omega
 have hk0:k=0:=by omega
 subst hk0;have hsv:sv = .slice (some ⟨g,0,none⟩) len cap:=by rw[hvv];simp
 rcases hsrc with ⟨hy,hu,hxv⟩|⟨hm,a',c',hxv,hcell⟩
 ·subst hy;refine⟨sv,w,σ,?_,?_,Ext.refl σ w,by simpa using hs⟩
  ·rw[hsv];exact Wx w u ty e q hd' hie _ len cap (by omega) xv hxv
  ·have:H.set id { b with xs:=b.xs.take len++[]++b.xs.drop (len+([]:List V).length) }=H:=by
    apply Z0x;rw[m.hb];cases b;simp
   rw[this];exact h
 rcases m.shape with ⟨hn,_,_⟩|⟨g',cap',z,tg,Y,hB,hh,htg,hn,hm',hcs,ht⟩
 ·rw[hn]at hv;cases hv
 rw[Y]at hv;simp only[Value.slice.injEq,Option.some.injEq,Addr.mk.injEq,and_true]at hv;obtain⟨hgg,_,Q⟩:=hv;have hgg:=hgg.symm;subst hgg;have Q:=Q.symm;subst Q;have hTl:(flat us).length=ys.length*q.size:=by rw[flat_length ssz,hlus]
 have hmul:len*q.size+ys.length*q.size<=tot*q.size:=by rw[<- Nat.add_mul];exact Nat.mul_le_mul_right _ c8
 have hcapm:tot*q.size<=cap*q.size:=Nat.mul_le_mul_right _ hle;have J : z.size=cap*q.size:=by rw[hcs,C]
 have hrun:=Z62 (P:=P) (w:=w) u ty e q hd' hie g len cap z tg (by rw[<- c2];exact hh) htg a' ys.length c' (flat us) hTl hcell O (by omega) (by rw[hTl];omega);have hlv:vs.length=tot:=by rw[m.len,G]
 have hFl:(flat vs).length=tot*q.size:=by rw[flat_length m.sizes,hlv,C]
 have M:z.toList=flat vs++z.toList.drop (tot*q.size):=by
  rw[<- C,<- ht,G,List.take_append_drop]
 have hnew:flat (vs.take len++us++vs.drop (len+ys.length))=(flat vs).take (len*q.size)++flat us++(flat vs).drop ((len+ys.length)*q.size):=by
  rw[Nq,Nq,bI m.sizes,Z2m m.sizes,C]
 have I:z.toList.take (len*q.size)++flat us++z.toList.drop (len*q.size+(flat us).length)=flat (vs.take len++us++vs.drop (len+ys.length))++z.toList.drop (tot*q.size):=by
  rw[hnew,hTl,<- Nat.add_mul];have e1:z.toList.take (len*q.size)=(flat vs).take (len*q.size):=by
   conv=>lhs;rw[M]
   rw[List.take_append_of_le_length (by rw[hFl];omega)]
  have e2:z.toList.drop ((len+ys.length)*q.size)=(flat vs).drop ((len+ys.length)*q.size)++z.toList.drop (tot*q.size):=by
   conv=>lhs;rw[M]
   rw[List.drop_append_of_le_length (by rw[hFl,Nat.add_mul];omega)]
  rw[e1,e2,<- List.append_assoc]
 rw[I]at hrun;have D : ∀x∈vs.take len++us++vs.drop (len+ys.length),x.cells.size=L.Ar:=by
  intro x hx;rcases List.mem_append.1 hx with hx|hx
  ·rcases List.mem_append.1 hx with hx|hx
   ·exact m.sizes x (List.mem_of_mem_take hx)
   ·rw[ssz x hx,C]
  ·exact m.sizes x (List.mem_of_mem_drop hx)
 have hlenN:(vs.take len++us++vs.drop (len+ys.length)).length=tot:=by
  simp only[List.length_append,List.length_take,List.length_drop,hlus,hlv];omega
 have F:(b.xs.take len++ys++b.xs.drop (len+ys.length)).length=tot:=by
  simp only[List.length_append,List.length_take,List.length_drop,G];omega
 have A : (flat (vs.take len++us++vs.drop (len+ys.length))).length=tot*L.Ar:=by
  rw[flat_length D,hlenN]
 have N:=setRow_heap w g z (flat (vs.take len++us++vs.drop (len+ys.length))++z.toList.drop (tot*q.size)).toArray b.elem tg hh;have hown:L.v.ownBlock=some g:=by rw[Y];rfl
 have hgb:w.grownBy (w.setRow g (flat (vs.take len++us++vs.drop (len+ys.length))++z.toList.drop (tot*q.size)).toArray) L.v.ownBlock:=
  ⟨rfl,rfl,rfl,by simp,fun k _ hk=>setRow_other w g k _ (fun e=>hk (by rw[hown,e]))⟩
 have hmulE:tot*q.size<=cap*q.size:=hcapm;obtain⟨h1,h2⟩:=h.upd m.hb m.live m.box hgb { b with xs:=b.xs.take len++ys++b.xs.drop (len+ys.length) } m.live L rfl (.inl rfl) rfl (by simp only[F,G];exact Nat.le_refl _) (fun g' S =>.inl S)
  (fun g' c' S hc' =>by
   rw[hown]at S;cases S;have hfl:b.floor*L.Ar<=len*L.Ar:=Nat.mul_le_mul_right _ c6;have hc2:c' < len*q.size:=by rw[<- C];omega
   have Q:c' < z.size:=by rw[J];omega
   unfold World.cell?;simp only[N,hh];have:(flat (vs.take len++us++vs.drop (len+ys.length))++z.toList.drop (tot*q.size)).toArray[c']? = z[c']?:=by
    rw[<- I];simp only[List.getElem?_toArray];rw[List.append_assoc,List.getElem?_append_left (by simp only[List.length_take,Array.length_toList];omega),List.getElem?_take,if_pos hc2];simp
   rw[this]) (fun ex=>by
   refine⟨by simp only[F];rw[m.tot,G],⟨vs.take len++us++vs.drop (len+ys.length),(((m.Dh.ext ex).take len).append (src.ext ex)).append ((m.Dh.ext ex).drop (len+ys.length)),D,?_,?_⟩,m.EZ,m.Ar,?_,fun hrow=>?_⟩
   ·intro v hv2;rw[hnew]at hv2;rcases List.mem_append.1 hv2 with hv2|hv2
    ·rcases List.mem_append.1 hv2 with hv2|hv2
     ·exact m.ones v (List.mem_of_mem_take hv2)
     ·exact O v hv2
    ·exact m.ones v (List.mem_of_mem_drop hv2)
   ·simp only[F];refine⟨A,.inr ⟨g,cap,_,tg,by rw[Y,G],hB,N,?_,by omega,hm',?_,?_⟩⟩
    ·have:(flat (vs.take len++us++vs.drop (len+ys.length))++z.toList.drop (tot*q.size)).toArray.size=z.size:=by
      simp only[List.size_toArray,List.length_append,A,List.length_drop,Array.length_toList,J,C];omega
     rw[this];exact htg
    ·simp only[List.size_toArray,List.length_append,A,List.length_drop,Array.length_toList,J,C];omega
    ·rw[<- A];simp
   ·intro y hy;rcases List.mem_append.1 hy with hy|hy
    ·rcases List.mem_append.1 hy with hy|hy
     ·exact m.oks y (List.mem_of_mem_take hy)
     ·exact sU (soks y hy)
    ·exact m.oks y (List.mem_of_mem_drop hy)
   ·intro y hy;rcases List.mem_append.1 hy with hy|hy
    ·rcases List.mem_append.1 hy with hy|hy
     ·exact m.Hl hrow y (List.mem_of_mem_take hy)
     ·exact QZ (soks y hy)
    ·exact m.Hl hrow y (List.mem_of_mem_drop hy))
 refine⟨_,_,_,by rw[hsv,hxv];exact hrun,h1,h2,?_⟩;refine .Bc (L:=L) (by simp[Sg.put]) (by rw[m.tot,G];exact Nat.le_refl _) (fun _=>⟨by omega,_,_,_,0,Y,by simp[Addr.add],Nat.zero_le _,Nat.le_refl _,fun _=>rfl⟩) ⟨_,_,_,rfl⟩ .nil
theorem Zxt {E B w0 σ H w} {P:Program} (hE:Cf E) (hP:E.P=P) (h:Inv B w0 σ H w) {k:Nat} (hk0:FO H k=true) {t u:TypeId} (ty:TypeId) {s x r:V} {sv xv:Value} {H' : Heap}
  (hs:AQ σ w [s] [sv]) (hx:AQ σ w [x] [xv]) (J:Lp E k H t u s x=some (r,H')) :
  ∃v' w' σ',(Builtin.append_ #[t,u] ty #[sv,xv]).run P w = .ok v' w' /\ Inv B w0 σ' H' w' /\ Ext σ w σ' w' /\ AQ σ' w' [r] [v']:=by
 unfold Lp at J;split at J
 ·rename_i e sz by' z0 hti;split at J
  ·rename_i O ys hei hut hys;have hut' : u=t:=by simpa using hut
   subst hut';obtain⟨inf,d,hi,hd,q1,q2,q3,q4⟩:=FD (hE.ti _ _ hti);have S : P.underlying u=some (.slice e):=by rw[hP]at hd;rw[hd,Ns q1]
   obtain⟨F,de,Q,hde,e1,e2,e3,e4⟩:=FD (hE.ti _ _ hei);rw[hP]at Q;split at J
   ·rename_i hcond;simp only[Bool.and_eq_true,decide_eq_true_eq]at hcond;obtain⟨⟨hpos,hesz⟩,hzok⟩:=hcond;obtain⟨us,q⟩:=src_ok h hx hys hesz;have hsz:F.size=O.size:=e2.symm;obtain⟨zv,hzv,hzs⟩:∃zv,F.zero=some zv/\zv.cells.size=O.size:=by
     unfold TI.Ti at hzok;cases hz:O.zero with
     | none=>simp[hz]at hzok
     | some z=>
      rw[hz]at e4 hzok;cases hzz:F.zero with
      | none=>simp[hzz]at e4
      | some zv=>
       simp only[hzz,Option.map_some,Option.some.injEq]at e4;simp only[Bool.and_eq_true,beq_iff_eq]at hzok;refine⟨zv,rfl,?_⟩;have:=(Xp σ w zv).QY (by rw[<- e4];exact hzok.1);rw[<- this,<- e4];exact hzok.2
    have G:(flat us).length=ys.length*O.size:=by rw[flat_length q.sizes,q.Dh.length]
    have N:(ys=[]/\us=[]/\(xv = .slice none 0 0\/∃b k,xv = .slice (some b) 0 k))\/(0<ys.length/\∃a c,xv = .slice (some a) ys.length c/\∀j u,(flat us)[j]? = some u->w.cell? (a.add j)=some u):=by
     rcases q.val with ⟨hv,hy,hu⟩|⟨b,o,c,hv,hc,A⟩
     ·exact .inl ⟨hy,hu,hv⟩
     ·cases hy:ys with
      | nil=>
       left;subst hy;exact⟨rfl,q.Dh.FH,.inr ⟨_,_,hv⟩⟩
      | cons y yl=>
       right;refine⟨by simp,⟨b,o,none⟩,c,by rw[<- hy];exact hv,fun j u hj=>by rw[Addr.add_mid];exact A j u hj⟩
    split at J
    ·rename_i id off len tot;split at J
     ·rename_i b hb;split at J
      ·rename_i hc;simp only[Bool.and_eq_true,beq_iff_eq,decide_eq_true_eq]at hc;obtain⟨⟨⟨⟨c1,c2⟩,c3⟩,c4⟩,c5⟩:=hc;subst c3;subst c4;split at J
       ·rename_i M;simp only[Bool.and_eq_true,decide_eq_true_eq]at M;obtain⟨l1,l2⟩:=M;simp only[Option.some.injEq,Prod.mk.injEq]at J;obtain⟨rfl,rfl⟩:=J;obtain⟨L,vs,m,hxl,hol,hsub,hview⟩:=OA h hs hb;have hLe:L.Ar=O.size:=by rw[<- m.Ar];exact c5
        have hsv:sv=L.v/\∃a n c,L.v = .slice a n c/\n<=c:=by
         rcases hview with ⟨hv,hvv,ho,hl,ht⟩|⟨g,cap,k,hv,hvv,hle,hmx,hk1,hk2⟩
         ·exact⟨hvv.trans hv.symm,_,_,_,hv,Nat.le_refl _⟩
         ·have:k=0:=by omega
          subst this;refine⟨?_,_,_,_,hv,hle⟩;rw[hvv,hv];simp
        obtain⟨hsv,a,n,c,hLv,hnc⟩:=hsv;rcases N with ⟨hy,hu,D⟩|⟨hm,a',c',D,A⟩
        ·subst hy;refine⟨sv,w,σ,?_,?_,Ext.refl σ w,by simpa using hs⟩
         ·rw[hsv,hLv];exact Wx w u ty e F S Q a n c hnc xv D
         ·have:H.set id { b with xs:=b.xs++[],EZ:=b.EZ&&List.isEmpty ([]:List V) }=H:=by
           apply Z0x;rw[m.hb];cases b;simp
          rw[this];exact h
        ·have hown:=m.own;rw[hLe,c2]at hown;rw[hxl]at hown;obtain⟨v',w',I,C,hgr,hne,Y,hkeep⟩:=kJ (P:=P) w B u ty e F zv O.size S Q hzv hsz hzs L.v len (flat vs) hown a' ys.length c' (flat us) G A q.ones hm l2
          (by rw[<- e3];exact l1) h.size
         obtain⟨h1,h2⟩:=h.upd m.hb m.live m.box hgr { b with xs:=b.xs++ys,EZ:=b.EZ&&ys.isEmpty } m.live ⟨v',len+ys.length,L.Ar⟩ rfl (.inr (by simp only[m.tot,hxl];omega)) rfl (by simp)
          Y (fun g c0 hg hc0=>hkeep g c0 hg (by
           rw[<- hLe,<- hxl];exact Nat.lt_of_lt_of_le hc0 (Nat.mul_le_mul_right _ (h.low id b m.hb m.live)))) (fun ex=>by
           refine⟨by simp[hxl],⟨vs++us,(m.Dh.ext ex).append (q.Dh.ext ex),?_,?_,?_⟩,?_,m.Ar,?_,fun hrow=>?_⟩
           ·intro y hy;rcases List.mem_append.1 hy with hy|hy
            ·exact m.sizes y hy
            ·rw[q.sizes y hy,hLe]
           ·intro y hy;rw[Nq]at hy;rcases List.mem_append.1 hy with hy|hy
            ·exact m.ones y hy
            ·exact q.ones y hy
           ·rw[Nq];simp only[List.length_append,hxl,hLe,c2];exact C
           ·have:ys.isEmpty=false:=by cases ys<;>simp_all
            simp[this,hne]
           ·intro y hy;rcases List.mem_append.1 hy with hy|hy
            ·exact m.oks y hy
            ·exact sU (q.oks y hy)
           ·intro y hy;rcases List.mem_append.1 hy with hy|hy
            ·exact m.Hl hrow y hy
            ·exact QZ (q.oks y hy))
         obtain⟨g,cap,hv'⟩:=ownBlock_ne C hne;refine⟨v',w',_,by rw[hsv,D];exact I,h1,h2,.Bc (L:=⟨v',len+ys.length,L.Ar⟩) (by simp[Sg.put]) (Nat.le_refl _) (fun _=>⟨by omega,_,_,_,0,hv',?_,Nat.zero_le _,Nat.le_refl _,fun _=>rfl⟩) ⟨_,_,_,hv'⟩ .nil⟩;rw[hv'];simp[Addr.add]
       ·cases J
      ·split at J
       ·rename_i hc;simp only[Bool.and_eq_true,beq_iff_eq,decide_eq_true_eq]at hc;obtain⟨⟨⟨⟨⟨⟨c1,c2⟩,c3⟩,c4⟩,c6⟩,c7⟩,c8⟩:=hc;subst c3;simp only[Option.some.injEq,Prod.mk.injEq]at J;obtain⟨rfl,rfl⟩:=J;exact ZnV h ty S Q hs hb c1 c2 (by rw[c4,hsz]) c6 c7 c8 q.Dh q.oks (fun y hy=>by rw[q.sizes y hy,hsz]) q.ones N
       ·cases J
     ·cases J
    ·
     split at J
     ·rename_i M;simp only[Bool.and_eq_true,decide_eq_true_eq]at M;obtain⟨l1,l2⟩:=M;simp only[Option.some.injEq,Prod.mk.injEq]at J;obtain⟨rfl,rfl⟩:=J;have hsv:sv = .slice none 0 0:=by cases hs<;>rfl
      subst hsv;rcases N with ⟨hy,hu,D⟩|⟨hm,a',c',D,A⟩
      ·subst hy;subst hu;obtain⟨σ',h1,h2,h3⟩:=NK (e:=e) (Ar:=O.size) h hk0 (grownBy_refl w none) (xs:=[]) (us:=[]) .nil (by simp) (by simp) (by simp[flat]) (VH w B e O.size) (by simp[Value.ownBlock]) false (by simp);exact⟨_,w,σ',Wx w u ty e F S Q none 0 0 (Nat.le_refl _) xv D,h1,h2,h3⟩
      ·obtain⟨v',w',I,C,hgr,hne,Y,hkeep⟩:=kJ (P:=P) w B u ty e F zv O.size S Q hzv hsz hzs (.slice none 0 0) 0 [] (VH w B e O.size) a' ys.length c' (flat us) G A q.ones hm (by simpa using l2)
        (by rw[<- e3];simpa[lim]using l1) h.size
       simp only[Nat.zero_add,List.nil_append]at C;obtain⟨σ',h1,h2,h3⟩:=NK (e:=e) (Ar:=O.size) h hk0 hgr q.Dh q.oks q.sizes q.ones C (fun g hg=>by
        rcases Y g hg with hh|hh
        ·simp[Value.ownBlock]at hh
        ·exact hh) false (by simp)
       exact⟨v',w',σ',by rw[D];exact I,h1,h2,h3⟩
     ·cases J
    ·
     split at J
     ·rename_i M;simp only[Bool.and_eq_true,decide_eq_true_eq]at M;obtain⟨l1,l2⟩:=M;simp only[Option.some.injEq,Prod.mk.injEq]at J;obtain⟨rfl,rfl⟩:=J;have hsv:sv = .slice none 0 0:=by cases hs<;>rfl
      subst hsv;rcases N with ⟨hy,hu,D⟩|⟨hm,a',c',D,A⟩
      ·subst hy;subst hu;obtain⟨σ',h1,h2,h3⟩:=NK (e:=e) (Ar:=O.size) h hk0 (grownBy_refl w none) (xs:=[]) (us:=[]) .nil (by simp) (by simp) (by simp[flat]) (VH w B e O.size) (by simp[Value.ownBlock]) false (by simp);exact⟨_,w,σ',Wx w u ty e F S Q none 0 0 (Nat.le_refl _) xv D,h1,h2,h3⟩
      ·obtain⟨v',w',I,C,hgr,hne,Y,hkeep⟩:=kJ (P:=P) w B u ty e F zv O.size S Q hzv hsz hzs (.slice none 0 0) 0 [] (VH w B e O.size) a' ys.length c' (flat us) G A q.ones hm (by simpa using l2)
        (by rw[<- e3];simpa[lim]using l1) h.size
       simp only[Nat.zero_add,List.nil_append]at C;obtain⟨σ',h1,h2,h3⟩:=NK (e:=e) (Ar:=O.size) h hk0 hgr q.Dh q.oks q.sizes q.ones C (fun g hg=>by
        rcases Y g hg with hh|hh
        ·simp[Value.ownBlock]at hh
        ·exact hh) false (by simp)
       exact⟨v',w',σ',by rw[D];exact I,h1,h2,h3⟩
     ·cases J
    ·
     rename_i es xs;split at J
     ·rename_i M;simp only[Bool.and_eq_true,decide_eq_true_eq,beq_iff_eq]at M;obtain⟨⟨l0,l1⟩,l2⟩:=M
      by_cases l3:ys.isEmpty=true
      ·rw[if_pos l3]at J;simp only[Option.some.injEq,Prod.mk.injEq]at J;obtain⟨rfl,rfl⟩:=J;have hxz:xv = .slice none 0 0\/∃b k,xv = .slice (some b) 0 k:=by
        rcases N with ⟨hy,hu,D⟩|⟨hm,a',c',D,A⟩
        ·exact D
        ·cases ys with
         | nil=>simp at hm
         | cons y ys=>simp at l3
       have hsv:∃a n,sv = .slice a n n:=by
        cases hs with
        | Fz _=>exact⟨_,_,rfl⟩
        | GU a _=>exact⟨_,_,rfl⟩
        | Ce b o _ k0 k1 k2 k3 k4 k5 _=>exact⟨_,_,rfl⟩
       obtain⟨sa,sn,rfl⟩:=hsv;exact⟨_,w,σ,Wx w u ty e F S Q sa sn sn (Nat.le_refl _) xv hxz,h,Ext.refl σ w,hs⟩
      rw[if_neg l3]at J;simp only[Option.some.injEq,Prod.mk.injEq]at J;obtain⟨rfl,rfl⟩:=J;cases hs with
      | Fz _=>
       rcases N with ⟨hy,hu,D⟩|⟨hm,a',c',D,A⟩
       ·subst hy;simp at l3
       ·obtain⟨v',w',I,C,hgr,hne,Y,hkeep⟩:=kJ (P:=P) w B u ty e F zv O.size S Q hzv hsz hzs (.slice none 0 0) 0 [] (VH w B e O.size) a' ys.length c' (flat us) G A q.ones hm (by simpa using l2)
         (by rw[<- e3];simpa[lim]using l1) h.size
        simp only[Nat.zero_add,List.nil_append]at C;obtain⟨σ',h1,h2,h3⟩:=NK (e:=e) (Ar:=O.size) h hk0 hgr q.Dh q.oks q.sizes q.ones C (fun g hg=>by
         rcases Y g hg with hh|hh
         ·simp[Value.ownBlock]at hh
         ·exact hh) false (by simp[hne])
        exact⟨v',w',σ',by rw[D];exact I,by simpa using h1,h2,by simpa using h3⟩
      | GU sa _=>
       rcases N with ⟨hy,hu,D⟩|⟨hm,a',c',D,A⟩
       ·subst hy;simp at l3
       ·have hold:(flat []).length=0*F.size:=by simp[flat]
        have l2' : ys.length<=maxLen:=by simpa using l2
        have hsmall:ys.length<=9223372036854775807:=by simpa[maxLen]using l2'
        have I:=run_append_grow (P:=P) w u ty e F zv S Q hzv sa 0 0 (flat []) hold (fun j u hj=>by simp[flat]at hj) a' ys.length c' (flat us) (by rw[G,hsz]) A (by omega) (by omega)
         (growslice_fits (by omega) (by rw[<- e3];simpa[lim]using l1))
        simp only[Nat.zero_add]at I;have hge:=grownCap_ge w ys.length 0 e;have hcm:grownCap w ys.length 0 e<=maxLen:=grownCap_le_maxLen w _ _ e l2';have hown:(w.drew.alloc (.cells ((flat []).toArray++(flat us).toArray++Builtin.zeroCells zv.cells (grownCap w ys.length 0 e - ys.length)) e)).ownsRow B e O.size
          (.slice (some ⟨w.heap.size,0,none⟩) ys.length (grownCap w ys.length 0 e)) ys.length (flat us):=by
         have hl:(flat us).length=ys.length*O.size:=by rw[G]
         refine⟨hl,.inr ⟨w.heap.size,_,_,rfl,h.size,heap_alloc_new w.drew _,hge,hcm,?_,?_⟩⟩
         ·simp only[Array.size_append,List.size_toArray,size_zeroCells,hzs,G];simp only[flat,List.flatMap_nil,List.length_nil,Nat.zero_add];rw[<- Nat.add_mul];congr 1;omega
         ·simp only[Array.toList_append,List.append_assoc];simp only[flat,List.flatMap_nil,List.nil_append];rw[<- hl];exact List.take_left
        have hgr2:w.grownBy (w.drew.alloc (.cells ((flat []).toArray++(flat us).toArray++Builtin.zeroCells zv.cells (grownCap w ys.length 0 e - ys.length)) e)) none:=
         ⟨rfl,rfl,rfl,by simp,fun k hk _=>heap_alloc_old w.drew _ hk⟩
        obtain⟨σ',h1,h2,h3⟩:=NK (e:=e) (Ar:=O.size) h hk0 hgr2 q.Dh q.oks q.sizes q.ones (.of hown) (by simp[Value.ownBlock]) false (by simp);exact⟨_,_,σ',by rw[D];exact I,by simpa using h1,h2,by simpa using h3⟩
      | Ce b o e' k0 k1 k2 k3 k4 k5 k6=>
       rename_i vs;rcases N with ⟨hy,hu,D⟩|⟨hm,a',c',D,A⟩
       ·subst hy;simp at l3
       ·have hold:(flat vs).length=xs.length*F.size:=by rw[flat_length k2,<- k0.length,hsz,l0]
        have hsmall:xs.length+ys.length<=9223372036854775807:=by simp only[maxLen]at l2;omega
        have I:=run_append_grow (P:=P) w u ty e F zv S Q hzv ⟨b,o,none⟩ xs.length xs.length (flat vs) hold (fun j u hj=>by rw[Addr.add_mid];exact(k5 j u hj).2) a' ys.length c' (flat us) (by rw[G,hsz]) A (by omega) (by omega)
         (growslice_fits (by omega) (by rw[<- e3];simpa[lim]using l1))
        have hge:=grownCap_ge w (xs.length+ys.length) xs.length e;have hcm:grownCap w (xs.length+ys.length) xs.length e<=maxLen:=grownCap_le_maxLen w _ _ e l2;have hown:(w.drew.alloc (.cells ((flat vs).toArray++(flat us).toArray++Builtin.zeroCells zv.cells (grownCap w (xs.length+ys.length) xs.length e - (xs.length+ys.length))) e)).ownsRow B e O.size
          (.slice (some ⟨w.heap.size,0,none⟩) (xs.length+ys.length) (grownCap w (xs.length+ys.length) xs.length e)) (xs++ys).length (flat (vs++us)):=by
         have hl:(flat (vs++us)).length=(xs.length+ys.length)*O.size:=by rw[Nq,List.length_append,hold,G,hsz,Nat.add_mul]
         rw[List.length_append];refine⟨hl,.inr ⟨w.heap.size,_,_,rfl,h.size,heap_alloc_new w.drew _,hge,hcm,?_,?_⟩⟩
         ·simp only[Array.size_append,List.size_toArray,size_zeroCells,hzs,hold,G,hsz,<- Nat.add_mul];congr 1;omega
         ·simp only[Array.toList_append,List.append_assoc];rw[<- List.append_assoc,<- Nq,<- hl];exact List.take_left
        have hgr2:w.grownBy (w.drew.alloc (.cells ((flat vs).toArray++(flat us).toArray++Builtin.zeroCells zv.cells (grownCap w (xs.length+ys.length) xs.length e - (xs.length+ys.length))) e)) none:=
         ⟨rfl,rfl,rfl,by simp,fun k hk _=>heap_alloc_old w.drew _ hk⟩
        obtain⟨σ',h1,h2,h3⟩:=NK (e:=e) (Ar:=O.size) h hk0 hgr2 (k0.append q.Dh)
         (fun y hy=>by rcases List.mem_append.1 hy with hy|hy;exact k1 y hy;exact q.oks y hy)
         (fun y hy=>by rcases List.mem_append.1 hy with hy|hy;exact(k2 y hy).trans l0;exact q.sizes y hy)
         (fun y hy=>by rw[Nq]at hy;rcases List.mem_append.1 hy with hy|hy;exact k3 y hy;exact q.ones y hy) (.of hown) (by simp[Value.ownBlock]) false (by simp)
        rw[List.length_append]at h3;exact⟨_,_,σ',by rw[D];exact I,h1,h2,h3⟩
     ·cases J
    ·cases J
   ·cases J
  ·cases J
 ·cases J
theorem Z9U {P:Program} (w:World) (t u ty e:TypeId) (i:TypeInfo) (I:P.underlying t=some (.slice e)) (G:P.info? e=some i) (a:Option Addr) (A M:Nat) (s:Option Addr) (sl J:Nat) (cs:List Value) (w' : World)
  (C:cs.length=Nat.min sl A*i.size) (O:s=none->cs=[]) (q:∀b,s=some b->∀j v,cs[j]? = some v->w.cell? (b.add j)=some v)
  (D:∀z,a=some z -> (storeCells z cs).run P w = .ok () w') (N:a=none->w' = w) :
  (Builtin.copy_ #[t,u] ty #[.slice a A M,.slice s sl J]).run P w = .ok (goInt (Nat.min sl A:Nat)) w' :=by
 have F:(Builtin.firstCells i.size (Nat.min sl A) (.slice s sl J)).run P w = .ok cs.toArray w:=by
  cases s with
  | none=>rw[O rfl];rfl
  | some b=>
   have:=run_loadCells_list (P:=P) w b cs (q b rfl);rw[C]at this;exact this
 cases a with
 | none=>
  rw[N rfl];simp[Builtin.copy_,run_underlying I,Builtin.lenOf,sizeOf,typeInfo,G,F]
 | some z =>simp[Builtin.copy_,run_underlying I,Builtin.lenOf,sizeOf,typeInfo,G,F,D z rfl]
theorem ZBq {E B w0 σ H w} {P:Program} (hE:Cf E) (hP:E.P=P) (h:Inv B w0 σ H w) {t u:TypeId} (ty:TypeId) {d x r:V} {dv xv:Value} {H' : Heap}
  (hd:AQ σ w [d] [dv]) (hx:AQ σ w [x] [xv]) (hc:fP E H t u d x=some (r,H')) :
  ∃v' w' σ',(Builtin.copy_ #[t,u] ty #[dv,xv]).run P w = .ok v' w' /\ Inv B w0 σ' H' w' /\ Ext σ w σ' w' /\ AQ σ' w' [r] [v']:=by
 unfold fP at hc;split at hc
 ·rename_i e sz by' z0 hti;split at hc
  ·rename_i ei ys id off len tot hei hys;obtain⟨inf,dd,hi,hdd,q1,q2,q3,q4⟩:=FD (hE.ti _ _ hti);have hd' : P.underlying t=some (.slice e):=by rw[hP]at hdd;rw[hdd,Ns q1]
   obtain⟨N,de,hie,hde,e1,e2,e3,e4⟩:=FD (hE.ti _ _ hei);rw[hP]at hie;split at hc
   ·rename_i b hb;split at hc
    ·rename_i Q;simp only[Bool.and_eq_true,beq_iff_eq,decide_eq_true_eq]at Q;obtain⟨⟨⟨⟨⟨c1,c2⟩,c3⟩,c4⟩,c5⟩,c6⟩:=Q;subst c2;subst c3;simp only[Option.some.injEq,Prod.mk.injEq]at hc;obtain⟨rfl,rfl⟩:=hc;obtain⟨us,z⟩:=src_ok h hx hys c5;obtain⟨L,vs,m,G,hol,hsub,hview⟩:=OA h hd hb;have hLe:L.Ar=ei.size:=by rw[<- m.Ar];exact c4
     have hsz:N.size=ei.size:=e2.symm;have hlus:us.length=ys.length:=z.Dh.length.symm;have hnum:∀n:Nat,n<=maxLen->∀(σ' : Sg) (w' : World),AQ σ' w' [.lit (.int .i64 (n:Nat))] [goInt n]:=fun n hn σ' w' =>by
      refine .lit ?_ .nil;have:(Lit.int .i64 (n:Int)).wf=true:=by
       simp[Lit.wf,IntKind.min,IntKind.max,IntKind.signed,IntKind.bits,maxLen]at hn ⊢;omega
      exact this
     obtain⟨sa,sc,hxv,hsn,C⟩:∃(sa:Option Addr) (sc:Nat),xv = .slice sa ys.length sc/\(sa=none->us=[])/\∀O,sa=some O -> ∀j v,(flat us)[j]? = some v->w.cell? (O.add j)=some v:=by
      rcases z.val with ⟨M,hy,hu⟩|⟨O,o,c,M,hc',C⟩
      ·rcases M with M|⟨a,k,M⟩
       ·exact⟨none,0,by rw[hy];exact M,fun _=>hu,fun O hb' =>by cases hb'⟩
       ·exact⟨some a,k,by rw[hy];exact M,fun _=>hu,fun O _ j v hj=>by rw[hu]at hj;simp[flat]at hj⟩
      ·exact⟨some ⟨O,o,none⟩,c,M,(fun hh=>by cases hh),(fun b2 hb2 j v hj=>by cases hb2;rw[Addr.add_mid];exact C j v hj)⟩
     have hsrc' : ∀O,sa=some O -> ∀j v,(flat (us.take len))[j]? = some v->w.cell? (O.add j)=some v:=fun O hb' j v hj=>by
      rw[bI z.sizes]at hj;refine C O hb' j v ?_;rw[List.getElem?_take]at hj;split at hj
      ·exact hj
      ·cases hj
     have J:Nat.min ys.length len=min ys.length len:=rfl;have I:(flat (us.take len)).length=Nat.min ys.length len*N.size:=by
      rw[flat_length (aO z.sizes len),List.length_take,hlus,hsz,J,Nat.min_comm]
     have hsn' : sa=none->flat (us.take len)=[]:=fun hh=>by rw[hsn hh];simp[flat]
     rw[hxv];rcases hview with ⟨M,hvv,ho,hl,ht⟩|⟨g,cap,k,M,hvv,hle,hmx,hk1,hk2⟩
     ·subst hl;refine⟨_,w,σ,?_,?_,Ext.refl σ w,hnum _ (by simp) σ w⟩
      ·rw[hvv];have:=Z9U (P:=P) w t u ty e N hd' hie none 0 0 sa ys.length sc (flat (us.take 0)) w I hsn' hsrc' (fun a' ha' =>by cases ha') (fun _=>rfl);simpa[J]using this
      ·have hxs:b.xs=[]:=List.eq_nil_of_length_eq_zero G;have:H.set id { b with xs:=ys.take 0++b.xs.drop ys.length }=H:=by
        apply Z0x;rw[m.hb];cases b;simp only at hxs;simp[hxs]
       rw[this];exact h
     ·have hk0:k=0:=by omega
      subst hk0;rcases m.shape with ⟨hn,_,_⟩|⟨g',cap',q,tg,hv',hB,hh,htg,hn,hm,hcs,ht⟩
      ·rw[hn]at M;cases M
      ·rw[hv']at M;simp only[Value.slice.injEq,Option.some.injEq,Addr.mk.injEq,and_true]at M;obtain⟨hgg,_,hcc⟩:=M;have hgg:=hgg.symm;subst hgg;have hcc:=hcc.symm;subst hcc;have hfit:0+0+(flat (us.take len)).length<=q.size:=by
        rw[I,hcs,hsz,hLe,J];have:min ys.length len<=cap:=by omega
        simpa using Nat.mul_le_mul_right ei.size this
       have S:∀v∈flat (us.take len),v.oneCell' = true:=rJ z.ones len;have Y:=jP P g 0 b.elem tg (flat (us.take len)) 0 q w hh htg hfit S;simp only[Nat.add_zero,Nat.zero_add,List.take_zero,List.nil_append]at Y;have hnew:flat (us.take len++vs.drop ys.length)=flat (us.take len)++(flat vs).drop (ys.length*L.Ar):=by
        rw[Nq,Z2m m.sizes]
       have hlv:vs.length=len:=by rw[m.len,G]
       have hcurE:q.toList=flat vs++q.toList.drop (len*L.Ar):=by
        rw[<- ht,G,List.take_append_drop]
       have hFl:(flat vs).length=len*L.Ar:=by rw[flat_length m.sizes,hlv]
       have hTl:(flat (us.take len)).length=min ys.length len*L.Ar:=by rw[I,hsz,hLe]
       have hrest:q.toList.drop (flat (us.take len)).length=(flat vs).drop (ys.length*L.Ar)++q.toList.drop (len*L.Ar):=by
        rw[hTl]
        by_cases hyl:ys.length<=len
        ·rw[Nat.min_eq_left hyl]
         conv=>lhs;rw[hcurE]
         rw[List.drop_append_of_le_length (by rw[hFl];exact Nat.mul_le_mul_right _ hyl)]
        ·have hyl' : len<=ys.length:=by omega
         rw[Nat.min_eq_right hyl',List.drop_eq_nil_of_le (as:=flat vs) (by rw[hFl];exact Nat.mul_le_mul_right _ hyl'),List.nil_append]
       rw[hrest,<- List.append_assoc,<- hnew]at Y;have A : ∀u∈us.take len++vs.drop ys.length,u.cells.size=L.Ar:=by
        intro u hu;rcases List.mem_append.1 hu with hu|hu
        ·rw[aO z.sizes len u hu,hLe]
        ·exact m.sizes u (List.mem_of_mem_drop hu)
       have hlenN:(us.take len++vs.drop ys.length).length=len:=by
        simp only[List.length_append,List.length_take,List.length_drop,hlus,hlv];omega
       have F:(ys.take len++b.xs.drop ys.length).length=len:=by
        simp only[List.length_append,List.length_take,List.length_drop,G];omega
       have D : (flat (us.take len++vs.drop ys.length)).length=len*L.Ar:=by
        rw[flat_length A,hlenN]
       have hheap:=setRow_heap w g q (flat (us.take len++vs.drop ys.length)++q.toList.drop (len*L.Ar)).toArray b.elem tg hh;have hown:L.v.ownBlock=some g:=by rw[hv'];rfl
       have hgb:w.grownBy (w.setRow g (flat (us.take len++vs.drop ys.length)++q.toList.drop (len*L.Ar)).toArray) L.v.ownBlock:=
        ⟨rfl,rfl,rfl,by simp,fun k _ hk=>setRow_other w g k _ (fun e=>hk (by rw[hown,e]))⟩
       obtain⟨h1,h2⟩:=h.upd m.hb m.live m.box hgb { b with xs:=ys.take len++b.xs.drop ys.length } m.live L rfl (.inl rfl) rfl (by simp only[F,G];exact Nat.le_refl _) (fun g' hg' =>.inl hg')
        (fun g' c' _ hc' =>by rw[c6,Nat.zero_mul]at hc';omega) (fun ex=>by
         refine⟨by simp only[F];rw[m.tot,G],⟨us.take len++vs.drop ys.length,((z.Dh.ext ex).take len).append ((m.Dh.ext ex).drop ys.length),A,?_,?_⟩,m.EZ,m.Ar,?_,fun hrow=>?_⟩
         ·intro v hv2;rw[hnew]at hv2;rcases List.mem_append.1 hv2 with hv2|hv2
          ·exact S v hv2
          ·exact m.ones v (List.mem_of_mem_drop hv2)
         ·simp only[F];refine⟨D,.inr ⟨g,cap,_,tg,by rw[hv',G],hB,hheap,?_,by omega,hm,?_,?_⟩⟩
          ·have:(flat (us.take len++vs.drop ys.length)++q.toList.drop (len*L.Ar)).toArray.size=q.size:=by
            simp only[List.size_toArray,List.length_append,D,List.length_drop,Array.length_toList,hcs];have:=Nat.mul_le_mul_right L.Ar hle;omega
           rw[this];exact htg
          ·simp only[List.size_toArray,List.length_append,D,List.length_drop,Array.length_toList,hcs];have:=Nat.mul_le_mul_right L.Ar hle;omega
          ·rw[List.take_append_of_le_length (by omega),List.take_of_length_le (by omega)]
         ·intro y hy;rcases List.mem_append.1 hy with hy|hy
          ·exact sU (z.oks y (List.mem_of_mem_take hy))
          ·exact m.oks y (List.mem_of_mem_drop hy)
         ·intro y hy;rcases List.mem_append.1 hy with hy|hy
          ·exact QZ (z.oks y (List.mem_of_mem_take hy))
          ·exact m.Hl hrow y (List.mem_of_mem_drop hy))
       refine⟨_,_,_,?_,h1,h2,hnum _ (by have:cap<=maxLen:=hm;omega) _ _⟩;rw[hvv];have:=Z9U (P:=P) w t u ty e N hd' hie (some ⟨g,0*L.Ar,none⟩) len (cap - 0) sa ys.length sc (flat (us.take len)) _ I hsn' hsrc' (fun a' ha' =>by cases ha';simpa using Y) (fun hh=>by cases hh);simpa[J]using this
    ·cases hc
   ·cases hc
  ·cases hc
 ·cases hc
end Go.Proofs.YtjodhcdmhobmoaaGreatDoor.Le
namespace Go.Proofs.YtjodhcdmhobmoaaGreatDoor.Le
open Go.RowKit (Below)
theorem ZlM {q:Value} {s:Nat} (z:0<s) (F:q.cells.size=s) (n:Nat):∀k,(flat (List.replicate n q))[k]? = if k<n*s then q.cells[k % s]? else none:=by
 intro k;have:=Go.Great.flat_get z (List.replicate n q) (fun v D=>by rw[(List.mem_replicate.1 D).2];exact F) k;have A:(List.flatMap (fun v:Value=>v.cells.toList) (List.replicate n q))[k]? = (flat (List.replicate n q))[k]?:=rfl;rw[<- A,this,List.getElem?_replicate]
 by_cases h:k<n*s
 ·have:k / s<n:=(Nat.div_lt_iff_lt_mul z).2 h;rw[if_pos this,if_pos h];rfl
 ·have:¬k / s<n:=fun C=>h ((Nat.div_lt_iff_lt_mul z).1 C);rw[if_neg this,if_neg h];rfl
theorem Z7e {q:Value} {s:Nat} (A:0<s) (z:q.cells.size=s) (n:Nat):(madeCells q.cells (n*s)).toList=flat (List.replicate n q):=by
 apply List.ext_getElem?;intro k;rw[ZlM A z]
 by_cases h:k<n*s
 ·rw[if_pos h];have hm:k % s<q.cells.size:=by rw[z];exact Nat.mod_lt _ A
  simp[madeCells,h,z];rw[getElem!_pos q.cells (k % s) hm,Array.getElem?_eq_getElem hm]
 ·rw[if_neg h];simp[madeCells,h]
theorem qY {E:Env} {P:Program} (N:Cf E) (O:E.P=P) {e:TypeId} {G:TI} (I:E.ti e=some G) {z:V} (S:G.zero=some z) (σ:Sg) (w:World) :
  ∃q D,P.info? e=some q/\q.zero=some D/\q.size=G.size/\q.bytes=G.bytes/\AQ σ w [z] [D]:=by
 obtain⟨q,Y,C,Q,e1,J,M,F⟩:=FD (N.ti _ _ I);rw[O]at C;rw[S]at F;cases A:q.zero with
 | none=>simp[A]at F
 | some D=>
  simp only[A,Option.map_some,Option.some.injEq]at F;exact⟨q,D,C,A,J.symm,M.symm,by rw[F];exact Xp σ w D⟩
theorem Z9d (v:Value):CW (OU v)=true:=by
 unfold OU;split
 ·rfl
 ·split<;>rfl
theorem ZmZ (v:Value):CW (PU v)=true:=by
 unfold PU;split
 ·split
  ·rename_i cs _;rw[show CW (.agg (cs.toList.map OU))=Bz (cs.toList.map OU) from rfl,J6];intro x q;obtain⟨c,_,rfl⟩:=List.mem_map.1 q;exact Z9d c
  ·rfl
 ·split<;>rfl
 ·split
  ·exact Z9d _
  ·rfl
theorem ZaQ {E:Env} (G:Cf E) {e:TypeId} {F:TI} (D:E.ti e=some F) {z:V} (M:F.zero=some z):CW z=true:=by
 obtain⟨A,O,J,I,Q,S,Y,C⟩:=FD (G.ti _ _ D);rw[M]at C;cases q:A.zero with
 | none=>simp[q]at C
 | some N=>
  simp only[q,Option.map_some,Option.some.injEq]at C;rw[C];exact ZmZ N
theorem ZAN {E B w0 σ H w} {P:Program} (hE:Cf E) (hP:E.P=P) (h:Inv B w0 σ H w) {k:Nat} (hk0:FO H k=true) {t e:TypeId} {q:TI} {z:V} {kl kc:IntKind} {n m:Int}
  (ht:P.underlying t=some (.slice e)) (Q:E.ti e=some q) (hz:q.zero=some z)
  (h0:0<=n) (hnm:n<=m) (hby:m.toNat*q.bytes<=lim) (hmx:m<=maxLen) (hpos:0<q.size) (hzl:z.cells.length=q.size) (J:okV z=true) (es:List Nat) :
  ∃v' w' σ',(Instr.makeSlice t (.int kl n) (.int kc m)).run P w = .ok v' w' /\ Inv B w0 σ' (place H k (Bg true false e q.size (List.replicate n.toNat (Dz es z)))) w' /\ Ext σ w σ' w' /\
   AQ σ' w' [.Bc k 0 n.toNat n.toNat] [v']:=by
 obtain⟨F,G,hie,hzv,hsz,hbz,M⟩:=qY hE hP Q hz σ w;have N:G.cells.size=q.size:=by rw[<- M.QY J];exact hzl
 have hmm:m<=9223372036854775807:=by
  have:(maxLen:Int)=9223372036854775807:=by simp[maxLen]
  omega
 have hbb:(F.bytes:Int)*m<=281474976710656:=by
  have h1:((m.toNat*q.bytes:Nat):Int)<=140737488355328:=by
   have:m.toNat*q.bytes<=140737488355328:=by simpa[lim]using hby
   omega
  rw[Int.natCast_mul,Int.toNat_of_nonneg (by omega),Int.mul_comm]at h1;rw[hbz];omega
 have D:=run_make (P:=P) w t e F G ht hie hzv kl kc n m h0 hnm hbb hmm;rw[hsz]at D;have S:n.toNat<=m.toNat:=by omega
 have hrep:=AQ.replicate n.toNat (Rw es M);have A:∀u∈List.replicate n.toNat G,u.cells.size=q.size:=fun u O=>by rw[(List.mem_replicate.1 O).2];exact N
 have I:∀u∈flat (List.replicate n.toNat G),u.oneCell' = true:=by
  intro u O;simp only[flat,List.mem_flatMap]at O;obtain⟨a,ha,hb⟩:=O;rw[(List.mem_replicate.1 ha).2]at hb;exact(M.cells J).2 u hb
 have C:(List.replicate n.toNat (Dz es z)).length=n.toNat:=by simp
 have hmd:=Z7e hpos N m.toNat;have Y:(w.alloc (.cells (madeCells G.cells (m.toNat*q.size)) e)).ownsRow B e q.size (.slice (some ⟨w.heap.size,0,none⟩) n.toNat m.toNat) (List.replicate n.toNat (Dz es z)).length (flat (List.replicate n.toNat G)):=by
  rw[C];refine⟨by rw[flat_length A];simp,.inr ⟨w.heap.size,m.toNat,_,rfl,h.size,heap_alloc_new w _,S,by omega,size_madeCells _ _,?_⟩⟩;rw[hmd];have:List.replicate n.toNat G=(List.replicate m.toNat G).take n.toNat:=by rw[List.take_replicate,Nat.min_eq_left S]
  rw[this,bI (e:=q.size) (fun u O=>by rw[(List.mem_replicate.1 O).2];exact N)]
 obtain⟨σ',h1,h2,h3⟩:=NK (e:=e) (Ar:=q.size) h hk0 (w.grownBy_alloc _ none) hrep (fun x hx=>by rw[(List.mem_replicate.1 hx).2];simp[Ep,qA,Ro,J,ZaQ hE Q hz]) A I (.of Y) (by simp[Value.ownBlock]) false (by simp);rw[C]at h3;exact⟨_,_,σ',D,h1,h2,h3⟩
theorem ZbU (v:Value) (off:Nat) (cs:Array Value) (h:off+v.cells.size<=cs.size) :
  (v.cells.zipIdx.foldl (fun cs (x:Value×Nat)=>cs.setIfInBounds (off+x.2) x.1) cs).toList=cs.toList.take off++v.cells.toList++cs.toList.drop (off+v.cells.size):=by
 obtain⟨D,A⟩:=Go.Great.foldl_set off v.cells.toList 0 cs;have C:v.cells.zipIdx.foldl (fun cs (x:Value×Nat)=>cs.setIfInBounds (off+x.2) x.1) cs=(v.cells.toList.zipIdx 0).foldl (fun cs (x:Value×Nat)=>cs.setIfInBounds (off+x.2) x.1) cs:=by
  rw[<- Array.foldl_toList];simp
 rw[C];apply List.ext_getElem?;intro k;rw[Array.getElem?_toList,A k];simp only[Nat.add_zero,Array.length_toList]
 by_cases q:k<off
 ·rw[if_neg (by omega),List.append_assoc,List.getElem?_append_left (by simp;omega),List.getElem?_take,if_pos q,Array.getElem?_toList]
 ·by_cases z:k<off+v.cells.size
  ·rw[if_pos ⟨by omega,z,by omega⟩,List.append_assoc,List.getElem?_append_right (by simp;omega),List.getElem?_append_left (by simp;omega)];congr 1;simp;omega
  ·rw[if_neg (by omega),List.append_assoc,List.getElem?_append_right (by simp;omega),List.getElem?_append_right (by simp;omega),List.getElem?_drop,Array.getElem?_toList];congr 1;simp;omega
inductive Parts (σ:Sg) (w:World):List (Nat×V)->List (Nat×Value)->Prop where
 | nil:Parts σ w [] []
 | cons {i x v xs vs}:AQ σ w [x] [v]->Parts σ w xs vs->Parts σ w ((i,x)::xs) ((i,v)::vs)
theorem ZbP {σ w} {place:Nat->Option (Nat×Nat)}:∀{q:List (Nat×V)} {vparts:List (Nat×Value)} {cs C : List V} {ws:List Value},Parts σ w q vparts->AQ σ w cs ws->(∀u∈ws,u.oneCell' = true) ->
  OY cs q place=some C -> ∃A,Instr.fill place ws.toArray vparts=some A.toArray/\AQ σ w C A /\ (∀u∈A,u.oneCell' = true):=by
 intro q;induction q with
 | nil=>
  intro vparts cs C ws F G J D;cases F;simp only[OY,Option.some.injEq]at D;subst D;exact⟨ws,rfl,G,J⟩
 | cons p q ih=>
  intro vparts cs C ws F G J D;cases F with
  | cons hx F=>
   rename_i i x v vs;simp only[OY]at D;split at D
   ·cases D
   ·rename_i off size Q;split at D
    ·rename_i hc;simp only[Bool.and_eq_true,beq_iff_eq,decide_eq_true_eq]at hc;obtain⟨⟨c1,c2⟩,Y⟩:=hc;obtain⟨O,M⟩:=hx.cells Y;have I:v.cells.size=size:=by rw[<- hx.QY Y];exact c1
     have hlen:=G.length;have z:=ZbU v off ws.toArray (by simp;omega);have S : AQ σ w (cs.take off++x.cells++cs.drop (off+size)) (ws.take off++v.cells.toList++ws.drop (off+size)):=((G.take off).append O).append (G.drop _);obtain⟨A,f1,f2,f3⟩:=ih F S (by
      intro u hu;simp only[List.mem_append]at hu;rcases hu with (hu|hu)|hu
      ·exact J u (List.mem_of_mem_take hu)
      ·exact M u hu
      ·exact J u (List.mem_of_mem_drop hu)) D
     refine⟨A,?_,f2,f3⟩;simp only[Instr.fill,Q,I];have N:(decide (size≠size)||decide (off+size>ws.toArray.size))=false:=by simp;omega
     simp only[ne_eq,not_true_eq_false,decide_false,Bool.false_or,List.size_toArray,gt_iff_lt,decide_eq_true_eq];rw[if_neg (by omega)];rw[<- f1];congr 1;apply Array.ext';rw[I]at z;simpa using z
    ·cases D
end Go.Proofs.YtjodhcdmhobmoaaGreatDoor.Le
namespace Go.Proofs.YtjodhcdmhobmoaaGreatDoor.Le
open Go.RowKit (Below)
theorem Z1F {d:TypeDesc} {fs:List (Nat×Nat)} (h:Ty.struct fs=Kr d):∃fields,d = .struct fields/\fs=fields.toList.map fun f=>(f.offset,f.type):=by
 cases d<;>simp[Kr]at h;exact⟨_,rfl,h⟩
theorem oQ {d:TypeDesc} {n e:Nat} (h:Ty.array n e=Kr d):d = .array n e:=by
 cases d<;>simp[Kr]at h;rw[h.1,h.2]
theorem Z9S {E:Env} {P:Program} (C:Cf E) (D:E.P=P):∀(fields:List Field),(∀f∈fields,(E.ti f.type).isSome=true) ->
  ∃q:List (Nat×Nat),fields.mapM (fun f=>(P.info? f.type).map fun i=>(f.offset,i.size))=some q/\q.length=fields.length /\
   ∀i:Nat,q[i]? = placesOf E (fields.map fun f=>(f.offset,f.type)) i
 | [],_=>⟨[],rfl,rfl,fun i=>by simp[placesOf]⟩
 | f::fields,h=>by
  obtain⟨q,G,I,J⟩:=Z9S C D fields (fun g N=>h g (by simp[N]));have M:=h f (by simp);cases z:E.ti f.type with
  | none=>simp[z]at M
  | some ti=>
   obtain⟨A,d,F,O,q1,q2,q3,q4⟩:=FD (C.ti _ _ z);rw[D]at F;refine⟨(f.offset,A.size)::q,?_,by simp[I],?_⟩
   ·simp[List.mapM_cons,F,G]
   ·intro i;cases i with
    | zero=>simp[placesOf,z,q2]
    | succ i=>simpa[placesOf]using J i
theorem Zzl {E:Env} {σ w} {P:Program} (Q:Cf E) (S:E.P=P) {t:TypeId} {q:List (Nat×V)} {vparts:Array (Nat×Value)} {x:V} (hp:Parts σ w q vparts.toList) (hb:VU E t q=some x) :
  ∃u,(Instr.build t vparts).run P w = .ok u w/\AQ σ w [x] [u]:=by
 unfold VU at hb;split at hb
 ·rename_i i hti;obtain⟨inf,d,hi,Y,q1,q2,q3,q4⟩:=FD (Q.ti _ _ hti);rw[S]at hi Y;split at hb
  ·rename_i z hz;split at hb
   ·rename_i hzo;rw[hz]at q4;cases C:inf.zero with
    | none=>simp[C]at q4
    | some zv=>
     simp only[C,Option.map_some,Option.some.injEq]at q4;have hzr:AQ σ w [z] [zv]:=by rw[q4];exact Xp σ w zv
     obtain⟨M,J⟩:=hzr.cells hzo;split at hb
     ·rename_i fs G;obtain⟨fields,F,N⟩:=Z1F (G.symm.trans q1);split at hb
      ·rename_i I;cases A:OY z.cells q (placesOf E fs) with
       | none=>simp[A]at hb
       | some cs=>
        simp only[A,Option.map_some,Option.some.injEq]at hb;subst hb;obtain⟨D,m1,m2,m3⟩:=Z9S Q S fields.toList (by
         intro f A;have:=List.all_eq_true.1 I (f.offset,f.type) (by rw[N];exact List.mem_map.2 ⟨f,A,rfl⟩);exact this)
        have hpl:(fun i:Nat=>D.toArray[i]?)=placesOf E fs:=by
         funext i;rw[N,<- m3 i];simp
        obtain⟨ws,f1,f2,f3⟩:=ZbP hp M J A;refine⟨.agg ws.toArray,run_build w t vparts ws.toArray ?_,.agg f2 f3 .nil⟩;simp only[Program.built,hi,Y,F,C,m1];rw[hpl];simpa using f1
      ·cases hb
     ·rename_i n e G;have F:=oQ (G.symm.trans q1);split at hb
      ·rename_i ei hei;obtain⟨infe,de,O,hde,e1,e2,e3,e4⟩:=FD (Q.ti _ _ hei);rw[S]at O;cases A:OY z.cells q (fun i=>some (i*ei.size,ei.size)) with
       | none=>simp[A]at hb
       | some cs=>
        simp only[A,Option.map_some,Option.some.injEq]at hb;subst hb;obtain⟨ws,f1,f2,f3⟩:=ZbP hp M J A;refine⟨.agg ws.toArray,run_build w t vparts ws.toArray ?_,.agg f2 f3 .nil⟩;simp only[Program.built,hi,Y,F,C,O,<- e2];simpa using f1
      ·cases hb
     ·cases hb
   ·cases hb
  ·cases hb
 ·cases hb
theorem Zuk {σ w} {sz:Nat}:∀{q:List (Nat×V)} {vparts:List (Nat×Value)} {xs A : List V} {us:List Value},Parts σ w q vparts->AQ σ w xs us->(∀x∈xs,okV x=true)->(∀u∈us,u.cells.size=sz)->(∀u∈flat us,u.oneCell' = true) ->
  MC xs sz q=some A -> ∃z,Instr.fill (fun i=>some (i*sz,sz)) (flat us).toArray vparts=some (flat z).toArray/\AQ σ w A z /\ (∀x∈A,okV x=true)/\(∀u∈z,u.cells.size=sz)/\(∀u∈flat z,u.oneCell' = true)/\A.length=xs.length:=by
 intro q;induction q with
 | nil=>
  intro vparts xs A us M Q hk N O F;cases M;simp only[MC,Option.some.injEq]at F;subst F;exact⟨us,rfl,Q,hk,N,O,rfl⟩
 | cons p q ih=>
  intro vparts xs A us M Q hk N O F;cases M with
  | cons hx M=>
   rename_i i x v vs;simp only[MC]at F;split at F
   ·rename_i hc;simp only[Bool.and_eq_true,beq_iff_eq,decide_eq_true_eq]at hc;obtain⟨⟨c1,c2⟩,S⟩:=hc;obtain⟨hcr,Y⟩:=hx.cells S;have D:v.cells.size=sz:=by rw[<- hx.QY S];exact c1
    have hlen:=Q.length;have hi:i<us.length:=by omega
    have J:us[i]? = some us[i]:=List.getElem?_eq_getElem hi;have I:=Z38 N J D;have G:(flat us).length=us.length*sz:=flat_length N;have hle:i*sz+sz<=us.length*sz:=by rw[<- Nat.succ_mul];exact Nat.mul_le_mul_right _ hi
    have C:=ZbU v (i*sz) (flat us).toArray (by simp only[List.size_toArray,G,D];exact hle);obtain⟨z,f1,f2,f3,f4,f5,f6⟩:=ih M (Q.set i hx) (by
     intro y hy;rcases List.mem_or_eq_of_mem_set hy with hy|hy
     ·exact hk y hy
     ·rw[hy];exact S) (by
     intro y hy;rcases List.mem_or_eq_of_mem_set hy with hy|hy
     ·exact N y hy
     ·rw[hy];exact D) (by
     intro y hy;rw[I]at hy;simp only[List.mem_append]at hy;rcases hy with (hy|hy)|hy
     ·exact O y (List.mem_of_mem_take hy)
     ·exact Y y hy
     ·exact O y (List.mem_of_mem_drop hy)) F
    refine⟨z,?_,f2,f3,f4,f5,by rw[f6];simp⟩;simp only[Instr.fill,D];simp only[ne_eq,not_true_eq_false,decide_false,Bool.false_or,List.size_toArray,gt_iff_lt,decide_eq_true_eq];rw[if_neg (by rw[G];omega)];rw[<- f1];congr 1;apply Array.ext';rw[D]at C;rw[I];simpa using C
   ·cases F
theorem Zsz {σ w}:∀{q:List (Nat×V)} {vparts:List (Nat×Value)},Parts σ w q vparts->AQ σ w (q.map (·.2)) (vparts.map (·.2))/\q.map (·.1)=vparts.map (·.1):=by
 intro q;induction q with
 | nil=>intro vparts h;cases h;exact⟨.nil,rfl⟩
 | cons p q F=>
  intro vparts h;cases h with
  | cons D C=>
   obtain⟨z,A⟩:=F C;exact⟨AQ.FC.2 ⟨D,z⟩,by simp[A]⟩
theorem Z9N {α q:Type}:∀(l:List (α×q)),(l.map (·.1)).zip (l.map (·.2))=l
 | []=>rfl
 | x::l=>by simp[Z9N l]
theorem ZxE {σ w}:∀{q:List Nat} {xs:List V} {vs:List Value},AQ σ w xs vs->q.length=xs.length->Parts σ w (q.zip xs) (q.zip vs):=by
 intro q;induction q with
 | nil=>intro xs vs h z;exact .nil
 | cons i q D=>
  intro xs vs h z;cases xs with
  | nil=>simp at z
  | cons x xs=>
   obtain⟨v,F,rfl,A,C⟩:=h.Dw;exact .cons A (D C (by simpa using z))
theorem Zao {sz:Nat}:∀{q:List (Nat×V)} {xs z : List V},(∀x∈xs,CW x=true)->(∀p∈q,CW p.2=true)->MC xs sz q=some z -> ∀x∈z,CW x=true
 | [],xs,z,F,C,A=>by
  simp only[MC,Option.some.injEq]at A;subst A;exact F
 | (i,v)::I,xs,z,F,C,A=>by
  simp only[MC]at A;split at A
  ·refine Zao (fun x G =>?_) (fun p D =>C p (List.mem_cons_of_mem _ D)) A;rcases List.mem_or_eq_of_mem_set G with h|h
   ·exact F x h
   ·rw[h];exact C (i,v) (by simp)
  ·cases A
theorem Zn6 {E B w0 σ H w} {P:Program} (hE:Cf E) (hP:E.P=P) (h:Inv B w0 σ H w) {k:Nat} (hk0:FO H k=true) {t:TypeId} {n:Nat} {A:List (Nat×V)} {vparts:Array (Nat×Value)} {r:V} {H' : Heap}
  (hp:Parts σ w A vparts.toList) (hb:Oo E k H t n A=some (r,H')) :
  ∃u w' σ',(Instr.buildSlice t n vparts).run P w = .ok u w' /\ Inv B w0 σ' H' w' /\ Ext σ w σ' w' /\ AQ σ' w' [r] [u]:=by
 unfold Oo at hb;split at hb
 ·rename_i e sz by' z0 hti;split at hb
  ·rename_i ei I;split at hb
   ·rename_i z vs hz hf;split at hb
    ·rename_i hc;obtain⟨c1,c2,c3,c4,c5⟩:=hc;split at hb
     ·rename_i xs hfe;simp only[Option.some.injEq,Prod.mk.injEq]at hb;obtain⟨rfl,rfl⟩:=hb;obtain⟨inf,d,hi,hd,q1,q2,q3,q4⟩:=FD (hE.ti _ _ hti);have hd' : P.underlying t=some (.slice e):=by rw[hP]at hd;rw[hd,Ns q1]
      obtain⟨G,Y,J,hzv,N,hbz,_⟩:=qY hE hP I hz σ w;obtain⟨hI,hEx⟩:=h.freeze ((A.map (·.2)).flatMap Dj);have S:AQ (σ.freeze H ((A.map (·.2)).flatMap Dj)) w [z] [Y]:=by
       obtain⟨infe',zv',D,F,_,_,hr⟩:=qY hE hP I hz (σ.freeze H ((A.map (·.2)).flatMap Dj)) w;rw[J]at D;cases D;rw[hzv]at F;cases F;exact hr
      have hzs:Y.cells.size=ei.size:=by rw[<- S.QY c4];exact c3
      obtain⟨O,hu2⟩:=Zsz hp;have hfr:=nN h O hf _ (fun i hi=>hi);have C :=Zoe (E.rows e) hfr;have hlen:(A.map (·.1)).length=(vs.map (Dz (E.rows e))).length:=by rw[C.length,<- O.length];simp
      have hpz:=ZxE C hlen;have hvp:(A.map (·.1)).zip (vparts.toList.map (·.2))=vparts.toList:=by
       rw[hu2];exact Z9N _
      rw[hvp]at hpz;have M:∀u∈flat (List.replicate n Y),u.oneCell' = true:=by
       intro u hu;simp only[flat,List.mem_flatMap]at hu;obtain⟨a,ha,hb⟩:=hu;rw[(List.mem_replicate.1 ha).2]at hb;exact(S.cells c4).2 u hb
      obtain⟨us',f1,f2,f3,f4,f5,f6⟩:=Zuk hpz (AQ.replicate n (Rw (E.rows e) S)) (fun x hx=>by rw[(List.mem_replicate.1 hx).2,qA];exact c4) (fun u hu=>by rw[(List.mem_replicate.1 hu).2];exact hzs) M hfe;have Q:xs.length=n:=by rw[f6];simp
      have hnm:n<=maxLen:=by
       have:n<=n*ei.size:=Nat.le_mul_of_pos_right _ c2;simp[maxLen];omega
      obtain⟨σ',i1,i2,i3⟩:=ZbK (n:=n) hI (k:=k) (by rw[Zvl];exact hk0) e true f2 (fun _=>Zao (fun x hx=>by rw[(List.mem_replicate.1 hx).2,Ro];exact ZaQ hE I hz) (fun p hp=>by
       obtain⟨q,hq,hq'⟩:=List.mem_map.1 (List.of_mem_zip hp).2;rw[<- hq',Ro];exact(J6 vs).1 (Xm h O hf) q hq) hfe) f3 f4 f5 (by rw[Q];exact hnm)
      rw[Q]at i3;refine⟨.slice (some ⟨w.heap.size,0,none⟩) n n,_,σ',?_,i1,hEx.trans i2,?_⟩
      ·by_cases hn:n=0
       ·subst hn;have hpn:A=[]:=by simpa using c5
        subst hpn;cases hp0:vparts.toList with
        | nil=>
         have:vparts = #[]:=by simpa using hp0
         subst this;have hx:xs=[]:=List.eq_nil_of_length_eq_zero Q;subst hx;cases f2.FH;simp[Instr.buildSlice,run_underlying hd',sizeOf,typeInfo,J,Instr.fill,newRow,flat,Array.range_zero']
        | cons a b=>rw[hp0]at hp;cases hp
       ·have hpos:¬n*G.size=0:=by rw[N];exact Nat.mul_ne_zero hn (by omega)
        refine run_buildSlice w t e n vparts (flat us').toArray G Y hd' J hzv (by rw[N];omega) hpos ?_;rw[N];have hm:(Array.range (n*ei.size)).map (Y.cells[· % Y.cells.size]!)=(flat (List.replicate n Y)).toArray:=by
         apply Array.ext';exact Z7e c2 hzs n
        rw[hm];exact f1
      ·exact .Bc (L:=⟨.slice (some ⟨w.heap.size,0,none⟩) n n,n,ei.size⟩) i3 (Nat.le_refl _) (fun _=>⟨by omega,_,_,_,0,rfl,by simp[Addr.add],Nat.zero_le _,Nat.le_refl _,fun _=>rfl⟩) ⟨_,_,_,rfl⟩ .nil
     ·cases hb
    ·cases hb
   ·cases hb
  ·cases hb
 ·cases hb
end Go.Proofs.YtjodhcdmhobmoaaGreatDoor.Le
namespace Go.Proofs.YtjodhcdmhobmoaaGreatDoor.Le
open Go.RowKit (Below)
theorem addr_add_add (a:Addr) (x y:Nat):(a.add x).add y=a.add (x+y):=by
 unfold Addr.add
 by_cases q:x=0
 ·subst q;simp
 ·by_cases z:y=0
  ·subst z;simp[q]
  ·simp[q,z,Nat.add_assoc]
theorem ZzN {B w0 σ H w} (h:Inv B w0 σ H w) {x:V} {v:Value} {n:Nat} (C:AQ σ w [x] [v]) (q:lenOf H x=some n) :
  (∃s,x = .lit (.string s)/\v = .string s/\n=s.size)\/∃a c,v = .slice a n c/\n<=c:=by
 unfold lenOf at q;split at q
 ·simp only[Option.some.injEq]at q;subst q;right;cases C with
  | ET _=>exact⟨_,_,rfl,Nat.le_refl _⟩
  | FU a _=>exact⟨_,_,rfl,Nat.le_refl _⟩
  | sl b o c e k0 k1 k2 k3 k4 k5 k6 k7=>exact⟨_,_,rfl,k4⟩
 ·simp only[Option.some.injEq]at q;subst q;right;cases C with
  | Fz _=>exact⟨_,_,rfl,Nat.le_refl _⟩
  | GU a _=>exact⟨_,_,rfl,Nat.le_refl _⟩
  | Ce b o e k0 k1 k2 k3 k4 k5 k6=>exact⟨_,_,rfl,Nat.le_refl _⟩
 ·rename_i id off len tot;split at q
  ·rename_i b hb;simp only[Option.some.injEq]at q;subst q;right;obtain⟨L,us,m,N,J,Q,z⟩:=OA h C hb;rcases z with ⟨M,A,O,q,S⟩|⟨g,cap,k,M,A,G,I,D,F⟩
   ·subst q;exact⟨_,_,A,Nat.le_refl _⟩
   ·exact⟨_,_,A,by omega⟩
  ·cases q
 ·rename_i s;simp only[Option.some.injEq]at q;subst q;left;cases C with
  | lit _ _=>exact⟨s,rfl,rfl,rfl⟩
 ·cases q
theorem Zec {B w0 σ H w} {P:Program} (h:Inv B w0 σ H w) {x:V} {v:Value} {n:Nat} {t ty:TypeId} {d:TypeDesc} (C:AQ σ w [x] [v]) (F:lenOf H x=some n)
  (D:P.underlying t=some d) (hd:(∃e,d = .slice e)\/d = .string) (hc:(∃e,d = .slice e)↔∀s,x≠.lit (.string s)) :
  (Builtin.len_ #[t] ty #[v]).run P w = .ok (.int .i64 n) w:=by
 rcases ZzN h C F with ⟨s,I,z,A⟩|⟨a,c,z,A⟩
 ·have q:d = .string:=by
   rcases hd with hd|hd
   ·exact absurd I (hc.1 hd s)
   ·exact hd
  subst z A;simp[Builtin.len_,run_underlying D,q,goInt]
 ·have q:∃e,d = .slice e:=hc.2 (fun s G=>by subst G;cases C;cases z);obtain⟨e,q⟩:=q;subst z;simp[Builtin.len_,run_underlying D,q,goInt]
theorem Uu {σ w} {P:Program} {x:V} {v:Value} {hi n:Nat} (q:BoundsCode) (z:AQ σ w [x] [v]) (hb:Ie x hi=some n) :
  (Instr.sliceBound v hi q).run P w = .ok n w/\n<=hi:=by
 unfold Ie at hb;split at hb
 ·rename_i k m;split at hb
  ·rename_i hc;simp only[Option.some.injEq]at hb;subst hb;cases z with
   | lit _ _=>
    refine⟨?_,by omega⟩;simp[Instr.sliceBound,asIntOf,hc]
  ·cases hb
 ·cases hb
inductive Jb (σ:Sg) (w:World):Option V->Option Value->Prop where
 | none:Jb σ w none none
 | some {x v}:AQ σ w [x] [v]->Jb σ w (some x) (some v)
theorem ZbW {σ w} {P:Program} {x:V} {v:Value} {n cap h:Nat} (q:BoundsCode) (D:n<=cap) (A:AQ σ w [x] [v]) (z:Ie x n=some h):(Instr.sliceBound v cap q).run P w = .ok h w/\h<=n:=by
 have C:=(Uu (P:=P) q A z).2;refine⟨?_,C⟩;have:Ie x cap=some h:=by
  unfold Ie at z ⊢;split at z
  ·split at z
   ·rename_i hc;simp only[Option.some.injEq]at z;rw[if_pos ⟨hc.1,by omega⟩,z]
   ·cases z
  ·cases z
 exact(Uu (P:=P) _ A this).1
theorem Oz {σ w} {P:Program} {n cap:Nat} (I:n<=cap) (q:Bool) {S Q:Option V} {D C:Option Value} {l h:Nat}
  (A:Jb σ w S D) (G:Jb σ w Q C)
  (F:IW Q n n=some h) (z:IW S h 0=some l) :
  (Instr.sliceBounds q n cap D C none).run P w = .ok (l,h,cap) w/\l<=h/\h<=n:=by
 cases G with
 | none=>
  simp only[IW,Option.some.injEq]at F;subst F;cases A with
  | none=>
   simp only[IW,Option.some.injEq]at z;subst z;exact⟨rfl,Nat.zero_le _,Nat.le_refl _⟩
  | some J=>
   obtain⟨N,O⟩:=Uu (P:=P) .sliceB J z;refine⟨?_,O,Nat.le_refl _⟩;simp[Instr.sliceBounds,N]
 | some M =>
  obtain⟨q1,q2⟩:=ZbW (P:=P) (if q then .sliceAcap else .sliceAlen) I M F;cases A with
  | none=>
   simp only[IW,Option.some.injEq]at z;subst z;refine⟨?_,Nat.zero_le _,q2⟩;simp[Instr.sliceBounds,q1]
  | some J=>
   obtain⟨N,O⟩:=Uu (P:=P) .sliceB J z;refine⟨?_,O,q2⟩;simp[Instr.sliceBounds,q1,N]
theorem o7 {σ w} {P:Program} {n cap:Nat} (G:n<=cap) {M:Option V} {J S:V} {z:Option Value} {I Q:Value} {l h:Nat}
  (D:Jb σ w M z) (C:AQ σ w [J] [I]) (F:AQ σ w [S] [Q])
  (q:Ie J n=some h) (em:Ie S n=some h) (A:IW M h 0=some l) :
  (Instr.sliceBounds true n cap z (some I) (some Q)).run P w = .ok (l,h,h) w/\l<=h/\h<=n:=by
 obtain⟨N,O⟩:=ZbW (P:=P) .slice3Acap G F em;have q1:(Instr.sliceBound I h .slice3B).run P w = .ok h w:=by
  have:Ie J h=some h:=by
   unfold Ie at q ⊢;split at q
   ·split at q
    ·rename_i hc;simp only[Option.some.injEq]at q;rw[if_pos ⟨hc.1,by omega⟩,q]
    ·cases q
   ·cases q
  exact(Uu (P:=P) _ C this).1
 cases D with
 | none=>
  simp only[IW,Option.some.injEq]at A;subst A;refine⟨?_,Nat.zero_le _,O⟩;simp[Instr.sliceBounds,N,q1]
 | some Y=>
  obtain⟨r1,r2⟩:=Uu (P:=P) .slice3C Y A;refine⟨?_,r2,O⟩;simp[Instr.sliceBounds,N,q1,r1]
theorem Md {P:Program} {w:World} {t e:TypeId} {q:TypeInfo} {a:Option Addr} {n c l h m:Nat} {A z C:Option Value} (D:P.underlying t=some (.slice e)) (hi' : P.info? e=some q)
  (hb:(Instr.sliceBounds true n c A z C).run P w = .ok (l,h,m) w) :
  (Instr.sliceAt t (.slice a n c) A z C).run P w = .ok (.slice (if m=l then a else a.map (·.add (l*q.size))) (h - l) (m - l)) w:=by
 simp[Instr.sliceAt,Instr.slice,run_underlying D,hb,sizeOf,typeInfo,hi']
theorem Lies.sub {σ w b o us e} (h:Lies σ w b o us) (A:∀u∈us,u.cells.size=e) (l n:Nat):Lies σ w b (o+l*e) ((us.drop l).take n):=by
 intro j u q;rw[Z33 A]at q;have z:j<n*e:=by
  have:=(List.getElem?_eq_some_iff.1 q).1;simp at this;omega
 rw[List.getElem?_take,if_pos z,List.getElem?_drop]at q;have:=h (l*e+j) u q;rw[<- Nat.add_assoc]at this;exact this
theorem uC {σ w} {es:List V} {us:List Value} {b o c e l h:Nat} (k0:AQ σ w es us) (k1:∀x∈es,Ep x=true) (k2:∀u∈us,u.cells.size=e) (k3:∀u∈flat us,u.oneCell' = true)
  (k4:es.length<=c) (k5:c<=maxLen) (k6:Lies σ w b o us) (Q:l<=h) (O:h<=es.length) (m:Nat) (hm:h<=m) (J:m<=c) :
  AQ σ w [.sl false e ((es.drop l).take (h - l))] [.slice (if m=l then some ⟨b,o,none⟩ else (some (⟨b,o,none⟩:Addr)).map (·.add (l*e))) (h - l) (m - l)] /\
  (m=h->AQ σ w [.Ce false e ((es.drop l).take (h - l))] [.slice (if m=l then some ⟨b,o,none⟩ else (some (⟨b,o,none⟩:Addr)).map (·.add (l*e))) (h - l) (m - l)]):=by
 have q:((es.drop l).take (h - l)).length=h - l:=by simp;omega
 have A:∃D,(if m=l then some (⟨b,o,none⟩:Addr) else (some (⟨b,o,none⟩:Addr)).map (·.add (l*e)))=some ⟨b,D,none⟩/\Lies σ w b D ((us.drop l).take (h - l)):=by
  by_cases C:m=l
  ·rw[if_pos C];refine⟨o,rfl,?_⟩;have:h - l=0:=by omega
   rw[this,List.take_zero];intro j u M;simp[flat]at M
  ·rw[if_neg C];exact⟨o+l*e,by simp[Addr.add_mid],k6.sub k2 l (h - l)⟩
 obtain⟨D,I,z⟩:=A;rw[I];have r:=qO k0 l (h - l);have ok:∀x∈(es.drop l).take (h - l),Ep x=true:=fun x N=>k1 x (List.mem_of_mem_drop (List.mem_of_mem_take N));have sz:=aO (o8 k2 l) (h - l);have G:=rJ (Z3c k3 l) (h - l);constructor
 ·have:=AQ.sl (σ:=σ) (w:=w) (xs:=[]) (vs:=[]) b D (m - l) e r ok sz G (by rw[q];omega) (by omega) z .nil;rw[q]at this;exact this
 ·intro F;have:=AQ.Ce (σ:=σ) (w:=w) (xs:=[]) (vs:=[]) b D e r ok sz G (by rw[q];omega) z .nil;rw[q]at this;rw[F];exact this
theorem Uy {E:Env} {P:Program} (G:Cf E) (M:E.P=P) {H:Heap} {t:TypeId} {x:V} (O:∀s,x≠.lit (.string s)) (q:PH E H t x=true) :
  ∃e z,P.underlying t=some (.slice e)/\P.info? e=some z/\Eb H x z.size=true:=by
 unfold PH at q;split at q
 ·exact absurd rfl (O _)
 ·split at q
  ·rename_i e sz by' z0 F;split at q
   ·rename_i ei D;obtain⟨z,d,hi,I,q1,q2,q3,q4⟩:=FD (G.ti _ _ F);obtain⟨C,Q,A,N,S,J,Y,e4⟩:=FD (G.ti _ _ D);rw[M]at I A;exact⟨e,C,by rw[I,Ns q1],A,by rw[<- J];exact q⟩
   ·cases q
  ·cases q
theorem cut3 {E:Env} {σ w} {P:Program} {x:V} {t te:TypeId} {C:TypeInfo} {b:Bool} {e:Nat} {xs:List V} {v:Value} {lo:Option V} {xh xm:V} {D:Option Value} {vh vm:Value} {l h:Nat}
  (Y:P.underlying t=some (.slice te)) (hi' : P.info? te=some C) (O:(b||e==C.size)=true)
  (hx:x = .sl b e xs\/x = .Ce b e xs) (hr:AQ σ w [x] [v]) (z:Jb σ w lo D) (q:AQ σ w [xh] [vh]) (A:AQ σ w [xm] [vm])
  (Q:Ie xh xs.length=some h) (em:Ie xm xs.length=some h) (S:IW lo h 0=some l) :
  ∃u,(Instr.sliceAt t v D (some vh) (some vm)).run P w = .ok u w/\AQ σ w [.Ce false e ((xs.drop l).take (h - l))] [u]:=by
 have F:∀e a,v = .slice (some a) 0 0->xs=[]->∃u,(Instr.sliceAt t v D (some vh) (some vm)).run P w = .ok u w/\AQ σ w [.Ce false e ((xs.drop l).take (h - l))] [u]:=by
  intro e a hv N;subst hv N;obtain⟨b1,b2,b3⟩:=o7 (P:=P) (Nat.le_refl 0) z q A Q em S;have J:h=0:=by simpa using b3
  have M:l=0:=by omega
  subst J;subst M;refine⟨_,Md Y hi' b1,?_⟩;simp;exact .GU a .nil
 have G:∀e,v = .slice none 0 0->xs=[]->∃u,(Instr.sliceAt t v D (some vh) (some vm)).run P w = .ok u w/\AQ σ w [.Ce false e ((xs.drop l).take (h - l))] [u]:=by
  intro e hv N;subst hv N;obtain⟨b1,b2,b3⟩:=o7 (P:=P) (Nat.le_refl 0) z q A Q em S;have J:h=0:=by simpa using b3
  have M:l=0:=by omega
  subst J;subst M;refine⟨_,Md Y hi' b1,?_⟩;simp;exact .Fz .nil
 rcases hx with rfl|rfl
 ·cases hr with
  | ET _=>exact G e rfl rfl
  | FU a _=>exact F e a rfl rfl
  | sl b' o c e' k0 k1 k2 k3 k4 k5 k6 k7=>
   have I:e=C.size:=by simpa using O
   obtain⟨b1,b2,b3⟩:=o7 (P:=P) k4 z q A Q em S;refine⟨_,Md Y hi' b1,?_⟩;rw[<- I];exact(uC k0 k1 k2 k3 k4 k5 k6 b2 b3 h (Nat.le_refl _) (by omega)).2 rfl
 ·cases hr with
  | Fz _=>exact G e rfl rfl
  | GU a _=>exact F e a rfl rfl
  | Ce b' o e' k0 k1 k2 k3 k4 k5 k6=>
   have I:e=C.size:=by simpa using O
   obtain⟨b1,b2,b3⟩:=o7 (P:=P) (Nat.le_refl _) z q A Q em S;refine⟨_,Md Y hi' b1,?_⟩;rw[<- I];exact(uC k0 k1 k2 k3 (Nat.le_refl _) k4 k5 b2 b3 h (Nat.le_refl _) b3).2 rfl
theorem Zzv {E B w0 σ H w} {P:Program} (hE:Cf E) (hP:E.P=P) (h:Inv B w0 σ H w) {t:TypeId} {x r:V} {v:Value} {lo hi mx:Option V} {vlo vhi vmx:Option Value} {H' : Heap}
  (hr:AQ σ w [x] [v]) (F:Jb σ w lo vlo) (M:Jb σ w hi vhi) (hmx:Jb σ w mx vmx) (A:JG E H t x lo hi mx=some (r,H')) :
  ∃u σ',(Instr.sliceAt t v vlo vhi vmx).run P w = .ok u w/\Inv B w0 σ' H' w/\Ext σ w σ' w/\AQ σ' w [r] [u]:=by
 unfold JG at A;split at A
 ·rename_i C;split at A
  ·cases A
  ·rename_i n hn;split at A
   ·cases A
   ·rename_i hh eh;split at A
    ·cases A
    ·rename_i l el;cases hmx with
     | none=>
      simp only at A;split at A
      ·
       rename_i s;simp only[Option.some.injEq,Prod.mk.injEq]at A;obtain⟨rfl,rfl⟩:=A;have hst:P.underlying t=some .string:=by rw[<- hP];exact hE.isStr t C
       cases hr with
       | lit hlf _=>
        have z:n=s.size:=by simpa[lenOf]using hn.symm
        subst z;obtain⟨b1,b2,b3⟩:=Oz (P:=P) (Nat.le_refl _) false F M eh el;refine⟨.string (s.extract l hh),σ,?_,h,Ext.refl σ w,.lit ?_ .nil⟩
        ·simp[Instr.sliceAt,Instr.slice,run_underlying hst,b1]
        ·have:s.size<=maxLen:=by simpa[leaf]using hlf
         simp only[leaf,decide_eq_true_eq,ByteArray.size_extract];omega
      ·rename_i b e xs;simp only[Option.some.injEq,Prod.mk.injEq]at A;obtain⟨rfl,rfl⟩:=A;obtain⟨te,I,Y,hi',D⟩:=Uy hE hP (by simp) C;cases hr with
       | ET _=>
        have z:n=0:=by simpa[lenOf]using hn.symm
        subst z;obtain⟨b1,b2,b3⟩:=Oz (P:=P) (Nat.le_refl 0) true F M eh el;have O:hh=0:=by omega
        have S:l=0:=by omega
        subst O;subst S;refine⟨_,σ,Md Y hi' b1,h,Ext.refl σ w,?_⟩;simp;exact .ET .nil
       | FU a _=>
        have z:n=0:=by simpa[lenOf]using hn.symm
        subst z;obtain⟨b1,b2,b3⟩:=Oz (P:=P) (Nat.le_refl 0) true F M eh el;have O:hh=0:=by omega
        have S:l=0:=by omega
        subst O;subst S;refine⟨_,σ,Md Y hi' b1,h,Ext.refl σ w,?_⟩;simp;exact .FU a .nil
       | sl b o c e k0 k1 k2 k3 k4 k5 k6 k7=>
        have z:n=xs.length:=by simpa[lenOf]using hn.symm
        subst z;have hee:e=I.size:=by simpa[Eb]using D
        obtain⟨b1,b2,b3⟩:=Oz (P:=P) k4 true F M eh el;refine⟨_,σ,Md Y hi' b1,h,Ext.refl σ w,?_⟩;rw[<- hee];exact(uC k0 k1 k2 k3 k4 k5 k6 b2 b3 c (by omega) (Nat.le_refl _)).1
      ·rename_i b e xs;simp only[Option.some.injEq,Prod.mk.injEq]at A;obtain⟨rfl,rfl⟩:=A;obtain⟨te,I,Y,hi',D⟩:=Uy hE hP (by simp) C;cases hr with
       | Fz _=>
        have z:n=0:=by simpa[lenOf]using hn.symm
        subst z;obtain⟨b1,b2,b3⟩:=Oz (P:=P) (Nat.le_refl 0) true F M eh el;have O:hh=0:=by omega
        have S:l=0:=by omega
        subst O;subst S;refine⟨_,σ,Md Y hi' b1,h,Ext.refl σ w,?_⟩;simp;exact .ET .nil
       | GU a _=>
        have z:n=0:=by simpa[lenOf]using hn.symm
        subst z;obtain⟨b1,b2,b3⟩:=Oz (P:=P) (Nat.le_refl 0) true F M eh el;have O:hh=0:=by omega
        have S:l=0:=by omega
        subst O;subst S;refine⟨_,σ,Md Y hi' b1,h,Ext.refl σ w,?_⟩;simp;exact .FU a .nil
       | Ce b o e k0 k1 k2 k3 k4 k5 k6=>
        have z:n=xs.length:=by simpa[lenOf]using hn.symm
        subst z;have hee:e=I.size:=by simpa[Eb]using D
        obtain⟨b1,b2,b3⟩:=Oz (P:=P) (Nat.le_refl _) true F M eh el;refine⟨_,σ,Md Y hi' b1,h,Ext.refl σ w,?_⟩;rw[<- hee];exact(uC k0 k1 k2 k3 (Nat.le_refl _) k4 k5 b2 b3 xs.length b3 (Nat.le_refl _)).1
      ·rename_i id off len tot;simp only[Option.some.injEq,Prod.mk.injEq]at A;obtain⟨rfl,rfl⟩:=A;obtain⟨te,I,Y,hi',D⟩:=Uy hE hP (by simp) C;cases hb:DZ H id tot with
       | none=>simp[lenOf,hb]at hn
       | some b=>
        have z:n=len:=by simpa[lenOf,hb]using hn.symm
        subst z;obtain⟨L,us,m,hxl,hol,hsub,hview⟩:=OA h hr hb;have hLe:L.Ar=I.size:=by
         have:b.Ar=I.size:=by simpa[Eb,hb]using D
         rw[<- m.Ar];exact this
        obtain⟨a,nn,c,k,e1,e2,e3,e4,e5⟩:=hsub;have hnc:nn<=c/\nn=tot:=by
         rcases m.shape with ⟨hv,hx,hu⟩|⟨g,cap,cur,tg,hv,hg,hhh,htg,hnn,hm,hsz,htk⟩
         ·rw[hv]at e1;cases e1;exact⟨Nat.le_refl _,by rw[<- hxl,hx];rfl⟩
         ·rw[hv]at e1;cases e1;exact⟨hnn,hxl⟩
        subst e2;obtain⟨b1,b2,b3⟩:=Oz (P:=P) (n:=n) (cap:=c - off) (by omega) true F M eh el;refine⟨_,σ,Md Y hi' b1,h,Ext.refl σ w,?_⟩;refine .Bc m.box (by rw[m.tot,hxl];exact Nat.le_refl _) (fun _=>⟨by omega,a,nn,c,if c - off=l then k else k+l,e1,?_,by omega,by split<;>omega,fun hlt=>by split<;>omega⟩) ⟨_,_,_,rfl⟩ .nil;rw[hLe];congr 1
        ·split
         ·rfl
         ·cases a with
          | none=>rfl
          | some ad=>simp[addr_add_add,Nat.add_mul]
        ·omega
      ·cases A
     | some hmr=>
      rename_i xm vm;simp only at A;have J:∀k,Ie xm n=some k->k=hh->∀xh,hi=some xh->∃vh,vhi=some vh/\AQ σ w [xh] [vh]/\Ie xh n=some hh:=by
       intro k hk N xh hxh;subst hxh;cases M with
       | some Q=>exact⟨_,rfl,Q,eh⟩
      split at A
      ·rename_i xh k xs' b e xs hk G;split at A
       ·rename_i N;simp only[Option.some.injEq,Prod.mk.injEq]at A;obtain⟨rfl,rfl⟩:=A;obtain⟨te,I,Y,hi',D⟩:=Uy hE hP (by simp) C;obtain⟨vh,hvh,Q,ehh⟩:=J k hk N xh rfl;have z:n=xs.length:=by simpa[lenOf]using hn.symm
        have hxx:xs' = xs:=by simpa[elemsOf]using G.symm
        subst z hxx N hvh;obtain⟨u,hu,hru⟩:=cut3 (E:=E) (P:=P) Y hi' (by simpa[Eb]using D) (.inl rfl) hr F Q hmr ehh hk el;exact⟨u,σ,hu,h,Ext.refl σ w,hru⟩
       ·cases A
      ·rename_i xh k xs' b e xs hk G;split at A
       ·rename_i N;simp only[Option.some.injEq,Prod.mk.injEq]at A;obtain⟨rfl,rfl⟩:=A;obtain⟨te,I,Y,hi',D⟩:=Uy hE hP (by simp) C;obtain⟨vh,hvh,Q,ehh⟩:=J k hk N xh rfl;have z:n=xs.length:=by simpa[lenOf]using hn.symm
        have hxx:xs' = xs:=by simpa[elemsOf]using G.symm
        subst z hxx N hvh;obtain⟨u,hu,hru⟩:=cut3 (E:=E) (P:=P) Y hi' (by simpa[Eb]using D) (.inr rfl) hr F Q hmr ehh hk el;exact⟨u,σ,hu,h,Ext.refl σ w,hru⟩
       ·cases A
      ·rename_i xh k xs' id off len tot hk G;split at A
       ·rename_i N;simp only[Option.some.injEq,Prod.mk.injEq]at A;obtain⟨rfl,rfl⟩:=A;obtain⟨te,I,Y,hi',D⟩:=Uy hE hP (by simp) C;obtain⟨vh,hvh,Q,ehh⟩:=J k hk N xh rfl;cases hb:DZ H id tot with
        | none=>simp[lenOf,hb]at hn
        | some b=>
         have z:n=len:=by simpa[lenOf,hb]using hn.symm
         have hbe:b.Ar=I.size:=by simpa[Eb,hb]using D
         obtain⟨p1,p2,p3⟩:=Uh hb;have hget:H.getD id default=b:=by simp[List.getD,p1]
         simp only[elemsOf,hb]at G;split at G
         ·rename_i hcc;simp only[Option.some.injEq]at G;simp only[Bool.and_eq_true,decide_eq_true_eq]at hcc;have hfz:Hu H (.Bc id off len tot)=some (.sl false b.Ar ((b.xs.drop off).take len)):=by
           simp[Hu,hb,hcc.1,hcc.2]
          obtain⟨hI,hEx⟩:=h.freeze [id];have hr' :=pO h hr hfz [id] (by simp[Ez]);have hlen:xs'.length=n:=by rw[<- G,z];simp;omega
          rw[G]at hr';subst N hvh;rw[<- hlen]at ehh hk;have hlo' : Jb (σ.freeze H [id]) w lo vlo:=by cases F with
           | none=>exact .none
           | some q=>exact .some (q.ext hEx)
          obtain⟨u,hu,hru⟩:=cut3 (E:=E) (P:=P) Y hi' (by simp[hbe]) (.inl rfl) hr' hlo' (Q.ext hEx) (hmr.ext hEx) ehh hk el;rw[hget];exact⟨u,_,hu,hI,hEx,hru⟩
         ·cases G
       ·cases A
      ·cases A
 ·cases A
end Go.Proofs.YtjodhcdmhobmoaaGreatDoor.Le
namespace Go.Proofs.YtjodhcdmhobmoaaGreatDoor.Le
open Go.RowKit (Below)
theorem Uw {E:Env} {P:Program} (C:Cf E) (D:E.P=P) {t:TypeId} {n:Nat} (h:E.size t=some n):∃q,P.info? t=some q/\q.size=n:=by
 unfold Env.size at h;cases z:E.ti t with
 | none=>simp[z]at h
 | some i=>
  obtain⟨q,d,A,F,q1,q2,q3,q4⟩:=FD (C.ti _ _ z);rw[D]at A;simp only[z,Option.map_some,Option.some.injEq]at h;exact⟨q,A,by rw[<- q2];exact h⟩
theorem Zqo {E B w0 σ H w} {P:Program} (M:Cf E) (N:E.P=P) (h:Inv B w0 σ H w) {t:TypeId} {x i r:V} {xv iv:Value} (hx:AQ σ w [x] [xv]) (hi:AQ σ w [i] [iv])
  (q:Ov E H t x i=some r):∃u,(Instr.indexAt t xv iv).run P w = .ok u w/\AQ σ w [r] [u]:=by
 unfold Ov at q;split at q
 ·rename_i k n ti hti;obtain⟨inf,d,hin,O,q1,q2,q3,q4⟩:=FD (M.ti _ _ hti);rw[N]at hin O;cases hi with
  | lit hl _=>
   split at q
   ·
    rename_i ty el b e xs D;have z:=Ns (D.symm.trans q1);subst z;split at q
    ·rename_i hc;obtain⟨S,G,Y⟩:=hc;obtain⟨F,A,C⟩:=Uw M N Y;simp only[Option.some.injEq]at q;subst q;cases hx with
     | ET _=>simp at G;omega
     | FU a _=>simp at G;omega
     | sl Q o c e' k0 k1 k2 k3 k4 k5 k6 k7=>
      refine⟨.pointer (some ⟨Q,o+n.toNat*e,none⟩),?_,?_⟩
      ·simp[Instr.indexAt,asIntOf,run_underlying O,S,G,sizeOf,typeInfo,A,C,Addr.add_mid]
      ·have:=AQ.CG (σ:=σ) (w:=w) (xs:=[]) (vs:=[]) Q o e n.toNat 0 k0 k1 k2 k3 k6 .nil;simpa using this
    ·cases q
   ·rename_i ty el b e xs D;have z:=Ns (D.symm.trans q1);subst z;split at q
    ·rename_i hc;obtain⟨S,G,Y⟩:=hc;obtain⟨F,A,C⟩:=Uw M N Y;simp only[Option.some.injEq]at q;subst q;cases hx with
     | Fz _=>simp at G;omega
     | GU a _=>simp at G;omega
     | Ce Q o e' k0 k1 k2 k3 k4 k5 k6=>
      refine⟨.pointer (some ⟨Q,o+n.toNat*e,none⟩),?_,?_⟩
      ·simp[Instr.indexAt,asIntOf,run_underlying O,S,G,sizeOf,typeInfo,A,C,Addr.add_mid]
      ·have:=AQ.CG (σ:=σ) (w:=w) (xs:=[]) (vs:=[]) Q o e n.toNat 0 k0 k1 k2 k3 k5 .nil;simpa using this
    ·cases q
   ·rename_i ty el id off len tot D;have z:=Ns (D.symm.trans q1);subst z;split at q
    ·rename_i b hb;split at q
     ·rename_i hc;obtain⟨S,G,Y⟩:=hc;obtain⟨F,A,C⟩:=Uw M N Y;simp only[Option.some.injEq]at q;subst q;obtain⟨L,us,m,hxl,hol,hsub,J⟩:=OA h hx hb;rcases J with ⟨hv,hvv,ho,hl',ht⟩|⟨g,cap,k',hv,hvv,hle,hmx,hk1,hk2⟩
      ·subst hl';simp at G;omega
      ·have hk:k' = off:=hk2 (by omega);subst hk;subst hvv;have hLe:L.Ar=b.Ar:=m.Ar.symm;refine⟨.pointer (some ⟨g,(k' + n.toNat)*L.Ar+0,none⟩),?_,.ptr g m.box (by rw[m.tot,hxl];exact Nat.le_refl _) (fun _=>⟨_,_,hv⟩) rfl .nil⟩;simp[Instr.indexAt,asIntOf,run_underlying O,S,G,sizeOf,typeInfo,A,C,Addr.add_mid,Nat.add_mul,hLe]
     ·cases q
    ·cases q
   ·rename_i ty len e id j off tot D;have z:=oQ (D.symm.trans q1);subst z;split at q
    ·rename_i sz I;obtain⟨F,A,C⟩:=Uw M N I;split at q
     ·rename_i hc;simp only[Option.some.injEq]at q;subst q;cases hx with
      | ptr g k1 k2 k3 k4 _=>
       subst k4;refine⟨.pointer (some ⟨g,j*_+(off+n.toNat*sz),none⟩),?_,.ptr g k1 k2 k3 rfl .nil⟩;simp[Instr.indexAt,Instr.sureAddr,asIntOf,run_underlying O,hc.1,hc.2,sizeOf,typeInfo,A,C,Addr.add_mid,Nat.add_assoc]
     ·cases q
    ·cases q
   ·rename_i ty len e d' xs j off D;have z:=oQ (D.symm.trans q1);subst z;split at q
    ·rename_i sz I;obtain⟨F,A,C⟩:=Uw M N I;split at q
     ·rename_i hc;simp only[Option.some.injEq]at q;subst q;cases hx with
      | CG b o e' i' off' k0 k1 k2 k3 k4 _=>
       refine⟨.pointer (some ⟨b,o+j*d' + (off+n.toNat*sz),none⟩),?_,.CG b o d' j _ k0 k1 k2 k3 k4 .nil⟩;simp[Instr.indexAt,Instr.sureAddr,asIntOf,run_underlying O,hc.1,hc.2,sizeOf,typeInfo,A,C,Addr.add_mid,Nat.add_assoc]
     ·cases q
    ·cases q
   ·cases q
 ·cases q
theorem Zqt {E σ w} {P:Program} (hE:Cf E) (hP:E.P=P) {t:TypeId} {x r:V} {xv:Value} {f:Nat} (hx:AQ σ w [x] [xv])
  (q:Uj E t x f=some r):∃u,(Instr.fieldAt t xv f).run P w = .ok u w/\AQ σ w [r] [u]:=by
 unfold Uj at q;split at q
 ·rename_i fs sz by' z0 hti;obtain⟨inf,d,hin,G,q1,q2,q3,q4⟩:=FD (hE.ti _ _ hti);rw[hP]at G;obtain⟨fields,I,J⟩:=Z1F q1;subst I;split at q
  ·rename_i o ft A;have C:∃fd,fields[f]? = some fd/\fd.offset=o/\fd.type=ft:=by
    rw[J,List.getElem?_map]at A;rw[<- Array.getElem?_toList];cases hh:fields.toList[f]? with
    | none=>simp[hh]at A
    | some fd=>
     simp only[hh,Option.map_some,Option.some.injEq,Prod.mk.injEq]at A;exact⟨fd,rfl,A.1,A.2⟩
   obtain⟨fd,D,O,Y⟩:=C;split at q
   ·rename_i fsz S;obtain⟨F,M,Q⟩:=Uw hE hP S;split at q
    ·cases q
    ·rename_i N;have z:∀a:Addr,(fieldPlace a fd).run P w = .ok (a.add o) w:=by
      intro a;have hz:¬F.size=0:=by rw[Q];exact N
      simp[fieldPlace,sizeOf,typeInfo,Y,M,hz,O]
     split at q
     ·rename_i id j off tot;simp only[Option.some.injEq]at q;subst q;cases hx with
      | ptr g k1 k2 k3 k4 _=>
       subst k4;refine⟨.pointer (some ⟨g,j*_+(off+o),none⟩),?_,.ptr g k1 k2 k3 rfl .nil⟩;simp[Instr.fieldAt,run_underlying G,D,Instr.sureAddr,z,Addr.add_mid,Nat.add_assoc]
     ·rename_i e xs j off;simp only[Option.some.injEq]at q;subst q;cases hx with
      | CG b o' e' i' off' k0 k1 k2 k3 k4 _=>
       refine⟨.pointer (some ⟨b,o' + j*e+(off+o),none⟩),?_,.CG b o' e j _ k0 k1 k2 k3 k4 .nil⟩;simp[Instr.fieldAt,run_underlying G,D,Instr.sureAddr,z,Addr.add_mid,Nat.add_assoc]
     ·cases q
   ·cases q
  ·cases q
 ·cases q
theorem Zd6 {E:Env} {P:Program} {σ w} (I:Cf E) (J:E.P=P) {t:TypeId} {i:TI} (F:E.ti t=some i) {cs:List V} {ws:List Value} {off:Nat} {G : V}
  (h:AQ σ w cs ws) (N:∀u∈ws,u.oneCell' = true) (O:partOf cs off i.size i.isAgg=some G) :
  ∃u,(part t ws.toArray off).run P w = .ok u w/\AQ σ w [G] [u]:=by
 obtain⟨S,d,A,D,q1,q2,q3,q4⟩:=FD (I.ti _ _ F);rw[J]at A D;have z:=ZcV q1;rcases Zcu h N O with ⟨C,M,q⟩|⟨C,u,Q,q⟩
 ·refine⟨_,?_,q⟩;have:d.isRow=true:=by rw[<- z];exact C
  unfold part;rw[Sem.run_bind,Z2T w D,this];simp only[Result.andThen_ok,if_true,Sem.run_bind,run_sizeOf w A,Sem.run_pure];congr 2;apply Array.ext';simp only[Array.toList_extract,List.extract];rw[q2];congr 1;omega
 ·refine⟨u,?_,q⟩;have:d.isRow=false:=by rw[<- z];exact C
  unfold part;rw[Sem.run_bind,Z2T w D,this];simp[Q]
theorem Zz4 {E σ w} {P:Program} (O:Cf E) (Q:E.P=P) {t:TypeId} {x r:V} {xv:Value} {f:Nat} (hx:AQ σ w [x] [xv])
  (A:VQ E t x f=some r):∃u,(Instr.field t xv f).run P w = .ok u w/\AQ σ w [r] [u]:=by
 unfold VQ at A;split at A
 ·rename_i fs sz by' z0 cs N;obtain⟨inf,d,hin,S,q1,q2,q3,q4⟩:=FD (O.ti _ _ N);rw[Q]at S;obtain⟨fields,F,I⟩:=Z1F q1;subst F;split at A
  ·rename_i o ft q;have z:∃fd,fields[f]? = some fd/\fd.offset=o/\fd.type=ft:=by
    rw[I,List.getElem?_map]at q;rw[<- Array.getElem?_toList];cases Y:fields.toList[f]? with
    | none=>simp[Y]at q
    | some fd=>
     simp only[Y,Option.map_some,Option.some.injEq,Prod.mk.injEq]at q;exact⟨fd,rfl,q.1,q.2⟩
   obtain⟨fd,G,J,M⟩:=z;split at A
   ·rename_i i D;cases hx with
    | agg h1 h2 _=>
     obtain⟨u,hu,C⟩:=Zd6 O Q (t:=fd.type) (by rw[M];exact D) h1 h2 A;refine⟨u,?_,C⟩;rw[<- J]at hu;simp[Instr.field,run_underlying S,G,asAgg,hu]
   ·cases A
  ·cases A
 ·cases A
theorem Zzx {E σ w} {P:Program} (F:Cf E) (G:E.P=P) {t:TypeId} {x i r:V} {xv Y:Value} (Q:AQ σ w [x] [xv]) (hi:AQ σ w [i] [Y])
  (q:VT E t x i=some r):∃u,(Instr.index t xv Y).run P w = .ok u w/\AQ σ w [r] [u]:=by
 unfold VT at q;split at q
 ·rename_i k n;cases hi with
  | lit hl _=>
   split at q
   ·rename_i len e sz by' z0 cs D;obtain⟨inf,d,hin,I,q1,q2,q3,q4⟩:=FD (F.ti _ _ D);rw[G]at I;have J:=oQ q1;subst J;split at q
    ·rename_i ei z;obtain⟨S,de,A,hde,e1,e2,e3,e4⟩:=FD (F.ti _ _ z);rw[G]at A;split at q
     ·rename_i hc;cases Q with
      | agg h1 h2 _=>
       obtain⟨u,O,C⟩:=Zd6 F G z h1 h2 q;refine⟨u,?_,C⟩;rw[e2]at O;simp[Instr.index,asIntOf,run_underlying I,hc.1,hc.2,sizeOf,typeInfo,A,O]
     ·cases q
    ·cases q
   ·rename_i sz by' z0 s D;split at q
    ·rename_i N;have I:P.underlying t=some .string:=by rw[<- G];exact F.isStr t N
     split at q
     ·rename_i h0;cases M:s[n.toNat]? with
      | none=>simp[M]at q
      | some b=>
       simp only[M,Option.map_some,Option.some.injEq]at q;subst q;cases Q with
       | lit _ _=>
        refine⟨.int .u8 b.toNat,?_,.lit ?_ .nil⟩
        ·simp[Instr.index,asIntOf,run_underlying I,h0,M]
        ·have:=b.toNat_lt;simp[leaf,Lit.wf,IntKind.min,IntKind.max,IntKind.signed,IntKind.bits];omega
     ·cases q
    ·cases q
   ·cases q
 ·cases q
end Go.Proofs.YtjodhcdmhobmoaaGreatDoor.Le
namespace Go.Proofs.YtjodhcdmhobmoaaGreatDoor.Le
open Go.RowKit (Below)
theorem ZEo (k:IntKind) (n:Int):(Lit.int k n).wf=true↔k.min<=n/\n<=k.max:=by simp[Lit.wf]
theorem ZyB (k:IntKind):k.min<=0/\0<=k.max:=by cases k<;>decide
theorem ZaM {k:IntKind} {a n:Int} (h:(Lit.int k a).wf=true) (q:(0<=a/\0<=n/\n<=a)\/(a<=0/\a<=n/\n<=0)):(Lit.int k n).wf=true:=by
 rw[ZEo]at h ⊢;have:=ZyB k;omega
theorem Zq9 (a b:Int):(0<=a/\0<=a.tmod b/\a.tmod b<=a)\/(a<=0/\a<=a.tmod b/\a.tmod b<=0):=by
 have key:∀x:Int,0<=x->0<=x.tmod b/\x.tmod b<=x:=by
  intro x q;rw[Int.tmod_eq_emod_of_nonneg q]
  by_cases hb:b=0
  ·subst hb;simp[q]
  ·refine⟨Int.emod_nonneg x hb,?_⟩;have z:=Int.emod_nonneg x hb;have A:=Int.mul_ediv_add_emod x b;have C:0<=b*(x / b):=by
    rcases Int.lt_or_gt_of_ne hb with hb|hb
    ·exact Int.mul_nonneg_of_nonpos_of_nonpos (by omega) (Int.ediv_nonpos_of_nonneg_of_nonpos q (by omega))
    ·exact Int.mul_nonneg (by omega) (Int.ediv_nonneg q (by omega))
   omega
 rcases Int.le_total 0 a with h|h
 ·exact .inl ⟨h,key a h⟩
 ·right;have:=key (-a) (by omega);rw[Int.neg_tmod]at this;omega
theorem Zoc (a:Int) (n:Nat):(0<=a/\0<=a.fdiv (2 ^ n)/\a.fdiv (2 ^ n)<=a)\/(a<=0/\a<=a.fdiv (2 ^ n)/\a.fdiv (2 ^ n)<=0):=by
 have q:(0:Int)<2 ^ n:=Int.pow_pos (by decide);rw[Int.fdiv_eq_ediv_of_nonneg _ (Int.le_of_lt q)];have D:=Int.mul_ediv_add_emod a (2 ^ n);have F:=Int.emod_nonneg a (Int.ne_of_gt q);have G:=Int.emod_lt_of_pos a q;rcases Int.le_total 0 a with h|h
 ·refine .inl ⟨h,Int.ediv_nonneg h (Int.le_of_lt q),Int.ediv_le_self _ h⟩
 ·right;have A:a / 2 ^ n<=0:=by
   rcases Int.lt_or_eq_of_le h with C|he
   ·exact Int.le_of_lt (Int.ediv_neg_of_neg_of_pos C q)
   ·rw[he];simp
  refine⟨h,?_,A⟩;rw[Int.le_ediv_iff_mul_le q];have z:(1:Int)<=2 ^ n:=q;have:=Int.mul_le_mul_of_nonneg_left z (show 0 <= -a by omega);rw[Int.mul_one,Int.neg_mul]at this;omega
theorem Rn {P:Program} {w:World} (op:BinOp) (t:TypeId) (x y:Operand) (a b:Value) (q:∀cs,a≠.agg cs) (z:a≠.nilIface):(eqGuard op t x y a b).run P w = .ok () w:=by
 unfold eqGuard;cases a<;>first|exact absurd rfl z|exact absurd rfl (q _)|(cases op<;>cases b<;>rfl)
theorem ZDC {P:Program} {w:World} {op:BinOp} {t:TypeId} {k:IntKind} {a b:Int} {r:Value} (C:leaf (.int k a)=true) (A:op≠.shl/\op≠.shr) (q:O3 op k a b=some r) :
  (binOp op t (.int k a) (.int k b)).run P w = .ok r w/\leaf r=true:=by
 have z : (Lit.int k a).wf=true:=by simpa[leaf]using C
 cases op<;>simp only[O3,Option.some.injEq,reduceCtorEq]at q
 all_goals try (exact absurd rfl A.1)
 all_goals try (exact absurd rfl A.2)
 all_goals try (subst q;refine⟨?_,rfl⟩;simp[binOp,Op.intCmp];done)
 all_goals try (subst q;refine⟨?_,show (Lit.int _ _).wf=true from wf_wrap _ _⟩;simp[binOp,Op.intArith];done)
 all_goals try (subst q;refine⟨?_,show (Lit.int _ _).wf=true from wf_bits _ _ _ _⟩;simp[binOp,Op.intBits,bits];done)
 all_goals (split at q)
 all_goals try (cases q;done)
 all_goals rename_i hb
 all_goals simp only[Option.some.injEq]at q
 all_goals subst q
 ·exact⟨by simp[binOp,Op.intDiv,hb],show (Lit.int _ _).wf=true from wf_wrap _ _⟩
 ·exact⟨by simp[binOp,Op.intDiv,hb],show (Lit.int _ _).wf=true from ZaM z (Zq9 a b)⟩
theorem ZcR {P:Program} {w:World} {op:BinOp} {t:TypeId} {k j:IntKind} {a b:Int} {r:Value} (A:leaf (.int k a)=true) (C:op = .shl\/op = .shr) (q:PT op k a b=some r) :
  (binOp op t (.int k a) (.int j b)).run P w = .ok r w/\leaf r=true:=by
 have z : (Lit.int k a).wf=true:=by simpa[leaf]using A
 unfold PT at q;split at q
 ·cases q
 ·rename_i hb;rcases C with rfl|rfl
  ·simp only[Option.some.injEq]at q;subst q;exact⟨by simp[binOp,Op.shift,hb],show (Lit.int _ _).wf=true from wf_wrap _ _⟩
  ·simp only[Option.some.injEq]at q;subst q;exact⟨by simp[binOp,Op.shift,hb],show (Lit.int _ _).wf=true from ZaM z (Zoc a _)⟩
theorem ZEa {P:Program} {w:World} {op:BinOp} {t:TypeId} {a b:ByteArray} {r:Value} (q:VZ op a b=some r) :
  (binOp op t (.string a) (.string b)).run P w = .ok r w/\leaf r=true:=by
 cases op<;>simp only[VZ,Option.some.injEq,reduceCtorEq]at q
 ·split at q
  ·rename_i hc;simp only[decide_eq_true_eq]at hc;simp only[Option.some.injEq]at q;subst q;have z:¬(9223372036854775807<((a.size+b.size:Nat):Int)):=by simp[maxLen]at hc;omega
   refine⟨?_,by simpa[leaf]using hc⟩;simp only[binOp,Op.stringOp];have:IntKind.i64.max=9223372036854775807:=rfl;rw[if_neg (by rw[this];omega)];rfl
  ·cases q
 all_goals (subst q;exact⟨by simp[binOp,Op.stringOp],rfl⟩)
end Go.Proofs.YtjodhcdmhobmoaaGreatDoor.Le
namespace Go.Proofs.YtjodhcdmhobmoaaGreatDoor.Le
open Go.RowKit (Below)
def OW:FK->Value->Option Lit
 | .b,.bool b=>some (.bool b)
 | .i k,.int j n=>if j=k/\(Lit.int k n).wf=true then some (.int k n) else none
 | .s,.string s=>if s.size<=maxLen then some (.string s.data.toList) else none
 | _,_=>none
def Et:List FK->List Value->Option (List Lit)
 | [],[]=>some []
 | k::ks,v::vs=>match OW k v,Et ks vs with|some l,some ls=>some (l::ls)|_,_=>none
 | _,_=>none
theorem oK:∀{ks:List FK} {vs:List Value} {ls:List Lit},Et ks vs=some ls->vs.length=ks.length/\ls.length=ks.length
 | [],[],ls,h=>by simp[Et]at h;subst h;simp
 | [],v::vs,ls,h=>by simp[Et]at h
 | k::ks,[],ls,h=>by simp[Et]at h
 | k::ks,v::vs,ls,h=>by
  simp only[Et]at h;split at h
  ·rename_i l ls' z q;simp only[Option.some.injEq]at h;subst h;obtain⟨a,b⟩:=oK q;simp[a,b]
  ·cases h
theorem Z0w:∀{ks q : List FK} {vs:List Value} {ls:List Lit},Et (ks++q) vs=some ls->∃z A,Et ks (vs.take ks.length)=some z/\Et q (vs.drop ks.length)=some A/\ls=z++A
 | [],q,vs,ls,h=>⟨[],ls,by simp[Et],by simpa using h,rfl⟩
 | k::ks,q,[],ls,h=>by simp[Et]at h
 | k::ks,q,v::vs,ls,h=>by
  simp only[List.cons_append,Et]at h;split at h
  ·rename_i l ls' C D;simp only[Option.some.injEq]at h;subst h;obtain⟨z,A,a,b,c⟩:=Z0w D;exact⟨l::z,A,by simp[Et,C,a],by simpa using b,by simp[c]⟩
  ·cases h
theorem Za5 {P:Program} {d:Nat} (I:∀t ks vs ls,Oc P d t=some ks->Et ks vs=some ls->P.keyLits d t vs=some ls) :
  ∀(fs:List Field) (off:Nat) (ks:List FK) (vs:List Value) (ls:List Lit),dU P (Oc P d) off fs=some ks->Et ks (vs.drop off)=some ls ->
   (fs.mapM fun f=>P.keyLits d f.type ((vs.drop f.offset).take (P.cellsOf f.type))).map List.flatten=some ls/\(∀f∈fs,(f.name != "_")=true)
 | [],off,ks,vs,ls,h,q=>by
  simp only[dU,Option.some.injEq]at h;subst h;cases G:vs.drop off with
  | nil=>rw[G]at q;simp[Et]at q;subst q;simp
  | cons a b=>rw[G]at q;simp[Et]at q
 | f::fs,off,ks,vs,ls,h,q=>by
  simp only[dU]at h;split at h
  ·rename_i hc;obtain⟨J,M⟩:=hc;split at h
   ·rename_i k1 C;split at h
    ·rename_i D;split at h
     ·rename_i A z;simp only[Option.some.injEq]at h;subst h;obtain⟨O,Q,a,b,rfl⟩:=Z0w q;rw[List.drop_drop]at b;obtain⟨F,S⟩:=Za5 I fs (off+k1.length) A vs Q z b;have N:=I f.type k1 _ O C a;refine⟨?_,?_⟩
      ·rw[List.mapM_cons];rw[J,D,N];cases hm:fs.mapM fun f=>P.keyLits d f.type ((vs.drop f.offset).take (P.cellsOf f.type)) with
       | none=>simp[hm]at F
       | some ms=>
        simp only[hm,Option.map_some,Option.some.injEq]at F;simp[F]
      ·intro g hg;rcases List.mem_cons.1 hg with rfl|hg
       ·exact M
       ·exact S g hg
     ·cases h
    ·cases h
   ·cases h
  ·cases h
theorem ZaU {P:Program} {d:Nat} {e:TypeId} {ks:List FK} (A:∀vs ls,Et ks vs=some ls->P.keyLits d e vs=some ls) (q:P.cellsOf e=ks.length) :
  ∀(n s:Nat) (vs:List Value) (ls:List Lit),Et (List.replicate n ks).flatten (vs.drop (s*ks.length))=some ls ->
   ((List.range' s n).mapM fun i=>P.keyLits d e ((vs.drop (i*P.cellsOf e)).take (P.cellsOf e))).map List.flatten=some ls
 | 0,s,vs,ls,h=>by
  cases z:vs.drop (s*ks.length) with
  | nil=>rw[z]at h;simp[Et]at h;subst h;simp
  | cons a b=>rw[z]at h;simp[Et]at h
 | n+1,s,vs,ls,h=>by
  rw[List.replicate_succ,List.flatten_cons]at h;obtain⟨D,F,a,b,rfl⟩:=Z0w h;rw[List.drop_drop,<- Nat.succ_mul]at b;have r:=ZaU A q n (s+1) vs F b;have C:=A _ D a;rw[List.range'_succ,List.mapM_cons,q,C];rw[q]at r;cases hm:(List.range' (s+1) n).mapM fun i=>P.keyLits d e ((vs.drop (i*ks.length)).take ks.length) with
  | none=>simp[hm]at r
  | some ms=>
   simp only[hm,Option.map_some,Option.some.injEq]at r;simp[r]
theorem Z3w {P:Program}:∀(d:Nat) (t:TypeId) (ks:List FK) (vs:List Value) (ls:List Lit),Oc P d t=some ks->Et ks vs=some ls->P.keyLits d t vs=some ls
 | 0,t,ks,vs,ls,h,q=>by simp[Oc]at h
 | d+1,t,ks,vs,ls,h,q=>by
  have F:=Z3w (P:=P) d;have A:=oK q;unfold Oc at h;split at h
  ·rename_i z;simp only[Option.some.injEq]at h;subst h
   match vs,q with
   | [v],q=>
    cases v<;>simp[Et,OW]at q;subst q;simp[Program.keyLits,z]
  ·rename_i k z;simp only[Option.some.injEq]at h;subst h
   match vs,q with
   | [v],q=>
    cases v<;>simp[Et,OW]at q;rename_i j n
    by_cases hc:j=k/\(Lit.int k n).wf=true
    ·rw[if_pos hc]at q;simp at q;subst q;simp[Program.keyLits,z,hc.1,hc.2]
    ·rw[if_neg hc]at q;simp at q
  ·rename_i z;simp only[Option.some.injEq]at h;subst h
   match vs,q with
   | [v],q=>
    cases v<;>simp[Et,OW]at q;rename_i s
    by_cases hc:s.size<=maxLen
    ·rw[if_pos hc]at q;simp at q;subst q;simp[Program.keyLits,z,hc]
    ·rw[if_neg hc]at q;simp at q
  ·rename_i n e z;split at h
   ·rename_i k1 C;split at h
    ·rename_i hc;simp only[Option.some.injEq]at h;subst h;have D:vs.length=P.cellsOf t:=by rw[A.1,hc.2];simp
     have r:=ZaU (fun vs ls h=>F e k1 vs ls C h) hc.1 n 0 vs ls (by simpa using q);unfold Program.keyLits;rw[z];simp only[D,if_true,List.range_eq_range'];exact r
    ·cases h
   ·cases h
  ·rename_i fs z;split at h
   ·rename_i k1 C;split at h
    ·rename_i hc;simp only[Option.some.injEq]at h;subst h;have D:vs.length=P.cellsOf t:=by rw[A.1,hc]
     obtain⟨I,J⟩:=Za5 F fs.toList 0 k1 vs ls C (by simpa using q);unfold Program.keyLits;rw[z];simp only[];rw[if_pos ⟨D,by
      rw[Array.all_eq_true_iff_forall_mem];intro f G;exact J f (by simpa using G)⟩]
     exact I
    ·cases h
   ·cases h
  ·cases h
theorem Zr3 (a b:ByteArray):(a==b)=true↔a.data.toList=b.data.toList:=by
 rw[beq_toListBytes,beq_iff_eq,ByteArray.toList_eq,ByteArray.toList_eq]
theorem ZpZ {σ w}:∀{ks:List FK} {xs ys:List V} {Y vy:List Value} {r:Bool},AQ σ w xs Y->AQ σ w ys vy->Ip ks xs ys=some r ->
  ∃z lb,Et ks Y=some z/\Et ks vy=some lb/\(r=true↔z=lb):=by
 intro ks;induction ks with
 | nil=>
  intro xs ys Y vy r I J q;cases xs<;>cases ys<;>simp[Ip]at q;cases I.FH;cases J.FH;exact⟨[],[],rfl,rfl,by simp[q]⟩
 | cons k ks ih=>
  intro xs ys Y vy r I J q;unfold Ip at q;split at q
  ·rename_i A h2 h3;cases h3
  ·rename_i M a xs b ys A;cases A;obtain⟨v1,Q,rfl,N,O⟩:=I.Dw;obtain⟨v2,S,rfl,q1,q2⟩:=J.Dw;cases N with
   | lit _ _=>
   cases q1 with
   | lit _ _=>
   split at q
   ·rename_i r' G;obtain⟨z,lb,C,D,F⟩:=ih O q2 G;simp only[Option.some.injEq]at q;subst q;refine⟨.bool a::z,.bool b::lb,by simp[Et,OW,C],by simp[Et,OW,D],?_⟩;simp[F]
   ·cases q
  ·rename_i k' M k1 a xs k2 b ys A;cases A;obtain⟨v1,Q,rfl,N,O⟩:=I.Dw;obtain⟨v2,S,rfl,q1,q2⟩:=J.Dw;split at q
   ·rename_i hk;obtain⟨rfl,rfl⟩:=hk;cases N with
    | lit l1 _=>
    cases q1 with
    | lit l2 _=>
    split at q
    ·rename_i r' G;obtain⟨z,lb,C,D,F⟩:=ih O q2 G;simp only[Option.some.injEq]at q;subst q;have w1:(Lit.int k2 a).wf=true:=by simpa[leaf]using l1
     have w2:(Lit.int k2 b).wf=true:=by simpa[leaf]using l2
     refine⟨.int k2 a::z,.int k2 b::lb,by simp[Et,OW,C,w1],by simp[Et,OW,D,w2],?_⟩;simp[F]
    ·cases q
   ·cases q
  ·rename_i M a xs b ys A;cases A;obtain⟨v1,Q,rfl,N,O⟩:=I.Dw;obtain⟨v2,S,rfl,q1,q2⟩:=J.Dw;cases N with
   | lit l1 _=>
   cases q1 with
   | lit l2 _=>
   split at q
   ·rename_i r' G;obtain⟨z,lb,C,D,F⟩:=ih O q2 G;simp only[Option.some.injEq]at q;subst q;have w1:a.size<=maxLen:=by simpa[leaf]using l1
    have w2:b.size<=maxLen:=by simpa[leaf]using l2
    refine⟨.string a.data.toList::z,.string b.data.toList::lb,by simp[Et,OW,C,w1],by simp[Et,OW,D,w2],?_⟩;rw[Bool.and_eq_true,Zr3,F];simp
   ·cases q
  ·cases q
theorem Z9Q {E:Env} {P:Program} {σ w} (Q:Cf E) (S:E.P=P) {t:TypeId} {ks:List FK} {xs ys:List V} {F G:List Value} {r:Bool} (hf:E.flat t=some ks) (hx:AQ σ w xs F) (hy:AQ σ w ys G)
  (Y:Ip ks xs ys=some r):(Op.equalIn 10000 t (.agg F.toArray) (.agg G.toArray)).run P w = .ok r w/\P.eqGuardType P.depth t=false:=by
 have q:=Q.flat t ks hf;rw[S]at q;obtain⟨N,lb,J,M,O⟩:=ZpZ hx hy Y;have C:(∃fs,P.underlying t=some (.struct fs))\/∃n e,P.underlying t=some (.array n e):=by
  unfold uD at q;split at q
  ·rename_i fs z;exact .inl ⟨fs,z⟩
  ·rename_i n e z;exact .inr ⟨n,e,z⟩
  ·cases q
 have hk:P.keyTypeAt 20 t=true/\P.eqGuardType P.depth t=false/\Oc P 20 t=some ks:=by
  unfold uD at q;rcases C with ⟨fs,z⟩|⟨n,e,z⟩<;>rw[z]at q<;>simp only[]at q<;>split at q<;>simp_all
 obtain⟨k1,k2,k3⟩:=hk;have l1:=Z3w 20 t ks F N k3 J;have l2:=Z3w 20 t ks G lb k3 M;have A:P.cellsOf t=ks.length:=by
  rcases C with ⟨fs,z⟩|⟨n,e,z⟩<;>unfold Oc at k3<;>rw[z]at k3<;>simp only[]at k3
  ·split at k3
   ·split at k3
    ·rename_i hc;cases k3;exact hc
    ·cases k3
   ·cases k3
  ·split at k3
   ·split at k3
    ·rename_i hc;simp only[Option.some.injEq]at k3;rw[<- k3,hc.2];simp
    ·cases k3
   ·cases k3
 have f1:(Value.agg F.toArray).formed P t=true:=by
  rcases C with ⟨fs,z⟩|⟨n,e,z⟩<;>simp[Value.formed,z,A,(oK J).1]
 have f2:(Value.agg G.toArray).formed P t=true:=by
  rcases C with ⟨fs,z⟩|⟨n,e,z⟩<;>simp[Value.formed,z,A,(oK M).1]
 obtain⟨r',I,D⟩:=run_equalIn_deep (P:=P) 9980 20 t k1 w 20 20 (.agg F.toArray) (.agg G.toArray) N lb f1 f2 (by simpa[Value.cells]using l1) (by simpa[Value.cells]using l2);refine⟨?_,k2⟩;have:r' = r:=by
  rw[Bool.eq_iff_iff,D,O]
 rw[<- this];exact I
end Go.Proofs.YtjodhcdmhobmoaaGreatDoor.Le
namespace Go.Proofs.YtjodhcdmhobmoaaGreatDoor.Le
open Go.RowKit (Below)
theorem un_ok {P:Program} {σ w} {op:UnOp} {x r:V} {v:Value} (q:AQ σ w [x] [v]) (h:iI op x=some r):∃u,(Op.unary op v).run P w = .ok u w/\AQ σ w [r] [u]:=by
 unfold iI at h;split at h
 ·simp only[Option.some.injEq]at h;subst h;cases q with
  | lit z _=>exact⟨_,by simp[Op.unary,Op.intArith],.lit (show (Lit.int _ _).wf=true from wf_wrap _ _) .nil⟩
 ·simp only[Option.some.injEq]at h;subst h;cases q with
  | lit z _=>exact⟨_,by simp[Op.unary,Op.intBits,bits],.lit (show (Lit.int _ _).wf=true from wf_bits _ _ _ _) .nil⟩
 ·simp only[Option.some.injEq]at h;subst h;cases q with
  | lit z _=>exact⟨_,by simp[Op.unary],.lit rfl .nil⟩
 ·cases h
theorem ZDv {E:Env} {P:Program} {σ w} (J:Cf E) (M:E.P=P) {op:BinOp} {t:TypeId} {x y r:V} {vx vy:Value} (ox oy:Operand) (D:AQ σ w [x] [vx]) (F:AQ σ w [y] [vy]) (h:MO E op t x y=some r) :
  ∃u,(eqGuard op t ox oy vx vy).run P w = .ok () w/\(binOp op t vx vy).run P w = .ok u w/\AQ σ w [r] [u]:=by
 unfold MO at h;split at h
 ·rename_i k a j b;cases D with
  | lit G _=>
  cases F with
  | lit I _=>
  cases z:PT .shl k a b with
  | none=>simp[z]at h
  | some q=>
   simp only[z,Option.map_some,Option.some.injEq]at h;subst h;obtain⟨A,C⟩:=ZcR (P:=P) (w:=w) (t:=t) (j:=j) G (.inl rfl) z;exact⟨q,Rn _ _ _ _ _ _ (by simp) (by simp),A,.lit C .nil⟩
 ·rename_i k a j b;cases D with
  | lit G _=>
  cases F with
  | lit I _=>
  cases z:PT .shr k a b with
  | none=>simp[z]at h
  | some q=>
   simp only[z,Option.map_some,Option.some.injEq]at h;subst h;obtain⟨A,C⟩:=ZcR (P:=P) (w:=w) (t:=t) (j:=j) G (.inr rfl) z;exact⟨q,Rn _ _ _ _ _ _ (by simp) (by simp),A,.lit C .nil⟩
 ·rename_i k a j b O Q;split at h
  ·rename_i hk;subst hk;cases D with
   | lit G _=>
   cases F with
   | lit I _=>
   cases z:O3 op k a b with
   | none=>simp[z]at h
   | some q=>
    simp only[z,Option.map_some,Option.some.injEq]at h;subst h;obtain⟨A,C⟩:=ZDC (P:=P) (w:=w) (t:=t) G ⟨O,Q⟩ z;exact⟨q,Rn _ _ _ _ _ _ (by simp) (by simp),A,.lit C .nil⟩
  ·cases h
 ·rename_i a b;cases D with
  | lit G _=>
  cases F with
  | lit I _=>
  cases z:VZ op a b with
  | none=>simp[z]at h
  | some q=>
   simp only[z,Option.map_some,Option.some.injEq]at h;subst h;obtain⟨A,C⟩:=ZEa (P:=P) (w:=w) (t:=t) z;exact⟨q,Rn _ _ _ _ _ _ (by simp) (by simp),A,.lit C .nil⟩
 ·split at h
  ·rename_i hb;have S:P.underlying t=some .bool:=by rw[<- M];exact J.isBool t hb
   simp only[Option.some.injEq]at h;subst h;cases D with
   | lit G _=>
   cases F with
   | lit I _=>
   exact⟨_,Rn _ _ _ _ _ _ (by simp) (by simp),by simp[binOp,run_equal_bool w t _ _ S],.lit rfl .nil⟩
  ·cases h
 ·split at h
  ·rename_i hb;have S:P.underlying t=some .bool:=by rw[<- M];exact J.isBool t hb
   simp only[Option.some.injEq]at h;subst h;cases D with
   | lit G _=>
   cases F with
   | lit I _=>
   exact⟨_,Rn _ _ _ _ _ _ (by simp) (by simp),by simp[binOp,run_equal_bool w t _ _ S],.lit rfl .nil⟩
  ·cases h
 ·rename_i xs ys;split at h
  ·rename_i ks N;cases hc:Ip ks xs ys with
   | none=>simp[hc]at h
   | some q=>
    simp only[hc,Option.map_some,Option.some.injEq]at h;subst h;cases D with
    | agg Y _ _=>
    cases F with
    | agg q1 _ _=>
    obtain⟨A,C⟩:=Z9Q J M N Y q1 hc;exact⟨.bool q,run_eqGuard_agg w _ _ _ _ _ _ C,by rw[run_eql_struct,A];rfl,.lit rfl .nil⟩
  ·cases h
 ·rename_i xs ys;split at h
  ·rename_i ks N;cases hc:Ip ks xs ys with
   | none=>simp[hc]at h
   | some q=>
    simp only[hc,Option.map_some,Option.some.injEq]at h;subst h;cases D with
    | agg Y _ _=>
    cases F with
    | agg q1 _ _=>
    obtain⟨A,C⟩:=Z9Q J M N Y q1 hc;exact⟨.bool (!q),run_eqGuard_agg w _ _ _ _ _ _ C,by rw[run_neq_struct,A];rfl,.lit rfl .nil⟩
  ·cases h
 ·cases h
theorem Zbc {σ w}:∀{xs:List V} {us:List Value} {z:List UInt8},AQ σ w xs us->bytesOf xs=some z->∃A:List Int,us=A.map (Value.int .u8)/\z=A.map fun n=>UInt8.ofNat n.toNat
 | [],us,z,h,hb=>by
  cases h.FH;simp only[bytesOf,Option.some.injEq]at hb;subst hb;exact⟨[],rfl,rfl⟩
 | x::xs,us,z,h,hb=>by
  obtain⟨v,M,rfl,I,J⟩:=h.Dw;simp only[bytesOf]at hb;split at hb
  ·rename_i b D q C;simp only[Option.some.injEq]at hb;subst hb;obtain⟨A,F,G⟩:=Zbc J C;unfold byteOf at q;split at q
   ·rename_i n;simp only[Option.some.injEq]at q;subst q;cases I with
    | lit _ _=>exact⟨n::A,by simp[F],by simp[G]⟩
   ·cases q
  ·cases hb
theorem ZvN (q:List Int) (s:ByteArray):(q.foldl (fun r n=>r.push (UInt8.ofNat n.toNat)) s)=⟨s.data++(q.map fun n=>UInt8.ofNat n.toNat).toArray⟩:=by
 induction q generalizing s with
 | nil=>cases s;simp
 | cons n q z=>
  rw[List.foldl_cons,z];congr 1;apply Array.ext';simp[ByteArray.push]
theorem ZwD {v:Value} (h:leaf v=true):v.cells = #[v]/\v.oneCell' = true:=by
 unfold leaf at h;split at h<;>first|exact⟨rfl,rfl⟩|cases h
theorem Z2f {σ:Sg} {w:World}:∀{cs:List V} {ws:List Value},AQ σ w cs ws->cs.all Ig=true->(∀u∈ws,u.cells = #[u]/\u.oneCell' = true)/\flat ws=ws/\∀x∈cs,Ep x=true:=by
 intro cs;induction cs with
 | nil=>intro ws h _;cases h.FH;exact⟨by simp,rfl,by simp⟩
 | cons c cs I=>
  intro ws h q;obtain⟨v,vs,rfl,A,C⟩:=h.Dw;simp only[List.all_cons,Bool.and_eq_true]at q;obtain⟨D,F,G⟩:=I C q.2;cases A with
  | lit z _=>
   obtain⟨k1,k2⟩:=ZwD z;refine⟨fun u hu=>?_,?_,fun x hx=>?_⟩
   ·rcases List.mem_cons.1 hu with rfl|hu
    ·exact⟨k1,k2⟩
    ·exact D u hu
   ·rw[KL,k1,F];rfl
   ·rcases List.mem_cons.1 hx with rfl|hx
    ·rfl
    ·exact G x hx
  | _=>simp[Ig]at q
theorem Zxw {E B w0 σ H w} {P:Program} (hE:Cf E) (hP:E.P=P) (h:Inv B w0 σ H w) {t e:TypeId} {n sz by' : Nat} {z0:Option V} (hti:E.ti t=some ⟨.array n e,sz,by',z0⟩) {x r:V} {v:Value} {lo hi mx:Option V} {lo' hi' mx' : Option Value} {H' : Heap} (hx:AQ σ w [x] [v])
  (hlo:Jb σ w lo lo') (hhi:Jb σ w hi hi') (hmx:Jb σ w mx mx') (q:OL E H n e x lo hi mx=some (r,H')) :
  ∃u σ',(Instr.sliceAt t v lo' hi' mx').run P w = .ok u w/\Inv B w0 σ' H' w/\Ext σ w σ' w/\AQ σ' w [r] [u]:=by
 unfold OL at q;split at q
 ·rename_i id i off tot m' hm';cases hmx;obtain⟨bd,_,hmn⟩:=Oz (P:=P) (w:=w) (Nat.le_refl n) false hlo hhi hm' (l:=0) rfl;split at q
  ·rename_i b hb;obtain⟨b1,b2,b3⟩:=Uh hb;split at q
   ·rename_i cs hrow hxs;split at q
    ·rename_i hc;obtain⟨rfl,rfl,rfl,Y,G,A⟩:=hc;simp only[Option.some.injEq,Prod.mk.injEq]at q;obtain⟨rfl,rfl⟩:=q;obtain⟨L,us,m⟩:=h.meet b1 b2;cases hx with
     | ptr g k1 k2 k3 k4 k5=>
      rename_i L';have hL:L' = L:=by
       have:=m.box;rw[k1]at this;cases this;rfl
      subst hL;obtain⟨n0,c0,hv⟩:=k3 (m.tot.trans b3);have C:=m.Dh;rw[hxs]at C;obtain⟨ws,hus,D⟩:∃ws:List Value,us=[.agg ws.toArray]/\AQ σ w cs ws:=by
       cases C with
       | agg q1 q2 q3=>cases q3;exact⟨_,rfl,q1⟩
      obtain⟨c1,c2,c3⟩:=Z2f D A;have S:ws.length=cs.length:=D.length.symm;have O:L'.Ar=cs.length:=by
       have:=m.sizes (.agg ws.toArray) (by rw[hus];simp);simp only[Value.cells,List.size_toArray]at this;omega
      have F:flat us=ws:=by rw[hus,NF];rfl
      obtain⟨inf,d,hi',hd,q1,q2,q3,q4⟩:=FD (hE.ti _ _ hti);have hd' : P.underlying t=some (.array cs.length e):=by
       rw[hP]at hd;rw[hd];cases d<;>simp[Kr]at q1;rw[q1.1,q1.2]
      obtain⟨M,hei,hez⟩:∃M,E.ti e=some M/\M.size=1:=by
       unfold Env.size at G;cases hh:E.ti e with
       | none=>simp[hh]at G
       | some M=>exact⟨M,rfl,by simpa[hh]using G⟩
      obtain⟨infe,de,Q,hde,e1,e2,e3,e4⟩:=FD (hE.ti _ _ hei);rw[hP]at Q;obtain⟨hI,N⟩:=h.freeze [id];have htk:=(D.take m').ext N;obtain⟨I,J,c3'⟩:=Z2f htk (List.all_eq_true.2 fun x hx=>List.all_eq_true.1 A x (List.mem_of_mem_take hx));have hml:(cs.take m').length=m' :=by rw[List.length_take];omega
      refine⟨.slice (some ⟨g,0,none⟩) (cs.take m').length cs.length,_,?_,hI,N,?_⟩
      ·rw[k4,hml];simp[Instr.sliceAt,Instr.sureAddr,bd,run_underlying hd',sizeOf,typeInfo,Q,Addr.add_mid]
      ·refine .sl g 0 cs.length 1 htk c3' (fun u z=>by rw[(I u z).1];rfl) (fun u z=>by rw[J]at z;exact(I u z).2) (by omega) Y ?_ .nil;intro j u z;rw[J,List.getElem?_take]at z;split at z
       rotate_left
       ·cases z
       have hj:j<cs.length:=by rw[<- S];exact(List.getElem?_eq_some_iff.1 z).1
       refine⟨.inr ⟨id,b,L',by simp,b1,b2,m.box,by rw[hv];rfl,?_⟩,?_⟩
       ·rw[hxs,O];simpa using hj
       ·rw[Nat.zero_add];exact m.cell (g:=g) (by rw[hv];rfl) j u (by rw[F];exact z)
    ·cases q
   ·cases q
  ·cases q
 ·cases q
theorem ZCl {E σ w} {P:Program} (Y:Cf E) (hP:E.P=P) {t:TypeId} {x r:V} {v:Value} (hx:AQ σ w [x] [v]) (C:Vl E t x=some r):∃u,(Instr.arrayAt t v).run P w = .ok u w/\AQ σ w [r] [u]:=by
 unfold Vl at C;split at C
 ·rename_i n e sz0 by' z0 sz xs J;split at C
  ·rename_i hc;obtain⟨hsz,rfl,hn,A,F⟩:=hc;simp only[Option.some.injEq]at C;subst C;obtain⟨inf,d,hi',N,q1,q2,q3,q4⟩:=FD (Y.ti _ _ J);have I : P.underlying t=some (.array n e):=by
    rw[hP]at N;rw[N];cases d<;>simp[Kr]at q1;rw[q1.1,q1.2]
   cases hx with
   | ET _=>simp at A;omega
   | FU a _=>simp at A;omega
   | sl b o c e' k0 k1 k2 k3 k4 k5 k6 k7=>
    rename_i us;have G:=k0.take n;obtain⟨M,Q,S⟩:=Z2f G F;have D:(us.take n).length=n:=by
     have:=k0.length;rw[List.length_take];omega
    refine⟨.pointer (some ⟨b,o,none⟩),?_,?_⟩
    ·simp[Instr.arrayAt,run_underlying I,Nat.not_lt.2 A]
    ·have key:AQ σ w [.CG n [.agg (xs.take n)] 0 0] [.pointer (some ⟨b,o+0*n+0,none⟩)]:=by
      refine .CG (us:=[.agg (us.take n).toArray]) b o n 0 0 (.agg G (fun u q=>(M u q).2) .nil) ?_ ?_ ?_ ?_ .nil
      ·intro y O;simp only[List.mem_singleton]at O;subst O;have:Bz (xs.take n)=true:=Oq S;simp[Ep,okV,CW,this]
      ·intro u q;simp only[List.mem_singleton]at q;subst q;simpa[Value.cells]using D
      ·intro u q;rw[NF]at q;exact(M u (by simpa[Value.cells]using q)).2
      ·intro j u q;rw[NF]at q;have z : (us.take n)[j]? = some u:=by simpa[Value.cells]using q
       rw[<- Q,bI k2,List.getElem?_take]at z;split at z
       ·exact k6 j u z
       ·cases z
     simpa using key
  ·cases C
 ·cases C
theorem Zz6 {E B w0 σ H w} {P:Program} (S:Cf E) (hP:E.P=P) (h:Inv B w0 σ H w) {k:Nat} (hk0:FO H k=true) {F dst:TypeId} {x r:V} {v:Value} {H' : Heap} (hx:AQ σ w [x] [v]) (N:E.isStr F=true) (G:E.isBytes dst=true) (hc:MI E k H dst x=some (r,H')) :
  ∃u w' σ',(convert F dst v).run P w = .ok u w' /\ Inv B w0 σ' H' w' /\ Ext σ w σ' w' /\ AQ σ' w' [r] [u]:=by
 unfold MI at hc;split at hc
 ·rename_i st e sz by' z0 hti;split at hc
  ·simp only[Option.some.injEq,Prod.mk.injEq]at hc;obtain⟨rfl,rfl⟩:=hc;cases hx with
   | lit hl _=>
    have I:st.size<=maxLen:=by simpa[leaf]using hl
    obtain⟨e',Q,h2⟩:=S.isBytes _ G;have h0:=S.isStr _ N;rw[hP]at h0 Q h2;obtain⟨inf,d,hi,hd,q1,q2,q3,q4⟩:=FD (S.ti _ _ hti);have hee:e' = e:=by
     rw[hP]at hd;rw[Q]at hd;cases hd;have:=q1;simp only[Kr,Ty.slice.injEq]at this;exact this.symm
    subst hee;have M:=run_bytes_of_string (P:=P) w F dst e' st h0 Q h2;have O:∀u∈(st.data.toList.map fun b=>Value.int .u8 b.toNat),u.cells.size=1/\u.oneCell' = true:=by
     intro u A;obtain⟨b,_,rfl⟩:=List.mem_map.1 A;exact⟨rfl,rfl⟩
    have q:flat (st.data.toList.map fun b=>Value.int .u8 b.toNat)=st.data.toList.map fun b=>Value.int .u8 b.toNat:=by
     have:∀l:List Value,(∀u∈l,u.cells = #[u])->flat l=l:=by
      intro l;induction l with
      | nil=>intro _;rfl
      | cons u l ih=>intro hh;rw[KL,hh u (by simp),ih (fun v hv=>hh v (by simp[hv]))];rfl
     refine this _ (fun u A=>?_);obtain⟨b,_,rfl⟩:=List.mem_map.1 A;rfl
    have z:st.data.toList.length=st.size:=Array.length_toList;have hge:=grownCap_ge w st.size 0 e';have Y:(bytesRow st (grownCap w st.size 0 e')).size=grownCap w st.size 0 e' :=by
     simp only[bytesRow,Array.size_append,Array.size_map,Array.size_replicate];have:st.data.size=st.size:=rfl;omega
    have J:F7 (w.drew.alloc (.cells (bytesRow st (grownCap w st.size 0 e')) e' ((bytesRow st (grownCap w st.size 0 e')).size,(bytesRow st (grownCap w st.size 0 e')).size+1))) B e' 1 (.slice (some ⟨w.heap.size,0,none⟩) st.size (grownCap w st.size 0 e')) (bytesV st).length (flat (st.data.toList.map fun b=>Value.int .u8 b.toNat)):=by
     have C:(bytesV st).length=st.size:=by simp only[bytesV,List.length_map];exact z
     rw[C,q];refine⟨by rw[List.length_map,z,Nat.mul_one],.inr ⟨w.heap.size,_,_,_,rfl,h.size,heap_alloc_new w.drew _,.inr (Nat.le_refl _),hge,grownCap_le_maxLen w st.size 0 e' I,by rw[Y,Nat.mul_one],?_⟩⟩;rw[Nat.mul_one];simp only[bytesRow,Array.toList_append,Array.toList_map];rw[List.take_append_of_le_length (by rw[List.length_map,z];exact Nat.le_refl _),List.take_of_length_le (by rw[List.length_map,z];exact Nat.le_refl _)]
    have hgr:w.grownBy (w.drew.alloc (.cells (bytesRow st (grownCap w st.size 0 e')) e' ((bytesRow st (grownCap w st.size 0 e')).size,(bytesRow st (grownCap w st.size 0 e')).size+1))) none:=
     ⟨rfl,rfl,rfl,by simp,fun k hk _=>heap_alloc_old w.drew _ hk⟩
    have D:∀l:List UInt8,AQ σ w (l.map fun c=>V.lit (.int .u8 c.toNat)) (l.map fun b=>Value.int .u8 b.toNat):=by
     intro l;induction l with
     | nil=>exact .nil
     | cons b l ih=>
      refine .lit ?_ ih;have:=b.toNat_lt;simp[leaf,Lit.wf,IntKind.min,IntKind.max,IntKind.signed,IntKind.bits];omega
    obtain⟨σ',g1,g2,g3⟩:=NK (e:=e') (Ar:=1) h hk0 hgr (xs:=bytesV st) (D st.data.toList)
     (fun x hx=>by obtain⟨b,_,rfl⟩:=List.mem_map.1 hx;rfl) (fun u A=>(O u A).1) (fun u A=>by rw[q]at A;exact(O u A).2) J (by simp[Value.ownBlock]) false (by simp)
    have C:(bytesV st).length=st.size:=by simp only[bytesV,List.length_map];exact z
    rw[C]at g3;exact⟨_,_,σ',M,g1,g2,g3⟩
  ·cases hc
 ·cases hc
theorem ZBL {E B w0 σ H w} {P:Program} (F:Cf E) (G:E.P=P) (h:Inv B w0 σ H w) {z dst:TypeId} {x r:V} {v:Value} {H' : Heap} (hx:AQ σ w [x] [v]) (hc:IY E H z dst x=some (r,H')) :
  H' = H/\∃u,(convert z dst v).run P w = .ok u w/\AQ σ w [r] [u]:=by
 unfold IY at hc;split at hc
 ·split at hc
  ·rename_i k hk;split at hc
   ·rename_i N;simp only[Option.some.injEq,Prod.mk.injEq]at hc;obtain⟨rfl,rfl⟩:=hc;have I:P.underlying dst=some (.int k):=by rw[<- G];exact F.kind dst k hk
    cases O:E.ti z with
    | none=>simp[O]at N
    | some i=>
     obtain⟨inf,d,hi,J,_⟩:=FD (F.ti _ _ O);rw[G]at J;cases hx with
     | lit l _=>
      refine⟨rfl,_,?_,.lit (show (Lit.int _ _).wf=true from wf_wrap _ _) .nil⟩;simp[convert,run_underlying J,run_underlying I,Conv.intToInt]
   ·cases hc
  ·cases hc
 ·split at hc
  ·rename_i A;simp only[Bool.and_eq_true]at A;simp only[Option.some.injEq,Prod.mk.injEq]at hc;obtain⟨rfl,rfl⟩:=hc;have h1:P.underlying z=some .string:=by rw[<- G];exact F.isStr _ A.1
   have h2:P.underlying dst=some .string:=by rw[<- G];exact F.isStr _ A.2
   cases hx with
   | lit l _=>
    refine⟨rfl,_,?_,.lit l .nil⟩;simp[convert,run_underlying h1,run_underlying h2]
  ·cases hc
 ·split at hc
  ·rename_i hn1 hn2 A;simp only[Bool.and_eq_true]at A;obtain⟨⟨s1,s2⟩,s3⟩:=A;split at hc
   ·rename_i xs hxs;split at hc
    ·rename_i bs D;split at hc
     ·rename_i M;simp only[Option.some.injEq,Prod.mk.injEq]at hc;obtain⟨rfl,rfl⟩:=hc;obtain⟨us,S⟩:=src_ok h hx hxs s3;obtain⟨ns,e1,e2⟩:=Zbc S.Dh D;have I:P.underlying dst=some .string:=by rw[<- G];exact F.isStr _ s1
      obtain⟨e,Y,Q⟩:=F.isBytes _ s2;rw[G]at Y Q;refine⟨rfl,.string ⟨bs.toArray⟩,?_,.lit (by simpa[leaf,ByteArray.size]using M) .nil⟩;rcases S.val with ⟨hv,hy,hu⟩|⟨b,o,c,hv,hc,C⟩
      ·subst hy;simp only[bytesOf,Option.some.injEq]at D;subst D;rcases hv with rfl|⟨a,k,rfl⟩
       ·rw[run_convert_bytes_string w z dst e _ _ _ Y Q I];rfl
       ·rw[run_convert_bytes_string w z dst e _ _ _ Y Q I];have q:=run_loadCells_list (P:=P) w a [] (fun j v hj=>by simp at hj);rw[run_bytesToString (P:=P) w a 0 k [] (by simpa using q)];rfl
      ·subst hv;rw[run_convert_bytes_string w z dst e _ _ _ Y Q I];have hfl:flat us=us:=by
        rw[e1];clear e1 e2 C;induction ns with
        | nil=>rfl
        | cons n ns ih=>simp[flat,Value.cells]at ih ⊢;exact ih
       have hll:xs.length=us.length:=S.Dh.length;have q:=run_loadCells_list (P:=P) w ⟨b,o,none⟩ us (fun j v hj=>by rw[Addr.add_mid];exact C j v (by rw[hfl];exact hj));rw[run_bytesToString (P:=P) w ⟨b,o,none⟩ xs.length c ns (by rw[hll,q,e1])];rw[ZvN,e2];simp
     ·cases hc
    ·cases hc
   ·cases hc
  ·cases hc
theorem Z4k {P:Program} {σ w} (q:Bool):∀{xs:List V} {vs:List Value} {k:IntKind} {a:Int} {r:V},AQ σ w xs vs->leaf (.int k a)=true->mm q k a xs=some r ->
  ∃u,(vs.foldlM (if q then Builtin.max2 else Builtin.min2) (.int k a)).run P w = .ok u w/\AQ σ w [r] [u]
 | [],vs,k,a,r,h,F,hm=>by
  cases h.FH;simp only[mm,Option.some.injEq]at hm;subst hm;exact⟨_,rfl,.lit F .nil⟩
 | x::xs,vs,k,a,r,h,F,hm=>by
  obtain⟨v,M,rfl,I,D⟩:=h.Dw;unfold mm at hm;split at hm
  ·rename_i A;cases A
  ·rename_i j b G A;cases A;split at hm
   ·rename_i J;subst J;cases I with
    | lit N _=>
    cases q
    ·simp only[Bool.false_eq_true,if_false]at hm ⊢;obtain⟨u,z,C⟩:=Z4k (P:=P) false D (by split<;>assumption) hm;simp only[Bool.false_eq_true,if_false]at z;exact⟨u,by rw[List.foldlM_cons];simp only[Builtin.min2,Sem.run_bind,Sem.run_pure,Result.andThen_ok];exact z,C⟩
    ·simp only[if_true]at hm ⊢;obtain⟨u,z,C⟩:=Z4k (P:=P) true D (by split<;>assumption) hm;simp only[if_true]at z;exact⟨u,by rw[List.foldlM_cons];simp only[Builtin.max2,Sem.run_bind,Sem.run_pure,Result.andThen_ok];exact z,C⟩
   ·cases hm
  ·cases hm
end Go.Proofs.YtjodhcdmhobmoaaGreatDoor.Le
