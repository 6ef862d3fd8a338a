/- A part of it. -/
import Derived.Test.YtjodhcdmhobmoaaGreatDoorWL1
import Derived.Great.FillDense
import Derived.Great.BuildSlice
import Derived.OpenShut
import Derived.DeepKeys
set_option linter.unusedVariables false
set_option linter.unusedSimpArgs false
namespace Go.Proofs.YtjodhcdmhobmoaaGreatDoor.Le
open Go.RowKit (Below)
structure Src (σ:Sg) (w:World) (n:Nat) (ys:List V) (us:List Value) (v:Value):Prop where
 EF:AV σ w ys us
 oks:∀x∈ys,FW x=true
 sizes:∀u∈us,u.cells.size=n
 ones:∀u∈flat us,u.oneCell' = true
 val:((v = .slice none 0 0\/∃a k,v = .slice (some a) 0 k)/\ys=[]/\us=[])\/∃b o c,v = .slice (some ⟨b,o,none⟩) ys.length c/\ys.length<=c/\∀j u,(flat us)[j]? = some u->w.cell? ⟨b,o+j,none⟩=some u
theorem Src.ext {σ w n ys us v σ'} (h:Src σ w n ys us v) (e:Ext σ w σ' w):Src σ' w n ys us v:=⟨h.EF.ext e,h.oks,h.sizes,h.ones,h.val⟩
theorem src_ok {B w0 σ H w} (h:Inv B w0 σ H w) {x:V} {v:Value} {ys:List V} {n:Nat} (J:AV σ w [x] [v]) (q:elemsOf H x=some ys) (A:FD H x n=true) :
  ∃us,Src σ w n ys us v:=by
 unfold elemsOf at q;split at q
 ·simp only[Option.some.injEq]at q;subst q;cases J with
  | Ew _=>exact⟨[],.nil,by simp,by simp,by simp[flat],.inl ⟨.inl rfl,rfl,rfl⟩⟩
  | GL a _=>exact⟨[],.nil,by simp,by simp,by simp[flat],.inl ⟨.inr ⟨a,0,rfl⟩,rfl,rfl⟩⟩
  | sl b o c e k0 k1 k2 k3 k4 k5 k6 k7=>
   simp only[FD,Bool.false_or,beq_iff_eq]at A;subst A;exact⟨_,k0,k1,k2,k3,.inr ⟨b,o,c,rfl,k4,fun j u hu=>(k6 j u hu).2⟩⟩
 ·simp only[Option.some.injEq]at q;subst q;cases J with
  | Gq _=>exact⟨[],.nil,by simp,by simp,by simp[flat],.inl ⟨.inl rfl,rfl,rfl⟩⟩
  | Hf a _=>exact⟨[],.nil,by simp,by simp,by simp[flat],.inl ⟨.inr ⟨a,0,rfl⟩,rfl,rfl⟩⟩
  | DT b o e k0 k1 k2 k3 k4 k5 k6=>
   simp only[FD,Bool.false_or,beq_iff_eq]at A;subst A;exact⟨_,k0,k1,k2,k3,.inr ⟨b,o,_,rfl,Nat.le_refl _,fun j u hu=>(k5 j u hu).2⟩⟩
 ·rename_i id off len tot;split at q
  ·rename_i b hb;split at q
   ·rename_i hc;simp only[Bool.and_eq_true,decide_eq_true_eq]at hc;simp only[Option.some.injEq]at q;subst q;obtain⟨L,us,m,hxl,Y,hs,C⟩:=Oo h J hb;simp only[FD,hb,beq_iff_eq]at A;have I : L.BA=n:=by rw[<- m.BA];exact A
    subst I;have z:((b.xs.drop off).take len).length=len:=by simp;omega
    refine⟨(us.drop off).take len,vM m.EF off len,fun x hx=>m.fz hc.1 x (List.mem_of_mem_drop (List.mem_of_mem_take hx)),eH (sO m.sizes off) len,vK (Z3F m.ones off) len,?_⟩;rcases C with ⟨N,D,ho,hl,ht⟩|⟨g,cap,k,N,D,Q,S,O,F⟩
    ·simp_all
    ·right;refine⟨g,k*L.BA,cap - off,by rw[z];exact D,by rw[z];omega,?_⟩;intro j u hu;rw[Z3s m.sizes]at hu;have M:j<len*L.BA:=by
      have:=(List.getElem?_eq_some_iff.1 hu).1;simp at this;omega
     rw[List.getElem?_take,if_pos M,List.getElem?_drop]at hu;have G:0<len:=by
      cases len with
      | zero=>simp at M
      | succ n=>omega
     have hk:k=off:=F (by omega);subst hk;exact m.cell (g:=g) (by rw[N];rfl) _ _ hu
   ·cases q
  ·cases q
 ·simp[FD]at A
 ·cases q
theorem Yy {P:Program} (w:World) (t ty e:TypeId) (i:TypeInfo) (A:P.underlying t=some (.slice e)) (q:P.info? e=some i) (a:Option Addr) (n c:Nat) (z:n<=c) (x:Value) (C:x = .slice none 0 0\/∃b k,x = .slice (some b) 0 k) :
  (Builtin.append_ #[t,t] ty #[.slice a n c,x]).run P w = .ok (.slice a n c) w:=by
 rcases C with rfl|⟨b,k,rfl⟩
 ·cases a<;>simp[Builtin.append_,run_underlying A,sizeOf,typeInfo,q,Builtin.lenOf,Builtin.firstCells,loadCells,z,storeCells]
 ·cases a<;>simp[Builtin.append_,run_underlying A,sizeOf,typeInfo,q,Builtin.lenOf,Builtin.firstCells,loadCells,loadCellsFrom,z,storeCells]
theorem oI {P:Program} (w:World) (base:Nat) (t ty e:TypeId) (i:TypeInfo) (z:Value) (size:Nat) (ht:P.underlying t=some (.slice e)) (hi:P.info? e=some i) (hz:i.zero=some z)
  (S:i.size=size) (hzs:z.cells.size=size)
  (v:Value) (n:Nat) (xs:List Value) (A:GZ w base e size v n xs)
  (a:Addr) (m c:Nat) (q:List Value) (hl:q.length=m*size) (D:∀j u,q[j]? = some u->w.cell? (a.add j)=some u) (h1:∀u∈q,u.oneCell' = true) (hm:0<m)
  (h63:n+m<=maxLen) (I:(n+m)*i.bytes<=140737488355328) (M:base<=w.heap.size) :
  ∃v' w',(Builtin.append_ #[t,t] ty #[v,.slice (some a) m c]).run P w = .ok v' w' /\ GZ w' base e size v' (n+m) (xs++q)/\w.grownBy w' v.ownBlock /\
   v' ≠.slice none 0 0/\(∀g,v'.ownBlock=some g->v.ownBlock=some g\/w.heap.size<=g) /\
   (∀g j,v.ownBlock=some g->j<n*size->w'.cell? ⟨g,j,none⟩=w.cell? ⟨g,j,none⟩):=by
 subst S;have hsmall:n+m<=9223372036854775807:=by simp only[maxLen]at h63;omega
 have J:(xs++q).length=(n+m)*i.size:=by rw[List.length_append,A.1,hl,Nat.add_mul]
 have grown:∀(old:Nat),old<n+m->∀(row:Option Nat),
   GZ (w.drew.alloc (.cells (xs.toArray++q.toArray++Builtin.zeroCells z.cells (grownCap w (n+m) old e - (n+m))) e)) base e i.size
    (.slice (some ⟨w.heap.size,0,none⟩) (n+m) (grownCap w (n+m) old e)) (n+m) (xs++q) /\
   w.grownBy (w.drew.alloc (.cells (xs.toArray++q.toArray++Builtin.zeroCells z.cells (grownCap w (n+m) old e - (n+m))) e)) row:=by
  intro old ho row;have hge:=grownCap_ge w (n+m) old e;have N:grownCap w (n+m) old e<=maxLen:=grownCap_le_maxLen w (n+m) old e h63;refine⟨⟨J,.inr ⟨w.heap.size,_,_,(0,0),rfl,M,heap_alloc_new w.drew _,.inl rfl,hge,N,?_,?_⟩⟩,⟨rfl,rfl,rfl,by simp,fun k hk _=>heap_alloc_old w.drew _ hk⟩⟩
  ·simp only[Array.size_append,List.size_toArray,size_zeroCells,hzs,A.1,hl,<- Nat.add_mul];congr 1;omega
  ·grind
 have hnew:∀g n c,(Value.slice (some ⟨w.heap.size,0,none⟩) n c).ownBlock=some g->w.heap.size<=g:=by
  intro g n c Y;simp[Value.ownBlock]at Y;omega
 rcases A.2 with ⟨rfl,rfl⟩|⟨g,cap,G,tg,rfl,hbg,Y,htg,hnc,N,hcs,htake⟩
 ·have hx:xs=[]:=List.eq_nil_of_length_eq_zero (by simpa using A.1);subst hx;have hr:=run_append_nil (P:=P) w t ty e i z ht hi hz a m c q hl D hm (by omega) (by grind);have O:=grown 0 (by omega) (Value.ownBlock (.slice none 0 0))
  grind
 ·by_cases F:n+m<=cap
  ·have hfit:n*i.size+q.length<=G.size:=by rw[hl,hcs,<- Nat.add_mul];exact Nat.mul_le_mul_right _ F
   have hr:=Z7i (P:=P) (w:=w) t ty e i ht hi g n cap G tg Y htg a m c q hl D h1 F hfit;refine⟨_,_,hr,⟨J,.inr ⟨g,cap,_,tg,rfl,hbg,setRow_heap w g G _ e _ Y,?_,F,N,?_,?_⟩⟩,⟨rfl,rfl,rfl,by simp,fun k _ hk=>setRow_other w g k _ (fun e=>hk (by simp[Value.ownBlock,e]))⟩,by simp,fun g' C =>.inl C,?_⟩
   ·grind
   ·grind
   ·grind
   ·intro g' j C hj;simp only[Value.ownBlock,Option.some.injEq]at C;subst C;rw[cell_setRow_same w g j G _ e tg Y,cell_of_row w g j G e tg Y]
    grind
  ·have Q:∀j u,xs[j]? = some u->w.cell? ((⟨g,0,none⟩:Addr).add j)=some u:=A.cells (g:=g) rfl;have hr:=run_append_grow (P:=P) w t ty e i z ht hi hz ⟨g,0,none⟩ n cap xs A.1 Q a m c q hl D (by omega) (by omega) (growslice_fits (by omega) I);have O:=grown cap (by omega) (Value.ownBlock (.slice (some ⟨g,0,none⟩) n cap));refine⟨_,_,hr,O.1,O.2,by simp,fun g' C =>.inr (hnew g' _ _ C),?_⟩;intro g' j C hj;simp only[Value.ownBlock,Option.some.injEq]at C;subst C;exact World.cell?_of_block (heap_alloc_old w.drew _ (by simpa using (GZ.lt A g rfl).2))
theorem Oi {d:TypeDesc} {e:Nat} (h:Ty.slice e=Lr d):d = .slice e:=by
 cases d<;>simp[Lr]at h;rw[h]
theorem Z11 {α:Type} (l:List α) (i:Nat) (x:α) (h:l[i]? = some x):l.set i x=l:=by
 apply List.ext_getElem?
 grind
theorem ownBlock_ne {v:Value} {B e size n xs} {w:World} (h:GZ w B e size v n xs) (q:v≠.slice none 0 0):∃g cap,v = .slice (some ⟨g,0,none⟩) n cap:=by
 rcases h.2 with ⟨z,_⟩|⟨g,cap,A,C,z,_⟩
 ·exact absurd z q
 simp_all
theorem OJ {B w0 σ H w w'} (h:Inv B w0 σ H w) {k:Nat} (D:GH H k=true) (S:w.grownBy w' none) {xs:List V} {us:List Value} {e BA:Nat} {v' : Value} (hr:AV σ w xs us) (hk:∀x∈xs,FW x=true)
  (hs:∀u∈us,u.cells.size=BA) (Y:∀u∈flat us,u.oneCell' = true) (q:GZ w' B e BA v' xs.length (flat us)) (z:∀g,v'.ownBlock=some g->w.heap.size<=g) (I:Bool) (G:I=true->v' = .slice none 0 0) :
  ∃σ',Inv B w0 σ' (place H k (CJ true I e BA xs)) w' /\ Ext σ w σ' w' /\ AV σ' w' [.Bl k 0 xs.length xs.length] [v']:=by
 obtain⟨O,Q⟩:=h.push S D (CJ true I e BA xs) rfl ⟨v',xs.length,BA⟩ (by simp[CJ]) z (fun N=>⟨rfl,⟨us,hr.ext N,hs,Y,by simpa[CJ]using q⟩,by simpa[CJ]using G,rfl,Z3Y hk,fun _ x hx=>Rk (hk x hx)⟩);have C:∃a n c,v' = .slice a n c/\n=xs.length/\n<=c:=by
  rcases q.2 with ⟨A,J⟩|⟨g,cap,M,tg,A,_,_,_,F,_⟩
  ·grind
  ·grind
 obtain⟨a,n,c,A,J,F⟩:=C;refine⟨_,O,Q,.Bl (L:=⟨v',xs.length,BA⟩) (by simp[Sg.put]) (Nat.le_refl _) (fun _=>⟨by omega,a,n,c,0,A,?_,Nat.zero_le _,Nat.le_refl _,fun _=>rfl⟩) ⟨a,n,c,A⟩ .nil⟩;subst J;rw[A];cases a with
 | none=>simp
 | some a=>simp[Addr.add]
theorem ZsL {B w0 σ H w} {P:Program} (h:Inv B w0 σ H w) {u e:TypeId} (ty:TypeId) {q:TypeInfo} {id len tot:Nat} {sv xv:Value} {b:Box} {ys:List V} {us:List Value}
  (hd' : P.underlying u=some (.slice e)) (hie:P.info? e=some q) (hs:AV σ w [.Bl id 0 len tot] [sv]) (hb:Dt H id tot=some b) (c1:b.row=true) (c2:b.elem=e) (c4:b.BA=q.size) (c6:b.floor<=len) (c7:len<tot)
  (c8:len+ys.length<=tot) (src:AV σ w ys us) (soks:∀y∈ys,FW y=true) (ssz:∀y∈us,y.cells.size=q.size) (M:∀v∈flat us,v.oneCell' = true)
  (hsrc:(ys=[]/\us=[]/\(xv = .slice none 0 0\/∃b k,xv = .slice (some b) 0 k))\/(0<ys.length/\∃a c,xv = .slice (some a) ys.length c/\∀j u,(flat us)[j]? = some u->w.cell? (a.add j)=some u)) :
  ∃v' w' σ',(Builtin.append_ #[u,u] ty #[sv,xv]).run P w = .ok v' w' /\ Inv B w0 σ' (H.set id { b with xs:=b.xs.take len++ys++b.xs.drop (len+ys.length) }) w' /\ Ext σ w σ' w' /\ AV σ' w' [.Bl id 0 (len+ys.length) tot] [v']:=by
 obtain⟨L,vs,m,F,hol,hsub,hview⟩:=Oo h hs hb;have D:L.BA=q.size:=by rw[<- m.BA];exact c4
 have S:us.length=ys.length:=src.length.symm;rcases hview with ⟨hv,hvv,ho,hl,ht⟩|⟨g,cap,k,hv,hvv,hle,hmx,hk1,hk2⟩
 ·omega
 have hk0:k=0:=by omega
 subst hk0;have hsv:sv = .slice (some ⟨g,0,none⟩) len cap:=by rw[hvv];simp
 rcases hsrc with ⟨hy,hu,hxv⟩|⟨hm,a',c',hxv,hcell⟩
 ·subst hy;refine⟨sv,w,σ,?_,?_,Ext.refl σ w,by simpa using hs⟩
  ·rw[hsv];exact Yy w u ty e q hd' hie _ len cap (by omega) xv hxv
  ·have:H.set id { b with xs:=b.xs.take len++[]++b.xs.drop (len+([]:List V).length) }=H:=by
    apply Z11;rw[m.hb];cases b;simp
   rw[this];exact h
 rcases m.shape with ⟨hn,_,_⟩|⟨g',cap',z,tg,Q,hB,hh,htg,hn,hm',hcs,ht⟩
 ·rw[hn]at hv;cases hv
 rw[Q]at hv;simp only[Value.slice.injEq,Option.some.injEq,Addr.mk.injEq,and_true]at hv;obtain⟨hgg,_,N⟩:=hv;have hgg:=hgg.symm;subst hgg;have N:=N.symm;subst N;have hTl:(flat us).length=ys.length*q.size:=by rw[flat_length ssz,S]
 have hmul:len*q.size+ys.length*q.size<=tot*q.size:=by rw[<- Nat.add_mul];exact Nat.mul_le_mul_right _ c8
 have hcapm:tot*q.size<=cap*q.size:=Nat.mul_le_mul_right _ hle;have hcs' : z.size=cap*q.size:=by rw[hcs,D]
 have hrun:=Z7i (P:=P) (w:=w) u ty e q hd' hie g len cap z tg (by rw[<- c2];exact hh) htg a' ys.length c' (flat us) hTl hcell M (by omega) (by rw[hTl];omega);have hlv:vs.length=tot:=by rw[m.len,F]
 have hFl:(flat vs).length=tot*q.size:=by rw[flat_length m.sizes,hlv,D]
 have G:z.toList=flat vs++z.toList.drop (tot*q.size):=by
  rw[<- D,<- ht,F,List.take_append_drop]
 have Y:flat (vs.take len++us++vs.drop (len+ys.length))=(flat vs).take (len*q.size)++flat us++(flat vs).drop ((len+ys.length)*q.size):=by
  rw[Og,Og,iG m.sizes,Z3g m.sizes,D]
 have C:z.toList.take (len*q.size)++flat us++z.toList.drop (len*q.size+(flat us).length)=flat (vs.take len++us++vs.drop (len+ys.length))++z.toList.drop (tot*q.size):=by
  rw[Y,hTl,<- Nat.add_mul];have e1:z.toList.take (len*q.size)=(flat vs).take (len*q.size):=by
   conv=>lhs;rw[G]
   rw[List.take_append_of_le_length (by rw[hFl];omega)]
  have e2:z.toList.drop ((len+ys.length)*q.size)=(flat vs).drop ((len+ys.length)*q.size)++z.toList.drop (tot*q.size):=by
   conv=>lhs;rw[G]
   rw[List.drop_append_of_le_length (by rw[hFl,Nat.add_mul];omega)]
  grind
 rw[C]at hrun;have A : ∀x∈vs.take len++us++vs.drop (len+ys.length),x.cells.size=L.BA:=by
  intro x hx;rcases List.mem_append.1 hx with hx|hx
  ·rcases List.mem_append.1 hx with hx|hx
   ·exact m.sizes x (List.mem_of_mem_take hx)
   ·rw[ssz x hx,D]
  ·exact m.sizes x (List.mem_of_mem_drop hx)
 have hlenN:(vs.take len++us++vs.drop (len+ys.length)).length=tot:=by
  simp only[List.length_append,List.length_take,List.length_drop,S,hlv];omega
 have J:(b.xs.take len++ys++b.xs.drop (len+ys.length)).length=tot:=by
  simp only[List.length_append,List.length_take,List.length_drop,F];omega
 have hlen' : (flat (vs.take len++us++vs.drop (len+ys.length))).length=tot*L.BA:=by
  rw[flat_length A,hlenN]
 have I:=setRow_heap w g z (flat (vs.take len++us++vs.drop (len+ys.length))++z.toList.drop (tot*q.size)).toArray b.elem tg hh;have hown:L.v.ownBlock=some g:=by rw[Q];rfl
 have hgb:w.grownBy (w.setRow g (flat (vs.take len++us++vs.drop (len+ys.length))++z.toList.drop (tot*q.size)).toArray) L.v.ownBlock:=
  ⟨rfl,rfl,rfl,by simp,fun k _ hk=>setRow_other w g k _ (fun e=>hk (by rw[hown,e]))⟩
 have hmulE:tot*q.size<=cap*q.size:=hcapm;obtain⟨h1,h2⟩:=h.upd m.hb m.live m.box hgb { b with xs:=b.xs.take len++ys++b.xs.drop (len+ys.length) } m.live L rfl (.inl rfl) rfl (by grind) (fun g' O =>.inl O)
  (fun g' c' O hc' =>by
   rw[hown]at O;cases O;have hfl:b.floor*L.BA<=len*L.BA:=Nat.mul_le_mul_right _ c6;have hc2:c' < len*q.size:=by rw[<- D];omega
   have N:c' < z.size:=by rw[hcs'];omega
   unfold World.cell?;simp only[I,hh];have:(flat (vs.take len++us++vs.drop (len+ys.length))++z.toList.drop (tot*q.size)).toArray[c']? = z[c']?:=by
    rw[<- C];simp only[List.getElem?_toArray];rw[List.append_assoc,List.getElem?_append_left (by simp only[List.length_take,Array.length_toList];omega),List.getElem?_take,if_pos hc2];simp
   rw[this]) (fun ex=>by
   refine⟨by simp only[J];rw[m.tot,F],⟨vs.take len++us++vs.drop (len+ys.length),(((m.EF.ext ex).take len).append (src.ext ex)).append ((m.EF.ext ex).drop (len+ys.length)),A,?_,?_⟩,m.Ey,m.BA,?_,fun hrow=>?_⟩
   ·intro v hv2;rw[Y]at hv2;rcases List.mem_append.1 hv2 with hv2|hv2
    ·rcases List.mem_append.1 hv2 with hv2|hv2
     ·exact m.ones v (List.mem_of_mem_take hv2)
     ·exact M v hv2
    ·exact m.ones v (List.mem_of_mem_drop hv2)
   ·simp only[J];refine⟨hlen',.inr ⟨g,cap,_,tg,by rw[Q,F],hB,I,?_,by omega,hm',?_,?_⟩⟩
    ·grind
    ·grind
    grind
   ·intro y hy;rcases List.mem_append.1 hy with hy|hy
    ·rcases List.mem_append.1 hy with hy|hy
     ·exact m.oks y (List.mem_of_mem_take hy)
     ·exact wU (soks y hy)
    ·exact m.oks y (List.mem_of_mem_drop hy)
   ·intro y hy;rcases List.mem_append.1 hy with hy|hy
    ·rcases List.mem_append.1 hy with hy|hy
     ·exact m.I5 hrow y (List.mem_of_mem_take hy)
     ·exact Rk (soks y hy)
    ·exact m.I5 hrow y (List.mem_of_mem_drop hy))
 refine⟨_,_,_,by rw[hsv,hxv];exact hrun,h1,h2,?_⟩;refine .Bl (L:=L) (by simp[Sg.put]) (by rw[m.tot,F];exact Nat.le_refl _) (fun _=>⟨by omega,_,_,_,0,Q,by simp[Addr.add],Nat.zero_le _,Nat.le_refl _,fun _=>rfl⟩) ⟨_,_,_,rfl⟩ .nil
theorem ZCw {E B w0 σ H w} {P:Program} (hE:DV E) (hP:E.P=P) (h:Inv B w0 σ H w) {k:Nat} (hk0:GH H k=true) {t u:TypeId} (ty:TypeId) {s x r:V} {sv xv:Value} {H' : Heap}
  (hs:AV σ w [s] [sv]) (hx:AV σ w [x] [xv]) (G:NL E k H t u s x=some (r,H')) :
  ∃v' w' σ',(Builtin.append_ #[t,u] ty #[sv,xv]).run P w = .ok v' w' /\ Inv B w0 σ' H' w' /\ Ext σ w σ' w' /\ AV σ' w' [r] [v']:=by
 unfold NL at G;split at G
 ·rename_i e sz by' z0 hti;split at G
  ·rename_i N ys hei hut hys;have hut' : u=t:=by simpa using hut
   subst hut';obtain⟨inf,d,hi,hd,q1,q2,q3,q4⟩:=Fg (hE.ti _ _ hti);have Q : P.underlying u=some (.slice e):=by rw[hP]at hd;rw[hd,Oi q1]
   obtain⟨C,de,O,hde,e1,e2,e3,e4⟩:=Fg (hE.ti _ _ hei);rw[hP]at O;split at G
   ·rename_i hcond;simp only[Bool.and_eq_true,decide_eq_true_eq]at hcond;obtain⟨⟨hpos,hesz⟩,hzok⟩:=hcond;obtain⟨us,q⟩:=src_ok h hx hys hesz;have hsz:C.size=N.size:=e2.symm;obtain⟨zv,hzv,hzs⟩:∃zv,C.zero=some zv/\zv.cells.size=N.size:=by
     unfold TI.VM at hzok;cases hz:N.zero with
     | none=>simp[hz]at hzok
     | some z=>
      rw[hz]at e4 hzok;cases hzz:C.zero with
      | none=>simp[hzz]at e4
      | some zv=>
       simp only[hzz,Option.map_some,Option.some.injEq]at e4;simp only[Bool.and_eq_true,beq_iff_eq]at hzok;refine⟨zv,rfl,?_⟩;have:=(bY σ w zv).Ro (by rw[<- e4];exact hzok.1);rw[<- this,<- e4];exact hzok.2
    have D:(flat us).length=ys.length*N.size:=by rw[flat_length q.sizes,q.EF.length]
    have M:(ys=[]/\us=[]/\(xv = .slice none 0 0\/∃b k,xv = .slice (some b) 0 k))\/(0<ys.length/\∃a c,xv = .slice (some a) ys.length c/\∀j u,(flat us)[j]? = some u->w.cell? (a.add j)=some u):=by
     rcases q.val with ⟨hv,hy,hu⟩|⟨b,o,c,hv,hc,A⟩
     ·simp_all
     ·cases hy:ys with
      | nil=>
       left;subst hy;exact⟨rfl,q.EF.Fj,.inr ⟨_,_,hv⟩⟩
      | cons y yl=>
       right;refine⟨by simp,⟨b,o,none⟩,c,by rw[<- hy];exact hv,fun j u hj=>by rw[Addr.add_mid];exact A j u hj⟩
    split at G
    ·rename_i id off len tot;split at G
     ·rename_i b hb;split at G
      ·rename_i hc;simp only[Bool.and_eq_true,beq_iff_eq,decide_eq_true_eq]at hc;obtain⟨⟨⟨⟨c1,c2⟩,c3⟩,c4⟩,c5⟩:=hc;subst c3;subst c4;split at G
       ·rename_i I;simp only[Bool.and_eq_true,decide_eq_true_eq]at I;obtain⟨l1,l2⟩:=I;simp only[Option.some.injEq,Prod.mk.injEq]at G;obtain⟨rfl,rfl⟩:=G;obtain⟨L,vs,m,hxl,hol,hsub,hview⟩:=Oo h hs hb;have hLe:L.BA=N.size:=by rw[<- m.BA];exact c5
        have hsv:sv=L.v/\∃a n c,L.v = .slice a n c/\n<=c:=by
         rcases hview with ⟨hv,hvv,ho,hl,ht⟩|⟨g,cap,k,hv,hvv,hle,hmx,hk1,hk2⟩
         ·exact⟨hvv.trans hv.symm,_,_,_,hv,Nat.le_refl _⟩
         ·have:k=0:=by omega
          subst this;refine⟨?_,_,_,_,hv,hle⟩;rw[hvv,hv];simp
        obtain⟨hsv,a,n,c,hLv,hnc⟩:=hsv;rcases M with ⟨hy,hu,J⟩|⟨hm,a',c',J,A⟩
        ·subst hy;refine⟨sv,w,σ,?_,?_,Ext.refl σ w,by simpa using hs⟩
         ·rw[hsv,hLv];exact Yy w u ty e C Q O a n c hnc xv J
         ·have:H.set id { b with xs:=b.xs++[],Ey:=b.Ey&&List.isEmpty ([]:List V) }=H:=by
           apply Z11;rw[m.hb];cases b;simp
          simp_all
        ·have Y:=m.own;rw[hLe,c2]at Y;rw[hxl]at Y;obtain⟨v',w',hrun,F,hgr,hne,S,hkeep⟩:=oI (P:=P) w B u ty e C zv N.size Q O hzv hsz hzs L.v len (flat vs) Y a' ys.length c' (flat us) D A q.ones hm l2
          (by rw[<- e3];exact l1) h.size
         obtain⟨h1,h2⟩:=h.upd m.hb m.live m.box hgr { b with xs:=b.xs++ys,Ey:=b.Ey&&ys.isEmpty } m.live ⟨v',len+ys.length,L.BA⟩ rfl (.inr (by simp only[m.tot,hxl];omega)) rfl (by simp)
          S (fun g c0 hg hc0=>hkeep g c0 hg (by
           rw[<- hLe,<- hxl];exact Nat.lt_of_lt_of_le hc0 (Nat.mul_le_mul_right _ (h.low id b m.hb m.live)))) (fun ex=>by
           refine⟨by simp[hxl],⟨vs++us,(m.EF.ext ex).append (q.EF.ext ex),?_,?_,?_⟩,?_,m.BA,?_,fun hrow=>?_⟩
           ·intro y hy;rcases List.mem_append.1 hy with hy|hy
            ·exact m.sizes y hy
            ·rw[q.sizes y hy,hLe]
           ·intro y hy;rw[Og]at hy;rcases List.mem_append.1 hy with hy|hy
            ·exact m.ones y hy
            ·exact q.ones y hy
           ·rw[Og]
            simp_all
           ·grind
           ·intro y hy;rcases List.mem_append.1 hy with hy|hy
            ·exact m.oks y hy
            ·exact wU (q.oks y hy)
           ·intro y hy;rcases List.mem_append.1 hy with hy|hy
            ·exact m.I5 hrow y hy
            ·exact Rk (q.oks y hy))
         obtain⟨g,cap,hv'⟩:=ownBlock_ne F hne;refine⟨v',w',_,by simp_all,h1,h2,.Bl (L:=⟨v',len+ys.length,L.BA⟩) (by simp[Sg.put]) (Nat.le_refl _) (fun _=>⟨by omega,_,_,_,0,hv',?_,Nat.zero_le _,Nat.le_refl _,fun _=>rfl⟩) ⟨_,_,_,hv'⟩ .nil⟩;rw[hv'];simp[Addr.add]
       ·cases G
      ·split at G
       ·rename_i hc;simp only[Bool.and_eq_true,beq_iff_eq,decide_eq_true_eq]at hc;obtain⟨⟨⟨⟨⟨⟨c1,c2⟩,c3⟩,c4⟩,c6⟩,c7⟩,c8⟩:=hc;subst c3;simp only[Option.some.injEq,Prod.mk.injEq]at G;obtain⟨rfl,rfl⟩:=G;exact ZsL h ty Q O hs hb c1 c2 (by rw[c4,hsz]) c6 c7 c8 q.EF q.oks (fun y hy=>by rw[q.sizes y hy,hsz]) q.ones M
       ·cases G
     ·cases G
    ·
     split at G
     ·rename_i I;simp only[Bool.and_eq_true,decide_eq_true_eq]at I;obtain⟨l1,l2⟩:=I;simp only[Option.some.injEq,Prod.mk.injEq]at G;obtain⟨rfl,rfl⟩:=G;have hsv:sv = .slice none 0 0:=by cases hs<;>rfl
      subst hsv;rcases M with ⟨hy,hu,J⟩|⟨hm,a',c',J,A⟩
      ·subst hy;subst hu;obtain⟨σ',h1,h2,h3⟩:=OJ (e:=e) (BA:=N.size) h hk0 (grownBy_refl w none) (xs:=[]) (us:=[]) .nil (by simp) (by simp) (by simp[flat]) (Wx w B e N.size) (by simp[Value.ownBlock]) false (by simp);exact⟨_,w,σ',Yy w u ty e C Q O none 0 0 (Nat.le_refl _) xv J,h1,h2,h3⟩
      ·obtain⟨v',w',hrun,F,hgr,hne,S,hkeep⟩:=oI (P:=P) w B u ty e C zv N.size Q O hzv hsz hzs (.slice none 0 0) 0 [] (Wx w B e N.size) a' ys.length c' (flat us) D A q.ones hm (by simpa using l2)
        (by rw[<- e3];simpa[lim]using l1) h.size
       simp only[Nat.zero_add,List.nil_append]at F;obtain⟨σ',h1,h2,h3⟩:=OJ (e:=e) (BA:=N.size) h hk0 hgr q.EF q.oks q.sizes q.ones F (fun g hg=>by
        rcases S g hg with hh|hh
        ·simp[Value.ownBlock]at hh
        ·exact hh) false (by simp)
       grind
     ·cases G
    ·
     split at G
     ·rename_i I;simp only[Bool.and_eq_true,decide_eq_true_eq]at I;obtain⟨l1,l2⟩:=I;simp only[Option.some.injEq,Prod.mk.injEq]at G;obtain⟨rfl,rfl⟩:=G;have hsv:sv = .slice none 0 0:=by cases hs<;>rfl
      subst hsv;rcases M with ⟨hy,hu,J⟩|⟨hm,a',c',J,A⟩
      ·subst hy;subst hu;obtain⟨σ',h1,h2,h3⟩:=OJ (e:=e) (BA:=N.size) h hk0 (grownBy_refl w none) (xs:=[]) (us:=[]) .nil (by simp) (by simp) (by simp[flat]) (Wx w B e N.size) (by simp[Value.ownBlock]) false (by simp);exact⟨_,w,σ',Yy w u ty e C Q O none 0 0 (Nat.le_refl _) xv J,h1,h2,h3⟩
      ·obtain⟨v',w',hrun,F,hgr,hne,S,hkeep⟩:=oI (P:=P) w B u ty e C zv N.size Q O hzv hsz hzs (.slice none 0 0) 0 [] (Wx w B e N.size) a' ys.length c' (flat us) D A q.ones hm (by simpa using l2)
        (by rw[<- e3];simpa[lim]using l1) h.size
       simp only[Nat.zero_add,List.nil_append]at F;obtain⟨σ',h1,h2,h3⟩:=OJ (e:=e) (BA:=N.size) h hk0 hgr q.EF q.oks q.sizes q.ones F (fun g hg=>by
        rcases S g hg with hh|hh
        ·simp[Value.ownBlock]at hh
        ·exact hh) false (by simp)
       grind
     ·cases G
    ·
     rename_i es xs;split at G
     ·rename_i I;simp only[Bool.and_eq_true,decide_eq_true_eq,beq_iff_eq]at I;obtain⟨⟨l0,l1⟩,l2⟩:=I
      by_cases l3:ys.isEmpty=true
      ·rw[if_pos l3]at G;simp only[Option.some.injEq,Prod.mk.injEq]at G;obtain⟨rfl,rfl⟩:=G;have hxz:xv = .slice none 0 0\/∃b k,xv = .slice (some b) 0 k:=by
        rcases M with ⟨hy,hu,J⟩|⟨hm,a',c',J,A⟩
        ·exact J
        ·cases ys with
         | nil=>simp at hm
         | cons y ys=>simp at l3
       have hsv:∃a n,sv = .slice a n n:=by
        cases hs with
        | Gq _=>exact⟨_,_,rfl⟩
        | Hf a _=>exact⟨_,_,rfl⟩
        | DT b o _ k0 k1 k2 k3 k4 k5 _=>exact⟨_,_,rfl⟩
       obtain⟨sa,sn,rfl⟩:=hsv;exact⟨_,w,σ,Yy w u ty e C Q O sa sn sn (Nat.le_refl _) xv hxz,h,Ext.refl σ w,hs⟩
      rw[if_neg l3]at G;simp only[Option.some.injEq,Prod.mk.injEq]at G;obtain⟨rfl,rfl⟩:=G;cases hs with
      | Gq _=>
       rcases M with ⟨hy,hu,J⟩|⟨hm,a',c',J,A⟩
       ·subst hy;simp at l3
       ·obtain⟨v',w',hrun,F,hgr,hne,S,hkeep⟩:=oI (P:=P) w B u ty e C zv N.size Q O hzv hsz hzs (.slice none 0 0) 0 [] (Wx w B e N.size) a' ys.length c' (flat us) D A q.ones hm (by simpa using l2)
         (by rw[<- e3];simpa[lim]using l1) h.size
        simp only[Nat.zero_add,List.nil_append]at F;obtain⟨σ',h1,h2,h3⟩:=OJ (e:=e) (BA:=N.size) h hk0 hgr q.EF q.oks q.sizes q.ones F (fun g hg=>by
         rcases S g hg with hh|hh
         ·simp[Value.ownBlock]at hh
         ·exact hh) false (by simp[hne])
        grind
      | Hf sa _=>
       rcases M with ⟨hy,hu,J⟩|⟨hm,a',c',J,A⟩
       ·subst hy;simp at l3
       ·have hold:(flat []).length=0*C.size:=by simp[flat]
        have l2' : ys.length<=maxLen:=by simpa using l2
        have hsmall:ys.length<=9223372036854775807:=by simpa[maxLen]using l2'
        have hrun:=run_append_grow (P:=P) w u ty e C zv Q O hzv sa 0 0 (flat []) hold (fun j u hj=>by simp[flat]at hj) a' ys.length c' (flat us) (by rw[D,hsz]) A (by omega) (by omega)
         (growslice_fits (by omega) (by rw[<- e3];simpa[lim]using l1))
        simp only[Nat.zero_add]at hrun;have hge:=grownCap_ge w ys.length 0 e;have hcm:grownCap w ys.length 0 e<=maxLen:=grownCap_le_maxLen w _ _ e l2';have Y:(w.drew.alloc (.cells ((flat []).toArray++(flat us).toArray++Builtin.zeroCells zv.cells (grownCap w ys.length 0 e - ys.length)) e)).ownsRow B e N.size
          (.slice (some ⟨w.heap.size,0,none⟩) ys.length (grownCap w ys.length 0 e)) ys.length (flat us):=by
         have hl:(flat us).length=ys.length*N.size:=by rw[D]
         refine⟨hl,.inr ⟨w.heap.size,_,_,rfl,h.size,heap_alloc_new w.drew _,hge,hcm,?_,?_⟩⟩
         ·simp only[Array.size_append,List.size_toArray,size_zeroCells,hzs,D];simp only[flat,List.flatMap_nil,List.length_nil,Nat.zero_add];rw[<- Nat.add_mul]
          simp_all
         ·simp_all
        have hgr2:w.grownBy (w.drew.alloc (.cells ((flat []).toArray++(flat us).toArray++Builtin.zeroCells zv.cells (grownCap w ys.length 0 e - ys.length)) e)) none:=
         ⟨rfl,rfl,rfl,by simp,fun k hk _=>heap_alloc_old w.drew _ hk⟩
        obtain⟨σ',h1,h2,h3⟩:=OJ (e:=e) (BA:=N.size) h hk0 hgr2 q.EF q.oks q.sizes q.ones (.of Y) (by simp[Value.ownBlock]) false (by simp)
        grind
      | DT b o e' k0 k1 k2 k3 k4 k5 k6=>
       rename_i vs;rcases M with ⟨hy,hu,J⟩|⟨hm,a',c',J,A⟩
       ·subst hy;simp at l3
       ·have hold:(flat vs).length=xs.length*C.size:=by rw[flat_length k2,<- k0.length,hsz,l0]
        have hsmall:xs.length+ys.length<=9223372036854775807:=by simp only[maxLen]at l2;omega
        have hrun:=run_append_grow (P:=P) w u ty e C zv Q O hzv ⟨b,o,none⟩ xs.length xs.length (flat vs) hold (fun j u hj=>by rw[Addr.add_mid];exact(k5 j u hj).2) a' ys.length c' (flat us) (by rw[D,hsz]) A (by omega) (by omega)
         (growslice_fits (by omega) (by rw[<- e3];simpa[lim]using l1))
        have hge:=grownCap_ge w (xs.length+ys.length) xs.length e;have hcm:grownCap w (xs.length+ys.length) xs.length e<=maxLen:=grownCap_le_maxLen w _ _ e l2;have Y:(w.drew.alloc (.cells ((flat vs).toArray++(flat us).toArray++Builtin.zeroCells zv.cells (grownCap w (xs.length+ys.length) xs.length e - (xs.length+ys.length))) e)).ownsRow B e N.size
          (.slice (some ⟨w.heap.size,0,none⟩) (xs.length+ys.length) (grownCap w (xs.length+ys.length) xs.length e)) (xs++ys).length (flat (vs++us)):=by
         have hl:(flat (vs++us)).length=(xs.length+ys.length)*N.size:=by rw[Og,List.length_append,hold,D,hsz,Nat.add_mul]
         rw[List.length_append];refine⟨hl,.inr ⟨w.heap.size,_,_,rfl,h.size,heap_alloc_new w.drew _,hge,hcm,?_,?_⟩⟩
         ·simp only[Array.size_append,List.size_toArray,size_zeroCells,hzs,hold,D,hsz,<- Nat.add_mul]
          simp_all
         ·simp only[Array.toList_append,List.append_assoc];rw[<- List.append_assoc,<- Og,<- hl];exact List.take_left
        have hgr2:w.grownBy (w.drew.alloc (.cells ((flat vs).toArray++(flat us).toArray++Builtin.zeroCells zv.cells (grownCap w (xs.length+ys.length) xs.length e - (xs.length+ys.length))) e)) none:=
         ⟨rfl,rfl,rfl,by simp,fun k hk _=>heap_alloc_old w.drew _ hk⟩
        obtain⟨σ',h1,h2,h3⟩:=OJ (e:=e) (BA:=N.size) h hk0 hgr2 (k0.append q.EF)
         (fun y hy=>by rcases List.mem_append.1 hy with hy|hy;exact k1 y hy;exact q.oks y hy)
         (fun y hy=>by rcases List.mem_append.1 hy with hy|hy;exact(k2 y hy).trans l0;exact q.sizes y hy)
         (fun y hy=>by rw[Og]at hy;rcases List.mem_append.1 hy with hy|hy;exact k3 y hy;exact q.ones y hy) (.of Y) (by simp[Value.ownBlock]) false (by simp)
        grind
     ·cases G
    ·cases G
   ·cases G
  ·cases G
 ·cases G
theorem ZcB {P:Program} (w:World) (t u ty e:TypeId) (i:TypeInfo) (G:P.underlying t=some (.slice e)) (F:P.info? e=some i) (a:Option Addr) (A J:Nat) (s:Option Addr) (sl I:Nat) (cs:List Value) (w' : World)
  (C:cs.length=Nat.min sl A*i.size) (hs:s=none->cs=[]) (q:∀b,s=some b->∀j v,cs[j]? = some v->w.cell? (b.add j)=some v)
  (D:∀z,a=some z -> (storeCells z cs).run P w = .ok () w') (M:a=none->w' = w) :
  (Builtin.copy_ #[t,u] ty #[.slice a A J,.slice s sl I]).run P w = .ok (goInt (Nat.min sl A:Nat)) w' :=by
 have hf:(Builtin.firstCells i.size (Nat.min sl A) (.slice s sl I)).run P w = .ok cs.toArray w:=by
  cases s with
  | none=>rw[hs rfl];rfl
  | some b=>
   have:=run_loadCells_list (P:=P) w b cs (q b rfl);rw[C]at this;exact this
 cases a with
 | none=>
  rw[M rfl];simp[Builtin.copy_,run_underlying G,Builtin.lenOf,sizeOf,typeInfo,F,hf]
 | some z =>simp[Builtin.copy_,run_underlying G,Builtin.lenOf,sizeOf,typeInfo,F,hf,D z rfl]
theorem ZEr {E B w0 σ H w} {P:Program} (hE:DV E) (hP:E.P=P) (h:Inv B w0 σ H w) {t u:TypeId} (ty:TypeId) {d x r:V} {dv xv:Value} {H' : Heap}
  (hd:AV σ w [d] [dv]) (hx:AV σ w [x] [xv]) (hc:jV E H t u d x=some (r,H')) :
  ∃v' w' σ',(Builtin.copy_ #[t,u] ty #[dv,xv]).run P w = .ok v' w' /\ Inv B w0 σ' H' w' /\ Ext σ w σ' w' /\ AV σ' w' [r] [v']:=by
 unfold jV at hc;split at hc
 ·rename_i e sz by' z0 hti;split at hc
  ·rename_i ei ys id off len tot hei hys;obtain⟨inf,dd,hi,hdd,q1,q2,q3,q4⟩:=Fg (hE.ti _ _ hti);have hd' : P.underlying t=some (.slice e):=by rw[hP]at hdd;rw[hdd,Oi q1]
   obtain⟨I,de,hie,hde,e1,e2,e3,e4⟩:=Fg (hE.ti _ _ hei);rw[hP]at hie;split at hc
   ·rename_i b hb;split at hc
    ·rename_i N;simp only[Bool.and_eq_true,beq_iff_eq,decide_eq_true_eq]at N;obtain⟨⟨⟨⟨⟨c1,c2⟩,c3⟩,c4⟩,c5⟩,c6⟩:=N;subst c2;subst c3;simp only[Option.some.injEq,Prod.mk.injEq]at hc;obtain⟨rfl,rfl⟩:=hc;obtain⟨us,z⟩:=src_ok h hx hys c5;obtain⟨L,vs,m,J,hol,hsub,hview⟩:=Oo h hd hb;have hLe:L.BA=ei.size:=by rw[<- m.BA];exact c4
     have hsz:I.size=ei.size:=e2.symm;have hlus:us.length=ys.length:=z.EF.length.symm;have hnum:∀n:Nat,n<=maxLen->∀(σ' : Sg) (w' : World),AV σ' w' [.lit (.int .i64 (n:Nat))] [goInt n]:=fun n hn σ' w' =>by
      refine .lit ?_ .nil;have:(Lit.int .i64 (n:Int)).wf=true:=by
       simp[Lit.wf,IntKind.min,IntKind.max,IntKind.signed,IntKind.bits,maxLen]at hn ⊢;omega
      exact this
     obtain⟨sa,sc,hxv,hsn,C⟩:∃(sa:Option Addr) (sc:Nat),xv = .slice sa ys.length sc/\(sa=none->us=[])/\∀M,sa=some M -> ∀j v,(flat us)[j]? = some v->w.cell? (M.add j)=some v:=by
      rcases z.val with ⟨G,hy,hu⟩|⟨M,o,c,G,hc',C⟩
      ·rcases G with G|⟨a,k,G⟩
       ·exact⟨none,0,by rw[hy];exact G,fun _=>hu,fun M hb' =>by cases hb'⟩
       ·exact⟨some a,k,by rw[hy];exact G,fun _=>hu,fun M _ j v hj=>by rw[hu]at hj;simp[flat]at hj⟩
      ·exact⟨some ⟨M,o,none⟩,c,G,(fun hh=>by cases hh),(fun b2 hb2 j v hj=>by cases hb2;rw[Addr.add_mid];exact C j v hj)⟩
     have Y : ∀M,sa=some M -> ∀j v,(flat (us.take len))[j]? = some v->w.cell? (M.add j)=some v:=fun M hb' j v hj=>by
      rw[iG z.sizes]at hj;refine C M hb' j v ?_;rw[List.getElem?_take]at hj;split at hj
      ·exact hj
      ·cases hj
     have F:Nat.min ys.length len=min ys.length len:=rfl;have D:(flat (us.take len)).length=Nat.min ys.length len*I.size:=by
      rw[flat_length (eH z.sizes len),List.length_take,hlus,hsz,F,Nat.min_comm]
     have hsn' : sa=none->flat (us.take len)=[]:=fun hh=>by rw[hsn hh];simp[flat]
     rw[hxv];rcases hview with ⟨G,hvv,ho,hl,ht⟩|⟨g,cap,k,G,hvv,hle,hmx,hk1,hk2⟩
     ·subst hl;refine⟨_,w,σ,?_,?_,Ext.refl σ w,hnum _ (by simp) σ w⟩
      ·rw[hvv];have:=ZcB (P:=P) w t u ty e I hd' hie none 0 0 sa ys.length sc (flat (us.take 0)) w D hsn' Y (fun a' ha' =>by cases ha') (fun _=>rfl);simpa[F]using this
      ·have hxs:b.xs=[]:=List.eq_nil_of_length_eq_zero J;have:H.set id { b with xs:=ys.take 0++b.xs.drop ys.length }=H:=by
        apply Z11;rw[m.hb];cases b;simp only at hxs;simp[hxs]
       rw[this];exact h
     ·have hk0:k=0:=by omega
      subst hk0;rcases m.shape with ⟨hn,_,_⟩|⟨g',cap',q,tg,hv',hB,hh,htg,hn,hm,hcs,ht⟩
      ·rw[hn]at G;cases G
      ·rw[hv']at G;simp only[Value.slice.injEq,Option.some.injEq,Addr.mk.injEq,and_true]at G;obtain⟨hgg,_,hcc⟩:=G;have hgg:=hgg.symm;subst hgg;have hcc:=hcc.symm;subst hcc;have hfit:0+0+(flat (us.take len)).length<=q.size:=by
        rw[D,hcs,hsz,hLe,F];have:min ys.length len<=cap:=by omega
        simpa using Nat.mul_le_mul_right ei.size this
       have Q:∀v∈flat (us.take len),v.oneCell' = true:=vK z.ones len;have S:=mZ P g 0 b.elem tg (flat (us.take len)) 0 q w hh htg hfit Q;simp only[Nat.add_zero,Nat.zero_add,List.take_zero,List.nil_append]at S;have hnew:flat (us.take len++vs.drop ys.length)=flat (us.take len)++(flat vs).drop (ys.length*L.BA):=by
        rw[Og,Z3g m.sizes]
       have hlv:vs.length=len:=by rw[m.len,J]
       have hcurE:q.toList=flat vs++q.toList.drop (len*L.BA):=by
        rw[<- ht,J,List.take_append_drop]
       have hFl:(flat vs).length=len*L.BA:=by rw[flat_length m.sizes,hlv]
       have hTl:(flat (us.take len)).length=min ys.length len*L.BA:=by rw[D,hsz,hLe]
       have hrest:q.toList.drop (flat (us.take len)).length=(flat vs).drop (ys.length*L.BA)++q.toList.drop (len*L.BA):=by
        rw[hTl]
        by_cases hyl:ys.length<=len
        ·rw[Nat.min_eq_left hyl]
         conv=>lhs;rw[hcurE]
         rw[List.drop_append_of_le_length (by rw[hFl];exact Nat.mul_le_mul_right _ hyl)]
        ·have hyl' : len<=ys.length:=by omega
         rw[Nat.min_eq_right hyl',List.drop_eq_nil_of_le (as:=flat vs) (by rw[hFl];exact Nat.mul_le_mul_right _ hyl'),List.nil_append]
       rw[hrest,<- List.append_assoc,<- hnew]at S;have A : ∀u∈us.take len++vs.drop ys.length,u.cells.size=L.BA:=by
        intro u hu;rcases List.mem_append.1 hu with hu|hu
        ·rw[eH z.sizes len u hu,hLe]
        ·exact m.sizes u (List.mem_of_mem_drop hu)
       have hlenN:(us.take len++vs.drop ys.length).length=len:=by
        simp only[List.length_append,List.length_take,List.length_drop,hlus,hlv];omega
       have O:(ys.take len++b.xs.drop ys.length).length=len:=by
        simp only[List.length_append,List.length_take,List.length_drop,J];omega
       have hlen' : (flat (us.take len++vs.drop ys.length)).length=len*L.BA:=by
        rw[flat_length A,hlenN]
       have hheap:=setRow_heap w g q (flat (us.take len++vs.drop ys.length)++q.toList.drop (len*L.BA)).toArray b.elem tg hh;have hown:L.v.ownBlock=some g:=by rw[hv'];rfl
       have hgb:w.grownBy (w.setRow g (flat (us.take len++vs.drop ys.length)++q.toList.drop (len*L.BA)).toArray) L.v.ownBlock:=
        ⟨rfl,rfl,rfl,by simp,fun k _ hk=>setRow_other w g k _ (fun e=>hk (by rw[hown,e]))⟩
       obtain⟨h1,h2⟩:=h.upd m.hb m.live m.box hgb { b with xs:=ys.take len++b.xs.drop ys.length } m.live L rfl (.inl rfl) rfl (by grind) (fun g' hg' =>.inl hg')
        (fun g' c' _ hc' =>by grind) (fun ex=>by
         refine⟨by simp only[O];rw[m.tot,J],⟨us.take len++vs.drop ys.length,((z.EF.ext ex).take len).append ((m.EF.ext ex).drop ys.length),A,?_,?_⟩,m.Ey,m.BA,?_,fun hrow=>?_⟩
         ·intro v hv2;rw[hnew]at hv2;rcases List.mem_append.1 hv2 with hv2|hv2
          ·exact Q v hv2
          ·exact m.ones v (List.mem_of_mem_drop hv2)
         ·simp only[O];refine⟨hlen',.inr ⟨g,cap,_,tg,by rw[hv',J],hB,hheap,?_,by omega,hm,?_,?_⟩⟩
          ·grind
          ·grind
          grind
         ·intro y hy;rcases List.mem_append.1 hy with hy|hy
          ·exact wU (z.oks y (List.mem_of_mem_take hy))
          ·exact m.oks y (List.mem_of_mem_drop hy)
         ·intro y hy;rcases List.mem_append.1 hy with hy|hy
          ·exact Rk (z.oks y (List.mem_of_mem_take hy))
          ·exact m.I5 hrow y (List.mem_of_mem_drop hy))
       refine⟨_,_,_,?_,h1,h2,hnum _ (by grind) _ _⟩;rw[hvv];have:=ZcB (P:=P) w t u ty e I hd' hie (some ⟨g,0*L.BA,none⟩) len (cap - 0) sa ys.length sc (flat (us.take len)) _ D hsn' Y (fun a' ha' =>by cases ha';simpa using S) (fun hh=>by cases hh);simpa[F]using this
    ·cases hc
   ·cases hc
  ·cases hc
 ·cases hc
end Go.Proofs.YtjodhcdmhobmoaaGreatDoor.Le
namespace Go.Proofs.YtjodhcdmhobmoaaGreatDoor.Le
open Go.RowKit (Below)
theorem ZqM {q:Value} {s:Nat} (hs:0<s) (hz:q.cells.size=s) (n:Nat):∀k,(flat (List.replicate n q))[k]? = if k<n*s then q.cells[k % s]? else none:=by
 intro k;have:=Go.Great.flat_get hs (List.replicate n q) (fun v C=>by simp_all) k;have z:(List.flatMap (fun v:Value=>v.cells.toList) (List.replicate n q))[k]? = (flat (List.replicate n q))[k]?:=rfl;rw[<- z,this,List.getElem?_replicate]
 by_cases h:k<n*s
 ·have:k / s<n:=(Nat.div_lt_iff_lt_mul hs).2 h;rw[if_pos this,if_pos h];rfl
 ·have:¬k / s<n:=fun A=>h ((Nat.div_lt_iff_lt_mul hs).1 A)
  grind
theorem Zao {q:Value} {s:Nat} (hs:0<s) (hz:q.cells.size=s) (n:Nat):(madeCells q.cells (n*s)).toList=flat (List.replicate n q):=by
 apply List.ext_getElem?;intro k;rw[ZqM hs hz]
 by_cases h:k<n*s
 ·rw[if_pos h];have hm:k % s<q.cells.size:=by rw[hz];exact Nat.mod_lt _ hs
  simp[madeCells,h,hz]
  simp_all
 ·rw[if_neg h];simp[madeCells,h]
theorem vO {E:Env} {P:Program} (N:DV E) (O:E.P=P) {e:TypeId} {G:TI} (I:E.ti e=some G) {z:V} (hz:G.zero=some z) (σ:Sg) (w:World) :
  ∃q D,P.info? e=some q/\q.zero=some D/\q.size=G.size/\q.bytes=G.bytes/\AV σ w [z] [D]:=by
 obtain⟨q,S,C,Q,Y,J,M,F⟩:=Fg (N.ti _ _ I);rw[O]at C;rw[hz]at F;cases A:q.zero with
 | none=>simp[A]at F
 | some D=>
  simp only[A,Option.map_some,Option.some.injEq]at F;exact⟨q,D,C,A,J.symm,M.symm,by rw[F];exact bY σ w D⟩
theorem Zcm (v:Value):DF (PG v)=true:=by
 unfold PG;split
 ·rfl
 ·split<;>rfl
theorem ZsB (v:Value):DF (QW v)=true:=by
 unfold QW;split
 ·split
  ·rename_i cs _;rw[show DF (.agg (cs.toList.map PG))=CY (cs.toList.map PG) from rfl,LX];intro x q;obtain⟨c,_,rfl⟩:=List.mem_map.1 q;exact Zcm c
  ·rfl
 ·split<;>rfl
 ·split
  ·exact Zcm _
  ·rfl
theorem ZeN {E:Env} (G:DV E) {e:TypeId} {F:TI} (D:E.ti e=some F) {z:V} (hz:F.zero=some z):DF z=true:=by
 obtain⟨A,N,J,I,O,Q,S,C⟩:=Fg (G.ti _ _ D);rw[hz]at C;cases q:A.zero with
 | none=>simp[q]at C
 | some M=>
  simp only[q,Option.map_some,Option.some.injEq]at C;rw[C];exact ZsB M
theorem ZEo {E B w0 σ H w} {P:Program} (hE:DV E) (hP:E.P=P) (h:Inv B w0 σ H w) {k:Nat} (hk0:GH H k=true) {t e:TypeId} {q:TI} {z:V} {kl kc:IntKind} {n m:Int}
  (ht:P.underlying t=some (.slice e)) (J:E.ti e=some q) (hz:q.zero=some z)
  (h0:0<=n) (hnm:n<=m) (hby:m.toNat*q.bytes<=lim) (hmx:m<=maxLen) (Q:0<q.size) (hzl:z.cells.length=q.size) (G:okV z=true) (es:List Nat) :
  ∃v' w' σ',(Instr.makeSlice t (.int kl n) (.int kc m)).run P w = .ok v' w' /\ Inv B w0 σ' (place H k (CJ true false e q.size (List.replicate n.toNat (EU es z)))) w' /\ Ext σ w σ' w' /\
   AV σ' w' [.Bl k 0 n.toNat n.toNat] [v']:=by
 obtain⟨C,D,hie,hzv,hsz,hbz,I⟩:=vO hE hP J hz σ w;have hzs:D.cells.size=q.size:=by rw[<- I.Ro G];exact hzl
 have hmm:m<=9223372036854775807:=by
  have:(maxLen:Int)=9223372036854775807:=by simp[maxLen]
  omega
 have hbb:(C.bytes:Int)*m<=281474976710656:=by
  have h1:((m.toNat*q.bytes:Nat):Int)<=140737488355328:=by
   have:m.toNat*q.bytes<=140737488355328:=by simpa[lim]using hby
   omega
  rw[Int.natCast_mul,Int.toNat_of_nonneg (by omega),Int.mul_comm]at h1;rw[hbz];omega
 have Y:=run_make (P:=P) w t e C D ht hie hzv kl kc n m h0 hnm hbb hmm;rw[hsz]at Y;have N:n.toNat<=m.toNat:=by omega
 have S:=AV.replicate n.toNat (UR es I);have A:∀u∈List.replicate n.toNat D,u.cells.size=q.size:=fun u hu=>by simp_all
 have F:∀u∈flat (List.replicate n.toNat D),u.oneCell' = true:=by
  intro u hu;simp only[flat,List.mem_flatMap]at hu;obtain⟨a,ha,hb⟩:=hu;rw[(List.mem_replicate.1 ha).2]at hb;exact(I.cells G).2 u hb
 have M:(List.replicate n.toNat (EU es z)).length=n.toNat:=by simp
 have hmd:=Zao Q hzs m.toNat;have O:(w.alloc (.cells (madeCells D.cells (m.toNat*q.size)) e)).ownsRow B e q.size (.slice (some ⟨w.heap.size,0,none⟩) n.toNat m.toNat) (List.replicate n.toNat (EU es z)).length (flat (List.replicate n.toNat D)):=by
  rw[M];refine⟨by rw[flat_length A];simp,.inr ⟨w.heap.size,m.toNat,_,rfl,h.size,heap_alloc_new w _,N,by omega,size_madeCells _ _,?_⟩⟩;rw[hmd];have:List.replicate n.toNat D=(List.replicate m.toNat D).take n.toNat:=by rw[List.take_replicate,Nat.min_eq_left N]
  rw[this,iG (e:=q.size) (fun u hu=>by rw[(List.mem_replicate.1 hu).2];exact hzs)]
 obtain⟨σ',h1,h2,h3⟩:=OJ (e:=e) (BA:=q.size) h hk0 (w.grownBy_alloc _ none) S (fun x hx=>by rw[(List.mem_replicate.1 hx).2];simp[FW,uK,UQ,G,ZeN hE J hz]) A F (.of O) (by simp[Value.ownBlock]) false (by simp)
 grind
theorem ZfJ (v:Value) (off:Nat) (cs:Array Value) (h:off+v.cells.size<=cs.size) :
  (v.cells.zipIdx.foldl (fun cs (x:Value×Nat)=>cs.setIfInBounds (off+x.2) x.1) cs).toList=cs.toList.take off++v.cells.toList++cs.toList.drop (off+v.cells.size):=by
 obtain⟨D,q⟩:=Go.Great.foldl_set off v.cells.toList 0 cs;have z:v.cells.zipIdx.foldl (fun cs (x:Value×Nat)=>cs.setIfInBounds (off+x.2) x.1) cs=(v.cells.toList.zipIdx 0).foldl (fun cs (x:Value×Nat)=>cs.setIfInBounds (off+x.2) x.1) cs:=by
  rw[<- Array.foldl_toList];simp
 rw[z];apply List.ext_getElem?;intro k;rw[Array.getElem?_toList,q k];simp only[Nat.add_zero,Array.length_toList]
 by_cases A:k<off
 ·grind
 ·by_cases C:k<off+v.cells.size
  ·grind
  ·rw[if_neg (by omega),List.append_assoc,List.getElem?_append_right (by simp;omega),List.getElem?_append_right (by simp;omega),List.getElem?_drop,Array.getElem?_toList];congr 1;simp;omega
inductive Parts (σ:Sg) (w:World):List (Nat×V)->List (Nat×Value)->Prop where
 | nil:Parts σ w [] []
 | cons {i x v xs vs}:AV σ w [x] [v]->Parts σ w xs vs->Parts σ w ((i,x)::xs) ((i,v)::vs)
theorem ZfK {σ w} {place:Nat->Option (Nat×Nat)}:∀{q:List (Nat×V)} {vparts:List (Nat×Value)} {cs A : List V} {ws:List Value},Parts σ w q vparts->AV σ w cs ws->(∀u∈ws,u.oneCell' = true) ->
  PS cs q place=some A -> ∃z,Instr.fill place ws.toArray vparts=some z.toArray/\AV σ w A z /\ (∀u∈z,u.oneCell' = true):=by
 intro q;induction q with
 | nil=>
  intro vparts cs A ws hp C Q hf;cases hp;simp only[PS,Option.some.injEq]at hf;subst hf;exact⟨ws,rfl,C,Q⟩
 | cons p q ih=>
  intro vparts cs A ws hp C Q hf;cases hp with
  | cons S hp=>
   rename_i i x v vs;simp only[PS]at hf;split at hf
   ·cases hf
   ·rename_i off size G;split at hf
    ·rename_i hc;simp only[Bool.and_eq_true,beq_iff_eq,decide_eq_true_eq]at hc;obtain⟨⟨Y,c2⟩,N⟩:=hc;obtain⟨F,hco⟩:=S.cells N;have M:v.cells.size=size:=by rw[<- S.Ro N];exact Y
     have O:=C.length;have J:=ZfJ v off ws.toArray (by simp;omega);have I : AV σ w (cs.take off++x.cells++cs.drop (off+size)) (ws.take off++v.cells.toList++ws.drop (off+size)):=((C.take off).append F).append (C.drop _);obtain⟨z,f1,f2,f3⟩:=ih hp I (by
      grind) hf
     refine⟨z,?_,f2,f3⟩;simp only[Instr.fill,G,M];have D:(decide (size≠size)||decide (off+size>ws.toArray.size))=false:=by simp;omega
     simp only[ne_eq,not_true_eq_false,decide_false,Bool.false_or,List.size_toArray,gt_iff_lt,decide_eq_true_eq];rw[if_neg (by omega)];rw[<- f1];congr 1
     grind
    ·cases hf
end Go.Proofs.YtjodhcdmhobmoaaGreatDoor.Le
namespace Go.Proofs.YtjodhcdmhobmoaaGreatDoor.Le
open Go.RowKit (Below)
theorem Z1X {d:TypeDesc} {fs:List (Nat×Nat)} (h:Ty.struct fs=Lr d):∃fields,d = .struct fields/\fs=fields.toList.map fun f=>(f.offset,f.type):=by
 cases d<;>simp[Lr]at h;exact⟨_,rfl,h⟩
theorem sS {d:TypeDesc} {n e:Nat} (h:Ty.array n e=Lr d):d = .array n e:=by
 cases d<;>simp[Lr]at h;rw[h.1,h.2]
theorem ZcG {E:Env} {P:Program} (C:DV E) (D:E.P=P):∀(fields:List Field),(∀f∈fields,(E.ti f.type).isSome=true) ->
  ∃q:List (Nat×Nat),fields.mapM (fun f=>(P.info? f.type).map fun i=>(f.offset,i.size))=some q/\q.length=fields.length /\
   ∀i:Nat,q[i]? = placesOf E (fields.map fun f=>(f.offset,f.type)) i
 | [],_=>⟨[],rfl,rfl,fun i=>by simp[placesOf]⟩
 | f::fields,h=>by
  obtain⟨q,M,F,G⟩:=ZcG C D fields (fun g I=>h g (by simp[I]));have hf:=h f (by simp);cases z:E.ti f.type with
  | none=>simp[z]at hf
  | some ti=>
   obtain⟨A,d,J,N,q1,q2,q3,O⟩:=Fg (C.ti _ _ z);rw[D]at J;refine⟨(f.offset,A.size)::q,?_,by simp[F],?_⟩
   ·simp_all
   ·intro i;cases i with
    | zero=>simp[placesOf,z,q2]
    | succ i=>simpa[placesOf]using G i
theorem ZDb {E:Env} {σ w} {P:Program} (Q:DV E) (S:E.P=P) {t:TypeId} {q:List (Nat×V)} {vparts:Array (Nat×Value)} {x:V} (hp:Parts σ w q vparts.toList) (hb:XM E t q=some x) :
  ∃u,(Instr.build t vparts).run P w = .ok u w/\AV σ w [x] [u]:=by
 unfold XM at hb;split at hb
 ·rename_i i hti;obtain⟨inf,d,hi,Y,q1,q2,q3,O⟩:=Fg (Q.ti _ _ hti);rw[S]at hi Y;split at hb
  ·rename_i z hz;split at hb
   ·rename_i hzo;rw[hz]at O;cases A:inf.zero with
    | none=>simp[A]at O
    | some zv=>
     simp only[A,Option.map_some,Option.some.injEq]at O;have hzr:AV σ w [z] [zv]:=by rw[O];exact bY σ w zv
     obtain⟨J,I⟩:=hzr.cells hzo;split at hb
     ·rename_i fs F;obtain⟨fields,D,M⟩:=Z1X (F.symm.trans q1);split at hb
      ·rename_i G;cases hf:PS z.cells q (placesOf E fs) with
       | none=>simp[hf]at hb
       | some cs=>
        simp only[hf,Option.map_some,Option.some.injEq]at hb;subst hb;obtain⟨C,m1,m2,m3⟩:=ZcG Q S fields.toList (by
         intro f hf;have:=List.all_eq_true.1 G (f.offset,f.type) (by rw[M];exact List.mem_map.2 ⟨f,hf,rfl⟩);exact this)
        have hpl:(fun i:Nat=>C.toArray[i]?)=placesOf E fs:=by
         funext i;rw[M,<- m3 i];simp
        obtain⟨ws,f1,f2,f3⟩:=ZfK hp J I hf;refine⟨.agg ws.toArray,run_build w t vparts ws.toArray ?_,.agg f2 f3 .nil⟩;simp only[Program.built,hi,Y,D,A,m1]
        simp_all
      ·cases hb
     ·rename_i n e F;have D:=sS (F.symm.trans q1);split at hb
      ·rename_i ei hei;obtain⟨infe,de,N,hde,e1,e2,e3,e4⟩:=Fg (Q.ti _ _ hei);rw[S]at N;cases hf:PS z.cells q (fun i=>some (i*ei.size,ei.size)) with
       | none=>simp[hf]at hb
       | some cs=>
        simp only[hf,Option.map_some,Option.some.injEq]at hb;subst hb;obtain⟨ws,f1,f2,f3⟩:=ZfK hp J I hf;refine⟨.agg ws.toArray,run_build w t vparts ws.toArray ?_,.agg f2 f3 .nil⟩;simp only[Program.built,hi,Y,D,A,N,<- e2];simpa using f1
      ·cases hb
     ·cases hb
   ·cases hb
  ·cases hb
 ·cases hb
theorem Zy3 {σ w} {sz:Nat}:∀{q:List (Nat×V)} {vparts:List (Nat×Value)} {xs A : List V} {us:List Value},Parts σ w q vparts->AV σ w xs us->(∀x∈xs,okV x=true)->(∀u∈us,u.cells.size=sz)->(∀u∈flat us,u.oneCell' = true) ->
  N7 xs sz q=some A -> ∃z,Instr.fill (fun i=>some (i*sz,sz)) (flat us).toArray vparts=some (flat z).toArray/\AV σ w A z /\ (∀x∈A,okV x=true)/\(∀u∈z,u.cells.size=sz)/\(∀u∈flat z,u.oneCell' = true)/\A.length=xs.length:=by
 intro q;induction q with
 | nil=>
  intro vparts xs A us hp F hk hs Q hf;cases hp;simp only[N7,Option.some.injEq]at hf;subst hf;exact⟨us,rfl,F,hk,hs,Q,rfl⟩
 | cons p q ih=>
  intro vparts xs A us hp F hk hs Q hf;cases hp with
  | cons J hp=>
   rename_i i x v vs;simp only[N7]at hf;split at hf
   ·rename_i hc;simp only[Bool.and_eq_true,beq_iff_eq,decide_eq_true_eq]at hc;obtain⟨⟨S,c2⟩,M⟩:=hc;obtain⟨hcr,Y⟩:=J.cells M;have D:v.cells.size=sz:=by rw[<- J.Ro M];exact S
    have O:=F.length;have N:i<us.length:=by omega
    have C:us[i]? = some us[i]:=List.getElem?_eq_getElem N;have hfs:=Z3G hs C D;have G:(flat us).length=us.length*sz:=flat_length hs;have hle:i*sz+sz<=us.length*sz:=by rw[<- Nat.succ_mul];exact Nat.mul_le_mul_right _ N
    have I:=ZfJ v (i*sz) (flat us).toArray (by simp_all);obtain⟨z,f1,f2,f3,f4,f5,f6⟩:=ih hp (F.set i J) (by
     grind) (by
     grind) (by
     grind) hf
    refine⟨z,?_,f2,f3,f4,f5,by rw[f6];simp⟩;simp only[Instr.fill,D];simp only[ne_eq,not_true_eq_false,decide_false,Bool.false_or,List.size_toArray,gt_iff_lt,decide_eq_true_eq];rw[if_neg (by rw[G];omega)];rw[<- f1];congr 1
    grind
   ·cases hf
theorem Zvh {σ w}:∀{q:List (Nat×V)} {vparts:List (Nat×Value)},Parts σ w q vparts->AV σ w (q.map (·.2)) (vparts.map (·.2))/\q.map (·.1)=vparts.map (·.1):=by
 intro q;induction q with
 | nil=>intro vparts h;cases h;exact⟨.nil,rfl⟩
 | cons p q D=>
  intro vparts h;cases h with
  | cons C hp=>
   obtain⟨z,A⟩:=D hp;exact⟨AV.F8.2 ⟨C,z⟩,by simp[A]⟩
theorem Zcu {α q:Type}:∀(l:List (α×q)),(l.map (·.1)).zip (l.map (·.2))=l
 | []=>rfl
 | x::l=>by simp[Zcu l]
theorem ZBU {σ w}:∀{q:List Nat} {xs:List V} {vs:List Value},AV σ w xs vs->q.length=xs.length->Parts σ w (q.zip xs) (q.zip vs):=by
 intro q;induction q with
 | nil=>intro xs vs h hl;exact .nil
 | cons i q C=>
  intro xs vs h hl;cases xs with
  | nil=>simp at hl
  | cons x xs=>
   obtain⟨v,D,rfl,z,A⟩:=h.EP;exact .cons z (C A (by simpa using hl))
theorem Zdq {sz:Nat}:∀{q:List (Nat×V)} {xs z : List V},(∀x∈xs,DF x=true)->(∀p∈q,DF p.2=true)->N7 xs sz q=some z -> ∀x∈z,DF x=true
 | [],xs,z,C,hp,hf=>by
  simp only[N7,Option.some.injEq]at hf;subst hf;exact C
 | (i,v)::F,xs,z,C,hp,hf=>by
  simp only[N7]at hf;split at hf
  ·refine Zdq (fun x D =>?_) (fun p A =>hp p (List.mem_cons_of_mem _ A)) hf;rcases List.mem_or_eq_of_mem_set D with h|h
   ·exact C x h
   simp_all
  ·cases hf
theorem Zsv {E B w0 σ H w} {P:Program} (hE:DV E) (hP:E.P=P) (h:Inv B w0 σ H w) {k:Nat} (hk0:GH H k=true) {t:TypeId} {n:Nat} {A:List (Nat×V)} {vparts:Array (Nat×Value)} {r:V} {H' : Heap}
  (hp:Parts σ w A vparts.toList) (hb:QF E k H t n A=some (r,H')) :
  ∃u w' σ',(Instr.buildSlice t n vparts).run P w = .ok u w' /\ Inv B w0 σ' H' w' /\ Ext σ w σ' w' /\ AV σ' w' [r] [u]:=by
 unfold QF at hb;split at hb
 ·rename_i e sz by' z0 hti;split at hb
  ·rename_i ei I;split at hb
   ·rename_i z vs hz hf;split at hb
    ·rename_i hc;obtain⟨c1,c2,c3,c4,c5⟩:=hc;split at hb
     ·rename_i xs hfe;simp only[Option.some.injEq,Prod.mk.injEq]at hb;obtain⟨rfl,rfl⟩:=hb;obtain⟨inf,d,hi,hd,q1,q2,q3,q4⟩:=Fg (hE.ti _ _ hti);have hd' : P.underlying t=some (.slice e):=by rw[hP]at hd;rw[hd,Oi q1]
      obtain⟨G,Y,J,hzv,N,hbz,_⟩:=vO hE hP I hz σ w;obtain⟨hI,hEx⟩:=h.freeze ((A.map (·.2)).flatMap EH);have S:AV (σ.freeze H ((A.map (·.2)).flatMap EH)) w [z] [Y]:=by
       obtain⟨infe',zv',D,F,_,_,hr⟩:=vO hE hP I hz (σ.freeze H ((A.map (·.2)).flatMap EH)) w;rw[J]at D;cases D;rw[hzv]at F;cases F;exact hr
      have hzs:Y.cells.size=ei.size:=by rw[<- S.Ro c4];exact c3
      obtain⟨O,hu2⟩:=Zvh hp;have hfr:=rY h O hf _ (fun i hi=>hi);have C :=ZtT (E.rows e) hfr;have hlen:(A.map (·.1)).length=(vs.map (EU (E.rows e))).length:=by rw[C.length,<- O.length];simp
      have hpz:=ZBU C hlen;have hvp:(A.map (·.1)).zip (vparts.toList.map (·.2))=vparts.toList:=by
       rw[hu2];exact Zcu _
      rw[hvp]at hpz;have M:∀u∈flat (List.replicate n Y),u.oneCell' = true:=by
       intro u hu;simp only[flat,List.mem_flatMap]at hu;obtain⟨a,ha,hb⟩:=hu;rw[(List.mem_replicate.1 ha).2]at hb;exact(S.cells c4).2 u hb
      obtain⟨us',f1,f2,f3,f4,f5,f6⟩:=Zy3 hpz (AV.replicate n (UR (E.rows e) S)) (fun x hx=>by rw[(List.mem_replicate.1 hx).2,uK];exact c4) (fun u hu=>by rw[(List.mem_replicate.1 hu).2];exact hzs) M hfe;have Q:xs.length=n:=by rw[f6];simp
      have hnm:n<=maxLen:=by
       have:n<=n*ei.size:=Nat.le_mul_of_pos_right _ c2;simp[maxLen];omega
      obtain⟨σ',i1,i2,i3⟩:=Zfx (n:=n) hI (k:=k) (by rw[Zzf];exact hk0) e true f2 (fun _=>Zdq (fun x hx=>by rw[(List.mem_replicate.1 hx).2,UQ];exact ZeN hE I hz) (fun p hp=>by
       obtain⟨q,hq,hq'⟩:=List.mem_map.1 (List.of_mem_zip hp).2;rw[<- hq',UQ];exact(LX vs).1 (aZ h O hf) q hq) hfe) f3 f4 f5 (by rw[Q];exact hnm)
      rw[Q]at i3;refine⟨.slice (some ⟨w.heap.size,0,none⟩) n n,_,σ',?_,i1,hEx.trans i2,?_⟩
      ·by_cases hn:n=0
       ·subst hn;have hpn:A=[]:=by simpa using c5
        subst hpn;cases hp0:vparts.toList with
        | nil=>
         have:vparts = #[]:=by simpa using hp0
         subst this;have hx:xs=[]:=List.eq_nil_of_length_eq_zero Q;subst hx;cases f2.Fj;simp[Instr.buildSlice,run_underlying hd',sizeOf,typeInfo,J,Instr.fill,newRow,flat,Array.range_zero']
        | cons a b=>simp_all
       ·have hpos:¬n*G.size=0:=by rw[N];exact Nat.mul_ne_zero hn (by omega)
        refine run_buildSlice w t e n vparts (flat us').toArray G Y hd' J hzv (by rw[N];omega) hpos ?_;rw[N];have hm:(Array.range (n*ei.size)).map (Y.cells[· % Y.cells.size]!)=(flat (List.replicate n Y)).toArray:=by
         apply Array.ext';exact Zao c2 hzs n
        simp_all
      ·exact .Bl (L:=⟨.slice (some ⟨w.heap.size,0,none⟩) n n,n,ei.size⟩) i3 (Nat.le_refl _) (fun _=>⟨by omega,_,_,_,0,rfl,by simp[Addr.add],Nat.zero_le _,Nat.le_refl _,fun _=>rfl⟩) ⟨_,_,_,rfl⟩ .nil
     ·cases hb
    ·cases hb
   ·cases hb
  ·cases hb
 ·cases hb
end Go.Proofs.YtjodhcdmhobmoaaGreatDoor.Le
namespace Go.Proofs.YtjodhcdmhobmoaaGreatDoor.Le
open Go.RowKit (Below)
theorem addr_add_add (a:Addr) (x y:Nat):(a.add x).add y=a.add (x+y):=by
 unfold Addr.add
 grind
theorem ZCV {B w0 σ H w} (h:Inv B w0 σ H w) {x:V} {v:Value} {n:Nat} (q:AV σ w [x] [v]) (hl:lenOf H x=some n) :
  (∃s,x = .lit (.string s)/\v = .string s/\n=s.size)\/∃a c,v = .slice a n c/\n<=c:=by
 unfold lenOf at hl;split at hl
 ·simp only[Option.some.injEq]at hl;subst hl;right;cases q with
  | Ew _=>simp_all
  | GL a _=>simp_all
  | sl b o c e k0 k1 k2 k3 k4 k5 k6 k7=>grind
 ·simp only[Option.some.injEq]at hl;subst hl;right;cases q with
  | Gq _=>simp_all
  | Hf a _=>simp_all
  | DT b o e k0 k1 k2 k3 k4 k5 k6=>grind
 ·rename_i id off len tot;split at hl
  ·rename_i b hb;simp only[Option.some.injEq]at hl;subst hl;right;obtain⟨L,us,m,C,A,hs,z⟩:=Oo h q hb
   grind
  ·cases hl
 ·rename_i s;simp only[Option.some.injEq]at hl;subst hl;left;cases q with
  | lit _ _=>simp_all
 ·cases hl
theorem ZhS {B w0 σ H w} {P:Program} (h:Inv B w0 σ H w) {x:V} {v:Value} {n:Nat} {t ty:TypeId} {d:TypeDesc} (C:AV σ w [x] [v]) (hl:lenOf H x=some n)
  (D:P.underlying t=some d) (hd:(∃e,d = .slice e)\/d = .string) (hc:(∃e,d = .slice e)↔∀s,x≠.lit (.string s)) :
  (Builtin.len_ #[t] ty #[v]).run P w = .ok (.int .i64 n) w:=by
 rcases ZCV h C hl with ⟨s,F,z,A⟩|⟨a,c,z,A⟩
 ·have q:d = .string:=by
   rcases hd with hd|hd
   ·exact absurd F (hc.1 hd s)
   ·exact hd
  subst z A;simp[Builtin.len_,run_underlying D,q,goInt]
 ·have q:∃e,d = .slice e:=hc.2 (fun s hs=>by subst hs;cases C;cases z);obtain⟨e,q⟩:=q;subst z;simp[Builtin.len_,run_underlying D,q,goInt]
theorem Wn {σ w} {P:Program} {x:V} {v:Value} {hi n:Nat} (q:BoundsCode) (z:AV σ w [x] [v]) (hb:JL x hi=some n) :
  (Instr.sliceBound v hi q).run P w = .ok n w/\n<=hi:=by
 unfold JL at hb;split at hb
 ·rename_i k m;split at hb
  ·rename_i hc;simp only[Option.some.injEq]at hb;subst hb;cases z with
   | lit _ _=>
    refine⟨?_,by omega⟩;simp[Instr.sliceBound,asIntOf,hc]
  ·cases hb
 ·cases hb
inductive KR (σ:Sg) (w:World):Option V->Option Value->Prop where
 | none:KR σ w none none
 | some {x v}:AV σ w [x] [v]->KR σ w (some x) (some v)
theorem Zf9 {σ w} {P:Program} {x:V} {v:Value} {n cap h:Nat} (q:BoundsCode) (C:n<=cap) (A:AV σ w [x] [v]) (z:JL x n=some h):(Instr.sliceBound v cap q).run P w = .ok h w/\h<=n:=by
 have hk:=(Wn (P:=P) q A z).2;refine⟨?_,hk⟩;have:JL x cap=some h:=by
  unfold JL at z ⊢;split at z
  ·grind
  ·cases z
 exact(Wn (P:=P) _ A this).1
theorem QR {σ w} {P:Program} {n cap:Nat} (I:n<=cap) (q:Bool) {S Q:Option V} {D C:Option Value} {l h:Nat}
  (A:KR σ w S D) (G:KR σ w Q C)
  (F:Iy Q n n=some h) (z:Iy S h 0=some l) :
  (Instr.sliceBounds q n cap D C none).run P w = .ok (l,h,cap) w/\l<=h/\h<=n:=by
 cases G with
 | none=>
  simp only[Iy,Option.some.injEq]at F;subst F;cases A with
  | none=>
   simp only[Iy,Option.some.injEq]at z;subst z;exact⟨rfl,Nat.zero_le _,Nat.le_refl _⟩
  | some J=>
   obtain⟨N,O⟩:=Wn (P:=P) .sliceB J z;refine⟨?_,O,Nat.le_refl _⟩;simp[Instr.sliceBounds,N]
 | some M =>
  obtain⟨q1,q2⟩:=Zf9 (P:=P) (if q then .sliceAcap else .sliceAlen) I M F;cases A with
  | none=>
   simp only[Iy,Option.some.injEq]at z;subst z;refine⟨?_,Nat.zero_le _,q2⟩;simp[Instr.sliceBounds,q1]
  | some J=>
   obtain⟨N,O⟩:=Wn (P:=P) .sliceB J z;refine⟨?_,O,q2⟩;simp[Instr.sliceBounds,q1,N]
theorem uC {σ w} {P:Program} {n cap:Nat} (G:n<=cap) {M:Option V} {J S:V} {q:Option Value} {I Q:Value} {l h:Nat}
  (D:KR σ w M q) (C:AV σ w [J] [I]) (F:AV σ w [S] [Q])
  (z:JL J n=some h) (em:JL S n=some h) (A:Iy M h 0=some l) :
  (Instr.sliceBounds true n cap q (some I) (some Q)).run P w = .ok (l,h,h) w/\l<=h/\h<=n:=by
 obtain⟨N,O⟩:=Zf9 (P:=P) .slice3Acap G F em;have q1:(Instr.sliceBound I h .slice3B).run P w = .ok h w:=by
  have:JL J h=some h:=by
   unfold JL at z ⊢;split at z
   ·grind
   ·cases z
  exact(Wn (P:=P) _ C this).1
 cases D with
 | none=>
  simp only[Iy,Option.some.injEq]at A;subst A;refine⟨?_,Nat.zero_le _,O⟩;simp[Instr.sliceBounds,N,q1]
 | some Y=>
  obtain⟨r1,r2⟩:=Wn (P:=P) .slice3C Y A;refine⟨?_,r2,O⟩;simp[Instr.sliceBounds,N,q1,r1]
theorem Nz {P:Program} {w:World} {t e:TypeId} {q:TypeInfo} {a:Option Addr} {n c l h m:Nat} {A z C:Option Value} (D:P.underlying t=some (.slice e)) (hi' : P.info? e=some q)
  (hb:(Instr.sliceBounds true n c A z C).run P w = .ok (l,h,m) w) :
  (Instr.sliceAt t (.slice a n c) A z C).run P w = .ok (.slice (if m=l then a else a.map (·.add (l*q.size))) (h - l) (m - l)) w:=by
 simp[Instr.sliceAt,Instr.slice,run_underlying D,hb,sizeOf,typeInfo,hi']
theorem Lies.sub {σ w b o us e} (h:Lies σ w b o us) (hs:∀u∈us,u.cells.size=e) (l n:Nat):Lies σ w b (o+l*e) ((us.drop l).take n):=by
 intro j u hu;rw[Z3s hs]at hu;have q:j<n*e:=by
  have:=(List.getElem?_eq_some_iff.1 hu).1;simp at this;omega
 rw[List.getElem?_take,if_pos q,List.getElem?_drop]at hu;have:=h (l*e+j) u hu
 grind
theorem xA {σ w} {es:List V} {us:List Value} {b o c e l h:Nat} (k0:AV σ w es us) (k1:∀x∈es,FW x=true) (k2:∀u∈us,u.cells.size=e) (k3:∀u∈flat us,u.oneCell' = true)
  (k4:es.length<=c) (k5:c<=maxLen) (k6:Lies σ w b o us) (hl:l<=h) (M:h<=es.length) (m:Nat) (hm:h<=m) (I:m<=c) :
  AV σ w [.sl false e ((es.drop l).take (h - l))] [.slice (if m=l then some ⟨b,o,none⟩ else (some (⟨b,o,none⟩:Addr)).map (·.add (l*e))) (h - l) (m - l)] /\
  (m=h->AV σ w [.DT false e ((es.drop l).take (h - l))] [.slice (if m=l then some ⟨b,o,none⟩ else (some (⟨b,o,none⟩:Addr)).map (·.add (l*e))) (h - l) (m - l)]):=by
 have q:((es.drop l).take (h - l)).length=h - l:=by simp;omega
 have A:∃o',(if m=l then some (⟨b,o,none⟩:Addr) else (some (⟨b,o,none⟩:Addr)).map (·.add (l*e)))=some ⟨b,o',none⟩/\Lies σ w b o' ((us.drop l).take (h - l)):=by
  by_cases C:m=l
  ·rw[if_pos C];refine⟨o,rfl,?_⟩;have:h - l=0:=by omega
   rw[this,List.take_zero];intro j u hu;simp[flat]at hu
  ·rw[if_neg C];exact⟨o+l*e,by simp[Addr.add_mid],k6.sub k2 l (h - l)⟩
 obtain⟨o',G,z⟩:=A;rw[G];have r:=vM k0 l (h - l);have ok:∀x∈(es.drop l).take (h - l),FW x=true:=fun x J=>k1 x (List.mem_of_mem_drop (List.mem_of_mem_take J));have sz:=eH (sO k2 l) (h - l);have F:=vK (Z3F k3 l) (h - l);constructor
 ·have:=AV.sl (σ:=σ) (w:=w) (xs:=[]) (vs:=[]) b o' (m - l) e r ok sz F (by rw[q];omega) (by omega) z .nil;rw[q]at this;exact this
 ·intro D;have:=AV.DT (σ:=σ) (w:=w) (xs:=[]) (vs:=[]) b o' e r ok sz F (by rw[q];omega) z .nil;rw[q]at this;rw[D];exact this
theorem We {E:Env} {P:Program} (F:DV E) (J:E.P=P) {H:Heap} {t:TypeId} {x:V} (N:∀s,x≠.lit (.string s)) (hf:QM E H t x=true) :
  ∃e q,P.underlying t=some (.slice e)/\P.info? e=some q/\FD H x q.size=true:=by
 unfold QM at hf;split at hf
 ·exact absurd rfl (N _)
 ·split at hf
  ·rename_i e sz by' z0 D;split at hf
   ·rename_i ei C;obtain⟨q,d,hi,G,q1,q2,q3,q4⟩:=Fg (F.ti _ _ D);obtain⟨A,O,z,M,Q,I,S,Y⟩:=Fg (F.ti _ _ C);rw[J]at G z;exact⟨e,A,by rw[G,Oi q1],z,by rw[<- I];exact hf⟩
   ·cases hf
  ·cases hf
theorem cut3 {E:Env} {σ w} {P:Program} {x:V} {t te:TypeId} {C:TypeInfo} {b:Bool} {e:Nat} {xs:List V} {v:Value} {lo:Option V} {xh xm:V} {D:Option Value} {vh vm:Value} {l h:Nat}
  (Y:P.underlying t=some (.slice te)) (hi' : P.info? te=some C) (O:(b||e==C.size)=true)
  (hx:x = .sl b e xs\/x = .DT b e xs) (hr:AV σ w [x] [v]) (z:KR σ w lo D) (q:AV σ w [xh] [vh]) (A:AV σ w [xm] [vm])
  (Q:JL xh xs.length=some h) (em:JL xm xs.length=some h) (S:Iy lo h 0=some l) :
  ∃u,(Instr.sliceAt t v D (some vh) (some vm)).run P w = .ok u w/\AV σ w [.DT false e ((xs.drop l).take (h - l))] [u]:=by
 have F:∀e a,v = .slice (some a) 0 0->xs=[]->∃u,(Instr.sliceAt t v D (some vh) (some vm)).run P w = .ok u w/\AV σ w [.DT false e ((xs.drop l).take (h - l))] [u]:=by
  intro e a hv N;subst hv N;obtain⟨b1,b2,b3⟩:=uC (P:=P) (Nat.le_refl 0) z q A Q em S;have J:h=0:=by simpa using b3
  have M:l=0:=by omega
  subst J;subst M;refine⟨_,Nz Y hi' b1,?_⟩;simp;exact .Hf a .nil
 have G:∀e,v = .slice none 0 0->xs=[]->∃u,(Instr.sliceAt t v D (some vh) (some vm)).run P w = .ok u w/\AV σ w [.DT false e ((xs.drop l).take (h - l))] [u]:=by
  intro e hv N;subst hv N;obtain⟨b1,b2,b3⟩:=uC (P:=P) (Nat.le_refl 0) z q A Q em S;have J:h=0:=by simpa using b3
  have M:l=0:=by omega
  subst J;subst M;refine⟨_,Nz Y hi' b1,?_⟩;simp;exact .Gq .nil
 rcases hx with rfl|rfl
 ·cases hr with
  | Ew _=>exact G e rfl rfl
  | GL a _=>exact F e a rfl rfl
  | sl b' o c e' k0 k1 k2 k3 k4 k5 k6 k7=>
   have I:e=C.size:=by simpa using O
   obtain⟨b1,b2,b3⟩:=uC (P:=P) k4 z q A Q em S;refine⟨_,Nz Y hi' b1,?_⟩;rw[<- I];exact(xA k0 k1 k2 k3 k4 k5 k6 b2 b3 h (Nat.le_refl _) (by omega)).2 rfl
 ·cases hr with
  | Gq _=>exact G e rfl rfl
  | Hf a _=>exact F e a rfl rfl
  | DT b' o e' k0 k1 k2 k3 k4 k5 k6=>
   have I:e=C.size:=by simpa using O
   obtain⟨b1,b2,b3⟩:=uC (P:=P) (Nat.le_refl _) z q A Q em S;refine⟨_,Nz Y hi' b1,?_⟩;rw[<- I];exact(xA k0 k1 k2 k3 (Nat.le_refl _) k4 k5 b2 b3 h (Nat.le_refl _) b3).2 rfl
theorem ZDp {E B w0 σ H w} {P:Program} (hE:DV E) (hP:E.P=P) (h:Inv B w0 σ H w) {t:TypeId} {x r:V} {v:Value} {lo hi mx:Option V} {vlo vhi vmx:Option Value} {H' : Heap}
  (hr:AV σ w [x] [v]) (D:KR σ w lo vlo) (J:KR σ w hi vhi) (hmx:KR σ w mx vmx) (hs:Jp E H t x lo hi mx=some (r,H')) :
  ∃u σ',(Instr.sliceAt t v vlo vhi vmx).run P w = .ok u w/\Inv B w0 σ' H' w/\Ext σ w σ' w/\AV σ' w [r] [u]:=by
 unfold Jp at hs;split at hs
 ·rename_i A;split at hs
  ·cases hs
  ·rename_i n hn;split at hs
   ·cases hs
   ·rename_i hh eh;split at hs
    ·cases hs
    ·rename_i l el;cases hmx with
     | none=>
      simp only at hs;split at hs
      ·
       rename_i s;simp only[Option.some.injEq,Prod.mk.injEq]at hs;obtain⟨rfl,rfl⟩:=hs;have hst:P.underlying t=some .string:=by rw[<- hP];exact hE.isStr t A
       cases hr with
       | lit hlf _=>
        have z:n=s.size:=by simpa[lenOf]using hn.symm
        subst z;obtain⟨b1,b2,b3⟩:=QR (P:=P) (Nat.le_refl _) false D J eh el;refine⟨.string (s.extract l hh),σ,?_,h,Ext.refl σ w,.lit ?_ .nil⟩
        ·simp[Instr.sliceAt,Instr.slice,run_underlying hst,b1]
        ·have:s.size<=maxLen:=by simpa[leaf]using hlf
         simp only[leaf,decide_eq_true_eq,ByteArray.size_extract];omega
      ·rename_i b e xs;simp only[Option.some.injEq,Prod.mk.injEq]at hs;obtain⟨rfl,rfl⟩:=hs;obtain⟨te,G,S,hi',C⟩:=We hE hP (by simp) A;cases hr with
       | Ew _=>
        have z:n=0:=by simpa[lenOf]using hn.symm
        subst z;obtain⟨b1,b2,b3⟩:=QR (P:=P) (Nat.le_refl 0) true D J eh el;have N:hh=0:=by omega
        have Q:l=0:=by omega
        subst N;subst Q;refine⟨_,σ,Nz S hi' b1,h,Ext.refl σ w,?_⟩;simp;exact .Ew .nil
       | GL a _=>
        have z:n=0:=by simpa[lenOf]using hn.symm
        subst z;obtain⟨b1,b2,b3⟩:=QR (P:=P) (Nat.le_refl 0) true D J eh el;have N:hh=0:=by omega
        have Q:l=0:=by omega
        subst N;subst Q;refine⟨_,σ,Nz S hi' b1,h,Ext.refl σ w,?_⟩;simp;exact .GL a .nil
       | sl b o c e k0 k1 k2 k3 k4 k5 k6 k7=>
        have z:n=xs.length:=by simpa[lenOf]using hn.symm
        subst z;have hee:e=G.size:=by simpa[FD]using C
        obtain⟨b1,b2,b3⟩:=QR (P:=P) k4 true D J eh el;refine⟨_,σ,Nz S hi' b1,h,Ext.refl σ w,?_⟩;rw[<- hee];exact(xA k0 k1 k2 k3 k4 k5 k6 b2 b3 c (by omega) (Nat.le_refl _)).1
      ·rename_i b e xs;simp only[Option.some.injEq,Prod.mk.injEq]at hs;obtain⟨rfl,rfl⟩:=hs;obtain⟨te,G,S,hi',C⟩:=We hE hP (by simp) A;cases hr with
       | Gq _=>
        have z:n=0:=by simpa[lenOf]using hn.symm
        subst z;obtain⟨b1,b2,b3⟩:=QR (P:=P) (Nat.le_refl 0) true D J eh el;have N:hh=0:=by omega
        have Q:l=0:=by omega
        subst N;subst Q;refine⟨_,σ,Nz S hi' b1,h,Ext.refl σ w,?_⟩;simp;exact .Ew .nil
       | Hf a _=>
        have z:n=0:=by simpa[lenOf]using hn.symm
        subst z;obtain⟨b1,b2,b3⟩:=QR (P:=P) (Nat.le_refl 0) true D J eh el;have N:hh=0:=by omega
        have Q:l=0:=by omega
        subst N;subst Q;refine⟨_,σ,Nz S hi' b1,h,Ext.refl σ w,?_⟩;simp;exact .GL a .nil
       | DT b o e k0 k1 k2 k3 k4 k5 k6=>
        have z:n=xs.length:=by simpa[lenOf]using hn.symm
        subst z;have hee:e=G.size:=by simpa[FD]using C
        obtain⟨b1,b2,b3⟩:=QR (P:=P) (Nat.le_refl _) true D J eh el;refine⟨_,σ,Nz S hi' b1,h,Ext.refl σ w,?_⟩;rw[<- hee];exact(xA k0 k1 k2 k3 (Nat.le_refl _) k4 k5 b2 b3 xs.length b3 (Nat.le_refl _)).1
      ·rename_i id off len tot;simp only[Option.some.injEq,Prod.mk.injEq]at hs;obtain⟨rfl,rfl⟩:=hs;obtain⟨te,G,S,hi',C⟩:=We hE hP (by simp) A;cases hb:Dt H id tot with
       | none=>simp[lenOf,hb]at hn
       | some b=>
        have z:n=len:=by simpa[lenOf,hb]using hn.symm
        subst z;obtain⟨L,us,m,hxl,hol,hsub,hview⟩:=Oo h hr hb;have hLe:L.BA=G.size:=by
         have:b.BA=G.size:=by simpa[FD,hb]using C
         rw[<- m.BA];exact this
        obtain⟨a,nn,c,k,e1,e2,e3,e4,e5⟩:=hsub;have hnc:nn<=c/\nn=tot:=by
         rcases m.shape with ⟨hv,hx,hu⟩|⟨g,cap,cur,tg,hv,hg,hhh,htg,hnn,hm,hsz,htk⟩
         ·rw[hv]at e1;cases e1;exact⟨Nat.le_refl _,by rw[<- hxl,hx];rfl⟩
         ·rw[hv]at e1;cases e1;exact⟨hnn,hxl⟩
        subst e2;obtain⟨b1,b2,b3⟩:=QR (P:=P) (n:=n) (cap:=c - off) (by omega) true D J eh el;refine⟨_,σ,Nz S hi' b1,h,Ext.refl σ w,?_⟩;refine .Bl m.box (by rw[m.tot,hxl];exact Nat.le_refl _) (fun _=>⟨by omega,a,nn,c,if c - off=l then k else k+l,e1,?_,by omega,by split<;>omega,fun hlt=>by split<;>omega⟩) ⟨_,_,_,rfl⟩ .nil;rw[hLe];congr 1
        ·split
         ·rfl
         ·cases a with
          | none=>rfl
          | some ad=>simp[addr_add_add,Nat.add_mul]
        ·omega
      ·cases hs
     | some hmr=>
      rename_i xm vm;simp only at hs;have I:∀k,JL xm n=some k->k=hh->∀xh,hi=some xh->∃vh,vhi=some vh/\AV σ w [xh] [vh]/\JL xh n=some hh:=by
       intro k hk M xh hxh;subst hxh;cases J with
       | some O=>exact⟨_,rfl,O,eh⟩
      split at hs
      ·rename_i xh k xs' b e xs hk F;split at hs
       ·rename_i M;simp only[Option.some.injEq,Prod.mk.injEq]at hs;obtain⟨rfl,rfl⟩:=hs;obtain⟨te,G,S,hi',C⟩:=We hE hP (by simp) A;obtain⟨vh,hvh,O,Y⟩:=I k hk M xh rfl;have z:n=xs.length:=by simpa[lenOf]using hn.symm
        have hxx:xs' = xs:=by simpa[elemsOf]using F.symm
        subst z hxx M hvh;obtain⟨u,hu,hru⟩:=cut3 (E:=E) (P:=P) S hi' (by simpa[FD]using C) (.inl rfl) hr D O hmr Y hk el;exact⟨u,σ,hu,h,Ext.refl σ w,hru⟩
       ·cases hs
      ·rename_i xh k xs' b e xs hk F;split at hs
       ·rename_i M;simp only[Option.some.injEq,Prod.mk.injEq]at hs;obtain⟨rfl,rfl⟩:=hs;obtain⟨te,G,S,hi',C⟩:=We hE hP (by simp) A;obtain⟨vh,hvh,O,Y⟩:=I k hk M xh rfl;have z:n=xs.length:=by simpa[lenOf]using hn.symm
        have hxx:xs' = xs:=by simpa[elemsOf]using F.symm
        subst z hxx M hvh;obtain⟨u,hu,hru⟩:=cut3 (E:=E) (P:=P) S hi' (by simpa[FD]using C) (.inr rfl) hr D O hmr Y hk el;exact⟨u,σ,hu,h,Ext.refl σ w,hru⟩
       ·cases hs
      ·rename_i xh k xs' id off len tot hk F;split at hs
       ·rename_i M;simp only[Option.some.injEq,Prod.mk.injEq]at hs;obtain⟨rfl,rfl⟩:=hs;obtain⟨te,G,S,hi',C⟩:=We hE hP (by simp) A;obtain⟨vh,hvh,O,Y⟩:=I k hk M xh rfl;cases hb:Dt H id tot with
        | none=>simp[lenOf,hb]at hn
        | some b=>
         have z:n=len:=by simpa[lenOf,hb]using hn.symm
         have hbe:b.BA=G.size:=by simpa[FD,hb]using C
         obtain⟨p1,p2,p3⟩:=WR hb;have hget:H.getD id default=b:=by simp[List.getD,p1]
         simp only[elemsOf,hb]at F;split at F
         ·rename_i hcc;simp only[Option.some.injEq]at F;simp only[Bool.and_eq_true,decide_eq_true_eq]at hcc;have hfz:Ia H (.Bl id off len tot)=some (.sl false b.BA ((b.xs.drop off).take len)):=by
           simp[Ia,hb,hcc.1,hcc.2]
          obtain⟨hI,hEx⟩:=h.freeze [id];have hr' :=uX h hr hfz [id] (by simp[Fb]);have hlen:xs'.length=n:=by rw[<- F,z];simp;omega
          rw[F]at hr';subst M hvh;rw[<- hlen]at Y hk;have hlo' : KR (σ.freeze H [id]) w lo vlo:=by cases D with
           | none=>exact .none
           | some q=>exact .some (q.ext hEx)
          obtain⟨u,hu,hru⟩:=cut3 (E:=E) (P:=P) S hi' (by simp[hbe]) (.inl rfl) hr' hlo' (O.ext hEx) (hmr.ext hEx) Y hk el
          grind
         ·cases F
       ·cases hs
      ·cases hs
 ·cases hs
end Go.Proofs.YtjodhcdmhobmoaaGreatDoor.Le
namespace Go.Proofs.YtjodhcdmhobmoaaGreatDoor.Le
open Go.RowKit (Below)
theorem W9 {E:Env} {P:Program} (A:DV E) (C:E.P=P) {t:TypeId} {n:Nat} (h:E.size t=some n):∃q,P.info? t=some q/\q.size=n:=by
 unfold Env.size at h;cases z:E.ti t with
 | none=>simp[z]at h
 | some i=>
  obtain⟨q,d,F,D,q1,q2,q3,G⟩:=Fg (A.ti _ _ z)
  simp_all
theorem Zu9 {E B w0 σ H w} {P:Program} (M:DV E) (N:E.P=P) (h:Inv B w0 σ H w) {t:TypeId} {x i r:V} {xv iv:Value} (hx:AV σ w [x] [xv]) (hi:AV σ w [i] [iv])
  (q:QI E H t x i=some r):∃u,(Instr.indexAt t xv iv).run P w = .ok u w/\AV σ w [r] [u]:=by
 unfold QI at q;split at q
 ·rename_i k n ti hti;obtain⟨inf,d,hin,O,q1,q2,q3,q4⟩:=Fg (M.ti _ _ hti);rw[N]at hin O;cases hi with
  | lit hl _=>
   split at q
   ·
    rename_i ty el b e xs D;have z:=Oi (D.symm.trans q1);subst z;split at q
    ·rename_i hc;obtain⟨S,G,Y⟩:=hc;obtain⟨F,A,C⟩:=W9 M N Y;simp only[Option.some.injEq]at q;subst q;cases hx with
     | Ew _=>simp at G;omega
     | GL a _=>simp at G;omega
     | sl Q o c e' k0 k1 k2 k3 k4 k5 k6 k7=>
      refine⟨.pointer (some ⟨Q,o+n.toNat*e,none⟩),?_,?_⟩
      ·simp[Instr.indexAt,asIntOf,run_underlying O,S,G,sizeOf,typeInfo,A,C,Addr.add_mid]
      ·have:=AV.CX (σ:=σ) (w:=w) (xs:=[]) (vs:=[]) Q o e n.toNat 0 k0 k1 k2 k3 k6 .nil;simpa using this
    ·cases q
   ·rename_i ty el b e xs D;have z:=Oi (D.symm.trans q1);subst z;split at q
    ·rename_i hc;obtain⟨S,G,Y⟩:=hc;obtain⟨F,A,C⟩:=W9 M N Y;simp only[Option.some.injEq]at q;subst q;cases hx with
     | Gq _=>simp at G;omega
     | Hf a _=>simp at G;omega
     | DT Q o e' k0 k1 k2 k3 k4 k5 k6=>
      refine⟨.pointer (some ⟨Q,o+n.toNat*e,none⟩),?_,?_⟩
      ·simp[Instr.indexAt,asIntOf,run_underlying O,S,G,sizeOf,typeInfo,A,C,Addr.add_mid]
      ·have:=AV.CX (σ:=σ) (w:=w) (xs:=[]) (vs:=[]) Q o e n.toNat 0 k0 k1 k2 k3 k5 .nil;simpa using this
    ·cases q
   ·rename_i ty el id off len tot D;have z:=Oi (D.symm.trans q1);subst z;split at q
    ·rename_i b hb;split at q
     ·rename_i hc;obtain⟨S,G,Y⟩:=hc;obtain⟨F,A,C⟩:=W9 M N Y;simp only[Option.some.injEq]at q;subst q;obtain⟨L,us,m,hxl,hol,hsub,J⟩:=Oo h hx hb;rcases J with ⟨hv,hvv,ho,hl',ht⟩|⟨g,cap,k',hv,hvv,hle,hmx,hk1,hk2⟩
      ·grind
      ·have hk:k' = off:=hk2 (by omega);subst hk;subst hvv;have hLe:L.BA=b.BA:=m.BA.symm;refine⟨.pointer (some ⟨g,(k' + n.toNat)*L.BA+0,none⟩),?_,.ptr g m.box (by rw[m.tot,hxl];exact Nat.le_refl _) (fun _=>⟨_,_,hv⟩) rfl .nil⟩;simp[Instr.indexAt,asIntOf,run_underlying O,S,G,sizeOf,typeInfo,A,C,Addr.add_mid,Nat.add_mul,hLe]
     ·cases q
    ·cases q
   ·rename_i ty len e id j off tot D;have z:=sS (D.symm.trans q1);subst z;split at q
    ·rename_i sz I;obtain⟨F,A,C⟩:=W9 M N I;split at q
     ·rename_i hc;simp only[Option.some.injEq]at q;subst q;cases hx with
      | ptr g k1 k2 k3 k4 _=>
       subst k4;refine⟨.pointer (some ⟨g,j*_+(off+n.toNat*sz),none⟩),?_,.ptr g k1 k2 k3 rfl .nil⟩;simp[Instr.indexAt,Instr.sureAddr,asIntOf,run_underlying O,hc.1,hc.2,sizeOf,typeInfo,A,C,Addr.add_mid,Nat.add_assoc]
     ·cases q
    ·cases q
   ·rename_i ty len e d' xs j off D;have z:=sS (D.symm.trans q1);subst z;split at q
    ·rename_i sz I;obtain⟨F,A,C⟩:=W9 M N I;split at q
     ·rename_i hc;simp only[Option.some.injEq]at q;subst q;cases hx with
      | CX b o e' i' off' k0 k1 k2 k3 k4 _=>
       refine⟨.pointer (some ⟨b,o+j*d' + (off+n.toNat*sz),none⟩),?_,.CX b o d' j _ k0 k1 k2 k3 k4 .nil⟩;simp[Instr.indexAt,Instr.sureAddr,asIntOf,run_underlying O,hc.1,hc.2,sizeOf,typeInfo,A,C,Addr.add_mid,Nat.add_assoc]
     ·cases q
    ·cases q
   ·cases q
 ·cases q
theorem ZuM {E σ w} {P:Program} (hE:DV E) (hP:E.P=P) {t:TypeId} {x r:V} {xv:Value} {f:Nat} (hx:AV σ w [x] [xv])
  (q:WQ E t x f=some r):∃u,(Instr.fieldAt t xv f).run P w = .ok u w/\AV σ w [r] [u]:=by
 unfold WQ at q;split at q
 ·rename_i fs sz by' z0 hti;obtain⟨inf,d,hin,G,q1,q2,q3,q4⟩:=Fg (hE.ti _ _ hti);rw[hP]at G;obtain⟨fields,I,J⟩:=Z1X q1;subst I;split at q
  ·rename_i o ft A;have C:∃fd,fields[f]? = some fd/\fd.offset=o/\fd.type=ft:=by
    rw[J,List.getElem?_map]at A;rw[<- Array.getElem?_toList];cases hh:fields.toList[f]? with
    | none=>simp[hh]at A
    | some fd=>
     simp only[hh,Option.map_some,Option.some.injEq,Prod.mk.injEq]at A;exact⟨fd,rfl,A.1,A.2⟩
   obtain⟨fd,D,O,Y⟩:=C;split at q
   ·rename_i fsz S;obtain⟨F,M,Q⟩:=W9 hE hP S;split at q
    ·cases q
    ·rename_i N;have z:∀a:Addr,(fieldPlace a fd).run P w = .ok (a.add o) w:=by
      intro a;have hz:¬F.size=0:=by rw[Q];exact N
      simp[fieldPlace,sizeOf,typeInfo,Y,M,hz,O]
     split at q
     ·rename_i id j off tot;simp only[Option.some.injEq]at q;subst q;cases hx with
      | ptr g k1 k2 k3 k4 _=>
       subst k4;refine⟨.pointer (some ⟨g,j*_+(off+o),none⟩),?_,.ptr g k1 k2 k3 rfl .nil⟩;simp[Instr.fieldAt,run_underlying G,D,Instr.sureAddr,z,Addr.add_mid,Nat.add_assoc]
     ·rename_i e xs j off;simp only[Option.some.injEq]at q;subst q;cases hx with
      | CX b o' e' i' off' k0 k1 k2 k3 k4 _=>
       refine⟨.pointer (some ⟨b,o' + j*e+(off+o),none⟩),?_,.CX b o' e j _ k0 k1 k2 k3 k4 .nil⟩;simp[Instr.fieldAt,run_underlying G,D,Instr.sureAddr,z,Addr.add_mid,Nat.add_assoc]
     ·cases q
   ·cases q
  ·cases q
 ·cases q
theorem Zgh {E:Env} {P:Program} {σ w} (I:DV E) (J:E.P=P) {t:TypeId} {i:TI} (F:E.ti t=some i) {cs:List V} {ws:List Value} {off:Nat} {G : V}
  (h:AV σ w cs ws) (N:∀u∈ws,u.oneCell' = true) (hp:partOf cs off i.size i.isAgg=some G) :
  ∃u,(part t ws.toArray off).run P w = .ok u w/\AV σ w [G] [u]:=by
 obtain⟨O,d,A,D,q1,q2,q3,Q⟩:=Fg (I.ti _ _ F);rw[J]at A D;have z:=Zgv q1;rcases Zfg h N hp with ⟨C,M,q⟩|⟨C,u,hu,q⟩
 ·refine⟨_,?_,q⟩;have:d.isRow=true:=by rw[<- z];exact C
  unfold part;rw[Sem.run_bind,Z37 w D,this];simp only[Result.andThen_ok,if_true,Sem.run_bind,run_sizeOf w A,Sem.run_pure]
  simp_all
 ·refine⟨u,?_,q⟩;have:d.isRow=false:=by rw[<- z];exact C
  unfold part;rw[Sem.run_bind,Z37 w D,this];simp[hu]
theorem ZCx {E σ w} {P:Program} (O:DV E) (Q:E.P=P) {t:TypeId} {x r:V} {xv:Value} {f:Nat} (hx:AV σ w [x] [xv])
  (A:XK E t x f=some r):∃u,(Instr.field t xv f).run P w = .ok u w/\AV σ w [r] [u]:=by
 unfold XK at A;split at A
 ·rename_i fs sz by' z0 cs N;obtain⟨inf,d,hin,S,q1,q2,q3,q4⟩:=Fg (O.ti _ _ N);rw[Q]at S;obtain⟨fields,F,I⟩:=Z1X q1;subst F;split at A
  ·rename_i o ft q;have z:∃fd,fields[f]? = some fd/\fd.offset=o/\fd.type=ft:=by
    rw[I,List.getElem?_map]at q;rw[<- Array.getElem?_toList];cases Y:fields.toList[f]? with
    | none=>simp[Y]at q
    | some fd=>
     simp only[Y,Option.map_some,Option.some.injEq,Prod.mk.injEq]at q;exact⟨fd,rfl,q.1,q.2⟩
   obtain⟨fd,G,J,M⟩:=z;split at A
   ·rename_i i D;cases hx with
    | agg h1 h2 _=>
     obtain⟨u,hu,C⟩:=Zgh O Q (t:=fd.type) (by rw[M];exact D) h1 h2 A;refine⟨u,?_,C⟩;rw[<- J]at hu;simp[Instr.field,run_underlying S,G,asAgg,hu]
   ·cases A
  ·cases A
 ·cases A
theorem ZCI {E σ w} {P:Program} (F:DV E) (G:E.P=P) {t:TypeId} {x i r:V} {Y S:Value} (O:AV σ w [x] [Y]) (hi:AV σ w [i] [S])
  (q:XF E t x i=some r):∃u,(Instr.index t Y S).run P w = .ok u w/\AV σ w [r] [u]:=by
 unfold XF at q;split at q
 ·rename_i k n;cases hi with
  | lit hl _=>
   split at q
   ·rename_i len e sz by' z0 cs D;obtain⟨inf,d,hin,I,q1,q2,q3,q4⟩:=Fg (F.ti _ _ D);rw[G]at I;have J:=sS q1;subst J;split at q
    ·rename_i ei z;obtain⟨Q,de,A,hde,e1,e2,e3,e4⟩:=Fg (F.ti _ _ z);rw[G]at A;split at q
     ·rename_i hc;cases O with
      | agg h1 h2 _=>
       obtain⟨u,hu,C⟩:=Zgh F G z h1 h2 q;refine⟨u,?_,C⟩;rw[e2]at hu;simp[Instr.index,asIntOf,run_underlying I,hc.1,hc.2,sizeOf,typeInfo,A,hu]
     ·cases q
    ·cases q
   ·rename_i sz by' z0 s D;split at q
    ·rename_i N;have I:P.underlying t=some .string:=by rw[<- G];exact F.isStr t N
     split at q
     ·rename_i h0;cases M:s[n.toNat]? with
      | none=>simp[M]at q
      | some b=>
       simp only[M,Option.map_some,Option.some.injEq]at q;subst q;cases O with
       | lit _ _=>
        refine⟨.int .u8 b.toNat,?_,.lit ?_ .nil⟩
        ·simp[Instr.index,asIntOf,run_underlying I,h0,M]
        ·have:=b.toNat_lt;simp[leaf,Lit.wf,IntKind.min,IntKind.max,IntKind.signed,IntKind.bits];omega
     ·cases q
    ·cases q
   ·cases q
 ·cases q
end Go.Proofs.YtjodhcdmhobmoaaGreatDoor.Le
namespace Go.Proofs.YtjodhcdmhobmoaaGreatDoor.Le
open Go.RowKit (Below)
theorem ZH1 (k:IntKind) (n:Int):(Lit.int k n).wf=true↔k.min<=n/\n<=k.max:=by simp[Lit.wf]
theorem ZBO (k:IntKind):k.min<=0/\0<=k.max:=by cases k<;>decide
theorem ZeK {k:IntKind} {a n:Int} (h:(Lit.int k a).wf=true) (q:(0<=a/\0<=n/\n<=a)\/(a<=0/\a<=n/\n<=0)):(Lit.int k n).wf=true:=by
 rw[ZH1]at h ⊢;have:=ZBO k;omega
theorem ZuI (a b:Int):(0<=a/\0<=a.tmod b/\a.tmod b<=a)\/(a<=0/\a<=a.tmod b/\a.tmod b<=0):=by
 have key:∀x:Int,0<=x->0<=x.tmod b/\x.tmod b<=x:=by
  intro x q;rw[Int.tmod_eq_emod_of_nonneg q]
  by_cases hb:b=0
  ·subst hb;simp[q]
  ·refine⟨Int.emod_nonneg x hb,?_⟩;have z:=Int.emod_nonneg x hb;have A:=Int.mul_ediv_add_emod x b;have C:0<=b*(x / b):=by
    rcases Int.lt_or_gt_of_ne hb with hb|hb
    ·exact Int.mul_nonneg_of_nonpos_of_nonpos (by omega) (Int.ediv_nonpos_of_nonneg_of_nonpos q (by omega))
    ·exact Int.mul_nonneg (by omega) (Int.ediv_nonneg q (by omega))
   omega
 rcases Int.le_total 0 a with h|h
 ·simp_all
 ·right;have:=key (-a) (by omega);rw[Int.neg_tmod]at this;omega
theorem ZtC (a:Int) (n:Nat):(0<=a/\0<=a.fdiv (2 ^ n)/\a.fdiv (2 ^ n)<=a)\/(a<=0/\a<=a.fdiv (2 ^ n)/\a.fdiv (2 ^ n)<=0):=by
 have hp:(0:Int)<2 ^ n:=Int.pow_pos (by decide);rw[Int.fdiv_eq_ediv_of_nonneg _ (Int.le_of_lt hp)];have A:=Int.mul_ediv_add_emod a (2 ^ n);have C:=Int.emod_nonneg a (Int.ne_of_gt hp);have D:=Int.emod_lt_of_pos a hp;rcases Int.le_total 0 a with h|h
 ·refine .inl ⟨h,Int.ediv_nonneg h (Int.le_of_lt hp),Int.ediv_le_self _ h⟩
 ·right;have z:a / 2 ^ n<=0:=by
   rcases Int.lt_or_eq_of_le h with hl|he
   ·exact Int.le_of_lt (Int.ediv_neg_of_neg_of_pos hl hp)
   ·rw[he];simp
  refine⟨h,?_,z⟩;rw[Int.le_ediv_iff_mul_le hp];have q:(1:Int)<=2 ^ n:=hp;have:=Int.mul_le_mul_of_nonneg_left q (show 0 <= -a by omega)
  grind
theorem UO {P:Program} {w:World} (op:BinOp) (t:TypeId) (x y:Operand) (a b:Value) (q:∀cs,a≠.agg cs) (z:a≠.nilIface):(eqGuard op t x y a b).run P w = .ok () w:=by
 unfold eqGuard
 simp_all
theorem ZHL {P:Program} {w:World} {op:BinOp} {t:TypeId} {k:IntKind} {a b:Int} {r:Value} (A:leaf (.int k a)=true) (hs:op≠.shl/\op≠.shr) (q:PR op k a b=some r) :
  (binOp op t (.int k a) (.int k b)).run P w = .ok r w/\leaf r=true:=by
 have z : (Lit.int k a).wf=true:=by simpa[leaf]using A
 cases op<;>simp only[PR,Option.some.injEq,reduceCtorEq]at q
 all_goals try (exact absurd rfl hs.1)
 all_goals try (exact absurd rfl hs.2)
 all_goals try (subst q;refine⟨?_,rfl⟩;simp[binOp,Op.intCmp];done)
 all_goals try (subst q;refine⟨?_,show (Lit.int _ _).wf=true from wf_wrap _ _⟩;simp[binOp,Op.intArith];done)
 all_goals try (subst q;refine⟨?_,show (Lit.int _ _).wf=true from wf_bits _ _ _ _⟩;simp[binOp,Op.intBits,bits];done)
 all_goals (split at q)
 all_goals try (cases q;done)
 all_goals rename_i hb
 all_goals simp only[Option.some.injEq]at q
 all_goals subst q
 ·exact⟨by simp[binOp,Op.intDiv,hb],show (Lit.int _ _).wf=true from wf_wrap _ _⟩
 ·exact⟨by simp[binOp,Op.intDiv,hb],show (Lit.int _ _).wf=true from ZeK z (ZuI a b)⟩
theorem Zgo {P:Program} {w:World} {op:BinOp} {t:TypeId} {k j:IntKind} {a b:Int} {r:Value} (A:leaf (.int k a)=true) (hs:op = .shl\/op = .shr) (q:QZ op k a b=some r) :
  (binOp op t (.int k a) (.int j b)).run P w = .ok r w/\leaf r=true:=by
 have z : (Lit.int k a).wf=true:=by simpa[leaf]using A
 unfold QZ at q;split at q
 ·cases q
 ·rename_i hb;rcases hs with rfl|rfl
  ·simp only[Option.some.injEq]at q;subst q;exact⟨by simp[binOp,Op.shift,hb],show (Lit.int _ _).wf=true from wf_wrap _ _⟩
  ·simp only[Option.some.injEq]at q;subst q;exact⟨by simp[binOp,Op.shift,hb],show (Lit.int _ _).wf=true from ZeK z (ZtC a _)⟩
theorem ZHq {P:Program} {w:World} {op:BinOp} {t:TypeId} {a b:ByteArray} {r:Value} (q:XV op a b=some r) :
  (binOp op t (.string a) (.string b)).run P w = .ok r w/\leaf r=true:=by
 cases op<;>simp only[XV,Option.some.injEq,reduceCtorEq]at q
 ·split at q
  ·rename_i hc;simp only[decide_eq_true_eq]at hc;simp only[Option.some.injEq]at q;subst q;have z:¬(9223372036854775807<((a.size+b.size:Nat):Int)):=by simp[maxLen]at hc;omega
   refine⟨?_,by simpa[leaf]using hc⟩;simp only[binOp,Op.stringOp]
   simp_all
  ·cases q
 all_goals (subst q;exact⟨by simp[binOp,Op.stringOp],rfl⟩)
end Go.Proofs.YtjodhcdmhobmoaaGreatDoor.Le
namespace Go.Proofs.YtjodhcdmhobmoaaGreatDoor.Le
open Go.RowKit (Below)
def PT:FK->Value->Option Lit
 | .b,.bool b=>some (.bool b)
 | .i k,.int j n=>if j=k/\(Lit.int k n).wf=true then some (.int k n) else none
 | .s,.string s=>if s.size<=maxLen then some (.string s.data.toList) else none
 | _,_=>none
def FZ:List FK->List Value->Option (List Lit)
 | [],[]=>some []
 | k::ks,v::vs=>match PT k v,FZ ks vs with|some l,some ls=>some (l::ls)|_,_=>none
 | _,_=>none
theorem tJ:∀{ks:List FK} {vs:List Value} {ls:List Lit},FZ ks vs=some ls->vs.length=ks.length/\ls.length=ks.length
 | [],[],ls,h=>by simp[FZ]at h;subst h;simp
 | [],v::vs,ls,h=>by simp[FZ]at h
 | k::ks,[],ls,h=>by simp[FZ]at h
 | k::ks,v::vs,ls,h=>by
  simp only[FZ]at h;split at h
  ·rename_i l ls' z q;simp only[Option.some.injEq]at h;subst h;obtain⟨a,b⟩:=tJ q;simp[a,b]
  ·cases h
theorem Z14:∀{ks q : List FK} {vs:List Value} {ls:List Lit},FZ (ks++q) vs=some ls->∃z A,FZ ks (vs.take ks.length)=some z/\FZ q (vs.drop ks.length)=some A/\ls=z++A
 | [],q,vs,ls,h=>⟨[],ls,by simp[FZ],by simpa using h,rfl⟩
 | k::ks,q,[],ls,h=>by simp[FZ]at h
 | k::ks,q,v::vs,ls,h=>by
  simp only[List.cons_append,FZ]at h;split at h
  ·rename_i l ls' C D;simp only[Option.some.injEq]at h;subst h;obtain⟨z,A,a,b,c⟩:=Z14 D;exact⟨l::z,A,by simp[FZ,C,a],by simpa using b,by simp[c]⟩
  ·cases h
theorem ZcC {P:Program} {d:Nat} (F:∀t ks vs ls,PZ P d t=some ks->FZ ks vs=some ls->P.keyLits d t vs=some ls) :
  ∀(fs:List Field) (off:Nat) (ks:List FK) (vs:List Value) (ls:List Lit),iI P (PZ P d) off fs=some ks->FZ ks (vs.drop off)=some ls ->
   (fs.mapM fun f=>P.keyLits d f.type ((vs.drop f.offset).take (P.cellsOf f.type))).map List.flatten=some ls/\(∀f∈fs,(f.name != "_")=true)
 | [],off,ks,vs,ls,h,hl=>by
  simp only[iI,Option.some.injEq]at h;subst h;cases D:vs.drop off with
  | nil=>rw[D]at hl;simp[FZ]at hl;subst hl;simp
  | cons a b=>rw[D]at hl;simp[FZ]at hl
 | f::fs,off,ks,vs,ls,h,hl=>by
  simp only[iI]at h;split at h
  ·rename_i hc;obtain⟨G,O⟩:=hc;split at h
   ·rename_i k1 A;split at h
    ·rename_i C;split at h
     ·rename_i z q;simp only[Option.some.injEq]at h;subst h;obtain⟨J,M,a,b,rfl⟩:=Z14 hl;rw[List.drop_drop]at b;obtain⟨N,Q⟩:=ZcC F fs (off+k1.length) z vs M q b;have I:=F f.type k1 _ J A a;refine⟨?_,?_⟩
      ·rw[List.mapM_cons];rw[G,C,I];cases hm:fs.mapM fun f=>P.keyLits d f.type ((vs.drop f.offset).take (P.cellsOf f.type)) with
       | none=>simp[hm]at N
       | some ms=>
        simp_all
      simp_all
     ·cases h
    ·cases h
   ·cases h
  ·cases h
theorem Zec {P:Program} {d:Nat} {e:TypeId} {ks:List FK} (A:∀vs ls,FZ ks vs=some ls->P.keyLits d e vs=some ls) (q:P.cellsOf e=ks.length) :
  ∀(n s:Nat) (vs:List Value) (ls:List Lit),FZ (List.replicate n ks).flatten (vs.drop (s*ks.length))=some ls ->
   ((List.range' s n).mapM fun i=>P.keyLits d e ((vs.drop (i*P.cellsOf e)).take (P.cellsOf e))).map List.flatten=some ls
 | 0,s,vs,ls,h=>by
  cases z:vs.drop (s*ks.length) with
  | nil=>rw[z]at h;simp[FZ]at h;subst h;simp
  | cons a b=>rw[z]at h;simp[FZ]at h
 | n+1,s,vs,ls,h=>by
  rw[List.replicate_succ,List.flatten_cons]at h;obtain⟨D,F,a,b,rfl⟩:=Z14 h;rw[List.drop_drop,<- Nat.succ_mul]at b;have r:=Zec A q n (s+1) vs F b;have C:=A _ D a;rw[List.range'_succ,List.mapM_cons,q,C];rw[q]at r;cases hm:(List.range' (s+1) n).mapM fun i=>P.keyLits d e ((vs.drop (i*ks.length)).take ks.length) with
  | none=>simp[hm]at r
  | some ms=>
   simp_all
theorem Z4c {P:Program}:∀(d:Nat) (t:TypeId) (ks:List FK) (vs:List Value) (ls:List Lit),PZ P d t=some ks->FZ ks vs=some ls->P.keyLits d t vs=some ls
 | 0,t,ks,vs,ls,h,hl=>by simp[PZ]at h
 | d+1,t,ks,vs,ls,h,hl=>by
  have C:=Z4c (P:=P) d;have q:=tJ hl;unfold PZ at h;split at h
  ·rename_i hu;simp only[Option.some.injEq]at h;subst h
   match vs,hl with
   | [v],hl=>
    cases v<;>simp[FZ,PT]at hl;subst hl;simp[Program.keyLits,hu]
  ·rename_i k hu;simp only[Option.some.injEq]at h;subst h
   match vs,hl with
   | [v],hl=>
    cases v<;>simp[FZ,PT]at hl;rename_i j n
    by_cases hc:j=k/\(Lit.int k n).wf=true
    ·rw[if_pos hc]at hl;simp at hl;subst hl;simp[Program.keyLits,hu,hc.1,hc.2]
    simp_all
  ·rename_i hu;simp only[Option.some.injEq]at h;subst h
   match vs,hl with
   | [v],hl=>
    cases v<;>simp[FZ,PT]at hl;rename_i s
    by_cases hc:s.size<=maxLen
    ·rw[if_pos hc]at hl;simp at hl;subst hl;simp[Program.keyLits,hu,hc]
    simp_all
  ·rename_i n e hu;split at h
   ·rename_i k1 z;split at h
    ·rename_i hc;simp only[Option.some.injEq]at h;subst h;have A:vs.length=P.cellsOf t:=by rw[q.1,hc.2];simp
     have r:=Zec (fun vs ls h=>C e k1 vs ls z h) hc.1 n 0 vs ls (by simpa using hl);unfold Program.keyLits;rw[hu];simp only[A,if_true,List.range_eq_range'];exact r
    ·cases h
   ·cases h
  ·rename_i fs hu;split at h
   ·rename_i k1 z;split at h
    ·rename_i hc;simp only[Option.some.injEq]at h;subst h;have A:vs.length=P.cellsOf t:=by rw[q.1,hc]
     obtain⟨D,F⟩:=ZcC C fs.toList 0 k1 vs ls z (by simpa using hl);unfold Program.keyLits
     simp_all
    ·cases h
   ·cases h
  ·cases h
theorem Zws (a b:ByteArray):(a==b)=true↔a.data.toList=b.data.toList:=by
 rw[beq_toListBytes,beq_iff_eq,ByteArray.toList_eq,ByteArray.toList_eq]
theorem ZtH {σ w}:∀{ks:List FK} {xs ys:List V} {Y vy:List Value} {r:Bool},AV σ w xs Y->AV σ w ys vy->J8 ks xs ys=some r ->
  ∃z lb,FZ ks Y=some z/\FZ ks vy=some lb/\(r=true↔z=lb):=by
 intro ks;induction ks with
 | nil=>
  intro xs ys Y vy r I J q;cases xs<;>cases ys<;>simp[J8]at q;cases I.Fj;cases J.Fj;exact⟨[],[],rfl,rfl,by simp[q]⟩
 | cons k ks ih=>
  intro xs ys Y vy r I J q;unfold J8 at q;split at q
  ·simp_all
  ·rename_i M a xs b ys F;cases F;obtain⟨v1,Q,rfl,N,O⟩:=I.EP;obtain⟨v2,S,rfl,q1,q2⟩:=J.EP;cases N with
   | lit _ _=>
   cases q1 with
   | lit _ _=>
   split at q
   ·rename_i r' G;obtain⟨z,lb,A,C,D⟩:=ih O q2 G;simp only[Option.some.injEq]at q;subst q;refine⟨.bool a::z,.bool b::lb,by simp[FZ,PT,A],by simp[FZ,PT,C],?_⟩;simp[D]
   ·cases q
  ·rename_i k' M k1 a xs k2 b ys F;cases F;obtain⟨v1,Q,rfl,N,O⟩:=I.EP;obtain⟨v2,S,rfl,q1,q2⟩:=J.EP;split at q
   ·rename_i hk;obtain⟨rfl,rfl⟩:=hk;cases N with
    | lit l1 _=>
    cases q1 with
    | lit l2 _=>
    split at q
    ·rename_i r' G;obtain⟨z,lb,A,C,D⟩:=ih O q2 G;simp only[Option.some.injEq]at q;subst q;have w1:(Lit.int k2 a).wf=true:=by simpa[leaf]using l1
     have w2:(Lit.int k2 b).wf=true:=by simpa[leaf]using l2
     refine⟨.int k2 a::z,.int k2 b::lb,by simp[FZ,PT,A,w1],by simp[FZ,PT,C,w2],?_⟩;simp[D]
    ·cases q
   ·cases q
  ·rename_i M a xs b ys F;cases F;obtain⟨v1,Q,rfl,N,O⟩:=I.EP;obtain⟨v2,S,rfl,q1,q2⟩:=J.EP;cases N with
   | lit l1 _=>
   cases q1 with
   | lit l2 _=>
   split at q
   ·rename_i r' G;obtain⟨z,lb,A,C,D⟩:=ih O q2 G;simp only[Option.some.injEq]at q;subst q;have w1:a.size<=maxLen:=by simpa[leaf]using l1
    have w2:b.size<=maxLen:=by simpa[leaf]using l2
    refine⟨.string a.data.toList::z,.string b.data.toList::lb,by simp[FZ,PT,A,w1],by simp[FZ,PT,C,w2],?_⟩;rw[Bool.and_eq_true,Zws,D];simp
   ·cases q
  ·cases q
theorem Zdw {E:Env} {P:Program} {σ w} (M:DV E) (N:E.P=P) {t:TypeId} {ks:List FK} {xs ys:List V} {C D:List Value} {r:Bool} (hf:E.flat t=some ks) (S:AV σ w xs C) (Y:AV σ w ys D)
  (O:J8 ks xs ys=some r):(Op.equalIn 10000 t (.agg C.toArray) (.agg D.toArray)).run P w = .ok r w/\P.eqGuardType P.depth t=false:=by
 have z:=M.flat t ks hf;rw[N]at z;obtain⟨J,lb,F,G,h3⟩:=ZtH S Y O;have A:(∃fs,P.underlying t=some (.struct fs))\/∃n e,P.underlying t=some (.array n e):=by
  unfold wY at z;split at z
  ·simp_all
  ·simp_all
  ·cases z
 have hk:P.keyTypeAt 20 t=true/\P.eqGuardType P.depth t=false/\PZ P 20 t=some ks:=by
  unfold wY at z
  grind
 obtain⟨k1,k2,k3⟩:=hk;have l1:=Z4c 20 t ks C J k3 F;have l2:=Z4c 20 t ks D lb k3 G;have q:P.cellsOf t=ks.length:=by
  rcases A with ⟨fs,hu⟩|⟨n,e,hu⟩<;>unfold PZ at k3<;>rw[hu]at k3<;>simp only[]at k3
  ·grind
  ·split at k3
   ·split at k3
    ·rename_i hc;simp only[Option.some.injEq]at k3;rw[<- k3,hc.2];simp
    ·cases k3
   ·cases k3
 have f1:(Value.agg C.toArray).formed P t=true:=by
  rcases A with ⟨fs,hu⟩|⟨n,e,hu⟩<;>simp[Value.formed,hu,q,(tJ F).1]
 have f2:(Value.agg D.toArray).formed P t=true:=by
  rcases A with ⟨fs,hu⟩|⟨n,e,hu⟩<;>simp[Value.formed,hu,q,(tJ G).1]
 obtain⟨r',Q,I⟩:=run_equalIn_deep (P:=P) 9980 20 t k1 w 20 20 (.agg C.toArray) (.agg D.toArray) J lb f1 f2 (by simpa[Value.cells]using l1) (by simpa[Value.cells]using l2)
 grind
end Go.Proofs.YtjodhcdmhobmoaaGreatDoor.Le
namespace Go.Proofs.YtjodhcdmhobmoaaGreatDoor.Le
open Go.RowKit (Below)
theorem un_ok {P:Program} {σ w} {op:UnOp} {x r:V} {v:Value} (q:AV σ w [x] [v]) (h:kX op x=some r):∃u,(Op.unary op v).run P w = .ok u w/\AV σ w [r] [u]:=by
 unfold kX at h;split at h
 ·simp only[Option.some.injEq]at h;subst h;cases q with
  | lit hl _=>exact⟨_,by simp[Op.unary,Op.intArith],.lit (show (Lit.int _ _).wf=true from wf_wrap _ _) .nil⟩
 ·simp only[Option.some.injEq]at h;subst h;cases q with
  | lit hl _=>exact⟨_,by simp[Op.unary,Op.intBits,bits],.lit (show (Lit.int _ _).wf=true from wf_bits _ _ _ _) .nil⟩
 ·simp only[Option.some.injEq]at h;subst h;cases q with
  | lit hl _=>exact⟨_,by simp[Op.unary],.lit rfl .nil⟩
 ·cases h
theorem ZHB {E:Env} {P:Program} {σ w} (I:DV E) (J:E.P=P) {op:BinOp} {t:TypeId} {x y r:V} {Q S:Value} (ox oy:Operand) (C:AV σ w [x] [Q]) (D:AV σ w [y] [S]) (h:Nr E op t x y=some r) :
  ∃u,(eqGuard op t ox oy Q S).run P w = .ok () w/\(binOp op t Q S).run P w = .ok u w/\AV σ w [r] [u]:=by
 unfold Nr at h;split at h
 ·rename_i k a j b;cases C with
  | lit F _=>
  cases D with
  | lit G _=>
  cases hs:QZ .shl k a b with
  | none=>simp[hs]at h
  | some q=>
   simp only[hs,Option.map_some,Option.some.injEq]at h;subst h;obtain⟨z,A⟩:=Zgo (P:=P) (w:=w) (t:=t) (j:=j) F (.inl rfl) hs;exact⟨q,UO _ _ _ _ _ _ (by simp) (by simp),z,.lit A .nil⟩
 ·rename_i k a j b;cases C with
  | lit F _=>
  cases D with
  | lit G _=>
  cases hs:QZ .shr k a b with
  | none=>simp[hs]at h
  | some q=>
   simp only[hs,Option.map_some,Option.some.injEq]at h;subst h;obtain⟨z,A⟩:=Zgo (P:=P) (w:=w) (t:=t) (j:=j) F (.inr rfl) hs;exact⟨q,UO _ _ _ _ _ _ (by simp) (by simp),z,.lit A .nil⟩
 ·rename_i k a j b M N;split at h
  ·rename_i hk;subst hk;cases C with
   | lit F _=>
   cases D with
   | lit G _=>
   cases hs:PR op k a b with
   | none=>simp[hs]at h
   | some q=>
    simp only[hs,Option.map_some,Option.some.injEq]at h;subst h;obtain⟨z,A⟩:=ZHL (P:=P) (w:=w) (t:=t) F ⟨M,N⟩ hs;exact⟨q,UO _ _ _ _ _ _ (by simp) (by simp),z,.lit A .nil⟩
  ·cases h
 ·rename_i a b;cases C with
  | lit F _=>
  cases D with
  | lit G _=>
  cases hs:XV op a b with
  | none=>simp[hs]at h
  | some q=>
   simp only[hs,Option.map_some,Option.some.injEq]at h;subst h;obtain⟨z,A⟩:=ZHq (P:=P) (w:=w) (t:=t) hs;exact⟨q,UO _ _ _ _ _ _ (by simp) (by simp),z,.lit A .nil⟩
 ·split at h
  ·rename_i hb;have hu:P.underlying t=some .bool:=by rw[<- J];exact I.isBool t hb
   simp only[Option.some.injEq]at h;subst h;cases C with
   | lit F _=>
   cases D with
   | lit G _=>
   exact⟨_,UO _ _ _ _ _ _ (by simp) (by simp),by simp[binOp,run_equal_bool w t _ _ hu],.lit rfl .nil⟩
  ·cases h
 ·split at h
  ·rename_i hb;have hu:P.underlying t=some .bool:=by rw[<- J];exact I.isBool t hb
   simp only[Option.some.injEq]at h;subst h;cases C with
   | lit F _=>
   cases D with
   | lit G _=>
   exact⟨_,UO _ _ _ _ _ _ (by simp) (by simp),by simp[binOp,run_equal_bool w t _ _ hu],.lit rfl .nil⟩
  ·cases h
 ·rename_i xs ys;split at h
  ·rename_i ks hf;cases hc:J8 ks xs ys with
   | none=>simp[hc]at h
   | some q=>
    simp only[hc,Option.map_some,Option.some.injEq]at h;subst h;cases C with
    | agg O _ _=>
    cases D with
    | agg q1 _ _=>
    obtain⟨z,A⟩:=Zdw I J hf O q1 hc;exact⟨.bool q,run_eqGuard_agg w _ _ _ _ _ _ A,by rw[run_eql_struct,z];rfl,.lit rfl .nil⟩
  ·cases h
 ·rename_i xs ys;split at h
  ·rename_i ks hf;cases hc:J8 ks xs ys with
   | none=>simp[hc]at h
   | some q=>
    simp only[hc,Option.map_some,Option.some.injEq]at h;subst h;cases C with
    | agg O _ _=>
    cases D with
    | agg q1 _ _=>
    obtain⟨z,A⟩:=Zdw I J hf O q1 hc;exact⟨.bool (!q),run_eqGuard_agg w _ _ _ _ _ _ A,by rw[run_neq_struct,z];rfl,.lit rfl .nil⟩
  ·cases h
 ·cases h
theorem ZeP {σ w}:∀{xs:List V} {us:List Value} {z:List UInt8},AV σ w xs us->bytesOf xs=some z->∃A:List Int,us=A.map (Value.int .u8)/\z=A.map fun n=>UInt8.ofNat n.toNat
 | [],us,z,h,hb=>by
  cases h.Fj;simp only[bytesOf,Option.some.injEq]at hb
  simp_all
 | x::xs,us,z,h,hb=>by
  obtain⟨v,M,rfl,I,J⟩:=h.EP;simp only[bytesOf]at hb;split at hb
  ·rename_i b D q C;simp only[Option.some.injEq]at hb;subst hb;obtain⟨A,F,G⟩:=ZeP J C;unfold byteOf at q;split at q
   ·rename_i n;simp only[Option.some.injEq]at q;subst q;cases I with
    | lit _ _=>exact⟨n::A,by simp[F],by simp[G]⟩
   ·cases q
  ·cases hb
theorem Zzp (q:List Int) (s:ByteArray):(q.foldl (fun r n=>r.push (UInt8.ofNat n.toNat)) s)=⟨s.data++(q.map fun n=>UInt8.ofNat n.toNat).toArray⟩:=by
 induction q generalizing s with
 | nil=>cases s;simp
 | cons n q z=>
  simp_all
theorem ZzP {v:Value} (h:leaf v=true):v.cells = #[v]/\v.oneCell' = true:=by
 unfold leaf at h;split at h<;>first|exact⟨rfl,rfl⟩|cases h
theorem Z2S {σ:Sg} {w:World}:∀{cs:List V} {ws:List Value},AV σ w cs ws->cs.all JM=true->(∀u∈ws,u.cells = #[u]/\u.oneCell' = true)/\flat ws=ws/\∀x∈cs,FW x=true:=by
 intro cs;induction cs with
 | nil=>intro ws h _;cases h.Fj;exact⟨by simp,rfl,by simp⟩
 | cons c cs F=>
  intro ws h hl;obtain⟨v,vs,rfl,z,A⟩:=h.EP;simp only[List.all_cons,Bool.and_eq_true]at hl;obtain⟨G,C,D⟩:=F A hl.2;cases z with
  | lit q _=>
   obtain⟨k1,k2⟩:=ZzP q;refine⟨fun u hu=>?_,?_,fun x hx=>?_⟩
   ·grind
   ·rw[L9,k1,C];rfl
   ·rcases List.mem_cons.1 hx with rfl|hx
    ·rfl
    ·exact D x hx
  | _=>simp[JM]at hl
theorem ZB4 {E B w0 σ H w} {P:Program} (hE:DV E) (hP:E.P=P) (h:Inv B w0 σ H w) {t e:TypeId} {n sz by' : Nat} {z0:Option V} (hti:E.ti t=some ⟨.array n e,sz,by',z0⟩) {x r:V} {v:Value} {lo hi mx:Option V} {lo' hi' mx' : Option Value} {H' : Heap} (hx:AV σ w [x] [v])
  (hlo:KR σ w lo lo') (hhi:KR σ w hi hi') (hmx:KR σ w mx mx') (hs:PK E H n e x lo hi mx=some (r,H')) :
  ∃u σ',(Instr.sliceAt t v lo' hi' mx').run P w = .ok u w/\Inv B w0 σ' H' w/\Ext σ w σ' w/\AV σ' w [r] [u]:=by
 unfold PK at hs;split at hs
 ·rename_i id i off tot m' hm';cases hmx;obtain⟨bd,_,hmn⟩:=QR (P:=P) (w:=w) (Nat.le_refl n) false hlo hhi hm' (l:=0) rfl;split at hs
  ·rename_i b hb;obtain⟨b1,b2,b3⟩:=WR hb;split at hs
   ·rename_i cs hrow hxs;split at hs
    ·rename_i hc;obtain⟨rfl,rfl,rfl,I,hsz,q⟩:=hc;simp only[Option.some.injEq,Prod.mk.injEq]at hs;obtain⟨rfl,rfl⟩:=hs;obtain⟨L,us,m⟩:=h.meet b1 b2;cases hx with
     | ptr g k1 k2 k3 k4 k5=>
      rename_i N;have hL:N = L:=by
       have:=m.box;rw[k1]at this;cases this;rfl
      subst hL;obtain⟨n0,c0,hv⟩:=k3 (m.tot.trans b3);have z:=m.EF;rw[hxs]at z;obtain⟨ws,M,A⟩:∃ws:List Value,us=[.agg ws.toArray]/\AV σ w cs ws:=by
       cases z with
       | agg q1 q2 q3=>cases q3;exact⟨_,rfl,q1⟩
      obtain⟨c1,c2,c3⟩:=Z2S A q;have G:ws.length=cs.length:=A.length.symm;have hesz:N.BA=cs.length:=by
       have:=m.sizes (.agg ws.toArray) (by rw[M];simp);simp only[Value.cells,List.size_toArray]at this;omega
      have C:flat us=ws:=by rw[M,OD];rfl
      obtain⟨inf,d,hi',hd,q1,q2,q3,q4⟩:=Fg (hE.ti _ _ hti);have hd' : P.underlying t=some (.array cs.length e):=by
       rw[hP]at hd;rw[hd];cases d<;>simp[Lr]at q1;rw[q1.1,q1.2]
      obtain⟨Y,hei,hez⟩:∃Y,E.ti e=some Y/\Y.size=1:=by
       unfold Env.size at hsz
       simp_all
      obtain⟨infe,de,F,hde,e1,e2,e3,e4⟩:=Fg (hE.ti _ _ hei);rw[hP]at F;obtain⟨hI,D⟩:=h.freeze [id];have J:=(A.take m').ext D;obtain⟨O,Q,S⟩:=Z2S J (List.all_eq_true.2 fun x hx=>List.all_eq_true.1 q x (List.mem_of_mem_take hx));have hml:(cs.take m').length=m' :=by rw[List.length_take];omega
      refine⟨.slice (some ⟨g,0,none⟩) (cs.take m').length cs.length,_,?_,hI,D,?_⟩
      ·rw[k4,hml];simp[Instr.sliceAt,Instr.sureAddr,bd,run_underlying hd',sizeOf,typeInfo,F,Addr.add_mid]
      ·refine .sl g 0 cs.length 1 J S (fun u hu=>by rw[(O u hu).1];rfl) (fun u hu=>by simp_all) (by omega) I ?_ .nil;intro j u hu;rw[Q,List.getElem?_take]at hu;split at hu
       rotate_left
       ·cases hu
       have hj:j<cs.length:=by rw[<- G];exact(List.getElem?_eq_some_iff.1 hu).1
       refine⟨.inr ⟨id,b,N,by simp,b1,b2,m.box,by rw[hv];rfl,?_⟩,?_⟩
       ·grind
       ·rw[Nat.zero_add];exact m.cell (g:=g) (by rw[hv];rfl) j u (by rw[C];exact hu)
    ·cases hs
   ·cases hs
  ·cases hs
 ·cases hs
theorem ZE9 {E σ w} {P:Program} (Q:DV E) (S:E.P=P) {t:TypeId} {x r:V} {v:Value} (hx:AV σ w [x] [v]) (hs:X9 E t x=some r):∃u,(Instr.arrayAt t v).run P w = .ok u w/\AV σ w [r] [u]:=by
 unfold X9 at hs;split at hs
 ·rename_i n e sz0 by' z0 sz xs G;split at hs
  ·rename_i hc;obtain⟨Y,rfl,hn,z,C⟩:=hc;simp only[Option.some.injEq]at hs;subst hs;obtain⟨inf,d,hi',J,q1,q2,q3,q4⟩:=Fg (Q.ti _ _ G);have F : P.underlying t=some (.array n e):=by
    rw[S]at J;rw[J];cases d<;>simp[Lr]at q1;rw[q1.1,q1.2]
   cases hx with
   | Ew _=>simp at z;omega
   | GL a _=>simp at z;omega
   | sl b o c e' k0 k1 k2 k3 k4 k5 k6 k7=>
    rename_i us;have D:=k0.take n;obtain⟨I,N,O⟩:=Z2S D C;have A:(us.take n).length=n:=by
     have:=k0.length;rw[List.length_take];omega
    refine⟨.pointer (some ⟨b,o,none⟩),?_,?_⟩
    ·simp[Instr.arrayAt,run_underlying F,Nat.not_lt.2 z]
    ·have key:AV σ w [.CX n [.agg (xs.take n)] 0 0] [.pointer (some ⟨b,o+0*n+0,none⟩)]:=by
      refine .CX (us:=[.agg (us.take n).toArray]) b o n 0 0 (.agg D (fun u hu=>(I u hu).2) .nil) ?_ ?_ ?_ ?_ .nil
      ·intro y M;simp only[List.mem_singleton]at M;subst M;have:CY (xs.take n)=true:=QG O;simp[FW,okV,DF,this]
      ·intro u hu;simp only[List.mem_singleton]at hu;subst hu;simpa[Value.cells]using A
      ·intro u hu;rw[OD]at hu;exact(I u (by simpa[Value.cells]using hu)).2
      ·intro j u hu;rw[OD]at hu;have q : (us.take n)[j]? = some u:=by simpa[Value.cells]using hu
       rw[<- N,iG k2,List.getElem?_take]at q;split at q
       ·exact k6 j u q
       ·cases q
     simpa using key
  ·cases hs
 ·cases hs
theorem ZDW {E B w0 σ H w} {P:Program} (N:DV E) (hP:E.P=P) (h:Inv B w0 σ H w) {k:Nat} (hk0:GH H k=true) {A dst:TypeId} {x r:V} {v:Value} {H' : Heap} (hx:AV σ w [x] [v]) (I:E.isStr A=true) (D:E.isBytes dst=true) (hc:NY E k H dst x=some (r,H')) :
  ∃u w' σ',(convert A dst v).run P w = .ok u w' /\ Inv B w0 σ' H' w' /\ Ext σ w σ' w' /\ AV σ' w' [r] [u]:=by
 unfold NY at hc;split at hc
 ·rename_i st e sz by' z0 hti;split at hc
  ·simp only[Option.some.injEq,Prod.mk.injEq]at hc;obtain⟨rfl,rfl⟩:=hc;cases hx with
   | lit hl _=>
    have F:st.size<=maxLen:=by simpa[leaf]using hl
    obtain⟨e',M,h2⟩:=N.isBytes _ D;have h0:=N.isStr _ I;rw[hP]at h0 M h2;obtain⟨inf,d,hi,Q,q1,q2,q3,q4⟩:=Fg (N.ti _ _ hti);have S:e' = e:=by
     rw[hP]at Q;rw[M]at Q;cases Q;have:=q1;simp only[Lr,Ty.slice.injEq]at this;exact this.symm
    subst S;have hrun:=run_bytes_of_string (P:=P) w A dst e' st h0 M h2;have hus:∀u∈(st.data.toList.map fun b=>Value.int .u8 b.toNat),u.cells.size=1/\u.oneCell' = true:=by
     intro u hu;obtain⟨b,_,rfl⟩:=List.mem_map.1 hu;exact⟨rfl,rfl⟩
    have q:flat (st.data.toList.map fun b=>Value.int .u8 b.toNat)=st.data.toList.map fun b=>Value.int .u8 b.toNat:=by
     have:∀l:List Value,(∀u∈l,u.cells = #[u])->flat l=l:=by
      intro l;induction l with
      | nil=>intro _;rfl
      | cons u l ih=>intro hh;rw[L9,hh u (by simp),ih (fun v hv=>hh v (by simp[hv]))];rfl
     refine this _ (fun u hu=>?_);obtain⟨b,_,rfl⟩:=List.mem_map.1 hu;rfl
    have J:st.data.toList.length=st.size:=Array.length_toList;have Y:=grownCap_ge w st.size 0 e';have O:(bytesRow st (grownCap w st.size 0 e')).size=grownCap w st.size 0 e' :=by
     simp only[bytesRow,Array.size_append,Array.size_map,Array.size_replicate];have:st.data.size=st.size:=rfl;omega
    have G:GZ (w.drew.alloc (.cells (bytesRow st (grownCap w st.size 0 e')) e' ((bytesRow st (grownCap w st.size 0 e')).size,(bytesRow st (grownCap w st.size 0 e')).size+1))) B e' 1 (.slice (some ⟨w.heap.size,0,none⟩) st.size (grownCap w st.size 0 e')) (bytesV st).length (flat (st.data.toList.map fun b=>Value.int .u8 b.toNat)):=by
     have C:(bytesV st).length=st.size:=by simp only[bytesV,List.length_map];exact J
     rw[C,q];refine⟨by simp_all,.inr ⟨w.heap.size,_,_,_,rfl,h.size,heap_alloc_new w.drew _,.inr (Nat.le_refl _),Y,grownCap_le_maxLen w st.size 0 e' F,by rw[O,Nat.mul_one],?_⟩⟩;rw[Nat.mul_one];simp only[bytesRow,Array.toList_append,Array.toList_map]
     simp_all
    have hgr:w.grownBy (w.drew.alloc (.cells (bytesRow st (grownCap w st.size 0 e')) e' ((bytesRow st (grownCap w st.size 0 e')).size,(bytesRow st (grownCap w st.size 0 e')).size+1))) none:=
     ⟨rfl,rfl,rfl,by simp,fun k hk _=>heap_alloc_old w.drew _ hk⟩
    have z:∀l:List UInt8,AV σ w (l.map fun c=>V.lit (.int .u8 c.toNat)) (l.map fun b=>Value.int .u8 b.toNat):=by
     intro l;induction l with
     | nil=>exact .nil
     | cons b l ih=>
      refine .lit ?_ ih;have:=b.toNat_lt;simp[leaf,Lit.wf,IntKind.min,IntKind.max,IntKind.signed,IntKind.bits];omega
    obtain⟨σ',g1,g2,g3⟩:=OJ (e:=e') (BA:=1) h hk0 hgr (xs:=bytesV st) (z st.data.toList)
     (fun x hx=>by obtain⟨b,_,rfl⟩:=List.mem_map.1 hx;rfl) (fun u hu=>(hus u hu).1) (fun u hu=>by grind) G (by simp[Value.ownBlock]) false (by simp)
    have C:(bytesV st).length=st.size:=by simp only[bytesV,List.length_map];exact J
    grind
  ·cases hc
 ·cases hc
theorem ZGd {E B w0 σ H w} {P:Program} (F:DV E) (G:E.P=P) (h:Inv B w0 σ H w) {z dst:TypeId} {x r:V} {v:Value} {H' : Heap} (hx:AV σ w [x] [v]) (hc:Iz E H z dst x=some (r,H')) :
  H' = H/\∃u,(convert z dst v).run P w = .ok u w/\AV σ w [r] [u]:=by
 unfold Iz at hc;split at hc
 ·split at hc
  ·rename_i k hk;split at hc
   ·rename_i N;simp only[Option.some.injEq,Prod.mk.injEq]at hc;obtain⟨rfl,rfl⟩:=hc;have I:P.underlying dst=some (.int k):=by rw[<- G];exact F.kind dst k hk
    cases O:E.ti z with
    | none=>simp[O]at N
    | some i=>
     obtain⟨inf,d,hi,J,_⟩:=Fg (F.ti _ _ O);rw[G]at J;cases hx with
     | lit l _=>
      refine⟨rfl,_,?_,.lit (show (Lit.int _ _).wf=true from wf_wrap _ _) .nil⟩;simp[convert,run_underlying J,run_underlying I,Conv.intToInt]
   ·cases hc
  ·cases hc
 ·split at hc
  ·rename_i A;simp only[Bool.and_eq_true]at A;simp only[Option.some.injEq,Prod.mk.injEq]at hc;obtain⟨rfl,rfl⟩:=hc;have h1:P.underlying z=some .string:=by rw[<- G];exact F.isStr _ A.1
   have h2:P.underlying dst=some .string:=by rw[<- G];exact F.isStr _ A.2
   cases hx with
   | lit l _=>
    refine⟨rfl,_,?_,.lit l .nil⟩;simp[convert,run_underlying h1,run_underlying h2]
  ·cases hc
 ·split at hc
  ·rename_i hn1 hn2 A;simp only[Bool.and_eq_true]at A;obtain⟨⟨s1,s2⟩,s3⟩:=A;split at hc
   ·rename_i xs hxs;split at hc
    ·rename_i bs D;split at hc
     ·rename_i M;simp only[Option.some.injEq,Prod.mk.injEq]at hc;obtain⟨rfl,rfl⟩:=hc;obtain⟨us,S⟩:=src_ok h hx hxs s3;obtain⟨ns,Y,e2⟩:=ZeP S.EF D;have I:P.underlying dst=some .string:=by rw[<- G];exact F.isStr _ s1
      obtain⟨e,hs,Q⟩:=F.isBytes _ s2;rw[G]at hs Q;refine⟨rfl,.string ⟨bs.toArray⟩,?_,.lit (by simpa[leaf,ByteArray.size]using M) .nil⟩;rcases S.val with ⟨hv,hy,hu⟩|⟨b,o,c,hv,hc,C⟩
      ·subst hy;simp only[bytesOf,Option.some.injEq]at D;subst D;rcases hv with rfl|⟨a,k,rfl⟩
       ·rw[run_convert_bytes_string w z dst e _ _ _ hs Q I];rfl
       ·rw[run_convert_bytes_string w z dst e _ _ _ hs Q I];have q:=run_loadCells_list (P:=P) w a [] (fun j v hj=>by simp at hj);rw[run_bytesToString (P:=P) w a 0 k [] (by simpa using q)];rfl
      ·subst hv;rw[run_convert_bytes_string w z dst e _ _ _ hs Q I];have hfl:flat us=us:=by
        rw[Y];clear Y e2 C;induction ns with
        | nil=>rfl
        | cons n ns ih=>simp[flat,Value.cells]at ih ⊢;exact ih
       have hll:xs.length=us.length:=S.EF.length;have q:=run_loadCells_list (P:=P) w ⟨b,o,none⟩ us (fun j v hj=>by rw[Addr.add_mid];exact C j v (by rw[hfl];exact hj));rw[run_bytesToString (P:=P) w ⟨b,o,none⟩ xs.length c ns (by rw[hll,q,Y])];rw[Zzp,e2];simp
     ·cases hc
    ·cases hc
   ·cases hc
  ·cases hc
theorem Z55 {P:Program} {σ w} (q:Bool):∀{xs:List V} {vs:List Value} {k:IntKind} {a:Int} {r:V},AV σ w xs vs->leaf (.int k a)=true->mm q k a xs=some r ->
  ∃u,(vs.foldlM (if q then Builtin.max2 else Builtin.min2) (.int k a)).run P w = .ok u w/\AV σ w [r] [u]
 | [],vs,k,a,r,h,hl,hm=>by
  cases h.Fj;simp only[mm,Option.some.injEq]at hm;subst hm;exact⟨_,rfl,.lit hl .nil⟩
 | x::xs,vs,k,a,r,h,hl,hm=>by
  obtain⟨v,G,rfl,F,C⟩:=h.EP;unfold mm at hm;split at hm
  ·rename_i z;cases z
  ·rename_i j b D z;cases z;split at hm
   ·rename_i hk;subst hk;cases F with
    | lit I _=>
    cases q
    ·simp only[Bool.false_eq_true,if_false]at hm ⊢;obtain⟨u,hu,A⟩:=Z55 (P:=P) false C (by split<;>assumption) hm;simp only[Bool.false_eq_true,if_false]at hu;exact⟨u,by rw[List.foldlM_cons];simp only[Builtin.min2,Sem.run_bind,Sem.run_pure,Result.andThen_ok];exact hu,A⟩
    ·simp only[if_true]at hm ⊢;obtain⟨u,hu,A⟩:=Z55 (P:=P) true C (by split<;>assumption) hm;simp only[if_true]at hu;exact⟨u,by rw[List.foldlM_cons];simp only[Builtin.max2,Sem.run_bind,Sem.run_pure,Result.andThen_ok];exact hu,A⟩
   ·cases hm
  ·cases hm
end Go.Proofs.YtjodhcdmhobmoaaGreatDoor.Le
namespace Go.Proofs.YtjodhcdmhobmoaaGreatDoor.Le
open Go.RowKit (Below)
def Jo (P:Program) (E:Env) (B:Nat) (w0:Start) (call:EO):Prop:=
 ∀(f:FuncId) (args:List V) (H:Heap) (x:V) (H' : Heap) (σ:Sg) (w:World) (vs:List Value),call f args H=some (x,H')->Inv B w0 σ H w->EK E σ w->AV σ w args vs ->
  (∃fn,P.funcs[f]? = some fn/\fn.body.isNone=false/\(fn.name == "runtime.NumGoroutine")=false) /\
  Calls P f vs.toArray w fun e w' =>∃u σ',e = .returned u/\Inv B w0 σ' H' w' /\ Ext σ w σ' w' /\ AV σ' w' [x] [u]
section
variable {P:Program} {o:Oper} {a:Act} {w:World} {next:Act->World->Prop} {Q:Exit->Act->World->Prop}
theorem JK {s:Sem Value} {u:Value} {w' : World} (q:execOp a.eval o=(do let x <- s;pure (Next.value x))) (A:s.run P w = .ok u w') (z:next (a.put o.dst u) w'):o.wp P a w next Q:=by
 unfold Oper.wp;rw[q];simp only[Sem.run_bind,A,Result.andThen_ok,Sem.run_pure];exact z
theorem ZFB {s:Sem Unit} {w' : World} (q:execOp a.eval o=(do s;pure Next.skip)) (A:s.run P w = .ok () w') (z:next (a.put o.dst undef) w'):o.wp P a w next Q:=by
 unfold Oper.wp;rw[q];simp only[Sem.run_bind,A,Result.andThen_ok,Sem.run_pure];exact z
end
theorem Zgr {E:Env} {σ w s} {a:Act} (z:EK E σ w) (h:AV σ w s a.tmps.toList) (q:List (Nat×Operand)) :
  Parts σ w (q.map fun(i,x)=>(i,ev E s x)) (q.map fun(i,x)=>(i,a.eval x)):=by
 induction q with
 | nil=>exact .nil
 | cons p ps A=>exact .cons (Et z h p.2) A
theorem Ws {E:Env} {σ w s} {a:Act} (q:EK E σ w) (h:AV σ w s a.tmps.toList) (x:Option Operand):KR σ w (x.map (ev E s)) (x.map a.eval):=by
 cases x with
 | none=>exact .none
 | some x=>exact .some (Et q h x)
theorem Z3o {B w0 σ H w} (h:Inv B w0 σ H w) {x A : V} {v:Value} (z:AV σ w [x] [v]) (hf:Jz H x=some A) (ids:List Nat) (q:∀i∈P5 x,i∈ids) :
  AV (σ.freeze H ids) w [A] [v]:=by
 unfold Jz at hf;split at hf
 ·rename_i vs;cases z with
  | BK C _=>
   cases hl:Fp H vs with
   | none=>simp[hl]at hf
   | some D =>
    simp only[hl,Option.map_some,Option.some.injEq]at hf;subst hf;exact .BK (rY h C hl ids q) .nil
 ·refine vN h z hf ids (fun i F=>q i ?_);cases x<;>simp_all [P5]
def GK (P:Program) (E:Env) (B:Nat) (w0:Start) (call:EO) (σ:Sg) (k:Nat) (H:Heap) (w:World) (s:List V) (a:Act) (o:Oper):Prop:=
 ∀x H',BU call E k H s o=some (x,H')->∀(next:Act->World->Prop) (Q:Exit->Act->World->Prop),
  (∀u w' σ',Inv B w0 σ' H' w' -> Ext σ w σ' w' -> AV σ' w' [x] [u]->next (a.put o.dst u) w')->o.wp P a w next Q
section
variable {E:Env} {B:Nat} {w0:Start} {σ:Sg} {H:Heap} {w:World} {P:Program} {call:EO} {s:List V} {a:Act} {o:Oper} {k:Nat}
theorem Md {y:Option V} {m:Sem Value} (z:Inv B w0 σ H w) (C:execOp a.eval o=(do let x <- m;pure (Next.value x))) (A:BU call E k H s o=y.map (·,H))
  (h:∀x,y=some x->∃u,m.run P w = .ok u w/\AV σ w [x] [u]):GK P E B w0 call σ k H w s a o:=by
 intro x H' q next Q D
 rw[A]at q;cases y with
 | none=>cases q
 | some G =>
  simp only[Option.map_some,Option.some.injEq,Prod.mk.injEq]at q;obtain⟨rfl,rfl⟩:=q;obtain⟨u,hu,F⟩:=h G rfl;exact JK C hu (D _ w σ z (Ext.refl σ w) F)
theorem Zew {y:V} {u:Value} (q:Inv B w0 σ H w) (A:execOp a.eval o=pure (Next.value u)) (z:BU call E k H s o=some (y,H)) (h:AV σ w [y] [u]):GK P E B w0 call σ k H w s a o:=
 Md (m:=pure u) (y:=some y) q (by rw[A];rfl) z (fun x C=>⟨u,rfl,by cases C;exact h⟩)
theorem ZyB (z:Inv B w0 σ H w) (A:EK E σ w) (hs:AV σ w s a.tmps.toList) {y:Operand} (q:o.op = .move y):GK P E B w0 call σ k H w s a o:=
 Zew z (u:=a.eval y) (y:=ev E s y) (by unfold execOp;rw[q]) (by unfold BU;rw[q]) (Et A hs y)
theorem Zuk (A:GH H k=true) (C:Inv B w0 σ H w) (I:EK E σ w) (hs:AV σ w s a.tmps.toList) {y:Operand} (z:o.op = .assign y):GK P E B w0 call σ k H w s a o:=by
 by_cases N:y = .const (.slice none 0 0)
 ·subst N;intro x H' q next Q J
  unfold BU at q;rw[z]at q;simp only at q;split at q
  ·rename_i e sz by' O M;simp only[Option.some.injEq,Prod.mk.injEq]at q;obtain⟨rfl,rfl⟩:=q;obtain⟨σ',D,F,G⟩:=OJ (e:=e) (BA:=(E.size e).getD 0) C A (grownBy_refl w none) (xs:=[]) (us:=[]) .nil (by simp) (by simp) (by simp[flat]) (Wx w B e _) (by simp[Value.ownBlock]) false (by simp);unfold Oper.wp execOp;rw[z];exact J _ w σ' D F G
  ·cases q
 ·refine Zew C (u:=a.eval y) (y:=ev E s y) (by unfold execOp;rw[z]) ?_ (Et I hs y);unfold BU
  simp_all
theorem ZzH (G:Inv B w0 σ H w) (F:EK E σ w) (hs:AV σ w s a.tmps.toList) {c y z:Operand} (C:o.op = .pick c y z):GK P E B w0 call σ k H w s a o:=by
 intro x H' A next Q I
 unfold BU at A;rw[C]at A;simp only at A;split at A
 ·rename_i t hc;simp only[Option.some.injEq,Prod.mk.injEq]at A;obtain⟨rfl,rfl⟩:=A;have q:=Et F hs c;rw[hc]at q;have D:a.eval c = .bool t:=by generalize a.eval c=J at q;cases q;rfl
  unfold Oper.wp execOp;rw[C];simp only[D,asBool,Sem.run_bind,Sem.run_pure,Result.andThen_ok];refine I _ w σ G (Ext.refl σ w) ?_;cases t
  ·exact Et F hs z
  ·exact Et F hs y
 ·cases A
theorem Zwr (O:DV E) (Y:E.P=P) (D:GH H k=true) (S:Inv B w0 σ H w) {t:TypeId} (A:o.op = .alloc t):GK P E B w0 call σ k H w s a o:=by
 intro x H' q next Q hn
 unfold BU at q;rw[A]at q;simp only at q;split at q
 ·rename_i i F;split at q
  ·rename_i z hz;split at q
   ·rename_i hc;simp only[Option.some.injEq,Prod.mk.injEq]at q;obtain⟨rfl,rfl⟩:=q;obtain⟨inf,zv,hi,I,hsz,hbz,G⟩:=vO O Y F hz σ w;obtain⟨w',σ',C,J,M,N⟩:=Zfr (P:=P) S D t G hc.2 hc.1;refine JK (s:=Instr.alloc t true (.tuple #[])) (u:=.pointer (some ⟨w.heap.size,0,none⟩)) (w' :=w') (by unfold execOp;rw[A]) ?_ (hn _ w' σ' J M N);simp[Instr.alloc,zeroValue,typeInfo,hi,I,C]
   ·cases q
  ·cases q
 ·cases q
theorem ZBE (C:GH H k=true) (I:Inv B w0 σ H w) (J:EK E σ w) (hs:AV σ w s a.tmps.toList) {t:TypeId} {y:Operand} (z:o.op = .box t y):GK P E B w0 call σ k H w s a o:=by
 intro x H' q next Q M
 unfold BU at q;rw[z]at q;simp only at q;split at q
 ·rename_i i N;split at q
  ·rename_i hc;simp only[Option.some.injEq,Prod.mk.injEq]at q;obtain⟨rfl,rfl⟩:=q;obtain⟨w',σ',A,D,F,G⟩:=Zfr (P:=P) I C t (Et J hs y) hc.2 hc.1;refine JK (s:=Instr.box t (a.eval y)) (u:=.pointer (some ⟨w.heap.size,0,none⟩)) (w' :=w') (by unfold execOp;rw[z]) ?_ (M _ w' σ' D F G);simp[Instr.box,A]
  ·cases q
 ·cases q
theorem ZvI (A:DV E) (D:E.P=P) (C:Inv B w0 σ H w) (F:EK E σ w) (hs:AV σ w s a.tmps.toList) {t:TypeId} {q:Array (Nat×Operand)} (z:o.op = .build t q):GK P E B w0 call σ k H w s a o:=
 Md (m:=Instr.build t (q.map fun(i,x)=>(i,a.eval x))) C (by unfold execOp;rw[z]) (by unfold BU;rw[z])
  (fun x G=>ZDb A D (by simpa using Zgr F hs q.toList) G)
theorem ZoP (M:DV E) (O:E.P=P) (F:GH H k=true) (N:Inv B w0 σ H w) (S:EK E σ w) (hs:AV σ w s a.tmps.toList) {t:TypeId} {n:Nat} {q:Array (Nat×Operand)} (z:o.op = .buildSlice t n q):GK P E B w0 call σ k H w s a o:=by
 intro x H' C next Q Y
 unfold BU at C;rw[z]at C;simp only at C;obtain⟨D,A⟩:∃D:Array (Nat×Value),D=q.map (fun(i,x)=>(i,a.eval x)):=⟨_,rfl⟩;obtain⟨u,w',σ',hu,G,I,J⟩:=Zsv (P:=P) (vparts:=D) M O N F (by rw[A];simpa using Zgr S hs q.toList) C;exact JK (s:=Instr.buildSlice t n D) (by unfold execOp;rw[z,A]) hu (Y _ w' σ' G I J)
theorem Zy4 (A:DV E) (C:E.P=P) (z:Inv B w0 σ H w) (D:EK E σ w) (hs:AV σ w s a.tmps.toList) {t:TypeId} {y:Operand} (q:o.op = .load t y):GK P E B w0 call σ k H w s a o:=
 Md (m:=Instr.loadAt t (a.eval y)) z (by unfold execOp;rw[q]) (by unfold BU;rw[q]) (fun x F=>Zha A C z (Et D hs y) F)
theorem Zw0 (G:DV E) (J:E.P=P) (I:Inv B w0 σ H w) (C:EK E σ w) (hs:AV σ w s a.tmps.toList) {t:TypeId} {y z:Operand} (A:o.op = .store t y z):GK P E B w0 call σ k H w s a o:=by
 intro x H' q next Q M
 unfold BU at q;rw[A]at q;simp only at q;cases hb:NP E H t (ev E s y) (ev E s z) with
 | none=>simp[hb]at q
 | some N=>
  simp only[hb,Option.map_some,Option.some.injEq,Prod.mk.injEq]at q;obtain⟨rfl,rfl⟩:=q;obtain⟨w',σ',hu,D,F⟩:=ZDY (P:=P) G J I (Et C hs y) (Et C hs z) hb;exact ZFB (s:=Instr.storeAt t (a.eval y) (a.eval z)) (by unfold execOp;rw[A]) hu (M _ w' σ' D F (.no .nil))
theorem Zr3 (G:Inv B w0 σ H w) (I:EK E σ w) (hs:AV σ w s a.tmps.toList) {y:Operand} (A:o.op = .nilCheck y):GK P E B w0 call σ k H w s a o:=by
 intro x H' z next Q J
 unfold BU at z;rw[A]at z;simp only at z;split at z
 ·rename_i q;simp only[Option.some.injEq,Prod.mk.injEq]at z;obtain⟨rfl,rfl⟩:=z;have D:=Et I hs y;have C:execOp a.eval o=pure (Next.value (a.eval y)):=by
   unfold execOp;rw[A];simp only;generalize ev E s y=M at D q;generalize a.eval y=N at D;cases D with
   | Gf _ _ _ _ _ _ _=>cases q
   | und _ _=>cases q
   | no _=>cases q
   | @lit v _ _ hl _=>unfold Uo at q;split at q<;>simp_all
   | agg _ _ _=>cases q
   | BK _ _=>cases q
   | Ew _=>rfl
   | GL a _=>rfl
   | Gq _=>rfl
   | Hf a _=>rfl
   | sl _ _ _ _ _ _ _ _ _ _ _ _=>rfl
   | DT _ _ _ _ _ _ _ _ _ _=>rfl
   | Bl _ _ _ _ _=>cases q
   | ptr g _ _ _ F _=>subst F;rfl
   | CX _ _ _ _ _ _ _ _ _ _ _=>rfl
   | fn _ _ _=>rfl
   | IV _ _=>rfl
  unfold Oper.wp;rw[C];exact J _ w σ G (Ext.refl σ w) D
 ·cases z
theorem Zxj (C:DV E) (F:E.P=P) (D:Inv B w0 σ H w) (A:EK E σ w) (hs:AV σ w s a.tmps.toList) {op:BinOp} {t M:TypeId} {y z:Operand} (q:o.op = .binOp op t y z M):GK P E B w0 call σ k H w s a o:=
 Md (m:=(do eqGuard op t y z (a.eval y) (a.eval z);binOp op t (a.eval y) (a.eval z))) D (by unfold execOp;rw[q]) (by unfold BU;rw[q])
  (fun x J=>by
   obtain⟨u,G,I,N⟩:=ZHB (P:=P) C F y z (Et A hs y) (Et A hs z) J
   simp_all)
theorem ZA7 (z:Inv B w0 σ H w) (A:EK E σ w) (hs:AV σ w s a.tmps.toList) {op:UnOp} {t:TypeId} {y:Operand} (q:o.op = .unOp op t y):GK P E B w0 call σ k H w s a o:=
 Md (m:=Op.unary op (a.eval y)) z (by unfold execOp;rw[q]) (by unfold BU;rw[q]) (fun x C=>un_ok (Et A hs y) C)
theorem Zsy (F:DV E) (G:E.P=P) (D:GH H k=true) (C:Inv B w0 σ H w) (I:EK E σ w) (hs:AV σ w s a.tmps.toList) {z dst:TypeId} {y:Operand} (q:o.op = .convert z dst y):GK P E B w0 call σ k H w s a o:=by
 intro x H' A next Q J
 unfold BU at A;rw[q]at A;simp only at A;split at A
 ·rename_i hb;simp only[Bool.and_eq_true]at hb;obtain⟨u,w',σ',hu,N,O,S⟩:=ZDW (P:=P) F G C D (Et I hs y) hb.1 hb.2 A;exact JK (s:=convert z dst (a.eval y)) (by unfold execOp;rw[q]) hu (J _ w' σ' N O S)
 obtain⟨rfl,u,hu,M⟩:=ZGd (P:=P) F G C (Et I hs y) A;exact JK (s:=convert z dst (a.eval y)) (by unfold execOp;rw[q]) hu (J _ w σ C (Ext.refl σ w) M)
theorem Zq5 (O:DV E) (S:E.P=P) (M:GH H k=true) (hI:Inv B w0 σ H w) (hg:EK E σ w) (hs:AV σ w s a.tmps.toList) {t:TypeId} {l c:Operand} (G:o.op = .makeSlice t l c):GK P E B w0 call σ k H w s a o:=by
 intro x H' A next Q hn
 unfold BU at A;rw[G]at A;simp only at A;split at A
 ·rename_i e sz by' z0 kl n kc m N hl hc;split at A
  ·rename_i ei J;split at A
   ·rename_i z hz;split at A
    ·rename_i C;obtain⟨c1,c2,c3,c4,c5,c6,c7⟩:=C;simp only[Option.some.injEq,Prod.mk.injEq]at A;obtain⟨rfl,rfl⟩:=A;obtain⟨inf,d,hi,Y,q1,q2,q3,q4⟩:=Fg (O.ti _ _ N);have I : P.underlying t=some (.slice e):=by rw[S]at Y;rw[Y,Oi q1]
     have F:=Et hg hs l;have D:=Et hg hs c;rw[hl]at F;rw[hc]at D;have e1:a.eval l = .int kl n:=by generalize a.eval l=q at F;cases F;rfl
     have e2:a.eval c = .int kc m:=by generalize a.eval c=q at D;cases D;rfl
     obtain⟨u,w',σ',hu,h1,h2,h3⟩:=ZEo (P:=P) (kl:=kl) (kc:=kc) O S hI M I J hz c1 c2 c3 c4 c5 c6 c7 _;exact JK (s:=Instr.makeSlice t (a.eval l) (a.eval c)) (by unfold execOp;rw[G]) (by rw[e1,e2];exact hu) (hn _ w' σ' h1 h2 h3)
    ·cases A
   ·cases A
  ·cases A
 ·cases A
theorem Zw6 (N:DV E) (S:E.P=P) (O:Inv B w0 σ H w) (q:EK E σ w) (hs:AV σ w s a.tmps.toList) {t:TypeId} {y:Operand} {D A F:Option Operand} (z:o.op = .slice t y D A F):GK P E B w0 call σ k H w s a o:=by
 intro x H' C next Q Y
 unfold BU at C;rw[z]at C;simp only at C;split at C
 ·rename_i n e sz by' z0 M;obtain⟨u,σ',hu,G,I,J⟩:=ZB4 (P:=P) (lo' :=D.map a.eval) (hi' :=A.map a.eval) (mx' :=F.map a.eval) N S O M (Et q hs y) (Ws q hs D) (Ws q hs A) (Ws q hs F) C;exact JK (s:=Instr.sliceAt t (a.eval y) (D.map a.eval) (A.map a.eval) (F.map a.eval)) (by unfold execOp;rw[z]) hu (Y _ w σ' G I J)
 obtain⟨u,σ',hu,G,I,J⟩:=ZDp (P:=P) N S O (Et q hs y) (Ws q hs D) (Ws q hs A) (Ws q hs F) C;exact JK (s:=Instr.sliceAt t (a.eval y) (D.map a.eval) (A.map a.eval) (F.map a.eval)) (by unfold execOp;rw[z]) hu (Y _ w σ' G I J)
theorem ZCv (z:DV E) (C:E.P=P) (A:Inv B w0 σ H w) (D:EK E σ w) (hs:AV σ w s a.tmps.toList) {t:TypeId} {y:Operand} (q:o.op = .sliceToArrayPointer t y):GK P E B w0 call σ k H w s a o:=
 Md (m:=Instr.arrayAt t (a.eval y)) A (by unfold execOp;rw[q]) (by unfold BU;rw[q]) (fun x F=>ZE9 z C (Et D hs y) F)
theorem ZpD (z:DV E) (C:E.P=P) (A:Inv B w0 σ H w) (D:EK E σ w) (hs:AV σ w s a.tmps.toList) {t:TypeId} {y:Operand} {f:Nat} (q:o.op = .fieldAddr t y f):GK P E B w0 call σ k H w s a o:=
 Md (m:=Instr.fieldAt t (a.eval y) f) A (by unfold execOp;rw[q]) (by unfold BU;rw[q]) (fun x F=>ZuM z C (Et D hs y) F)
theorem Zx0 (z:DV E) (C:E.P=P) (A:Inv B w0 σ H w) (D:EK E σ w) (hs:AV σ w s a.tmps.toList) {t:TypeId} {y:Operand} {f:Nat} (q:o.op = .field t y f):GK P E B w0 call σ k H w s a o:=
 Md (m:=Instr.field t (a.eval y) f) A (by unfold execOp;rw[q]) (by unfold BU;rw[q]) (fun x F=>ZCx z C (Et D hs y) F)
theorem ZpB (C:DV E) (D:E.P=P) (z:Inv B w0 σ H w) (A:EK E σ w) (hs:AV σ w s a.tmps.toList) {t:TypeId} {y i:Operand} (q:o.op = .indexAddr t y i):GK P E B w0 call σ k H w s a o:=
 Md (m:=Instr.indexAt t (a.eval y) (a.eval i)) z (by unfold execOp;rw[q]) (by unfold BU;rw[q]) (fun x F=>Zu9 C D z (Et A hs y) (Et A hs i) F)
theorem ZwP (A:DV E) (D:E.P=P) (C:Inv B w0 σ H w) (z:EK E σ w) (hs:AV σ w s a.tmps.toList) {t:TypeId} {y i:Operand} (q:o.op = .index t y i):GK P E B w0 call σ k H w s a o:=
 Md (m:=Instr.index t (a.eval y) (a.eval i)) C (by unfold execOp;rw[q]) (by unfold BU;rw[q]) (fun x F=>ZCI A D (Et z hs y) (Et z hs i) F)
theorem Zem {σ:Sg} {w:World} {kd:IntKind} {n:Int}:∀(l:List MapEntry) (kvs:List V) (i:Nat),AV σ w kvs (l.flatMap fun e=>[e.key,e.val]) ->
  (N9 kd n kvs=some none->Instr.findNow (.int kd) (.int kd n) l i=some none)/\(∀v,N9 kd n kvs=some (some v)->∃j u,Instr.findNow (.int kd) (.int kd n) l i=some (some (j,u))/\AV σ w [v] [u])
 | [],kvs,i,h=>by
  cases h;exact⟨fun _=>rfl,fun v G=>by cases G⟩
 | e::l,kvs,i,h=>by
  have z : AV σ w kvs (e.key::e.val::l.flatMap fun e=>[e.key,e.val]):=h;cases kvs with
  | nil=>cases z
  | cons x kvs=>
   obtain⟨A,C⟩:=AV.F8.1 z;cases kvs with
   | nil=>cases C
   | cons y kvs=>
    obtain⟨I,F⟩:=AV.F8.1 C;have J:=Zem (kd:=kd) (n:=n) l kvs (i+1) F;generalize hk:e.key=key at A;have no:(∀k a,x≠.lit (.int k a))->N9 kd n (x::y::kvs)=none:=fun D=>by
     unfold N9
     simp_all
    by_cases D:∃k a,x = .lit (.int k a)
    ·obtain⟨k,a,rfl⟩:=D;cases A with
     | lit _ _=>
      unfold N9
      by_cases q:k=kd
      ·subst q;simp only[if_true];unfold Instr.findNow;rw[hk];simp only[Instr.sameNow,if_true]
       grind
      simp_all
    simp_all
theorem ZC5 (Q:DV E) (S:E.P=P) {t:TypeId} {ok:Bool} {m x r:V} {mv xv:Value} (hm:AV σ w [m] [mv]) (hx:AV σ w [x] [xv]) (h:XU E t ok m x=some r) :
  ∃v,(Instr.lookup t mv xv ok).run P w = .ok v w/\AV σ w [r] [v]:=by
 unfold XU at h;split at h
 ·rename_i k e sz by' z0 kvs kd n hti;obtain⟨inf,d,hi,hd,q1,q2,q3,q4⟩:=Fg (Q.ti _ _ hti);have F : P.underlying t=some (.map k e):=by
   rw[S]at hd;rw[hd];cases d<;>simp[Lr]at q1;exact congrArg some (by rw[q1.1,q1.2])
  split at h
  ·rename_i hkd;have hk:P.underlying k=some (.int kd):=by rw[<- S];exact Q.kind _ _ hkd
   cases hm with
   | Gf g es c h0 hg hus _=>
    subst hus;cases hx with
    | lit _ _=>
     obtain⟨f1,f2⟩:=Zem (kd:=kd) (n:=n) es.toList kvs 0 h0;have D:(Instr.checkKey es.isEmpty 10000 k (.int kd n)).run P w = .ok () w:=MapKept.run_checkKey (k:=.int kd n) hk (by simp[MapKept.IsKey]) es.isEmpty 9999;have G:∀q,Instr.findNow (.int kd) (.int kd n) es.toList 0=some q->(Instr.findKey k (.int kd n) es.toList).run P w = .ok q w:=fun q hq=>by simp[Instr.findKey,run_underlying hk,hq]
     split at h
     ·rename_i v hv;obtain⟨j,u,O,C⟩:=f2 v hv;simp only[Option.some.injEq]at h;subst h;refine⟨if ok then .tuple #[u,.bool true] else u,by simp[Instr.lookup,run_underlying F,MapKept.run_getObj_map hg,D,G _ O,Result.andThen],?_⟩;cases ok with
      | true=>exact .BK (AV.F8.2 ⟨C,.lit rfl .nil⟩) .nil
      | false=>exact C
     ·rename_i hv;have O:=f1 hv;split at h
      ·rename_i ei Y;obtain⟨J,de,I,hde,e1,e2,e3,M⟩:=Fg (Q.ti _ _ Y);cases hz:ei.zero with
       | none=>simp[hz]at h
       | some z=>
        simp only[hz,Option.map_some,Option.some.injEq]at h;subst h;rw[hz]at M;cases A:J.zero with
        | none=>simp[A]at M
        | some N=>
         simp only[A,Option.map_some,Option.some.injEq]at M;have hzr:(zeroValue e).run P w = .ok N w:=by rw[S]at I;simp[zeroValue,typeInfo,I,A]
         have C:=bY σ w N;rw[<- M]at C;refine⟨if ok then .tuple #[N,.bool false] else N,by simp[Instr.lookup,run_underlying F,MapKept.run_getObj_map hg,D,G _ O,hzr,Result.andThen],?_⟩;cases ok with
         | true=>exact .BK (AV.F8.2 ⟨C,.lit rfl .nil⟩) .nil
         | false=>exact C
      ·cases h
     ·cases h
  ·cases h
 ·cases h
theorem ZtV (A:DV E) (D:E.P=P) (C:Inv B w0 σ H w) (z:EK E σ w) (hs:AV σ w s a.tmps.toList) {t:TypeId} {y i:Operand} {ok:Bool} (q:o.op = .lookup t y i ok):GK P E B w0 call σ k H w s a o:=
 Md (m:=Instr.lookup t (a.eval y) (a.eval i) ok) C (by unfold execOp;rw[q]) (by unfold BU;rw[q]) (fun x F=>ZC5 A D (Et z hs y) (Et z hs i) F)
theorem Zsa (I:Inv B w0 σ H w) (J:EK E σ w) (hs:AV σ w s a.tmps.toList) {y:Operand} {i:Nat} (A:o.op = .extract y i):GK P E B w0 call σ k H w s a o:=by
 intro x H' z next Q M
 unfold BU at z;rw[A]at z;simp only at z;split at z
 ·rename_i vs O;cases hb:vs[i]? with
  | none=>simp[hb]at z
  | some r=>
   simp only[hb,Option.map_some,Option.some.injEq,Prod.mk.injEq]at z;obtain⟨rfl,rfl⟩:=z;have C:=Et J hs y;rw[O]at C;have:∃ws,a.eval y = .tuple ws.toArray/\AV σ w vs ws:=by
    generalize a.eval y=q at C;cases C with
    | BK G _=>exact⟨_,rfl,G⟩
   obtain⟨ws,D,F⟩:=this;obtain⟨u,hu,N⟩:=F.get hb;exact JK (s:=Instr.extract (a.eval y) i) (by unfold execOp;rw[A]) (by rw[D];simp[Instr.extract,hu]) (M _ w σ I (Ext.refl σ w) N)
 ·cases z
theorem ZqL (D:Inv B w0 σ H w) (z:EK E σ w) (hs:AV σ w s a.tmps.toList) {f:FuncId} {first caps:Array Operand} (q:o.op = .makeFunc (.func f) first caps):GK P E B w0 call σ k H w s a o:=
 Md (m:=Instr.makeFunc (.func f) (first.map a.eval) (caps.map a.eval)) (y:=some (.fn f (evs E s first) (evs E s caps))) D (by unfold execOp;rw[q]) (by unfold BU;rw[q];rfl)
  (fun x F=>by
   cases F;refine⟨.func (.func f) (first.map a.eval) (caps.map a.eval),rfl,?_⟩;have A:(first.toList.map a.eval).toArray=first.map a.eval:=by rw[<- Array.toList_map]
   have C:(caps.toList.map a.eval).toArray=caps.map a.eval:=by rw[<- Array.toList_map]
   rw[<- A,<- C];exact AV.fn (f:=f) (vW (a:=a) z hs first.toList) (vW (a:=a) z hs caps.toList) (xs:=[]) (vs:=[]) .nil)
theorem ZuR {P:Program} {f:FuncId} {fn:Func} (h:P.funcs[f]? = some fn) (q:(fn.name == "runtime.NumGoroutine")=false) (hb:fn.body.isNone=false) (args:Array Value) (w:World) :
  (callFunc f args).run P w = .ok (.enter f args) w:=by
 unfold callFunc;rw[Sem.run_bind];have hp:(Go.program).run P w = .ok P w:=rfl;rw[hp];simp only[Result.andThen_ok,h,q,hb,Bool.false_eq_true,if_false];rfl
theorem ZpE (C:Jo P E B w0 call) (Y:Inv B w0 σ H w) (N:EK E σ w) (hs:AV σ w s a.tmps.toList) {c:Call} {f:Operand} (G:o.op = .call c) (hc:c.callee = .value f):GK P E B w0 call σ k H w s a o:=by
 intro x H' F next Q hn
 unfold BU at F;rw[G]at F;simp only[hc]at F;split at F
 ·rename_i g first caps hf
  have O:=Et N hs f;rw[hf]at O;have:∃us ws,a.eval f = .func (.func g) us.toArray ws.toArray/\AV σ w first us/\AV σ w caps ws:=by
   generalize a.eval f=q at O;cases O with
   | fn h1 h2 _=>grind
  obtain⟨us,ws,S,r1,r2⟩:=this;have r3:=vW (a:=a) N hs c.args.toList;obtain⟨⟨fn,M,A,D⟩,z⟩:=C g _ H x H' σ w _ F Y N ((r1.append r3).append r2);have I:(execOp a.eval o).run P w = .ok (.enter g (us++c.args.toList.map a.eval++ws).toArray) w:=by
   have J:us.toArray++c.args.map a.eval++ws.toArray=(us++c.args.toList.map a.eval++ws).toArray:=by
    rw[<- Array.toList_map];simp
   have he:execOp a.eval o=callFunc g (us.toArray++c.args.map a.eval++ws.toArray):=by
    unfold execOp;rw[G];simp[resolve,hc,S,Deferred.ofValue,invoke]
   rw[he,J];exact ZuR M D A _ w
  unfold Oper.wp;rw[I,Oper.upon_enter];refine z.mono ?_
  grind
 ·cases F
theorem ZC6 (h:Inv B w0 σ H w) {x:V} {v:Value} {n:Nat} (q:AV σ w [x] [v]) (hl:lenOf H x=some n):n<=maxLen:=by
 unfold lenOf at hl;split at hl
 ·simp only[Option.some.injEq]at hl;subst hl;cases q with
  | Ew _=>exact Nat.zero_le _
  | GL a _=>exact Nat.zero_le _
  | sl b o c e k0 k1 k2 k3 k4 k5 k6 k7=>grind
 ·simp only[Option.some.injEq]at hl;subst hl;cases q with
  | Gq _=>exact Nat.zero_le _
  | Hf a _=>exact Nat.zero_le _
  | DT b o e k0 k1 k2 k3 k4 k5 k6=>exact k4
 ·rename_i id off len tot;split at hl
  ·rename_i b hb;simp only[Option.some.injEq]at hl;subst hl;obtain⟨L,us,m,D,C,hs,A⟩:=Oo h q hb
   grind
  ·cases hl
 ·rename_i s;simp only[Option.some.injEq]at hl;subst hl;cases q with
  | lit z _=>simpa[leaf]using z
 ·cases hl
theorem Zgs (q:Bool) {b:Builtin} (I:Inv B w0 σ H w) {c:Call} (D:o.op = .call c) (hc:c.callee = .builtin b) {xs:List V} {vs:List Value} (S:AV σ w xs vs) (A:c.args.map a.eval=vs.toArray)
  (hb:b=if q then .max else .min) {x:V} {H' : Heap} (hm:(Qa q xs).map (·,H)=some (x,H')) {next:Act->World->Prop} {Q:Exit->Act->World->Prop}
  (J:∀u w' σ',Inv B w0 σ' H' w' -> Ext σ w σ' w' -> AV σ' w' [x] [u]->next (a.put o.dst u) w'):o.wp P a w next Q:=by
 cases z : Qa q xs with
 | none=>simp[z]at hm
 | some y=>
  simp only[z,Option.map_some,Option.some.injEq,Prod.mk.injEq]at hm;obtain⟨rfl,rfl⟩:=hm;unfold Qa at z;split at z
  ·rename_i k n M;obtain⟨v,G,rfl,N,O⟩:=S.EP;have C:leaf (.int k n)=true/\v = .int k n:=by cases N with|lit l _=>exact⟨l,rfl⟩
   obtain⟨C,rfl⟩:=C;obtain⟨u,hu,F⟩:=Z55 (P:=P) q O C z;cases q
   ·simp only[Bool.false_eq_true,if_false]at hb hu;subst hb;exact JK (s:=Builtin.min_ c.argTypes o.type (Value.int k n::G).toArray) (by unfold execOp;rw[D];simp only[resolve,hc,A];rfl) (by simpa[Builtin.min_]using hu) (J _ w σ I (Ext.refl σ w) F)
   ·simp only[if_true]at hb hu;subst hb;exact JK (s:=Builtin.max_ c.argTypes o.type (Value.int k n::G).toArray) (by unfold execOp;rw[D];simp only[resolve,hc,A];rfl) (by simpa[Builtin.max_]using hu) (J _ w σ I (Ext.refl σ w) F)
  ·cases z
theorem ZnN (Y:DV E) (hP:E.P=P) (hk0:GH H k=true) (F:Inv B w0 σ H w) (hg:EK E σ w) (hs:AV σ w s a.tmps.toList) {c:Call} {b:Builtin} (D:o.op = .call c) (hc:c.callee = .builtin b):GK P E B w0 call σ k H w s a o:=by
 intro x H' z next Q N
 unfold BU at z;rw[D]at z;simp only[hc]at z;have J:=vW (a:=a) hg hs c.args.toList;have q:c.args.map a.eval=(c.args.toList.map a.eval).toArray:=by rw[<- Array.toList_map]
 unfold evs at z;generalize c.args.toList.map (ev E s)=xs at z J;generalize hvs:c.args.toList.map a.eval=vs at J q;generalize O:c.argTypes.toList=tys at z;have C : c.argTypes=tys.toArray:=by rw[<- O]
 unfold QS at z;split at z
 ·rename_i x0 t;obtain⟨v,S,rfl,I,M⟩:=J.EP;cases M.Fj;split at z
  ·rename_i A;cases hl:lenOf H x0 with
   | none=>simp[hl]at z
   | some n=>
    simp only[hl]at z;cases z;have G:(Builtin.len_ #[t] o.type #[v]).run P w = .ok (.int .i64 n) w:=by
     unfold wH at A;split at A
     ·rename_i st;have:=Y.isStr _ A;rw[hP]at this;exact ZhS F I hl this (.inr rfl) ⟨fun⟨e,he⟩=>(by cases he),fun hh=>absurd rfl (hh st)⟩
     ·rename_i hne;split at A
      ·rename_i e sz by' z0 hti;obtain⟨inf,d,hi,hd,q1,q2,q3,q4⟩:=Fg (Y.ti _ _ hti);rw[hP]at hd;exact ZhS F I hl hd (.inl ⟨e,Oi q1⟩) ⟨fun _=>hne,fun _=>⟨e,Oi q1⟩⟩
      ·cases A
    have hbd:=G;have hlf:leaf (.int .i64 (n:Int))=true:=by
     have:=ZC6 F I hl;have:(Lit.int .i64 (n:Int)).wf=true:=by
      simp[Lit.wf,IntKind.min,IntKind.max,IntKind.signed,IntKind.bits,maxLen]at this ⊢;omega
     simpa[leaf]using this
    exact JK (s:=Builtin.len_ #[t] o.type #[v]) (by unfold execOp;rw[D];simp only[resolve,hc,q,C];rfl) G (N _ w σ F (Ext.refl σ w) (.lit hlf .nil))
  ·cases z
 ·rename_i s0 x0 t u;obtain⟨v,S,rfl,I,M⟩:=J.EP;obtain⟨v2,vs2,rfl,h3,h4⟩:=M.EP;cases h4.Fj;obtain⟨u',w',σ',hu,i1,i2,i3⟩:=ZCw (P:=P) Y hP F hk0 o.type I h3 z;exact JK (s:=Builtin.append_ #[t,u] o.type #[v,v2]) (by unfold execOp;rw[D];simp only[resolve,hc,q,C];rfl) hu (N _ w' σ' i1 i2 i3)
 ·rename_i d0 x0 t u;obtain⟨v,S,rfl,I,M⟩:=J.EP;obtain⟨v2,vs2,rfl,h3,h4⟩:=M.EP;cases h4.Fj;obtain⟨u',w',σ',hu,i1,i2,i3⟩:=ZEr (P:=P) Y hP F o.type I h3 z;exact JK (s:=Builtin.copy_ #[t,u] o.type #[v,v2]) (by unfold execOp;rw[D];simp only[resolve,hc,q,C];rfl) hu (N _ w' σ' i1 i2 i3)
 ·rename_i tys0;exact Zgs false F D hc J q rfl (by simpa using z) N
 ·exact Zgs true F D hc J q rfl (by simpa using z) N
 ·cases z
end
theorem ZDV {E B w0 σ H w} {P:Program} (D:DV E) (F:E.P=P) {call:EO} (J:Jo P E B w0 call) (A:Inv B w0 σ H w) (C:EK E σ w) {k:Nat} (G:GH H k=true) {s:List V} {a:Act} (hs:AV σ w s a.tmps.toList)
  (o:Oper):GK P E B w0 call σ k H w s a o:=by
 cases q:o.op with
 | move y=>exact ZyB A C hs q
 | assign y=>exact Zuk G A C hs q
 | pick c y z=>exact ZzH A C hs q
 | alloc t=>exact Zwr D F G A q
 | box t y=>exact ZBE G A C hs q
 | build t M=>exact ZvI D F A C hs q
 | buildSlice t n M=>exact ZoP D F G A C hs q
 | load t y=>exact Zy4 D F A C hs q
 | store t y z=>exact Zw0 D F A C hs q
 | nilCheck y=>exact Zr3 A C hs q
 | binOp op t y z Y=>exact Zxj D F A C hs q
 | unOp op t y=>exact ZA7 A C hs q
 | convert N dst y=>exact Zsy D F G A C hs q
 | makeSlice t l c=>exact Zq5 D F G A C hs q
 | slice t y Q O S=>exact Zw6 D F A C hs q
 | sliceToArrayPointer t y=>exact ZCv D F A C hs q
 | fieldAddr t y f=>exact ZpD D F A C hs q
 | field t y f=>exact Zx0 D F A C hs q
 | indexAddr t y i=>exact ZpB D F A C hs q
 | index t y i=>exact ZwP D F A C hs q
 | extract y i=>exact Zsa A C hs q
 | lookup t y i ok=>exact ZtV D F A C hs q
 | makeFunc fn first caps=>
  cases fn with
  | func f=>exact ZqL A C hs q
  | _=>intro x H' I;unfold BU at I;rw[q]at I;cases I
 | call c=>
  cases hc:c.callee with
  | value f=>exact ZpE J A C hs q hc
  | builtin b=>exact ZnN D F G A C hs q hc
  | _=>intro x H' I;unfold BU at I;rw[q]at I;simp only[hc]at I;cases I
 | _=>intro x H' I;unfold BU at I;rw[q]at I;cases I
end Go.Proofs.YtjodhcdmhobmoaaGreatDoor.Le
