/- A part of it. -/
import Derived.Test.YteinepnbndegdaaGreatBAu
set_option linter.unusedVariables false
set_option linter.unusedSimpArgs false
namespace Go.Proofs.YteinepnbndegdaaGreat.Le
open Go Go.RowKit Go.Maps Go.MapKept Go.ChangeMaps
set_option maxRecDepth 100000
abbrev nN:=Int×Int×V
def TD (now:Int) (h:nN):V:=hopV h.1 h.2.1 now h.2.2
theorem Z8a {σ:Sg} {w:World} {now:Int}:∀{G:List nN} {us:List Value},AL σ w (G.map (TD now)) us->∃N:List HV,us=N.map (·.val now)/\(∀x∈N,x.FW.oneCell' = true)/\N.length=G.length
 | [],us,h=>by cases h;exact⟨[],rfl,(fun x hx=>absurd hx (by simp)),rfl⟩
 | h::G,us,z=>by
  obtain⟨v,us,rfl,I,J⟩:=z.Bd;obtain⟨N,rfl,M,Q⟩:=Z8a J;cases I with
  | @agg cs ws xs vs D C _=>
   obtain⟨S,r,rfl,q0,z⟩:=D.Bd;obtain⟨Y,r,rfl,q1,z⟩:=z.Bd;obtain⟨v2,r,rfl,q2,z⟩:=z.Bd;obtain⟨R,r,rfl,q3,z⟩:=z.Bd;cases z.Dx;cases q0.JZ;cases q1.JZ;cases q2.JZ;refine⟨⟨h.1,h.2.1,R⟩::N,rfl,fun x hx=>?_,by simp[Q]⟩;rcases List.mem_cons.1 hx with rfl|hx
   ·exact C _ (by simp)
   ·exact M x hx
theorem Zq (now:Int):∀N:List HV,flat (N.map (·.val now))=hcells now N
 | []=>rfl
 | x::N=>by
  show x.cells now++flat (N.map (·.val now))=x.cells now++hcells now N;rw[Zq now N]
theorem Z74 (now:Int):∀(N:List HV) (j:Nat) (h:j<N.length) (i:Nat) (v:Value),(N[j].cells now)[i]? = some v->(hcells now N)[j*4+i]? = some v
 | x::N,0,h,i,v,C=>by
  show (x.cells now++hcells now N)[0*4+i]? = some v;have z : (x.cells now)[i]? = some v:=C;rw[Nat.zero_mul,Nat.zero_add,List.getElem?_append_left (List.getElem?_eq_some_iff.1 z).1];exact z
 | x::N,j+1,h,i,v,C=>by
  have:=Z74 now N j (by simpa using h) i v (by simpa using C);show (x.cells now++hcells now N)[(j+1)*4+i]? = some v;have D:(x.cells now).length=4:=rfl;rw[List.getElem?_append_right (by rw[D];omega),D,show (j+1)*4+i - 4=j*4+i by omega];exact this
theorem notFrozen {w:World} {g i:Nat} {cur:Array Value} {t:TypeId} {tg:Nat×Nat} (h:w.heap[g]? = some (.cells cur t tg)) (hm:noMark tg cur.size) (hi:i<cur.size):w.frozen? ⟨g,i,none⟩=false:=by
 obtain⟨lo,hi'⟩:=tg;unfold World.frozen?;simp only[h];rcases hm with hm|hm
 ·cases hm;simp
 ·have:¬(lo<=i):=by simp only at hm;omega
  simp[this]
def Pg (z C D n n5:Nat) (c now:Int):Box:=BO false false 33 7 [.agg [.BK 1 0 z z,.BK 2 0 C C,.BK 3 0 D D,.lit (.int .i64 c),.lit (.int .i64 now),.BK 4 0 n n,.BK 5 0 n5 n5]]
def VW (z:List V):List V:=((List.replicate 89 V.und).set 0 (.ptr 0 0 0 1)).set 5 (.sl false 4 z)
theorem Z6T {σ:Sg} {w:World} {D:List V} {vs:List Value} (Q:vs.length=89) {G I:Value} (J:vs[0]? = some G) (M:vs[5]? = some I) (R:AL σ w [.ptr 0 0 0 1] [G]) (S:AL σ w [.sl false 4 D] [I]):AL σ w (VW D) vs:=by
 refine zH (by simp[VW,Q]) (fun i x v z C =>?_);unfold VW at z;rw[List.getElem?_set]at z;split at z
 ·rename_i h;subst h;split at z
  ·cases z;rw[M]at C;cases C;exact S
  ·cases z
 ·rw[List.getElem?_set]at z;split at z
  ·rename_i h;subst h;split at z
   ·cases z;rw[J]at C;cases C;exact R
   ·cases z
  ·rw[List.getElem?_replicate]at z;split at z
   ·cases z;exact .und _ .nil
   ·cases z
set_option maxHeartbeats 1000000 in
theorem Zpz {E:Env} {B:Nat} {w0:Start} {σ:Sg} {w:World} {n1 n2 n3 n5:Nat} {c now:Int} {b1 b2 b3 b5:Box} {hs:List nN} (hs0:0<hs.length) (hs1:hs.length<=100000)
  (hI:Inv B w0 σ [Pg n1 n2 n3 hs.length n5 c now,b1,b2,b3,⟨true,true,false,106,4,hs.map (TD now),0⟩,b5] w) (hmp:∀id,σ.mp id=none) (hG:Ci E σ w)
  (hrows:∀b∈[b1,b2,b3,b5],b.row=true) (hfz:∀h∈hs,DU h.2.2=true) {vs:List Value} (hr:AL σ w [.ptr 0 0 0 1] vs) (hk:(Lit.int .i64 now).wf=true) (R:Code) (Q:Exit->Act->World->Prop)
  (hJ:∀(σ' : Sg) (a:Act) (w' : World),EK E B w0 σ' ⟨VW (hs.map (TD now)),[Pg n1 n2 n3 0 n5 c now,b1,b2,b3,⟨true,true,false,106,4,[],0⟩,b5]⟩ a w' -> Hq 1 σ w σ' w' -> R.wp Tryz.prog Q a w')
  (cc:Code) (hc:Tryz.f43.body=some cc):(TE R cc).wp Tryz.prog Q { tmps:=vs.toArray++Array.replicate (Tryz.f43.ntmps - vs.toArray.size) undef,defers:=[] } w:=by
 obtain⟨L0,hL0,M⟩:=hI.boxes 0 _ rfl rfl;obtain⟨us,hrep,hsz,hone,hown⟩:=M.Cj;obtain⟨u,us',rfl,hrep,hr'⟩:=hrep.Bd;cases hr'.Dx;cases hrep with
 | @agg cs ws xs vs' C D _=>
 obtain⟨v0,r,rfl,q0,C⟩:=C.Bd;obtain⟨v1,r,rfl,q1,C⟩:=C.Bd;obtain⟨v2,r,rfl,q2,C⟩:=C.Bd;obtain⟨v3,r,rfl,q3,C⟩:=C.Bd;obtain⟨v4,r,rfl,q4,C⟩:=C.Bd;obtain⟨v5,r,rfl,q5,C⟩:=C.Bd;obtain⟨v6,r,rfl,q6,C⟩:=C.Bd;cases C.Dx;cases q4.JZ;rcases hown with ⟨hlen,⟨_,h01⟩|⟨g0,cap0,J,tg0,hv0,hB0,hb0,hm0,hn0,hcm0,hcs0,htk0⟩⟩
 ·cases h01
 have S:L0.Ag=7:=M.Ag.symm;rw[S]at hcs0 htk0;have hown0:L0.v.ownBlock=some g0:=by rw[hv0];rfl
 have hsz0:7<=J.size:=by rw[hcs0];have:1<=cap0:=hn0;omega
 have hcell0:∀i v,([v0,v1,v2,v3,.int .i64 now,v5,v6]:List Value)[i]? = some v->w.cell? ⟨g0,i,none⟩=some v:=fun i v hv=>by
  have h7:J.toList.take 7=[v0,v1,v2,v3,.int .i64 now,v5,v6]:=htk0;rw[<- h7,List.getElem?_take]at hv;split at hv
  ·simp only[World.cell?,hb0];simpa using hv
  ·cases hv
 obtain⟨L4,hL4,hok4⟩:=hI.boxes 4 _ rfl rfl;obtain⟨us4,hrep4,hsz4,hone4,Y⟩:=hok4.Cj;obtain⟨N,rfl,hNo,hNl⟩:=Z8a hrep4;have G:L4.Ag=4:=hok4.Ag.symm;have htot4:L4.tot=hs.length:=by rw[hok4.tot];simp
 have hml:(hs.map (TD now)).length=hs.length:=List.length_map ..;rw[Zq,G]at Y;simp only[hml]at Y;rcases Y with ⟨hl4,⟨_,h04⟩|⟨g,cap,cur,tg,hv4,hB4,hb4,hm4,hn4,hcm4,hcs4,htk4⟩⟩
 ·omega
 have hown4' : L4.v.ownBlock=some g:=by rw[hv4];rfl
 have hne:g0≠g:=fun h=>by
  have:=hI.apart 0 4 _ _ L0 L4 g rfl rfl rfl rfl hL0 hL4 (by rw[<- h];exact hown0) hown4';cases this
 have hv5:v5 = .slice (some ⟨g,0,none⟩) N.length cap:=by
  cases q5 with
  | @BK _ _ _ _ L _ _ _ h1 h2 h3 h4 _=>
   rw[hL4]at h1;obtain rfl:=Option.some.inj h1;obtain⟨_,a,n,c',k,e1,e2,e3,e4,e5⟩:=h3 htot4;rw[hv4]at e1;obtain⟨rfl,rfl,rfl⟩:some (⟨g,0,none⟩:Addr)=a/\hs.length=n/\cap=c' :=by simpa using e1
   have:k=0:=by omega
   subst this;rw[e2,hNl];simp[Addr.add]
 subst hv5;obtain⟨pv,vs2,rfl,hp,hvs⟩:=hr.Bd;cases hvs.Dx;have hpv:pv = .pointer (some ⟨g0,0,none⟩):=by
  cases hp with
  | @ptr _ _ _ _ L _ _ _ g' h1 h2 h3 h4 _=>
   rw[hL0]at h1;cases h1;obtain⟨n,c',e1⟩:=h3 M.tot;rw[hv0]at e1;cases e1;rw[h4];simp
 subst hpv;have hrow:SH w g cap now N cur tg:=⟨hb4,hm4,by rw[hNl];exact hn4,hcm4,hcs4,(fun j hj i v hv=>by
  have h1:=Z74 now N j hj i v hv;rw[<- htk4,List.getElem?_take]at h1;split at h1
  ·simp only[World.cell?,hb4];simpa using h1
  ·cases h1),hNo⟩
 have hI0:=hI.size;refine Ztm w g0 g cap now N cur tg (by omega) (by omega) hrow hk (hcell0 4 _ rfl) (hcell0 5 _ rfl) (notFrozen hb0 hm0 (by omega)) hne R Q (fun w1 z a9 gR capR hb1 hcs1 had has ha0 ha5 hgR hleR hcmR hclR=>?_) cc hc;have hg0l:g0<w.heap.size:=(Array.getElem?_eq_some_iff.1 hb0).1;have hgl:g<w.heap.size:=(Array.getElem?_eq_some_iff.1 hb4).1;have hbg0:(w1.setRow g z).heap[g0]? = some (.cells J 33 tg0):=(setRow_other w1 g g0 z hne).trans ((hb1.block g0 hg0l).trans hb0);obtain⟨curn,hn1,hn2,hn3⟩:=wX (w1.setRow g z) g0 J 33 tg0 5 (.slice (some ⟨g,0,none⟩) 0 cap) hbg0 (by omega);have hbg:((w1.setRow g z).setCell ⟨g0,5,none⟩ (.slice (some ⟨g,0,none⟩) 0 cap)).heap[g]? = some (.cells z 106 tg):=by
  rw[Wy _ _ _ _ _ (Ne.symm hne)];exact setRow_heap w1 g cur z 106 tg ((hb1.block g hgl).trans hb4)
 have hgRne:gR≠g0/\gR≠g:=⟨by omega,by omega⟩;have hclR' : ∀j u,(hcells now N)[j]? = some u->((w1.setRow g z).setCell ⟨g0,5,none⟩ (.slice (some ⟨g,0,none⟩) 0 cap)).cell? ⟨gR,j,none⟩=some u:=fun j u I=>
  (World.cell?_of_block (w:=w1) (a:=⟨gR,j,none⟩) ((Wy _ _ _ _ _ hgRne.1).trans (setRow_other _ _ _ _ hgRne.2))).trans (hclR j u I)
 generalize hw9:(w1.setRow g z).setCell ⟨g0,5,none⟩ (.slice (some ⟨g,0,none⟩) 0 cap)=w9 at *;have hT:=Zn6 (g:=g) (g0:=g0) z (.slice (some ⟨g,0,none⟩) 0 cap) 5 hb1;rw[hw9]at hT;have hok4' : ∀fz',IW ⟨fun id=>if id=4 then some ⟨.slice (some ⟨g,0,none⟩) 0 cap,0,L4.Ag⟩ else σ.box id,fz',σ.mp⟩ w9 B ⟨true,true,false,106,4,[],0⟩ ⟨.slice (some ⟨g,0,none⟩) 0 cap,0,L4.Ag⟩:=fun fz' =>
  ⟨rfl,⟨[],.nil,(fun u I=>absurd I (by simp)),(fun u I=>absurd I (by simp[flat])),by simp[flat],.inr ⟨g,cap,z,tg,rfl,hB4,hbg,by rw[hcs1];exact hm4,Nat.zero_le _,hcm4,by rw[hcs1,hcs4,G],by simp[flat]⟩⟩,(fun h=>nomatch h),G.symm,(fun x hx=>nomatch hx),fun _ x hx=>nomatch hx⟩
 have hok0' : ∀fz',IW ⟨fun id=>if id=4 then some ⟨.slice (some ⟨g,0,none⟩) 0 cap,0,L4.Ag⟩ else σ.box id,fz',σ.mp⟩ w9 B (Pg n1 n2 n3 0 n5 c now) L0:=fun fz' =>by
  refine⟨M.tot,⟨[.agg #[v0,v1,v2,v3,.int .i64 now,.slice (some ⟨g,0,none⟩) 0 cap,v6]],?_,?_,?_,?_⟩,(fun h=>nomatch h),M.Ag,?_,fun h=>nomatch h⟩
  ·refine .agg (ws:=[v0,v1,v2,v3,.int .i64 now,.slice (some ⟨g,0,none⟩) 0 cap,v6]) ?_ ?_ .nil
   ·refine AL.Dk.2 ⟨jK q0 rfl,AL.Dk.2 ⟨jK q1 rfl,AL.Dk.2 ⟨jK q2 rfl,AL.Dk.2 ⟨Z9z q3,AL.Dk.2 ⟨Z9z q4,AL.Dk.2 ⟨?_,jK q6 rfl⟩⟩⟩⟩⟩⟩;exact .BK (L:=⟨.slice (some ⟨g,0,none⟩) 0 cap,0,L4.Ag⟩) rfl (Nat.le_refl _) (fun _=>⟨Nat.le_refl _,some ⟨g,0,none⟩,0,cap,0,rfl,by simp[Addr.add],Nat.zero_le _,Nat.le_refl _,fun _=>rfl⟩) ⟨_,_,_,rfl⟩ .nil
   ·intro u I;simp at I;rcases I with rfl|rfl|rfl|rfl|rfl|rfl|rfl
    ·exact D _ (by simp)
    ·exact D _ (by simp)
    ·exact D _ (by simp)
    ·exact D _ (by simp)
    ·rfl
    ·rfl
    ·exact D _ (by simp)
  ·intro u I;rw[List.mem_singleton.1 I,S];rfl
  ·intro u I;have:u∈[v0,v1,v2,v3,.int .i64 now,.slice (some ⟨g,0,none⟩) 0 cap,v6]:=by simpa[flat,Value.cells]using I
   simp at this;rcases this with rfl|rfl|rfl|rfl|rfl|rfl|rfl
   ·exact D _ (by simp)
   ·exact D _ (by simp)
   ·exact D _ (by simp)
   ·exact D _ (by simp)
   ·rfl
   ·rfl
   ·exact D _ (by simp)
  ·rw[S];refine⟨by simp[flat,Value.cells,Pg,BO],.inr ⟨g0,cap0,curn,tg0,hv0,hB0,hn1,by rw[hn2];exact hm0,hn0,hcm0,by rw[hn2];exact hcs0,?_⟩⟩;have h7:J.toList.take 7=[v0,v1,v2,v3,.int .i64 now,.slice (some ⟨g,0,none⟩) N.length cap,v6]:=htk0;show curn.toList.take 7=[v0,v1,v2,v3,.int .i64 now,.slice (some ⟨g,0,none⟩) 0 cap,v6];rw[hn3,List.take_set,h7];rfl
  ·intro x hx;rw[List.mem_singleton.1 hx];rfl
 obtain⟨j1,j2⟩:=ZrC (w9:=w9) (b0' :=Pg n1 n2 n3 0 n5 c now) (b4' :=⟨true,true,false,106,4,[],0⟩) (v4:=.slice (some ⟨g,0,none⟩) 0 cap) (cap:=cap) (cap0:=cap0) (n:=0) (N:=N.length*4)
  hI hmp hL0 hL4 hown0 hown4' rfl rfl rfl rfl rfl hrows hgR (fun c hc=>⟨_,hclR' c _ (List.getElem?_eq_getElem (by rw[zU];exact hc))⟩) hT rfl rfl rfl rfl rfl hok0' hok4'
 refine hJ _ a9 w9 ⟨j1,hG.bare j2,Z6T (by rw[Array.length_toList];exact has) (by simpa using ha0) (by simpa using ha5) ?_ ?_,had⟩ ⟨fun id L hid hL=>⟨L,?_,rfl,.inl rfl⟩,j2⟩
 ·cases hp with
  | @ptr _ _ _ _ L _ _ _ g' h1 h2 h3 h4 _=>exact .ptr g' (by simp only;rw[if_neg (by decide)];exact h1) h2 h3 h4 .nil
 ·have hfa:∀x∈hs.map (TD now),DU x=true:=fun x hx=>by
   obtain⟨h,hh,rfl⟩:=List.mem_map.1 hx;have:=Oy (hfz h hh);simp[DU,TD,hopV,okV,Bz,Be,this]
  have key:=AL.sl (σ:=⟨fun id=>if id=4 then some ⟨.slice (some ⟨g,0,none⟩) 0 cap,0,L4.Ag⟩ else σ.box id,fun b c=>σ.fz b c\/(b=gR/\c<N.length*4),σ.mp⟩) (w:=w9) (xs:=[]) (vs:=[]) gR 0 capR 4
   (hrep4.bare j2 (Ko hfa)) hfa (fun u I=>by rw[hsz4 u I,G]) hone4 (by rw[hml,<- hNl];exact hleR) hcmR (fun j u I=>by
    rw[Zq]at I;have hj:=(List.getElem?_eq_some_iff.1 I).1;rw[zU]at hj;rw[Nat.zero_add];exact⟨.inr ⟨rfl,hj⟩,hclR' j u I⟩) .nil
  rw[hml,<- hNl]at key;exact key
 ·simp only;rw[if_neg (by omega)];exact hL
theorem ZoH {E:Env} {B:Nat} {w0:Start} {σ:Sg} {w:World} {n1 n2 n3 n5:Nat} {c now:Int} {b1 b2 b3 b5:Box}
  (hI:Inv B w0 σ [Pg n1 n2 n3 0 n5 c now,b1,b2,b3,⟨true,true,false,106,4,[],0⟩,b5] w) (hG:Ci E σ w)
  {vs:List Value} (hr:AL σ w [.ptr 0 0 0 1] vs) (hk:(Lit.int .i64 now).wf=true) (R:Code) (Q:Exit->Act->World->Prop)
  (hJ:∀(σ' : Sg) (a:Act) (w' : World),EK E B w0 σ' ⟨VW [],[Pg n1 n2 n3 0 n5 c now,b1,b2,b3,⟨true,true,false,106,4,[],0⟩,b5]⟩ a w' -> Hq 1 σ w σ' w' -> R.wp Tryz.prog Q a w')
  (cc:Code) (hc:Tryz.f43.body=some cc):(TE R cc).wp Tryz.prog Q { tmps:=vs.toArray++Array.replicate (Tryz.f43.ntmps - vs.toArray.size) undef,defers:=[] } w:=by
 obtain⟨L0,hL0,I⟩:=hI.boxes 0 _ rfl rfl;obtain⟨us,J,hsz,hone,hown⟩:=I.Cj;obtain⟨u,us',rfl,J,hr'⟩:=J.Bd;cases hr'.Dx;cases J with
 | @agg cs ws xs vs' z hws _=>
 obtain⟨v0,r,rfl,q0,z⟩:=z.Bd;obtain⟨v1,r,rfl,q1,z⟩:=z.Bd;obtain⟨v2,r,rfl,q2,z⟩:=z.Bd;obtain⟨v3,r,rfl,q3,z⟩:=z.Bd;obtain⟨v4,r,rfl,q4,z⟩:=z.Bd;obtain⟨v5,r,rfl,q5,z⟩:=z.Bd;obtain⟨v6,r,rfl,q6,z⟩:=z.Bd;cases z.Dx;cases q4.JZ;rcases hown with ⟨hlen,⟨_,h01⟩|⟨g0,cap0,cur0,tg0,hv0,hB0,G,hm0,hn0,hcm0,S,Y⟩⟩
 ·cases h01
 have hesz0:L0.Ag=7:=I.Ag.symm;rw[hesz0]at S Y;have hsz0:7<=cur0.size:=by rw[S];have:1<=cap0:=hn0;omega
 have h7:cur0.toList.take 7=[v0,v1,v2,v3,.int .i64 now,v5,v6]:=Y;have C:∀i v,([v0,v1,v2,v3,.int .i64 now,v5,v6]:List Value)[i]? = some v->w.cell? ⟨g0,i,none⟩=some v:=fun i v hv=>by
  rw[<- h7,List.getElem?_take]at hv;split at hv
  ·simp only[World.cell?,G];simpa using hv
  ·cases hv
 have hv5:∃fa cap,v5 = .slice fa 0 cap:=by
  obtain⟨L4,hL4,hok4⟩:=hI.boxes 4 _ rfl rfl;cases q5 with
  | @BK _ _ _ _ L _ _ _ h1 h2 h3 h4 _=>
   rw[hL4]at h1;obtain rfl:=Option.some.inj h1;obtain⟨_,a,n,c',k,e1,e2,e3,e4,e5⟩:=h3 hok4.tot;exact⟨_,_,e2⟩
 obtain⟨fa,cap,rfl⟩:=hv5;obtain⟨pv,vs2,rfl,hp,hvs⟩:=hr.Bd;cases hvs.Dx;have hpv:pv = .pointer (some ⟨g0,0,none⟩):=by
  cases hp with
  | @ptr _ _ _ _ L _ _ _ g' h1 h2 h3 h4 _=>
   rw[hL0]at h1;cases h1;obtain⟨n,c',e1⟩:=h3 I.tot;rw[hv0]at e1;cases e1;rw[h4];simp
 subst hpv;refine ZpH w g0 cap fa now hk (C 4 _ rfl) (C 5 _ rfl) (notFrozen G hm0 (by omega)) R Q (fun w1 a9 D had has ha0 ha5=>?_) cc hc;have hg0l:g0<w.heap.size:=(Array.getElem?_eq_some_iff.1 G).1;have hbg0:w1.heap[g0]? = some (.cells cur0 33 tg0):=(D.block g0 hg0l).trans G;obtain⟨M,hn1,hn2,hn3⟩:=wX w1 g0 cur0 33 tg0 5 (.slice fa 0 cap) hbg0 (by omega);have h5:cur0.toList[5]? = some (.slice fa 0 cap):=by
  have h:=congrArg (fun l:List Value=>l[5]?) h7;simp only[List.getElem?_take]at h;exact h
 have hcn:M=cur0:=by
  have:M.toList=cur0.toList:=by
   rw[hn3];refine List.ext_getElem? fun i=>?_;rw[List.getElem?_set];split
   ·rename_i hi;subst hi;rw[if_pos (List.getElem?_eq_some_iff.1 h5).1,h5]
   ·rfl
  exact Array.toList_inj.1 this
 have hg:w.grownBy (w1.setCell ⟨g0,5,none⟩ (.slice fa 0 cap)) none:=⟨D.os,D.tape,D.output,by simpa using D.size,fun k hk _=>by
  by_cases h:k=g0
  ·subst h;rw[hn1,hcn];exact G.symm
  ·exact(Wy _ _ _ _ _ h).trans (D.block k hk)⟩
 obtain⟨i1,i2⟩:=hI.grown hg;refine hJ _ a9 _ ⟨i1,hG.ext i2,Z6T (by rw[Array.length_toList];exact has) (by simpa using ha0) (by simpa using ha5) (hp.ext i2) (.EI .nil),had⟩ i2.k
end Go.Proofs.YteinepnbndegdaaGreat.Le
