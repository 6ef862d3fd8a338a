/- A part of it. -/
import Derived.Test.YteinepnbndegdaaGreatL3
set_option linter.unusedVariables false
set_option linter.unusedSimpArgs false
namespace Go.Proofs.YteinepnbndegdaaGreat.Le
open Go.RowKit (Below)
def bare (fz:Nat->Nat->Prop):Sg:=⟨fun _=>none,fz,fun _=>none⟩
theorem Lies.bare {σ σ' : Sg} {w w' : World} {b o:Nat} {us:List Value} (h:Lies σ w b o us) (z:∀b c,σ.fz b c->σ'.fz b c/\w'.cell? ⟨b,c,none⟩=w.cell? ⟨b,c,none⟩):Lies σ' w' b o us:=fun j u C=>by
 obtain⟨D,G⟩:=h j u C
 simp_all
theorem AL.bare {σ σ' : Sg} {w w' : World} {xs:List V} {vs:List Value} (h:AL σ w xs vs) (Q:∀b c,σ.fz b c->σ'.fz b c/\w'.cell? ⟨b,c,none⟩=w.cell? ⟨b,c,none⟩) :
  Be xs=true->AL σ' w' xs vs:=by
 induction h with
 | nil=>intro _;exact .nil
 | und u _ G=>intro z;simp[Be]at z;exact .und u (G z.2)
 | no _ G=>intro z;simp[Be]at z;exact .no (G z.2)
 | lit hl _ G=>intro z;simp[Be]at z;exact .lit hl (G z.2)
 | agg _ ho _ C D=>intro z;simp[Be,Bz]at z;exact .agg (C z.1) ho (D z.2)
 | Ap _ _ C D=>intro z;simp[Be,Bz]at z;exact .Ap (C z.1) (D z.2)
 | EI _ G=>intro z;simp[Be]at z;exact .EI (G z.2)
 | Fh _ G=>intro z;simp[Be]at z;exact .Fh (G z.2)
 | Et a _ G=>intro z;simp[Be]at z;exact .Et a (G z.2)
 | GM a _ G=>intro z;simp[Be]at z;exact .GM a (G z.2)
 | sl b o c R _ S I J M Y h5 _ C D=>intro z;simp[Be,Bz]at z;exact .sl b o c R (C z.1) S I J M Y (h5.bare Q) (D z.2)
 | CE b o R _ S I J M Y _ C D=>intro z;simp[Be,Bz]at z;exact .CE b o R (C z.1) S I J M (Y.bare Q) (D z.2)
 | BK I J M Y _ G=>intro z;simp[Be,Bz]at z
 | ptr g I J M Y _ G=>intro z;simp[Be,Bz]at z
 | Bj b o R i off _ S I J M _ C D=>intro z;simp[Be,Bz]at z;exact .Bj b o R i off (C z.1) S I J (M.bare Q) (D z.2)
 | fn _ _ _ C D ih3=>intro z;simp[Be,Bz]at z;exact .fn (C z.1.1) (D z.1.2) (ih3 z.2)
 | GX _ _ C D=>intro z;simp[Be,Bz]at z;exact .GX (C (by simp[Be,z.1])) (D z.2)
 | FQ g I _ G=>intro z;simp[Be,Bz]at z
theorem Ci.bare {E:Env} {σ σ' : Sg} {w w' : World} (h:Ci E σ w) (z:∀b c,σ.fz b c->σ'.fz b c/\w'.cell? ⟨b,c,none⟩=w.cell? ⟨b,c,none⟩):Ci E σ' w' :=by
 intro g r D;have C:=h g r D;generalize I:Value.pointer (some ⟨g,0,none⟩)=v at C ⊢;cases C with
 | Bj b o G i off k0 k1 k2 k3 k4 _=>exact .Bj b o _ _ _ (k0.bare z (Ko k1)) k1 k2 k3 (k4.bare z) .nil
theorem Zw (z:Nat->Nat) (xs:List V):Fv z xs=xs.map (Ei z):=by
 induction xs with
 | nil=>rfl
 | cons x xs C=>simp[Fv,C]
theorem xO (z:Nat->Nat) (xs:List V):(Fv z xs).length=xs.length:=by rw[Zw];simp
theorem Z9O (z:Nat->Nat) (x:V):okV (Ei z x)=okV x:=by cases x<;>simp[Ei,okV]
theorem zL {σ σ' : Sg} {w w' : World} {ρ:Nat->Nat} {xs:List V} {vs:List Value} (h:AL σ w xs vs) (I:∀b c,σ.fz b c->σ'.fz b c/\w'.cell? ⟨b,c,none⟩=w.cell? ⟨b,c,none⟩) :
  (∀id∈DD xs,σ'.box (ρ id)=σ.box id/\σ'.mp (ρ id)=σ.mp id)->AL σ' w' (Fv ρ xs) vs:=by
 induction h with
 | nil=>intro _;exact .nil
 | und u _ D=>intro z;exact .und u (D fun id h=>z id (by simp[DD,h]))
 | no _ D=>intro z;exact .no (D fun id h=>z id (by simp[DD,h]))
 | lit hl _ D=>intro z;exact .lit hl (D fun id h=>z id (by simp[DD,h]))
 | agg _ ho _ G C=>intro z;exact .agg (G fun id h=>z id (by simp[DD,EJ,h])) ho (C fun id h=>z id (by simp[DD,h]))
 | Ap _ _ G C=>intro z;exact .Ap (G fun id h=>z id (by simp[DD,EJ,h])) (C fun id h=>z id (by simp[DD,h]))
 | EI _ D=>intro z;exact .EI (D fun id h=>z id (by simp[DD,h]))
 | Fh _ D=>intro z;exact .Fh (D fun id h=>z id (by simp[DD,h]))
 | Et a _ D=>intro z;exact .Et a (D fun id h=>z id (by simp[DD,h]))
 | GM a _ D=>intro z;exact .GM a (D fun id h=>z id (by simp[DD,h]))
 | sl b o c Y h R J M Q S h5 _ _ C=>intro z;exact .sl b o c Y (h.bare I (Ko R)) R J M Q S (h5.bare I) (C fun id h=>z id (by simp[DD,h]))
 | CE b o Y h R J M Q S _ _ C=>intro z;exact .CE b o Y (h.bare I (Ko R)) R J M Q (S.bare I) (C fun id h=>z id (by simp[DD,h]))
 | BK J M Q S _ D=>intro z;exact .BK ((z _ (by simp[DD,EJ])).1.trans J) M Q S (D fun id h=>z id (by simp[DD,h]))
 | ptr g J M Q S _ D=>intro z;exact .ptr g ((z _ (by simp[DD,EJ])).1.trans J) M Q S (D fun id h=>z id (by simp[DD,h]))
 | Bj b o Y i off h R J M Q _ _ C=>intro z;exact .Bj b o Y i off (h.bare I (Ko R)) R J M (Q.bare I) (C fun id h=>z id (by simp[DD,h]))
 | fn _ _ _ G C ih3=>intro z;exact .fn (G fun id h=>z id (by simp[DD,EJ,h])) (C fun id h=>z id (by simp[DD,EJ,h])) (ih3 fun id h=>z id (by simp[DD,h]))
 | GX _ _ G C=>intro z;exact .GX (G fun id h=>z id (by simp[DD,EJ]at h ⊢;simp[h])) (C fun id h=>z id (by simp[DD,h]))
 | FQ g J _ D=>intro z;exact .FQ g ((z _ (by simp[DD,EJ])).2.trans J) (D fun id h=>z id (by simp[DD,h]))
theorem ZI {σ σ' : Sg} {w w' : World} {C:Nat->Nat} {x:V} {v:Value} (h:AL σ w [x] [v]) (z:∀b c,σ.fz b c->σ'.fz b c/\w'.cell? ⟨b,c,none⟩=w.cell? ⟨b,c,none⟩)
  (D:∀id∈EJ x,σ'.box (C id)=σ.box id/\σ'.mp (C id)=σ.mp id):AL σ' w' [Ei C x] [v]:=zL h z (by simpa[DD]using D)
structure Fj (H H1:Heap):Prop where
 len:H.length<=H1.length
 at_:∀(id:Nat) (b:Box),H[id]? = some b->∃b',H1[id]? = some b' /\ b'.live=b.live/\b'.row=b.row/\b'.xs=b.xs
theorem Fj.refl (H:Heap):Fj H H:=⟨Nat.le_refl _,fun id b h=>⟨b,h,rfl,rfl,rfl⟩⟩
theorem Fj.trans {A B C:Heap} (h:Fj A B) (k:Fj B C):Fj A C:=
 ⟨Nat.le_trans h.len k.len,fun id b hb=>by
  obtain⟨b1,z,D,G,I⟩:=h.at_ id b hb;obtain⟨b2,k1,k2,k3,k4⟩:=k.at_ id b1 z
  simp_all⟩
theorem Fj.bump (H:Heap) (ids:List Nat):Fj H (bump H ids):=
 ⟨by rw[bump_length];exact Nat.le_refl _,fun id b hb=>⟨_,by rw[Ic,hb];rfl,by split<;>rfl,by split<;>rfl,by split<;>rfl⟩⟩
theorem Fj.push (H:Heap) (b:Box):Fj H (H++[b]):=
 ⟨by simp,fun id z hb=>⟨z,by grind,rfl,rfl,rfl⟩⟩
section
variable {B:Nat} {w0:Start} {σ:Sg} {H H1:Heap} {w:World}
theorem Z8K (h:Inv B w0 σ H w) {f:Fk} {x y:V} {v:Value} (C:AL σ w [x] [v]) (z:Ew f H x=some (y,H1)):Fj H H1/\∃σ',Inv B w0 σ' H1 w/\Ext σ w σ' w/\AL σ' w [y] [v]:=by
 have mk:∀(e:TypeId) (sz:Nat),∃σ',Inv B w0 σ' (H++[BO true false e sz []]) w/\Ext σ w σ' w/\AL σ' w [.BK H.length 0 0 0] [.slice none 0 0]:=by
  intro e sz;obtain⟨σ',D,G,J⟩:=MR (e:=e) (Ag:=sz) (v' :=.slice none 0 0) h (XY H) (grownBy_refl w none) (xs:=[]) (us:=[]) .nil (by simp) (by simp) (by simp[flat]) ⟨by simp[flat],.inl ⟨rfl,rfl⟩⟩ (by simp[Value.ownBlock]) false (by simp);exact⟨σ',by rw[Z8D]at D;exact D,G,J⟩
 cases f with
 | s e sz=>
  simp only[Ew]at z;cases I:F9 H x with
  | none=>simp[I]at z
  | some M=>
   simp only[I,Option.map_some,Option.some.injEq,Prod.mk.injEq]at z;obtain⟨rfl,rfl⟩:=z;obtain⟨D,G⟩:=h.freeze (Ec x);exact⟨Fj.bump _ _,_,D,G,xU sz (iD h C I (Ec x) (fun i hi=>hi))⟩
 | own e sz=>
  simp only[Ew]at z;unfold Su at z;split at z
  ·simp only[Option.some.injEq,Prod.mk.injEq]at z;obtain⟨rfl,rfl⟩:=z;cases C with
   | EI _=>exact⟨Fj.push _ _,mk e sz⟩
  ·simp only[Option.some.injEq,Prod.mk.injEq]at z;obtain⟨rfl,rfl⟩:=z;cases C with
   | Fh _=>exact⟨Fj.push _ _,mk e sz⟩
  ·split at z
   ·simp only[Option.some.injEq,Prod.mk.injEq]at z;obtain⟨rfl,rfl⟩:=z;exact⟨Fj.refl _,σ,h,Ext.refl _ _,C⟩
   ·cases z
  ·cases z
 | keep=>
  simp only[Ew,Option.some.injEq,Prod.mk.injEq]at z;obtain⟨rfl,rfl⟩:=z;exact⟨Fj.refl _,σ,h,Ext.refl _ _,C⟩
 | drop=>
  simp only[Ew,Option.some.injEq,Prod.mk.injEq]at z;obtain⟨rfl,rfl⟩:=z;exact⟨Fj.refl _,σ,h,Ext.refl _ _,.und _ .nil⟩
theorem Zob:∀{fl:List Fk} {H:Heap} {σ:Sg} {xs ys:List V} {vs:List Value} {H1:Heap},Inv B w0 σ H w->AL σ w xs vs->Ef fl H xs=some (ys,H1)->Fj H H1/\∃σ',Inv B w0 σ' H1 w/\Ext σ w σ' w/\AL σ' w ys vs:=by
 intro fl;induction fl with
 | nil=>
  intro H σ xs ys vs H1 h G z;cases xs with
  | nil=>
   simp only[Ef,Option.some.injEq,Prod.mk.injEq]at z;obtain⟨rfl,rfl⟩:=z;exact⟨Fj.refl _,σ,h,Ext.refl _ _,G⟩
  | cons=>simp[Ef]at z
 | cons f fl ih=>
  intro H σ xs ys vs H1 h G z;cases xs with
  | nil=>simp[Ef]at z
  | cons x xs=>
   obtain⟨v,vs',rfl,I,J⟩:=G.Bd;simp only[Ef]at z;cases C:Ew f H x with
   | none=>simp[C]at z
   | some r=>
    obtain⟨y,S⟩:=r;simp only[C]at z;cases D:Ef fl S xs with
    | none=>simp[D]at z
    | some r=>
     obtain⟨ys',Hb⟩:=r;simp only[D,Option.some.injEq,Prod.mk.injEq]at z;obtain⟨rfl,rfl⟩:=z;obtain⟨k1,σ1,Y,Q,r1⟩:=Z8K h I C;obtain⟨k2,M,i2,R,r2⟩:=ih Y (J.ext Q) D;exact⟨k1.trans k2,M,i2,Q.trans R,AL.Dk.2 ⟨r1.ext R,r2⟩⟩
theorem Z8U (h:Inv B w0 σ H w) {fl:List Fk} {x y:V} {v:Value} (G:AL σ w [x] [v]) (z:Ho fl H x=some (y,H1)):Fj H H1/\∃σ',Inv B w0 σ' H1 w/\Ext σ w σ' w/\AL σ' w [y] [v]:=by
 unfold Ho at z;split at z
 ·rename_i cs;cases C:Ef fl H cs with
  | none=>simp[C]at z
  | some r=>
   obtain⟨ys,S⟩:=r;simp only[C,Option.map_some,Option.some.injEq,Prod.mk.injEq]at z;obtain⟨rfl,rfl⟩:=z;cases G with
   | agg J M _=>
    obtain⟨k1,D,Q,I,R⟩:=Zob h J C;exact⟨k1,D,Q,I,.agg R M .nil⟩
 ·split at z
  ·exact Z8K h G z
  ·cases z
theorem ZoR:∀{fl:List (List Fk)} {H:Heap} {σ:Sg} {xs ys:List V} {vs:List Value} {H1:Heap},Inv B w0 σ H w->AL σ w xs vs->Eu fl H xs=some (ys,H1)->Fj H H1/\∃σ',Inv B w0 σ' H1 w/\Ext σ w σ' w/\AL σ' w ys vs:=by
 intro fl;induction fl with
 | nil=>
  intro H σ xs ys vs H1 h G z;cases xs with
  | nil=>
   simp only[Eu,Option.some.injEq,Prod.mk.injEq]at z;obtain⟨rfl,rfl⟩:=z;exact⟨Fj.refl _,σ,h,Ext.refl _ _,G⟩
  | cons=>simp[Eu]at z
 | cons f fl ih=>
  intro H σ xs ys vs H1 h G z;cases xs with
  | nil=>simp[Eu]at z
  | cons x xs=>
   obtain⟨v,vs',rfl,I,J⟩:=G.Bd;simp only[Eu]at z;cases C:Ho f H x with
   | none=>simp[C]at z
   | some r=>
    obtain⟨y,S⟩:=r;simp only[C]at z;cases D:Eu fl S xs with
    | none=>simp[D]at z
    | some r=>
     obtain⟨ys',Hb⟩:=r;simp only[D,Option.some.injEq,Prod.mk.injEq]at z;obtain⟨rfl,rfl⟩:=z;obtain⟨k1,σ1,Y,Q,r1⟩:=Z8U h I C;obtain⟨k2,M,i2,R,r2⟩:=ih Y (J.ext Q) D;exact⟨k1.trans k2,M,i2,Q.trans R,AL.Dk.2 ⟨r1.ext R,r2⟩⟩
structure mX (ids:List Nat) (H:Heap):Prop where
 nodup:ids.Nodup
 at_:∀id∈ids,∃b,H[id]? = some b/\b.live=true/\(b.row=false->∀r∈DD b.xs,r∈ids)
theorem Zpr:∀(n:Nat) {fb:List Bf} {H:Heap} {σ:Sg} {C seen ids:List Nat} {H2:Heap},Inv B w0 σ H w->G9 n fb H C seen=some (H2,ids)->seen.Nodup ->
  (∀id∈seen,∃b,H[id]? = some b/\b.live=true/\(b.row=false->∀r∈DD b.xs,r∈seen++C)) ->
  H.length<=H2.length/\(∀id∈seen++C,id∈ids)/\mX ids H2/\∃σ',Inv B w0 σ' H2 w/\Ext σ w σ' w:=by
 intro n;induction n with
 | zero=>intro fb H σ C seen ids H2 _ h;cases h
 | succ n ih=>
  intro fb H σ C seen ids H2 hI h hnd hcl;cases C with
  | nil=>
   simp only[G9,Option.some.injEq,Prod.mk.injEq]at h;obtain⟨rfl,rfl⟩:=h;exact⟨Nat.le_refl _,by simp,⟨hnd,by simpa using hcl⟩,σ,hI,Ext.refl _ _⟩
  | cons id C=>
   unfold G9 at h
   by_cases hin:seen.contains id=true
   ·grind
   ·rw[if_neg hin]at h;have hin' : id∉seen:=by simpa using hin
    have hnd' : (seen++[id]).Nodup:=by
     rw[List.nodup_append];exact⟨hnd,by simp,fun a ha b hb=>by simp at hb;subst hb;intro e;subst e;exact hin' ha⟩
    have hmem:∀{i:Nat} {t:List Nat},i∈seen++id::C->i∈(seen++[id])++(C++t):=by
     intro i t hi;simp only[List.mem_append,List.mem_cons]at hi ⊢;rcases hi with hx|hx|hx
     ·exact .inl (.inl hx)
     ·exact .inl (.inr (.inl hx))
     ·exact .inr (.inl hx)
    split at h
    ·rename_i b fresh fb' hb;split at h
     ·rename_i hc;simp only[Bool.and_eq_true]at hc;generalize Q : (if fresh then H else bump H [id])=H' at h;have hk:Fj H H' /\ ∃σ',Inv B w0 σ' H' w/\Ext σ w σ' w:=by
       cases fresh with
       | true=>rw[if_pos rfl]at Q;subst Q;exact⟨Fj.refl _,σ,hI,Ext.refl _ _⟩
       | false=>
        rw[if_neg (by simp)]at Q;subst Q;obtain⟨i1,i2⟩:=hI.freeze [id];exact⟨Fj.bump _ _,_,i1,i2⟩
      obtain⟨hk,σ1,R,M⟩:=hk;obtain⟨h1,h2,h3,J,h4,h5⟩:=ih R h hnd' (fun i hi=>by
       simp only[List.mem_append,List.mem_singleton]at hi;have key:∃b0,H[i]? = some b0/\b0.live=true/\(b0.row=false->∀r∈DD b0.xs,r∈seen++id::C):=by
        rcases hi with hi|rfl
        ·exact hcl i hi
        ·exact⟨b,hb,hc.1,fun hr=>by rw[hc.2]at hr;cases hr⟩
       obtain⟨b0,k1,k2,k3⟩:=key;obtain⟨b',m1,m2,m3,m4⟩:=hk.at_ i b0 k1
       grind)
      refine⟨Nat.le_trans hk.len h1,fun i hi=>h2 i ?_,h3,J,h4,M.trans h5⟩
      grind
     ·cases h
    ·rename_i b fl fb' hb;split at h
     ·rename_i hc;simp only[Bool.and_eq_true,Bool.not_eq_true']at hc;split at h
      ·rename_i x hx;split at h
       ·rename_i y H1 hp;split at h
        ·rename_i b1 S;split at h
         ·rename_i hoky;obtain⟨L,hL,hok⟩:=hI.boxes id b hb hc.1;obtain⟨us,r1,r2,r3,r4⟩:=hok.Cj;rw[hx]at r1;obtain⟨u,us',rfl,r5,r6⟩:=r1.Bd;obtain⟨hk,σ1,R,M,hy⟩:=Z8U hI r5 hp;obtain⟨b1',m1,m2,m3,m4⟩:=hk.at_ id b hb;rw[S]at m1;cases m1;have D:b1.live=true:=m2.trans hc.1;have hrow1:b1.row=false:=m3.trans hc.2;have I:b1.xs=[x]:=m4.trans hx;have hsw:∃J,Inv B w0 J (H1.set id { b1 with xs:=[y] }) w/\Ext σ1 w J w:=by
           obtain⟨L1,hL1,G⟩:=R.boxes id b1 S D;obtain⟨us1,s1,s2,s3,s4⟩:=G.Cj;rw[I]at s1;obtain⟨u1,us1',rfl,s5,s6⟩:=s1.Bd;cases s6.Dx;cases r6.Dx;have hu:u1.cells.toList=u.cells.toList:=by
            obtain⟨L',hL',he,hLL⟩:=M.box id L hL;rw[hL1]at hL';cases hL';have ht1:L1.tot=1:=by rw[G.tot,I];rfl
            have ht:L.tot=1:=by rw[hok.tot,hx];rfl
            have hLe:L1=L:=by
             rcases hLL with e|e
             ·exact e
             ·omega
            subst hLe;rcases r4.2 with ⟨hv,hn⟩|⟨g,cap,cur,tg,hv,_,hg,_,_,_,_,hcur⟩
            ·grind
            ·rcases s4.2 with ⟨Y,hn'⟩|⟨g',cap',cur',tg',Y,_,hg',_,_,_,_,hcur'⟩
             ·grind
             ·rw[hv]at Y;simp only[Value.slice.injEq,Option.some.injEq,Addr.mk.injEq,and_true]at Y;obtain⟨rfl,_,_⟩:=Y;rw[hg]at hg';simp only[Option.some.injEq,Obj.cells.injEq]at hg';obtain⟨rfl,_⟩:=hg';rw[ML]at hcur hcur'
              grind
           obtain⟨i1,i2⟩:=R.upd S D hL1 (grownBy_refl w _) { b1 with xs:=[y] } D L1 rfl (.inl rfl) rfl (by simp[I]) (fun g hg=>.inl hg) (fun _ _ _ _=>rfl)
            (fun ex=>⟨by rw[G.tot,I];rfl,⟨[u],hy.ext ex,fun z hz=>by simp at hz;subst hz;rw[<- s2 u1 (by simp)];exact(congrArg List.length hu).symm,fun z hz=>s3 z (by rw[ML]at hz ⊢;rw[hu];exact hz),by
             rw[ML,<- hu,<- ML];simpa[I]using s4⟩,G.Dc,G.Ag,by simpa using hoky,fun hh=>by simp only at hh;rw[hrow1]at hh;cases hh⟩)
           exact⟨_,i1,i2⟩
          obtain⟨J,hI2,hE2⟩:=hsw;have hlen1:id<H1.length:=(List.getElem?_eq_some_iff.1 S).1;obtain⟨h1,h2,h3,σ3,h4,h5⟩:=ih hI2 h hnd' (fun i hi=>by
           simp only[List.mem_append,List.mem_singleton]at hi
           by_cases hid:i=id
           ·subst hid;refine⟨{ b1 with xs:=[y] },by simp[hlen1],D,fun _ r hh=>?_⟩;simp only[DD,List.append_nil]at hh;simp[hh]
           ·have hi' : i∈seen:=by rcases hi with hi|hi;exact hi;exact absurd hi hid
            obtain⟨b0,k1,k2,k3⟩:=hcl i hi';obtain⟨b',q1,q2,q3,q4⟩:=hk.at_ i b0 k1
            grind)
          refine⟨Nat.le_trans hk.len (by simpa using h1),fun i hi=>h2 i (hmem hi),h3,σ3,h4,M.trans (hE2.trans h5)⟩
         ·cases h
        ·cases h
       ·cases h
      ·cases h
     ·cases h
    ·cases h
end
end Go.Proofs.YteinepnbndegdaaGreat.Le
namespace Go.Proofs.YteinepnbndegdaaGreat.Le
open Go.RowKit (Below)
def Sg.ren (σ:Sg) (ids:List Nat):Sg:=⟨fun j=>(ids[j]?).bind σ.box,σ.fz,fun j=>(ids[j]?).bind σ.mp⟩
theorem Z0x {ids:List Nat} {id:Nat} (h:id∈ids):ids[ids.idxOf id]? = some id:=by
 grind
theorem Z0B {σ:Sg} {ids:List Nat} {id:Nat} (h:id∈ids):(σ.ren ids).box (ids.idxOf id)=σ.box id:=by
 simp[Sg.ren,Z0x h]
theorem Zb3 {σ:Sg} {ids:List Nat} {id:Nat} (h:id∈ids):(σ.ren ids).mp (ids.idxOf id)=σ.mp id:=by
 simp[Sg.ren,Z0x h]
theorem Z5W {w w' : World} {B e sz n:Nat} {v:Value} {us:List Value} (h:FY w B e sz v n us) (hb:∀g,v.ownBlock=some g->w'.heap[g]? = w.heap[g]?):FY w' B e sz v n us:=by
 refine⟨h.1,?_⟩;rcases h.2 with G|⟨g,cap,cur,tg,rfl,C,D,z⟩
 ·exact .inl G
 ·exact .inr ⟨g,cap,cur,tg,rfl,C,by rw[hb g (by simp[Value.ownBlock])];exact D,z⟩
theorem GZ (z:Nat->Nat) (b:Box):(EN z b).live=b.live/\(EN z b).row=b.row/\(EN z b).Dc=b.Dc/\(EN z b).elem=b.elem/\(EN z b).Ag=b.Ag/\(EN z b).floor=b.floor/\(EN z b).xs.length=b.xs.length:=by
 unfold EN;split
 ·simp_all
 ·exact⟨rfl,rfl,rfl,rfl,rfl,rfl,xO _ _⟩
theorem IW.ren {σ σ' : Sg} {w w' : World} {B:Nat} {b:Box} {L:Loc} (G:Nat->Nat) (h:IW σ w B b L) (D:∀b c,σ.fz b c->σ'.fz b c/\w'.cell? ⟨b,c,none⟩=w.cell? ⟨b,c,none⟩)
  (Y:b.row=false->∀id∈DD b.xs,σ'.box (G id)=σ.box id/\σ'.mp (G id)=σ.mp id) (hb:∀g,L.v.ownBlock=some g->w'.heap[g]? = w.heap[g]?):IW σ' w' B (EN G b) L:=by
 obtain⟨e1,M,Q,R,S,e6,I⟩:=GZ G b;obtain⟨us,J,r2,r3,r4⟩:=h.Cj;have hr:AL σ' w' (EN G b).xs us:=by
  unfold EN;split
  ·rename_i z;exact J.bare D ((JU _).2 (h.Gg z))
  ·rename_i z;exact zL J D (Y (by simpa using z))
 refine⟨by rw[I];exact h.tot,⟨us,hr,r2,r3,by rw[R,I];exact Z5W r4 hb⟩,by rw[Q];exact h.Dc,by rw[S];exact h.Ag,?_,?_⟩
 ·intro x C;unfold EN at C;split at C
  ·exact h.oks x C
  ·simp only[Zw,List.mem_map]at C;obtain⟨y,hy,rfl⟩:=C;rw[Z9O];exact h.oks y hy
 ·intro z x C;rw[M]at z;unfold EN at C;rw[if_pos z]at C;exact h.Gg z x C
section
variable {B:Nat} {w0:Start} {σ:Sg} {H:Heap} {w:World} {ids:List Nat}
theorem Z9q (H:Heap) (ids:List Nat) (j:Nat):(GU H ids)[j]? = (ids[j]?).map fun id=>EN (ids.idxOf ·) ((H[id]?).getD PL):=by
 simp[GU]
theorem Z8o {l:List Nat} (h:l.Nodup) {i j x:Nat} (hi:l[i]? = some x) (D:l[j]? = some x):i=j:=by
 obtain⟨G,z⟩:=List.getElem?_eq_some_iff.1 hi;obtain⟨I,C⟩:=List.getElem?_eq_some_iff.1 D;exact(List.getElem_inj h).1 (z.trans C.symm)
theorem VH {xs:List V} {vs:List Value} (C:AL σ w xs vs) (hm:∀id∈DD xs,id∈ids):AL (σ.ren ids) w (Fv (ids.idxOf ·) xs) vs:=
 zL C (fun b c hh=>⟨hh,rfl⟩) fun id z=>⟨Z0B (hm id z),Zb3 (hm id z)⟩
theorem kT (h:Inv B w0 σ H w) (hs:mX ids H) (Y:Start) (G:Below B Y.w w) (hold:∀b c,σ.fz b c->b<B->Y.fz b c)
  (hk:∀b,Y.keep b->b<w.heap.size/\w.heap[b]? = Y.w.heap[b]? /\ (∀id∈ids,∀L,σ.box id=some L->L.v.ownBlock≠some b)/\∀c,σ.fz b c->Y.fz b c):Inv B Y (σ.ren ids) (GU H ids) w:=by
 have C:∀{j:Nat} {L:Loc},(σ.ren ids).box j=some L->∃id,ids[j]? = some id/\σ.box id=some L:=by
  intro j L D;simp only[Sg.ren]at D;cases R:ids[j]? with
  | none=>simp[R]at D
  | some id=>simp_all
 have z:∀{j:Nat} {J : Box},(GU H ids)[j]? = some J -> ∃id b,ids[j]? = some id/\H[id]? = some b/\b.live=true/\(b.row=false->∀r∈DD b.xs,r∈ids)/\J = EN (ids.idxOf ·) b:=by
  intro j J hb;rw[Z9q]at hb;cases R:ids[j]? with
  | none=>simp[R]at hb
  | some id=>
   obtain⟨b,k1,k2,k3⟩:=hs.at_ id (List.mem_of_getElem? R)
   simp_all
 have I:∀(j g:Nat),(σ.ren ids).mp j=some g->False:=by
  intro j g hm;simp only[Sg.ren,Option.bind_eq_some_iff]at hm;obtain⟨id,R,hm⟩:=hm;obtain⟨b,k1,k2,k3⟩:=hs.at_ id (List.mem_of_getElem? R);obtain⟨_,_,_,J,hb',hmb⟩:=h.maps.dom id g hm;rw[k1]at hb';cases hb';have:=Nk hmb
  simp_all
 refine⟨G,h.size,?_,?_,?_,h.cells,?_,?_,hold,fun b hb=>?_,⟨fun j b hb hm=>?_,fun j g hm=>(I j g hm).elim,fun j _ g hm _=>(I j g hm).elim⟩⟩
 ·intro j L D;obtain⟨id,Q,h2⟩:=C D;obtain⟨b,k1,k2,k3⟩:=hs.at_ id (List.mem_of_getElem? Q);refine⟨EN (ids.idxOf ·) b,by rw[Z9q,Q];simp[k1],.inl ?_⟩;rw[(GZ _ b).1];exact k2
 ·intro j J hb hl;obtain⟨id,b,Q,h2,h3,h4,rfl⟩:=z hb;obtain⟨L,D,hok⟩:=h.boxes id b h2 h3;refine⟨L,by simp[Sg.ren,Q,D],hok.ren _ (fun b c hh=>⟨hh,rfl⟩) (fun hr r hh=>⟨Z0B (h4 hr r hh),Zb3 (h4 hr r hh)⟩) (fun _ _=>rfl)⟩
 ·intro j j' b1 b2 L1 L2 g Q h2 l1 l2 s1 s2 g1 g2;obtain⟨i1,e1,t1⟩:=C s1;obtain⟨i2,e2,t2⟩:=C s2;obtain⟨i1',c1,f1,S,M,_⟩:=z Q;obtain⟨i2',c2,f2,q1,q2,_⟩:=z h2;rw[e1]at f1;cases f1;rw[e2]at f2;cases f2;have:=h.apart i1 i2 c1 c2 L1 L2 g S q1 M q2 t1 t2 g1 g2;subst this;exact Z8o hs.nodup e1 e2
 ·intro b c hc j J L hb hl D hg;obtain⟨id,hid,hL'⟩:=C D;obtain⟨id',b0,f1,S,M,_,rfl⟩:=z hb;rw[hid]at f1;cases f1;rw[(GZ _ b0).2.2.2.2.2.1];exact h.floor b c hc id b0 L S M hL' hg
 ·intro j J hb hl;obtain⟨id,b0,f1,S,M,_,rfl⟩:=z hb;obtain⟨_,_,_,_,_,e6,e7⟩:=GZ (ids.idxOf ·) b0;rw[e6,e7];exact h.low id b0 S M
 ·obtain⟨k1,k2,k3,k4⟩:=hk b hb;refine⟨k1,k2,fun j L D hg=>?_,k4⟩
  grind
 ·exfalso;obtain⟨id,b0,f1,S,M,_,rfl⟩:=z hb;have:=Nk hm;rw[(GZ _ b0).1,M]at this;cases this.1
def FT (ids:List Nat) (n i:Nat):Option Nat:=if i<n then (if i∈ids then some (ids.idxOf i) else none) else some (ids.length+(i - n))
theorem Zo0:∀{ids:List Nat} {H bs:Heap} (i:Nat),ids.Nodup->(∀id∈ids,id<H.length)->ids.length<=bs.length ->
  (IY H ids bs)[i]? = match FT ids H.length i with|some j=>bs[j]? | none=>H[i]?:=by
 intro ids;induction ids with
 | nil=>
  intro H bs i _ _ _;unfold FT;simp only[IY,List.getElem?_append,List.not_mem_nil,if_false,List.length_nil,Nat.zero_add];split<;>rfl
 | cons id ids G=>
  intro H bs i z D hb;cases bs with
  | nil=>simp at hb
  | cons b bs=>
   rw[List.nodup_cons]at z;rw[IY,G i z.2 (fun j I=>by simp_all) (by simpa using hb)];have C:=D id (by simp);unfold FT;simp only[List.length_set,List.mem_cons,List.length_cons]
   grind
theorem Zkd {z:Heap} (i:Nat) (D:ids.Nodup) (C:∀id∈ids,id<H.length) (hb:ids.length<=z.length) :
  (MV H ids z)[i]? = match FT ids H.length i with|some j=>(z[j]?).map (EN (Gy ids H.length))|none=>H[i]?:=by
 unfold MV;rw[Zo0 i D C (by simpa using hb)];split<;>simp
theorem Z9C {n i i' j:Nat} (I:ids.Nodup) (z:FT ids n i=some j) (C:FT ids n i' = some j):i=i' :=by
 unfold FT at z C;have key:∀{x:Nat},x∈ids->ids.idxOf x<ids.length:=fun h=>List.idxOf_lt_length_of_mem h;split at z<;>split at C
 ·split at z<;>split at C
  ·rename_i D J;simp only[Option.some.injEq]at z C;have G:=Z0x D
   grind
  ·cases C
  ·cases z
  ·cases z
 ·grind
 ·grind
 grind
theorem Zp4 {n:Nat} (C:ids.Nodup) (z:∀id∈ids,id<n) (j:Nat):FT ids n (Gy ids n j)=some j:=by
 unfold Gy FT
 grind
def Sg.back (σ z:Sg) (ids:List Nat) (n:Nat):Sg:=⟨fun i=>match FT ids n i with|some j=>z.box j|none=>σ.box i,z.fz,fun i=>match FT ids n i with|some j=>z.mp j|none=>σ.mp i⟩
theorem Z8w {z:Sg} {n:Nat} (D:ids.Nodup) (C:∀id∈ids,id<n) (j:Nat):(σ.back z ids n).box (Gy ids n j)=z.box j/\(σ.back z ids n).mp (Gy ids n j)=z.mp j:=by
 simp only[Sg.back,Zp4 D C,and_self]
def outer (σ:Sg) (H:Heap) (ids:List Nat) (w0:Start) (b:Nat):Prop:=w0.keep b\/(∃id L bx,id∉ids/\H[id]? = some bx/\bx.live=true/\σ.box id=some L/\L.v.ownBlock=some b)\/∃id,σ.mp id=some b
theorem Zqp {Y:Sg} {H3:Heap} {w' : World} (h:Inv B w0 σ H w) (hs:mX ids H) (G:Inv B ⟨w,σ.fz,outer σ H ids w0⟩ Y H3 w') (hE:Ext (σ.ren ids) w Y w') (hlen:ids.length<=H3.length) :
  Inv B w0 (σ.back Y ids H.length) (MV H ids H3) w' /\ Ext σ w (σ.back Y ids H.length) w' :=by
 have hlt:∀id∈ids,id<H.length:=fun id hid=>by
  obtain⟨b,k1,_⟩:=hs.at_ id hid
  grind
 have hfz:∀b c,σ.fz b c->Y.fz b c/\w'.cell? ⟨b,c,none⟩=w.cell? ⟨b,c,none⟩:=hE.fz;have e:Ext σ w (σ.back Y ids H.length) w' :=by
  refine⟨fun i L D=>?_,hfz,fun i g hm=>?_⟩
  case refine_2=>
   obtain⟨_,_,_,S,hb',hmb⟩:=h.maps.dom i g hm;have hni:i∉ids:=fun hin=>by
    obtain⟨b,k1,k2,k3⟩:=hs.at_ i hin;rw[k1]at hb';cases hb';have:=Nk hmb
    simp_all
   have hi:i<H.length:=(List.getElem?_eq_some_iff.1 hb').1;have z:FT ids H.length i=none:=by simp[FT,hi,hni]
   simp only[Sg.back,z];exact hm
  have hi:=h.kY D;simp only[Sg.back]
  by_cases hm:i∈ids
  ·have z:FT ids H.length i=some (ids.idxOf i):=by simp[FT,hi,hm]
   simp only[z];exact hE.box _ L (by rw[Z0B hm];exact D)
  ·have z:FT ids H.length i=none:=by simp[FT,hi,hm]
   simp_all
 have M:∀i,(MV H ids H3)[i]? = match FT ids H.length i with|some j=>(H3[j]?).map (EN (Gy ids H.length))|none=>H[i]?:=fun i=>Zkd i hs.nodup hlt hlen
 have Q:∀{i:Nat} {bx:Box} {L:Loc} {g:Nat},FT ids H.length i=none->H[i]? = some bx->bx.live=true->σ.box i=some L->L.v.ownBlock=some g->outer σ H ids w0 g:=by
  intro i bx L g z hb J D hg;refine .inr (.inl ⟨i,L,bx,?_,hb,J,D,hg⟩);intro hm;simp[FT,hlt i hm,hm]at z
 have C:∀{i:Nat} {S : Box},(MV H ids H3)[i]? = some S -> (∃j b,FT ids H.length i=some j/\H3[j]? = some b/\S = EN (Gy ids H.length) b)\/(FT ids H.length i=none/\H[i]? = some S):=by
  intro i S hb;rw[M]at hb;cases z:FT ids H.length i with
  | none=>rw[z]at hb;exact .inr ⟨rfl,hb⟩
  | some j=>
   rw[z]at hb;simp only[Option.map_eq_some_iff]at hb;obtain⟨b,h2,h3⟩:=hb;exact .inl ⟨j,b,rfl,h2,h3.symm⟩
 refine⟨⟨h.below.trans G.below,G.size,?_,?_,?_,G.cells,?_,?_,fun b c hc hlt' =>h.old b c (G.old b c hc hlt') hlt',fun b hb=>?_,⟨fun i S hb hm=>?_,fun i g hm=>?_,fun i i' g p1 p2=>?_⟩⟩,e⟩
 ·intro i L D;simp only[Sg.back]at D;rw[M];cases z:FT ids H.length i with
  | none=>rw[z]at D;exact h.dom i L D
  | some j=>
   rw[z]at D;obtain⟨b,k1,k2⟩:=G.dom j L D;exact⟨EN (Gy ids H.length) b,by simp[k1],by rw[(GZ _ b).1,(GZ _ b).2.1];exact k2⟩
 ·intro i S hb J;rcases C hb with ⟨j,b,z,hj,rfl⟩|⟨z,hi⟩
  ·rw[(GZ _ b).1]at J;obtain⟨L,D,I⟩:=G.boxes j b hj J;refine⟨L,by simp only[Sg.back,z];exact D,I.ren _ (fun b c hh=>⟨hh,rfl⟩) (fun _ r _=>Z8w hs.nodup hlt r) (fun _ _=>rfl)⟩
  ·obtain⟨L,D,I⟩:=h.boxes i S hi J;obtain⟨us,r1,r2,r3,r4⟩:=I.Cj;refine⟨L,by simp only[Sg.back,z];exact D,I.tot,⟨us,r1.ext e,r2,r3,Z5W r4 fun g hg=>?_⟩,I.Dc,I.Ag,I.oks,I.Gg⟩;exact(G.kept g (Q z hi J D hg)).2.1
 ·intro i i' b1 b2 L1 L2 g p1 p2 l1 l2 s1 s2 g1 g2;simp only[Sg.back]at s1 s2;rcases C p1 with ⟨j,c1,t1,q1,rfl⟩|⟨t1,q1⟩<;>rcases C p2 with ⟨j',c2,R,q2,rfl⟩|⟨R,q2⟩
  ·rw[t1]at s1;rw[R]at s2;rw[(GZ _ _).1]at l1 l2;have:=G.apart j j' c1 c2 L1 L2 g q1 q2 l1 l2 s1 s2 g1 g2;subst this;exact Z9C hs.nodup t1 R
  ·rw[t1]at s1;rw[R]at s2;exact absurd g1 ((G.kept g (Q R q2 l2 s2 g2)).2.2.1 j L1 s1)
  ·rw[t1]at s1;rw[R]at s2;exact absurd g2 ((G.kept g (Q t1 q1 l1 s1 g1)).2.2.1 j' L2 s2)
  ·rw[t1]at s1;rw[R]at s2;exact h.apart i i' b1 b2 L1 L2 g q1 q2 l1 l2 s1 s2 g1 g2
 ·intro b c hc i S L hb J D hg;simp only[Sg.back]at D hc;rcases C hb with ⟨j,b0,z,hj,rfl⟩|⟨z,hi⟩
  ·rw[z]at D;rw[(GZ _ b0).1]at J;rw[(GZ _ b0).2.2.2.2.2.1];exact G.floor b c hc j b0 L hj J D hg
  ·rw[z]at D;exact h.floor b c ((G.kept b (Q z hi J D hg)).2.2.2 c hc) i S L hi J D hg
 ·intro i S hb J;rcases C hb with ⟨j,b0,z,hj,rfl⟩|⟨z,hi⟩
  ·obtain⟨e1,_,_,_,_,e6,e7⟩:=GZ (Gy ids H.length) b0;rw[e6,e7];rw[e1]at J;exact G.low j b0 hj J
  ·exact h.low i S hi J
 ·obtain⟨k1,k2,k3,k4⟩:=h.kept b hb;obtain⟨m1,m2,m3,m4⟩:=G.kept b (.inl hb);refine⟨m1,m2.trans k2,fun i L D hg=>?_,fun c hc=>k4 c (m4 c hc)⟩;simp only[Sg.back]at D
  grind
 ·rcases C hb with ⟨j,b,z,hj,rfl⟩|⟨z,hi⟩
  ·obtain⟨e1,e2,e3,_⟩:=GZ (Gy ids H.length) b;have hmb:EY b=true:=by simpa only[EY,e1,e2,e3]using hm
   obtain⟨g,es,c,us,q1,q2,q3,q4,q5⟩:=G.maps.ok j b hj hmb;have hx:(EN (Gy ids H.length) b).xs=b.xs:=by unfold EN;rw[if_pos (Nk hmb).2]
   exact⟨g,es,c,us,by simp only[Sg.back,z];exact q1,q2,by rw[hx];exact q3.bare (fun b c hh=>⟨hh,rfl⟩) (Ko q5),q4,by rw[hx];exact q5⟩
  ·obtain⟨g,es,c,us,q1,q2,q3,q4,q5⟩:=h.maps.ok i S hi hm;exact⟨g,es,c,us,by simp only[Sg.back,z];exact q1,((G.kept g (.inr (.inr ⟨i,q1⟩))).2.1).trans q2,q3.ext e,q4,q5⟩
 ·simp only[Sg.back]at hm;cases z:FT ids H.length i with
  | none=>
   rw[z]at hm;obtain⟨d1,d2,d3,b,d4,d5⟩:=h.maps.dom i g hm;exact⟨d1,(G.kept g (.inr (.inr ⟨i,hm⟩))).1,d3,b,by rw[M,z];exact d4,d5⟩
  | some j=>
   rw[z]at hm;obtain⟨d1,d2,d3,b,d4,d5⟩:=G.maps.dom j g hm;obtain⟨e1,e2,e3,_⟩:=GZ (Gy ids H.length) b;exact⟨d1,d2,fun hk=>d3 (.inl hk),EN (Gy ids H.length) b,by rw[M,z];simp[d4],by simpa only[EY,e1,e2,e3]using d5⟩
 ·simp only[Sg.back]at p1 p2;cases t1:FT ids H.length i with
  | none=>
   rw[t1]at p1;cases R:FT ids H.length i' with
   | none=>rw[R]at p2;exact h.maps.apart i i' g p1 p2
   | some j' =>rw[R]at p2;exact absurd (.inr (.inr ⟨i,p1⟩)) (G.maps.dom j' g p2).2.2.1
  | some j=>
   rw[t1]at p1;cases R:FT ids H.length i' with
   | none=>rw[R]at p2;exact absurd (.inr (.inr ⟨i',p2⟩)) (G.maps.dom j g p1).2.2.1
   | some j' =>
    rw[R]at p2;have:=G.maps.apart j j' g p1 p2;subst this;exact Z9C hs.nodup t1 R
end
def SN (P:Program) (E:Env) (f:FuncId) (as:List V) (z:Heap) (r:V) (H1:Heap):Prop:=
 ∀(B:Nat) (w0:Start) (σ:Sg) (w:World) (vs:List Value),(∀id,σ.mp id=none)->Inv B w0 σ z w->Ci E σ w->AL σ w as vs ->
  Calls P f vs.toArray w fun e w' =>∃u σ',e = .returned u/\Inv B w0 σ' H1 w' /\ Ext σ w σ' w' /\ AL σ' w' [r] [u]
theorem jP {B:Nat} {w0:Start} {σ:Sg} {H C:Heap} {w:World} {fa:List (List Fk)} {fb:List Bf} {k:Nat} {args as:List V} {vs:List Value} {ids:List Nat} (h:Inv B w0 σ H w) (Y:AL σ w args vs)
  (z:pack fa fb k args H=some (ids,as,C)):mX ids C/\(∀id∈DD as,id∈ids)/\H.length<=C.length/\∃σ',Inv B w0 σ' C w/\Ext σ w σ' w/\AL σ' w as vs:=by
 unfold pack at z;split at z
 ·rename_i Q H1 S;split at z
  ·rename_i M J hh;simp only[Option.some.injEq,Prod.mk.injEq]at z;obtain⟨rfl,rfl,rfl⟩:=z;obtain⟨k1,σ1,i1,R,r1⟩:=ZoR h Y S;obtain⟨q1,q2,q3,G,i2,I⟩:=Zpr 1000 i1 hh (by simp) (by simp);exact⟨q3,fun id D=>q2 id (by simp[D]),Nat.le_trans k1.len q1,G,i2,R.trans I,r1.ext I⟩
  ·cases z
 ·cases z
theorem Zof {P:Program} {E:Env} {B:Nat} {w0:Start} {σ:Sg} {H H' : Heap} {w:World} {f:FuncId} {hs:NC} {args:List V} {vs:List Value} {x:V} (hh:∀as H0 r H1,hs.run as H0=some (r,H1)->SN P E f as H0 r H1)
  (hc:JE hs args H=some (x,H')) (h:Inv B w0 σ H w) (hg:Ci E σ w) (hr:AL σ w args vs) :
  Calls P f vs.toArray w fun e w' =>∃u σ',e = .returned u/\Inv B w0 σ' H' w' /\ Ext σ w σ' w' /\ AL σ' w' [x] [u]:=by
 unfold JE at hc;split at hc
 ·rename_i ids as H2 hp;split at hc
  ·rename_i r H3 hrun;split at hc
   ·rename_i hlen;simp only[Option.some.injEq,Prod.mk.injEq]at hc;obtain⟨rfl,rfl⟩:=hc;obtain⟨C,hm,_,D,z,S,hr1⟩:=jP h hr hp;have hlt:∀id∈ids,id<H2.length:=fun id I=>by
     obtain⟨b,k1,_⟩:=C.at_ id I
     grind
    have hsub:Inv B ⟨w,D.fz,outer D H2 ids w0⟩ (D.ren ids) (GU H2 ids) w:=by
     refine kT z C _ (Below.refl _ _) (fun b c hc _=>hc) (fun b hb=>?_);rcases hb with hb|⟨id,L,bx,I,m1,m2,hL,hgL⟩|⟨id,I⟩
     ·obtain⟨k1,k2,k3,k4⟩:=z.kept b hb
      grind
     ·obtain⟨L',G,R⟩:=z.boxes id bx m1 m2;rw[hL]at G;cases G;refine⟨(R.block_lt hgL).2,rfl,fun i hi L' G Q =>?_,fun c hc=>hc⟩;obtain⟨M,n1,n2,_⟩:=C.at_ i hi;have:=z.apart id i bx M L L' b m1 n1 m2 n2 hL G hgL Q;subst this;exact I hi
     ·obtain⟨d1,d2,d3,bm,d4,d5⟩:=z.maps.dom id b I;refine⟨d2,rfl,fun i hi L' G Q =>?_,fun c hc=>hc⟩;obtain⟨M,n1,n2,_⟩:=C.at_ i hi;obtain⟨L2,Y,R⟩:=z.boxes i M n1 n2;rw[G]at Y;cases Y;obtain⟨es,c,J⟩:=z.maps.block I;exact R.Z0U Q J
    have hg1:Ci E (D.ren ids) w:=(hg.ext S).bare (fun b c hh=>⟨hh,rfl⟩);have hnm:∀id,(D.ren ids).mp id=none:=fun j=>by
     cases J:(D.ren ids).mp j with
     | none=>rfl
     | some g=>
      exfalso;simp only[Sg.ren,Option.bind_eq_some_iff]at J;obtain⟨id,hj,hm2⟩:=J;obtain⟨b,k1,k2,_⟩:=C.at_ id (List.mem_of_getElem? hj);obtain⟨_,_,_,b2,hb2,hmb⟩:=z.maps.dom id g hm2;rw[k1]at hb2;cases hb2;have:=Nk hmb
      simp_all
    refine(hh _ _ _ _ hrun B _ (D.ren ids) w vs hnm hsub hg1 (VH hr1 hm)).mono ?_
    rintro e w' ⟨u,σ2,rfl,hI2,hE2,hr2⟩
    obtain⟨hI3,hE3⟩:=Zqp z C hI2 hE2 hlen;exact⟨u,_,rfl,hI3,S.trans hE3,ZI hr2 (fun b c hh=>⟨hh,rfl⟩) (fun id _=>Z8w C.nodup hlt id)⟩
   ·cases hc
  ·cases hc
 ·cases hc
end Go.Proofs.YteinepnbndegdaaGreat.Le
namespace Go.Proofs.YteinepnbndegdaaGreat.Le
open Go.RowKit (Below)
def MX (P:Program) (E:Env) (f:FuncId) (as:List V) (r:V):Prop:=
 ∀(fz:Nat->Nat->Prop) (w:World) (vs:List Value),(∀b c,fz b c->∃u,w.cell? ⟨b,c,none⟩=some u)->Ci E (bare fz) w->AL (bare fz) w as vs ->
  Calls P f vs.toArray w fun e w' =>∃u z,e = .returned u/\Below w.heap.size w w' /\ (∀b c,fz b c->z b c)/\(∀b c,z b c->b<w.heap.size->fz b c) /\
   (∀b c,z b c->∃u,w'.cell? ⟨b,c,none⟩=some u)/\AL (bare z) w' [r] [u]/\Bz r=true
def jQ (P:Program) (E:Env) (f:FuncId) (as:List V) (e sz:Nat) (xs:List V):Prop:=
 ∀(fz:Nat->Nat->Prop) (w:World) (vs:List Value),(∀b c,fz b c->∃u,w.cell? ⟨b,c,none⟩=some u)->Ci E (bare fz) w->AL (bare fz) w as vs ->
  Calls P f vs.toArray w fun C w' =>∃u us z,C = .returned u/\Below w.heap.size w w' /\ (∀b c,fz b c->z b c)/\(∀b c,z b c->b<w.heap.size->fz b c) /\
   (∀b c,z b c->∃u,w'.cell? ⟨b,c,none⟩=some u)/\AL (bare z) w' xs us/\(∀x∈xs,DU x=true)/\(∀u∈us,u.cells.size=sz)/\(∀u∈flat us,u.oneCell' = true) /\
   FY w' w.heap.size e sz u xs.length (flat us)/\(∀g c,u.ownBlock=some g->¬z g c)
def Ky (P:Program) (f:FuncId):Prop:=∃fn,P.funcs[f]? = some fn/\fn.body.isNone=false/\(fn.name == "runtime.NumGoroutine")=false
structure LK (P:Program) (E:Env):Prop where
 env:∀f F,E.env f=some F->Ky P f/\∀as r,Be as=true->F as=some r->match E.own f with|none=>MX P E f as r|some e=>∀sz xs,r = .sl false sz xs->jQ P E f as e sz xs
 hm:∀f key hs,E.hm f key=some hs->Ky P f/\∀as H0 r H1,hs.run as H0=some (r,H1)->SN P E f as H0 r H1
 maps:∀f,E.maps f=none
structure MW (P:Program) where
 tab:FuncId->Option (List (Int×FuncId))
 ok:∀f,tab f=none
def MW.no (P:Program):MW P:=⟨fun _=>none,fun _=>rfl⟩
theorem Below.grownBy {w w' : World} (h:Below w.heap.size w w'):w.grownBy w' none:=⟨h.os,h.tape,h.output,h.size,fun k z _=>h.block k z⟩
theorem zQ {B w0 σ H w} (h:Inv B w0 σ H w) {x G : V} {v:Value} (D:AL σ w [x] [v]) (z:JJ H x=some G):Bz G = true:=by
 unfold JJ at z;split at z
 ·rename_i vs;cases D with
  | Ap I _=>
   cases C:FC H vs with
   | none=>simp[C]at z
   | some J =>
    simp only[C,Option.map_some,Option.some.injEq]at z;subst z;exact XB h I C
 ·exact iJ h D z
section
variable {P:Program} {E:Env} {B:Nat} {w0:Start} {σ:Sg} {H:Heap} {w:World} {f:FuncId}
theorem Z7j {args as:List V} {r:V} {vs:List Value} (ts:List TypeId) (hp:MX P E f (Ff E.rows ts as) r) (hf:FC H args=some as) (hI:Inv B w0 σ H w) (hg:Ci E σ w) (hr:AL σ w args vs) :
  Calls P f vs.toArray w fun e w' =>∃u σ',e = .returned u/\Inv B w0 σ' (bump H (args.flatMap DC)) w' /\ Ext σ w σ' w' /\ AL σ' w' [r] [u]:=by
 obtain⟨C,I⟩:=hI.freeze (args.flatMap DC);have hr1:=vU E.rows ts (fO hI hr hf (args.flatMap DC) (fun i hi=>hi));have hn:Be (Ff E.rows ts as)=true:=by rw[dF];exact XB hI hr hf
 generalize hσ1:σ.freeze H (args.flatMap DC)=z at C I hr1;have hbox1:z.box=σ.box:=by rw[<- hσ1];rfl
 have Q:∀b c,z.fz b c->(bare z.fz).fz b c/\w.cell? ⟨b,c,none⟩=w.cell? ⟨b,c,none⟩:=fun b c h=>⟨h,rfl⟩;refine(hp z.fz w vs C.cells ((hg.ext I).bare Q) (hr1.bare Q hn)).mono ?_
 rintro e w' ⟨u,fz',rfl,hb,Y,J,hcells,hru,hnr⟩
 obtain⟨D,M⟩:=C.grown (Below.grownBy hb);have hcell:∀b c,z.fz b c->w'.cell? ⟨b,c,none⟩=w.cell? ⟨b,c,none⟩:=fun b c h=>(M.fz b c h).2;have S:Ext z w' ⟨z.box,fz',z.mp⟩ w' :=⟨fun id L hL=>⟨L,hL,rfl,.inl rfl⟩,fun b c h=>⟨Y b c h,rfl⟩,IE.same rfl⟩;refine⟨u,⟨z.box,fz',z.mp⟩,rfl,⟨D.below,D.size,D.dom,fun id bx hb hl=>?_,D.apart,hcells,fun b c hc id bx L hb hl hL R=>?_,D.low,fun b c hc hlt=>?_,fun b hb=>?_,D.maps.step S rfl (fun _ _ _=>Iff.rfl) (Nat.le_refl _) fun _ _ _=>rfl⟩,I.trans (M.trans S),?_⟩
 ·obtain⟨L,hL,G⟩:=D.boxes id bx hb hl;obtain⟨us,h1,h2,h3,h4⟩:=G.Cj;exact⟨L,hL,⟨G.tot,⟨us,h1.ext S,h2,h3,h4⟩,G.Dc,G.Ag,G.oks,G.Gg⟩⟩
 ·obtain⟨L',hL',G⟩:=C.boxes id bx hb hl;rw[show z.box id=some L from hL]at hL';cases hL';exact C.floor b c (J b c hc (G.block_lt R).2) id bx L hb hl hL R
 ·exact C.old b c (J b c hc (Nat.lt_of_lt_of_le hlt C.size)) hlt
 ·obtain⟨k1,k2,k3,k4⟩:=D.kept b hb;exact⟨k1,k2,k3,fun c hc=>k4 c (J b c hc (C.kept b hb).1)⟩
 ·exact hru.bare (fun b c h=>⟨h,rfl⟩) (by simp[Be,hnr])
theorem ownsRow_base {w:World} {b z e sz n:Nat} {v:Value} {us:List Value} (h:FY w b e sz v n us) (hb:z <= b):FY w z e sz v n us:=by
 refine⟨h.1,?_⟩;rcases h.2 with h|⟨g,cap,cur,tg,C,G,D⟩
 ·exact .inl h
 ·exact .inr ⟨g,cap,cur,tg,C,by omega,D⟩
theorem Zt {args as:List V} {e sz:Nat} {xs:List V} {vs:List Value} (ts:List TypeId) (hp:jQ P E f (Ff E.rows ts as) e sz xs) (hf:FC H args=some as) (hI:Inv B w0 σ H w) (hg:Ci E σ w) (hr:AL σ w args vs) :
  Calls P f vs.toArray w fun en w' =>∃u σ',en = .returned u/\Inv B w0 σ' (place (bump H (args.flatMap DC)) H.length (BO true false e sz xs)) w' /\ Ext σ w σ' w' /\ AL σ' w' [.BK H.length 0 xs.length xs.length] [u]:=by
 obtain⟨z,J⟩:=hI.freeze (args.flatMap DC);have hr1:=vU E.rows ts (fO hI hr hf (args.flatMap DC) (fun i hi=>hi));have hn:Be (Ff E.rows ts as)=true:=by rw[dF];exact XB hI hr hf
 generalize hσ1:σ.freeze H (args.flatMap DC)=D at z J hr1;have hfz0:∀b c,D.fz b c->(bare D.fz).fz b c/\w.cell? ⟨b,c,none⟩=w.cell? ⟨b,c,none⟩:=fun b c h=>⟨h,rfl⟩;refine(hp D.fz w vs z.cells ((hg.ext J).bare hfz0) (hr1.bare hfz0 hn)).mono ?_
 rintro en w' ⟨u,us,fz',rfl,hb,hmono,Q,hcells,hru,M,hsz,hone,G,hnfz⟩
 obtain⟨I,hEx2⟩:=z.grown (Below.grownBy hb);have hex:Ext D w' ⟨D.box,fz',D.mp⟩ w' :=⟨fun id L hL=>⟨L,hL,rfl,.inl rfl⟩,fun b c h=>⟨hmono b c h,rfl⟩,IE.same rfl⟩;have hI3:Inv B w0 ⟨D.box,fz',D.mp⟩ (bump H (args.flatMap DC)) w' :=by
  refine⟨I.below,I.size,I.dom,fun id bx hb hl=>?_,I.apart,hcells,fun b c hc id bx L hb hl hL G=>?_,I.low,fun b c hc hlt=>?_,fun b hb=>?_,I.maps.step hex rfl (fun _ _ _=>Iff.rfl) (Nat.le_refl _) fun _ _ _=>rfl⟩
  ·obtain⟨L,hL,C⟩:=I.boxes id bx hb hl;obtain⟨us,h1,h2,h3,h4⟩:=C.Cj;exact⟨L,hL,⟨C.tot,⟨us,h1.ext hex,h2,h3,h4⟩,C.Dc,C.Ag,C.oks,C.Gg⟩⟩
  ·obtain⟨L',hL',C⟩:=z.boxes id bx hb hl;rw[show D.box id=some L from hL]at hL';cases hL';exact z.floor b c (Q b c hc (C.block_lt G).2) id bx L hb hl hL G
  ·exact z.old b c (Q b c hc (Nat.lt_of_lt_of_le hlt z.size)) hlt
  ·obtain⟨k1,k2,k3,k4⟩:=I.kept b hb;exact⟨k1,k2,k3,fun c hc=>k4 c (Q b c hc (z.kept b hb).1)⟩
 have hblk:∀g,u.ownBlock=some g->w.heap.size<=g:=by
  intro g R;rcases G.2 with ⟨S,_⟩|⟨g',cap,cur,tg,S,hle,_⟩
  ·rw[S]at R;cases R
  ·rw[S]at R;simp only[Value.ownBlock,Option.some.injEq]at R;omega
 have hnr:Be xs=true:=Ko M;have hk:Eg (bump H (args.flatMap DC)) H.length=true:=by
  have:=XY (bump H (args.flatMap DC));rwa[bump_length]at this
 obtain⟨hI4,hEx4⟩:=hI3.Zpy hk (BO true false e sz xs) rfl ⟨u,xs.length,sz⟩ (by simp[BO])
  (fun id bx' L' g h1 h2 h3 h4 h5=>by
   obtain⟨L'',Y,C⟩:=z.boxes id bx' h1 h2;rw[show D.box id=some L' from h3]at Y;cases Y;have:=(C.block_lt h4).2
   grind)
  (fun g c h=>hnfz g c h) (fun g h hk=>by have:=(z.kept g hk).1;have:=hblk g h;omega)
  ⟨rfl,⟨us,hru.bare (fun b c h=>⟨h,rfl⟩) hnr,hsz,hone,by simpa[BO]using ownsRow_base G z.size⟩,by simp[BO],rfl,Z0h M,fun _ x hx=>Oy (M x hx)⟩
 have hval:∃a n c,u = .slice a n c/\n=xs.length/\n<=c:=by
  rcases G.2 with ⟨S,hn⟩|⟨g,cap,cur,tg,S,_,_,_,hnc,_⟩
  ·grind
  ·grind
 obtain⟨a,n,c,S,hn',hnc⟩:=hval;refine⟨u,_,rfl,hI4,J.trans (hEx2.trans (hex.trans hEx4)),.BK (L:=⟨u,xs.length,sz⟩) (by simp[Sg.put]) (Nat.le_refl _) (fun _=>⟨by omega,a,n,c,0,S,?_,Nat.zero_le _,Nat.le_refl _,fun _=>rfl⟩) ⟨a,n,c,S⟩ .nil⟩;subst hn';rw[S];cases a with
 | none=>simp
 | some a=>simp[Addr.add]
theorem Z9S (R:Bl E) (Y:E.P=P) {call:CV} (C:JX P E B w0 call) (D:Nr E call) {fn:Func} (hfn:E.func f=some fn) {n:Nat} {args:List V} {H' : Heap} {r:V} {vs:List Value}
  (hb:Jp call n E f fn args H=some (r,H')) (hI:Inv B w0 σ H w) (hg:Ci E σ w) (hr:AL σ w args vs) :
  Ky P f/\Calls P f vs.toArray w fun e w' =>∃u σ',e = .returned u/\Inv B w0 σ' H' w' /\ Ext σ w σ' w' /\ AL σ' w' [r] [u]:=by
 unfold Jp at hb;cases z:fn.body with
 | none=>simp[z]at hb
 | some c=>
  simp only[z]at hb;obtain⟨S,hf2⟩:=R.func f fn hfn;rw[Y]at S;refine⟨⟨fn,S,by simp[z],hf2⟩,calls_of_wp S z ?_⟩;have hcm:=R.calm f fn c hfn z;have J:AL σ w (args++List.replicate (fn.ntmps - args.length) DT) (vs.toArray++Array.replicate (fn.ntmps - vs.toArray.size) undef).toList:=by
   simp only[Array.toList_append,Array.toList_replicate,List.size_toArray];rw[<- hr.length];exact hr.append (AL.replicate _ (.no .nil))
  have Q:EK E B w0 σ ⟨args++List.replicate (fn.ntmps - args.length) DT,H⟩ { tmps:=vs.toArray++Array.replicate (fn.ntmps - vs.toArray.size) undef,defers:=[] } w:=⟨hI,hg,J,rfl⟩;have M:∀st,(KF E st.H st.s fn.results.toList).map (·,st.H)=some (r,H')->∀a' w' σ',EK E B w0 σ' st a' w' -> Ext σ w σ' w' ->
    a'.defers=[]/\∃v,(results fn a'.tmps).run P w' = .ok v w' /\ (fun e w' =>∃u σ',e=Ending.returned u/\Inv B w0 σ' H' w' /\ Ext σ w σ' w' /\ AL σ' w' [r] [u]) (.returned v) w' :=by
   intro st G a' w' σ' I he';cases hx:KF E st.H st.s fn.results.toList with
   | none=>simp[hx]at G
   | some x=>
    simp only[hx,Option.map_some,Option.some.injEq,Prod.mk.injEq]at G;obtain⟨rfl,rfl⟩:=G;obtain⟨u,hu,hur⟩:=XQ (P:=P) R Y I.inv I.slots hx;exact⟨I.calm,u,hu,u,σ',rfl,I.inv,he',hur⟩
  split at hb
  ·rename_i st hc;exact Rq R Y C D (Z0i R Y C D n) c _ .normal st hcm hc _ σ _ w Q (M st hb)
  ·rename_i st hc;exact Rq R Y C D (Z0i R Y C D n) c _ .ret st hcm hc _ σ _ w Q (M st hb)
  ·cases hb
theorem iL (hE:Bl E) (hP:E.P=P) {call:CV} (D:∀B w0,JX P E B w0 call) (G:Nr E call) {fn:Func} (S:E.func f=some fn) {n:Nat} {as:List V} {H' : Heap} {R r:V}
  (hb:Jp call n E f fn as []=some (R,H')) (M:JJ H' R=some r):MX P E f as r:=by
 intro fz w vs hcells hg hr;have hI:Inv w.heap.size (Start.of w fz) (bare fz) [] w:=⟨Below.refl _ w,Nat.le_refl _,fun id L hL=>(by cases hL),fun id bx hb=>by simp at hb,fun i j b1 b2 L1 L2 g h1=>by simp at h1,hcells,
  fun b c hc id bx L hb=>by simp at hb,fun id bx hb=>by simp at hb,fun b c hc _=>hc,fun b hb=>hb.elim,⟨fun id b hb=>by simp at hb,fun id g h=>(by cases h),fun id id' g h=>(by cases h)⟩⟩
 obtain⟨_,hc⟩:=Z9S hE hP (D w.heap.size (Start.of w fz)) G S hb hI hg hr;refine hc.mono ?_
 rintro e w' ⟨u,σ',rfl,z,I,Q⟩
 obtain⟨C,J⟩:=z.freeze (OX R);have hr2:=ZF z Q M (OX R) (fun i hi=>hi);have hn:=zQ z Q M;refine⟨u,(σ'.freeze H' (OX R)).fz,rfl,C.below,fun b c h=>(J.fz b c (I.fz b c h).1).1,fun b c h Y=>C.old b c h Y,C.cells,?_,hn⟩;exact hr2.bare (fun b c h=>⟨h,rfl⟩) (by simp[Be,hn])
theorem Zih {H:Heap}:∀{xs ys:List V},FC H xs=some ys->xs.length=ys.length:=by
 intro xs;induction xs with
 | nil=>intro ys h;simp[FC]at h;subst h;rfl
 | cons x xs z=>
  intro ys h;simp only[FC]at h
  grind
theorem ZnN {H H' : Heap} {x:V} (h:CW (CJ x) H H'):OJ H' x=OJ H x:=by
 unfold OJ;split
 ·rename_i id i off tot;split
  ·cases hb:Cc H id tot with
   | none=>rw[RY (h id (by simp[CJ,Dh])) hb]
   | some b=>
    obtain⟨C,Q,z⟩:=PG (h id (by simp[CJ,Dh])) hb;obtain⟨D,G,I,J,M⟩:=QX z
    simp_all
  ·rfl
 ·exact Z9A h
theorem ZkD {H H' : Heap} {xs:List V} (h:CW (xs.flatMap CJ) H H'):KG H' xs=KG H xs:=by
 induction xs with
 | nil=>rfl
 | cons x xs z=>
  simp only[KG];rw[ZnN (fun i hi=>h i (by simp[hi])),z (fun i hi=>h i (by rw[List.flatMap_cons];exact List.mem_append_right _ hi))]
theorem Zlg (n:Nat):lI E (DY E n):=by
 intro f R args H v H1 h;cases n with
 | zero=>cases h
 | succ n=>
  unfold DY at h;cases C:E.maps f with
  | some l=>
   simp only[C]at h;split at h
   ·rename_i x;split at h
    ·rename_i hi;simp only[Option.some.injEq,Prod.mk.injEq]at h;obtain⟨rfl,rfl⟩:=h;have hi' : [x].flatMap DC=[]:=by simpa using hi
     refine⟨by rw[hi'];rfl,fun H' _=>?_⟩;unfold DY;simp only[C];rw[if_pos hi,hi'];rfl
    ·cases h
   ·cases h
  | none=>
  simp only[C]at h;have R:((E.pure f||(E.env f).isSome)&&(E.own f).isNone)=true:=by simpa[Qo,C]using R
  cases z:E.env f with
  | some F=>
   simp only[z]at h
   by_cases hq:args.any SC=true
   ·rw[if_pos hq]at h;have J:E.own f=none:=by simpa using (Bool.and_eq_true_iff.1 R).2
    cases D:KG H args with
    | none=>simp[D,J]at h
    | some as=>
     simp only[D,J]at h;cases G:F (Ff E.rows (E.par f) as) with
     | none=>simp[G]at h
     | some r=>
      simp only[G]at h;split at h
      ·rename_i hfl;simp only[Option.some.injEq,Prod.mk.injEq]at h;refine⟨h.2.symm,fun H' Y=>?_⟩;unfold DY;simp only[C,z];rw[if_pos hq,ZkD Y,D];simp only[J,G];rw[if_pos hfl,h.1]
      ·cases h
   rw[if_neg hq]at h;cases D:FC H args with
   | none=>simp[D]at h
   | some as=>
    have J:E.own f=none:=by simpa using (Bool.and_eq_true_iff.1 R).2
    simp only[D,J]at h;cases G:F (Ff E.rows (E.par f) as) with
    | none=>simp[G]at h
    | some r=>
     simp only[G,Option.map_some,Option.some.injEq,Prod.mk.injEq]at h;refine⟨h.2.symm,fun H' Y=>?_⟩;unfold DY;simp only[C,z];rw[if_neg hq,zY Y,D];simp only[J,G,Option.map_some,h.1]
  | none=>
   have S:E.pure f=true:=by simpa[z]using (Bool.and_eq_true_iff.1 R).1
   simp only[z,S,if_true]at h;cases I:E.func f with
   | none=>simp[I]at h
   | some fn=>
    simp only[I]at h;cases D:FC H args with
    | none=>simp[D]at h
    | some as=>
     simp only[D]at h;cases M:Jp (DY E n) n E f fn as [] with
     | none=>simp[M]at h
     | some rr=>
      obtain⟨r0,H2⟩:=rr;simp only[M]at h;cases Q:JJ H2 r0 with
      | none=>simp[Q]at h
      | some r=>
       simp only[Q,Option.map_some,Option.some.injEq,Prod.mk.injEq]at h;refine⟨h.2.symm,fun H' Y=>?_⟩;unfold DY;simp only[C,z,S,if_true,I];rw[zY Y,D]
       simp_all
theorem iK (H:Heap) (a b:List Nat):bump (bump H a) b=bump H (a++b):=by
 induction a generalizing H with
 | nil=>rfl
 | cons i a z=>simp only[bump,List.cons_append,z]
theorem Z7b {f:Fk} {H H1:Heap} {x y:V} (h:Ew f H x=some (y,H1)) (z:EJ y=[]):∃ids,(∀i∈ids,i∈Dh x)/\H1=bump H ids/\∀H',CW (Dh x) H H' -> Ew f H' x=some (y,bump H' ids):=by
 cases f with
 | s e sz=>
  simp only[Ew]at h;cases C:F9 H x with
  | none=>simp[C]at h
  | some w=>
   simp only[C,Option.map_some,Option.some.injEq,Prod.mk.injEq]at h;obtain⟨rfl,rfl⟩:=h;exact⟨Ec x,fun i hi=>Z8M hi,rfl,fun H' D=>by simp only[Ew,ZN D,C,Option.map_some]⟩
 | own e sz=>
  exfalso;simp only[Ew,Su]at h;split at h
  ·simp only[Option.some.injEq,Prod.mk.injEq]at h;rw[<- h.1]at z;simp[EJ]at z
  ·simp only[Option.some.injEq,Prod.mk.injEq]at h;rw[<- h.1]at z;simp[EJ]at z
  ·split at h
   ·simp only[Option.some.injEq,Prod.mk.injEq]at h;rw[<- h.1]at z;simp[EJ]at z
   ·cases h
  ·cases h
 | keep=>
  simp only[Ew,Option.some.injEq,Prod.mk.injEq]at h;obtain⟨rfl,rfl⟩:=h;exact⟨[],by simp,rfl,fun H' _=>rfl⟩
 | drop=>
  simp only[Ew,Option.some.injEq,Prod.mk.injEq]at h;obtain⟨rfl,rfl⟩:=h;exact⟨[],by simp,rfl,fun H' _=>rfl⟩
theorem Zl9:∀{fl:List Fk} {H H1:Heap} {xs ys:List V},Ef fl H xs=some (ys,H1)->DD ys=[]->∃ids,(∀i∈ids,i∈xs.flatMap Dh)/\H1=bump H ids/\∀H',CW (xs.flatMap Dh) H H' -> Ef fl H' xs=some (ys,bump H' ids):=by
 intro fl;induction fl with
 | nil=>
  intro H H1 xs ys h C;cases xs with
  | nil=>
   simp only[Ef,Option.some.injEq,Prod.mk.injEq]at h;obtain⟨rfl,rfl⟩:=h;exact⟨[],by simp,rfl,fun H' _=>rfl⟩
  | cons=>simp[Ef]at h
 | cons f fl Y=>
  intro H H1 xs ys h C;cases xs with
  | nil=>simp[Ef]at h
  | cons x xs=>
   simp only[Ef]at h;cases D:Ew f H x with
   | none=>simp[D]at h
   | some r=>
    obtain⟨y,R⟩:=r;simp only[D]at h;cases G:Ef fl R xs with
    | none=>simp[G]at h
    | some q=>
     obtain⟨zs,Hb⟩:=q;simp only[G,Option.some.injEq,Prod.mk.injEq]at h;obtain⟨rfl,rfl⟩:=h;simp only[DD,List.append_eq_nil_iff]at C;obtain⟨z,a1,rfl,S⟩:=Z7b D C.1;obtain⟨Q,b1,rfl,b3⟩:=Y G C.2;refine⟨z++Q,fun i hi=>?_,iK H z Q,fun H' M=>?_⟩
     ·grind
     ·have I:CW (Dh x) H H' :=fun i hi=>M i (by simp_all);have J:CW (xs.flatMap Dh) (bump H z) (bump H' z):=(QW _ z H).symm.trans (CW.trans (fun i hi=>M i (by simp_all)) (QW _ z H'));simp only[Ef,S H' I,b3 _ J,iK]
theorem ZkV {fl:List Fk} {H H1:Heap} {x y:V} (h:Ho fl H x=some (y,H1)) (I:EJ y=[]):∃ids,(∀i∈ids,i∈CJ x)/\H1=bump H ids/\∀H',CW (CJ x) H H' -> Ho fl H' x=some (y,bump H' ids):=by
 unfold Ho at h;split at h
 ·rename_i cs;cases D:Ef fl H cs with
  | none=>simp[D]at h
  | some r=>
   obtain⟨ys,Q⟩:=r;simp only[D,Option.map_some,Option.some.injEq,Prod.mk.injEq]at h;obtain⟨rfl,rfl⟩:=h;obtain⟨ids,a1,z,C⟩:=Zl9 D (by simpa[EJ]using I);exact⟨ids,a1,z,fun H' G=>by simp only[Ho,C H' G,Option.map_some]⟩
 ·rename_i M;have J:∀i∈Dh x,i∈CJ x:=fun i hi=>by
   cases x with
   | fn f a b=>simp[Dh]at hi
   | agg cs=>simp_all
   | _=>exact hi
  split at h
  ·rename_i f;obtain⟨ids,a1,z,C⟩:=Z7b h I;refine⟨ids,fun i hi=>J i (a1 i hi),z,fun H' G=>?_⟩;unfold Ho;split
   ·simp_all
   ·exact C H' (fun i hi=>G i (J i hi))
  ·cases h
theorem Zln:∀{fa:List (List Fk)} {H H1:Heap} {xs ys:List V},Eu fa H xs=some (ys,H1)->DD ys=[]->∃ids,(∀i∈ids,i∈xs.flatMap CJ)/\H1=bump H ids/\∀H',CW (xs.flatMap CJ) H H' -> Eu fa H' xs=some (ys,bump H' ids):=by
 intro fl;induction fl with
 | nil=>
  intro H H1 xs ys h C;cases xs with
  | nil=>
   simp only[Eu,Option.some.injEq,Prod.mk.injEq]at h;obtain⟨rfl,rfl⟩:=h;exact⟨[],by simp,rfl,fun H' _=>rfl⟩
  | cons=>simp[Eu]at h
 | cons f fl Y=>
  intro H H1 xs ys h C;cases xs with
  | nil=>simp[Eu]at h
  | cons x xs=>
   simp only[Eu]at h;cases D:Ho f H x with
   | none=>simp[D]at h
   | some r=>
    obtain⟨y,R⟩:=r;simp only[D]at h;cases G:Eu fl R xs with
    | none=>simp[G]at h
    | some q=>
     obtain⟨zs,Hb⟩:=q;simp only[G,Option.some.injEq,Prod.mk.injEq]at h;obtain⟨rfl,rfl⟩:=h;simp only[DD,List.append_eq_nil_iff]at C;obtain⟨z,a1,rfl,S⟩:=ZkV D C.1;obtain⟨Q,b1,rfl,b3⟩:=Y G C.2;refine⟨z++Q,fun i hi=>?_,iK H z Q,fun H' M=>?_⟩
     ·grind
     ·have I:CW (CJ x) H H' :=fun i hi=>M i (by simp_all);have J:CW (xs.flatMap CJ) (bump H z) (bump H' z):=(QW _ z H).symm.trans (CW.trans (fun i hi=>M i (by simp_all)) (QW _ z H'));simp only[Eu,S H' I,b3 _ J,iK]
theorem Zlh {n:Nat} {H C:Heap} {z ids:List Nat} (h:G9 n [] H z []=some (C,ids)):z=[]/\C=H/\ids=[]:=by
 cases n with
 | zero=>cases h
 | succ n=>
  cases z with
  | nil=>
   simp only[G9,Option.some.injEq,Prod.mk.injEq]at h
   simp_all
  | cons i z=>
   exfalso;unfold G9 at h
   simp_all
theorem Zlj {D:NC} (C:D.fb=[]) {args:List V} {H H1:Heap} {v:V} (h:JE D args H=some (v,H1)) :
  ∃ids I,(∀i∈ids,i∈args.flatMap CJ)/\H1=bump H ids++I/\∀H',H'.length=H.length->CW (args.flatMap CJ) H H' -> JE D args H' = some (v,bump H' ids++I):=by
 unfold JE at h;unfold pack at h;rw[C]at h;cases M:Eu D.fa H args with
 | none=>simp[M]at h
 | some r=>
  obtain⟨as,Ha⟩:=r;simp only[M]at h;cases J:G9 1000 [] Ha (List.range 0++DD as) [] with
  | none=>rw[J]at h;cases h
  | some q=>
   obtain⟨H2,S⟩:=q;obtain⟨Q,rfl,rfl⟩:=Zlh J;simp only[List.range_zero,List.nil_append]at Q;obtain⟨ids,a1,rfl,a3⟩:=Zln M Q;simp only[J]at h;cases z:D.run (Fv (([]:List Nat).idxOf ·) as) (GU (bump H ids) []) with
   | none=>rw[z]at h;cases h
   | some rr=>
    obtain⟨r,Y⟩:=rr;simp only[z,List.length_nil,Nat.zero_le,if_true,Option.some.injEq,Prod.mk.injEq,bump_length]at h;obtain⟨rfl,rfl⟩:=h;refine⟨ids,Y.map (EN (Gy [] H.length)),a1,by simp only[MV,IY,bump_length],fun H' hl R =>?_⟩;unfold JE pack;rw[C,a3 H' R];simp only[List.range_zero,List.nil_append,Q,G9];have G:GU (bump H' ids) []=GU (bump H ids) []:=rfl;simp only[G,z,List.length_nil,Nat.zero_le,if_true,bump_length,hl,MV,IY]
theorem Zlc (n:Nat):lS E (DY E n):=by
 intro f C args H v H1 h;cases n with
 | zero=>cases h
 | succ n=>
  have D:=C;unfold Qd at C;simp only[Bool.and_eq_true,Option.isNone_iff_eq_none,Bool.not_eq_true']at C;obtain⟨⟨⟨Y,h1⟩,h2⟩,z⟩:=C;have M:=ZnJ D;cases hh:E.hm f [] with
  | none=>rw[hh]at z;cases z
  | some I=>
   rw[hh]at z;have G:I.fb=[]:=by simpa using z
   have J:∀H,DY E (n+1) f args H=JE I args H:=fun H=>by
    unfold DY
    simp_all
   rw[J]at h;obtain⟨ids,Q,a1,R,S⟩:=Zlj G h
   grind
theorem ZoX {H:Heap} {x:V} {n:Nat} {b0 b:Box} (z:H[n]? = some b0) (G:b0.row=false) (I:b.row=false):F9 (H.set n b) x=F9 H x:=by
 have D:=(List.getElem?_eq_some_iff.1 z).1;cases x with
 | BK id off len tot=>
  simp only[F9,Cc]
  by_cases C:n=id
  ·subst C;rw[List.getElem?_set_self D,z];simp only[]
   grind
  ·rw[List.getElem?_set_ne C]
 | fn f a c=>cases a<;>cases c<;>rfl
 | GX t v=>cases v<;>rfl
 | _=>rfl
theorem Zmd {H:Heap} {x y:V} {n:Nat} {b0:Box} (z:H[n]? = some b0) (D:b0.row=false) (h:F9 H x=some y):n∉Ec x:=by
 cases x with
 | BK id off len tot=>
  simp only[F9,Cc]at h;simp only[Ec,List.mem_singleton];intro C;subst C;rw[z]at h
  grind
 | _=>simp[Ec]
theorem Z9p {ids:List Nat} {H:Heap} {n:Nat} {b:Box} (h:n∉ids):bump (H.set n b) ids=(bump H ids).set n b:=by
 apply List.ext_getElem?;intro i;rw[Ic,List.getElem?_set,List.getElem?_set,Ic,bump_length]
 grind
theorem bump_at {ids:List Nat} {H:Heap} {n:Nat} (h:n∉ids):(bump H ids)[n]? = H[n]?:=by
 rw[Ic]
 grind
theorem Z7Z {f:Fk} {H H1:Heap} {x y:V} {n:Nat} {b0 b:Box} (C:H[n]? = some b0) (G:b0.row=false) (M:b.row=false) (h:Ew f H x=some (y,H1)) :
  H1[n]? = some b0/\Ew f (H.set n b) x=some (y,H1.set n b):=by
 have I:=(List.getElem?_eq_some_iff.1 C).1;cases f with
 | s e sz=>
  simp only[Ew]at h ⊢;rw[ZoX C G M];cases J:F9 H x with
  | none=>simp[J]at h
  | some z=>
   have D:=Zmd C G J;simp only[J,Option.map_some,Option.some.injEq,Prod.mk.injEq]at h ⊢;obtain⟨rfl,rfl⟩:=h;exact⟨by rw[bump_at D,C],rfl,Z9p D⟩
 | own e sz=>
  simp only[Ew]at h ⊢;unfold Su at *;split at h
  ·simp only[Option.some.injEq,Prod.mk.injEq]at h ⊢;obtain⟨rfl,rfl⟩:=h;refine⟨by rw[List.getElem?_append_left I,C],by rw[List.length_set],?_⟩;rw[List.set_append_left _ _ I]
  ·simp only[Option.some.injEq,Prod.mk.injEq]at h ⊢;obtain⟨rfl,rfl⟩:=h;refine⟨by rw[List.getElem?_append_left I,C],by rw[List.length_set],?_⟩;rw[List.set_append_left _ _ I]
  ·split at h
   ·rename_i Q;simp only[Option.some.injEq,Prod.mk.injEq]at h ⊢;obtain⟨rfl,rfl⟩:=h;exact⟨C,by rw[if_pos Q]⟩
   ·cases h
  ·cases h
 | keep=>simp only[Ew,Option.some.injEq,Prod.mk.injEq]at h ⊢;obtain⟨rfl,rfl⟩:=h;exact⟨C,rfl,rfl⟩
 | drop=>simp only[Ew,Option.some.injEq,Prod.mk.injEq]at h ⊢;obtain⟨rfl,rfl⟩:=h;exact⟨C,rfl,rfl⟩
theorem Zns {n:Nat} {b0 b:Box} (G:b0.row=false) (M:b.row=false):∀{fl:List Fk} {H H1:Heap} {xs ys:List V},H[n]? = some b0->Ef fl H xs=some (ys,H1) ->
  H1[n]? = some b0/\Ef fl (H.set n b) xs=some (ys,H1.set n b):=by
 intro fl;induction fl with
 | nil=>
  intro H H1 xs ys z h;cases xs with
  | nil=>simp only[Ef,Option.some.injEq,Prod.mk.injEq]at h ⊢;obtain⟨rfl,rfl⟩:=h;exact⟨z,rfl,rfl⟩
  | cons=>simp[Ef]at h
 | cons f fl Q=>
  intro H H1 xs ys z h;cases xs with
  | nil=>simp[Ef]at h
  | cons x xs=>
   simp only[Ef]at h ⊢;cases C:Ew f H x with
   | none=>simp[C]at h
   | some r=>
    obtain⟨y,I⟩:=r;obtain⟨a1,J⟩:=Z7Z z G M C;simp only[C]at h;rw[J];cases D:Ef fl I xs with
    | none=>simp[D]at h
    | some q=>
     obtain⟨zs,R⟩:=q;obtain⟨b1,b2⟩:=Q a1 D;simp only[D,Option.some.injEq,Prod.mk.injEq]at h;obtain⟨rfl,rfl⟩:=h;simp only[b2];exact⟨b1,trivial⟩
theorem Zmy {fl:List Fk} {H H1:Heap} {x y:V} {n:Nat} {b0 b:Box} (G:H[n]? = some b0) (z:b0.row=false) (I:b.row=false) (h:Ho fl H x=some (y,H1)) :
  H1[n]? = some b0/\Ho fl (H.set n b) x=some (y,H1.set n b):=by
 unfold Ho at *;split at h
 ·rename_i cs;cases D:Ef fl H cs with
  | none=>simp[D]at h
  | some r=>
   obtain⟨ys,J⟩:=r;obtain⟨a1,C⟩:=Zns z I G D;simp only[D,Option.map_some,Option.some.injEq,Prod.mk.injEq]at h;obtain⟨rfl,rfl⟩:=h;exact⟨a1,by simp only[C,Option.map_some]⟩
 ·split at h
  ·obtain⟨a1,C⟩:=Z7Z G z I h;exact⟨a1,C⟩
  ·cases h
theorem Zmk {n:Nat} {b0 b:Box} (G:b0.row=false) (M:b.row=false):∀{fa:List (List Fk)} {H H1:Heap} {xs ys:List V},H[n]? = some b0->Eu fa H xs=some (ys,H1) ->
  H1[n]? = some b0/\Eu fa (H.set n b) xs=some (ys,H1.set n b):=by
 intro fl;induction fl with
 | nil=>
  intro H H1 xs ys z h;cases xs with
  | nil=>simp only[Eu,Option.some.injEq,Prod.mk.injEq]at h ⊢;obtain⟨rfl,rfl⟩:=h;exact⟨z,rfl,rfl⟩
  | cons=>simp[Eu]at h
 | cons f fl Q=>
  intro H H1 xs ys z h;cases xs with
  | nil=>simp[Eu]at h
  | cons x xs=>
   simp only[Eu]at h ⊢;cases C:Ho f H x with
   | none=>simp[C]at h
   | some r=>
    obtain⟨y,I⟩:=r;obtain⟨a1,J⟩:=Zmy z G M C;simp only[C]at h;rw[J];cases D:Eu fl I xs with
    | none=>simp[D]at h
    | some q=>
     obtain⟨zs,R⟩:=q;obtain⟨b1,b2⟩:=Q a1 D;simp only[D,Option.some.injEq,Prod.mk.injEq]at h;obtain⟨rfl,rfl⟩:=h;simp only[b2];exact⟨b1,trivial⟩
theorem Zn1 {n:Nat} {b0 b:Box} (Q:b0.row=false) (hr:b.row=false):∀{k:Nat} {fb:List Bf} {H I:Heap} {z seen ids:List Nat},fb.all Bf.isRow=true->n∉seen->H[n]? = some b0->G9 k fb H z seen=some (I,ids) ->
  I[n]? = some b0/\n∉ids/\G9 k fb (H.set n b) z seen=some (I.set n b,ids):=by
 intro k;induction k with
 | zero=>intro fb H I z seen ids _ _ _ h;cases h
 | succ k S=>
  intro fb H I z seen ids C R G h;have hn:=(List.getElem?_eq_some_iff.1 G).1;cases z with
  | nil=>
   simp only[G9,Option.some.injEq,Prod.mk.injEq]at h ⊢;obtain⟨rfl,rfl⟩:=h;exact⟨G,R,rfl,rfl⟩
  | cons id z=>
   unfold G9 at h ⊢
   by_cases hc:seen.contains id=true
   ·rw[if_pos hc]at h ⊢;exact S C R G h
   ·rw[if_neg hc]at h ⊢;cases hb:H[id]? with
    | none=>simp[hb]at h
    | some bx=>
     cases fb with
     | nil=>simp[hb]at h
     | cons f fb=>
      simp only[List.all_cons,Bool.and_eq_true]at C;cases f with
      | var fl=>simp[Bf.isRow]at C
      | row fresh=>
       simp only[hb]at h;split at h
       ·rename_i Y;have D:n≠id:=fun e=>by
         subst e;rw[G]at hb;cases hb;simp[Q]at Y
        rw[List.getElem?_set_ne D,hb];simp only[Y,if_true];have M : n∉seen++[id]:=by simp[R,D]
        cases fresh with
        | true=>exact S C.2 M G h
        | false=>
         have J:n∉[id]:=by simp[D]
         simp only[Bool.false_eq_true,if_false]at h ⊢;rw[Z9p J];exact S C.2 M (by rw[bump_at J,G]) h
       ·cases h
theorem Zok {H:Heap} {ids:List Nat} {n:Nat} {b:Box} (h:n∉ids):GU (H.set n b) ids=GU H ids:=by
 unfold GU;apply List.map_congr_left;intro i hi;rw[List.getElem?_set_ne (fun e=>h (by rw[e];exact hi))]
theorem Zpn {n:Nat} {b:Box}:∀{ids:List Nat} {H bs:Heap},n<H.length->n∉ids->(IY H ids bs)[n]? = H[n]? /\ IY (H.set n b) ids bs=(IY H ids bs).set n b:=by
 intro ids;induction ids with
 | nil=>intro H bs z _;simp only[IY];exact⟨List.getElem?_append_left z,(List.set_append_left _ _ z).symm⟩
 | cons i ids D=>
  intro H bs z hi;simp only[List.mem_cons,not_or]at hi;cases bs with
  | nil=>exact⟨rfl,rfl⟩
  | cons c bs=>
   simp only[IY];rw[List.set_comm _ _ hi.1];obtain⟨a1,C⟩:=D (H:=H.set i c) (bs:=bs) (by rw[List.length_set];exact z) hi.2;exact⟨by rw[a1,List.getElem?_set_ne (Ne.symm hi.1)],C⟩
theorem Zmv {C:NC} (J:C.fb.all Bf.isRow=true) {args:List V} {H H1:Heap} {v:V} {n:Nat} {b0 b:Box} (h0:H[n]? = some b0) (G:b0.row=false) (Y:b.row=false) (h:JE C args H=some (v,H1)) :
  H1[n]? = some b0/\JE C args (H.set n b)=some (v,H1.set n b):=by
 unfold JE pack at *;cases Q:Eu C.fa H args with
 | none=>simp[Q]at h
 | some r=>
  obtain⟨as,Ha⟩:=r;obtain⟨a1,a2⟩:=Zmk G Y h0 Q;simp only[Q]at h;rw[a2];simp only;cases M:G9 1000 C.fb Ha (List.range 0++DD as) [] with
  | none=>rw[M]at h;cases h
  | some q=>
   obtain⟨I,ids⟩:=q;obtain⟨R,S,c3⟩:=Zn1 G Y J (by simp) a1 M;have hl:=(List.getElem?_eq_some_iff.1 R).1;rw[M]at h;simp only at h;rw[c3];simp only[Zok S];cases z:C.run (Fv (ids.idxOf ·) as) (GU I ids) with
   | none=>rw[z]at h;cases h
   | some rr=>
    obtain⟨r,H3⟩:=rr;simp only[z]at h;split at h
    ·rename_i D;simp only[Option.some.injEq,Prod.mk.injEq]at h;obtain⟨rfl,rfl⟩:=h;simp only[if_pos D,List.length_set,MV];obtain⟨d1,d2⟩:=Zpn (b:=b) (ids:=ids) (H:=I) (bs:=H3.map (EN (Gy ids I.length))) hl S;exact⟨by rw[d1,R],by rw[d2]⟩
    ·cases h
theorem Znb (n:Nat):nC E (DY E n):=by
 intro f hv Q C args H v H1 i b0 b h G D R;cases n with
 | zero=>cases h
 | succ n=>
  have M:=C;unfold OM at C;simp only[Bool.and_eq_true,Option.isNone_iff_eq_none,Bool.not_eq_true']at C;obtain⟨⟨⟨I,Y⟩,h2⟩,z⟩:=C;cases hh:E.hm f [] with
  | none=>rw[hh]at z;cases z
  | some S=>
   rw[hh]at z;have J:∀H,DY E (n+1) f args H=JE S args H:=fun H=>by
    unfold DY
    simp_all
   rw[J]at h ⊢;exact Zmv z G D R h
theorem Z9o {call:CV} (G:NG call) {ops:Array Oper}:∀(C:List Nat) (st st' : St),Jt call E ops C st=some st' -> st.H.length<=st'.H.length
 | [],st,st',h=>by cases h;exact Nat.le_refl _
 | i::C,st,st',h=>by
  unfold Jt at h;cases z:stepD call E ops i st with
  | none=>simp[z]at h
  | some D=>
   simp only[z]at h;exact Nat.le_trans (Za G z) (Z9o G C D st' h)
theorem Z76 {call:CV} (G:NG call) {ops:Array Oper} {ms lt s0 base m}:∀(C:List Nat) (st st' : St),Jk call E ops ms lt s0 base m C st=some st' -> st.H.length<=st'.H.length
 | [],st,st',h=>by cases h;exact Nat.le_refl _
 | i::C,st,st',h=>by
  unfold Jk at h;cases z:Gp call E ops ms lt s0 base m i st with
  | none=>simp[z]at h
  | some D=>
   simp only[z]at h;exact Nat.le_trans (Zn G z) (Z76 G C D st' h)
theorem Z8i {call:CV} (Q:NG call) {f:FuncId} {lp:Code->St->Option (Ex×St)} (M:∀b st ex st',lp b st=some (ex,st')->st.H.length<=st'.H.length) :
  ∀(c:Code) (st:St) (ex:Ex) (st' : St),EO call lp E f c st=some (ex,st')->st.H.length<=st'.H.length:=by
 intro c;induction c with
 | skip=>intro st ex st' h;simp only[EO,Option.some.injEq,Prod.mk.injEq]at h;rw[<- h.2];exact Nat.le_refl _
 | label l=>intro st ex st' h;simp only[EO,Option.some.injEq,Prod.mk.injEq]at h;rw[<- h.2];exact Nat.le_refl _
 | exit l=>intro st ex st' h;simp only[EO,Option.some.injEq,Prod.mk.injEq]at h;rw[<- h.2];exact Nat.le_refl _
 | ret=>intro st ex st' h;simp only[EO,Option.some.injEq,Prod.mk.injEq]at h;rw[<- h.2];exact Nat.le_refl _
 | region id ops d=>
  intro st ex st' h;cases d with
  | false=>
   simp only[EO]at h;obtain⟨G,C,I⟩:=Option.map_eq_some_iff.1 h;simp only[Prod.mk.injEq]at I;rw[<- I.2];exact Z9o Q _ _ _ C
  | true=>
   simp only[EO]at h;split at h
   ·obtain⟨G,C,I⟩:=Option.map_eq_some_iff.1 h;simp only[Prod.mk.injEq]at I;rw[<- I.2];unfold Qa at C;have:=Z76 Q _ _ _ C;simp only[List.length_append]at this;omega
   ·cases h
 | seq a b z D=>
  intro st ex st' h;simp only[EO]at h;split at h
  ·rename_i G C;exact Nat.le_trans (z _ _ _ C) (D _ _ _ h)
  ·exact z _ _ _ h
 | cond c a b z D=>
  intro st ex st' h;simp only[EO]at h;split at h
  ·split at h
   ·exact z _ _ _ h
   ·exact D _ _ _ h
  ·cases h
 | block id b J=>
  intro st ex st' h;simp only[EO]at h;split at h
  ·rename_i i G C;have:=J _ _ _ C;split at h<;>(simp only[Option.some.injEq,Prod.mk.injEq]at h;rw[<- h.2];exact this)
  ·exact J _ _ _ h
 | loop b J=>intro st ex st' h;simp only[EO]at h;exact M _ _ _ _ h
 | scope b J=>intro st ex st' h;simp only[EO]at h;exact J _ _ _ h
 | _=>intro st ex st' h;simp[EO]at h
theorem ZJ {call:CV} (z:NG call) {f:FuncId}:∀(n:Nat) (b:Code) (st:St) (ex:Ex) (st' : St),L9 call E f n b st=some (ex,st')->st.H.length<=st'.H.length
 | 0,b,st,ex,st',h=>by simp[L9]at h
 | n+1,b,st,ex,st',h=>by
  unfold L9 at h;have key:=Z8i (E:=E) (f:=f) z (lp:=L9 call E f n) (fun b st ex st' =>ZJ z n b st ex st');split at h
  ·rename_i C D;exact Nat.le_trans (key _ _ _ _ D) (ZJ z n b C ex st' h)
  ·exact key _ _ _ _ h
theorem ZmJ {call:CV} (D:NG call) {n:Nat} {f:FuncId} {fn:Func} {args:List V} {H H' : Heap} {r:V} (h:Jp call n E f fn args H=some (r,H')):H.length<=H'.length:=by
 unfold Jp at h;split at h
 ·cases h
 ·rename_i c hc;have key:=Z8i (E:=E) (f:=f) D (lp:=L9 call E f n) (fun b st ex st' =>ZJ D n b st ex st');split at h
  ·rename_i st C;obtain⟨x,_,z⟩:=Option.map_eq_some_iff.1 h;simp only[Prod.mk.injEq]at z;rw[<- z.2];exact key _ _ _ _ C
  ·rename_i st C;obtain⟨x,_,z⟩:=Option.map_eq_some_iff.1 h;simp only[Prod.mk.injEq]at z;rw[<- z.2];exact key _ _ _ _ C
  ·cases h
theorem Z8u {f:Fk} {H H1:Heap} {x y:V} (h:Ew f H x=some (y,H1)):H.length<=H1.length:=by
 cases f with
 | s e sz=>
  simp only[Ew]at h;obtain⟨C,_,z⟩:=Option.map_eq_some_iff.1 h;simp only[Prod.mk.injEq]at z;rw[<- z.2,bump_length];exact Nat.le_refl _
 | own e sz=>
  simp only[Ew]at h;unfold Su at h
  repeat' split at h
  all_goals first
   | (cases h;done)
   | (simp only[Option.some.injEq,Prod.mk.injEq]at h;rw[<- h.2];simp)
 | keep=>simp only[Ew,Option.some.injEq,Prod.mk.injEq]at h;rw[<- h.2];exact Nat.le_refl _
 | drop=>simp only[Ew,Option.some.injEq,Prod.mk.injEq]at h;rw[<- h.2];exact Nat.le_refl _
theorem Z8k:∀(fs:List Fk) (H H1:Heap) (xs ys:List V),Ef fs H xs=some (ys,H1)->H.length<=H1.length
 | [],H,H1,[],ys,h=>by simp only[Ef,Option.some.injEq,Prod.mk.injEq]at h;rw[<- h.2];exact Nat.le_refl _
 | [],H,H1,x::xs,ys,h=>by simp[Ef]at h
 | f::fs,H,H1,[],ys,h=>by simp[Ef]at h
 | f::fs,H,H1,x::xs,ys,h=>by
  simp only[Ef]at h;split at h
  ·rename_i y C G;split at h
   ·rename_i z D I;simp only[Option.some.injEq,Prod.mk.injEq]at h;rw[<- h.2];exact Nat.le_trans (Z8u G) (Z8k fs C D xs z I)
   ·cases h
  ·cases h
theorem Z7K {fl:List Fk} {H H1:Heap} {x y:V} (h:Ho fl H x=some (y,H1)):H.length<=H1.length:=by
 unfold Ho at h;split at h
 ·obtain⟨r,C,z⟩:=Option.map_eq_some_iff.1 h;obtain⟨ys,D⟩:=r;simp only[Prod.mk.injEq]at z;rw[<- z.2];exact Z8k _ _ _ _ _ C
 ·split at h
  ·exact Z8u h
  ·cases h
theorem Z8e:∀(fs:List (List Fk)) (H H1:Heap) (xs ys:List V),Eu fs H xs=some (ys,H1)->H.length<=H1.length
 | [],H,H1,[],ys,h=>by simp only[Eu,Option.some.injEq,Prod.mk.injEq]at h;rw[<- h.2];exact Nat.le_refl _
 | [],H,H1,x::xs,ys,h=>by simp[Eu]at h
 | f::fs,H,H1,[],ys,h=>by simp[Eu]at h
 | f::fs,H,H1,x::xs,ys,h=>by
  simp only[Eu]at h;split at h
  ·rename_i y C G;split at h
   ·rename_i z D I;simp only[Option.some.injEq,Prod.mk.injEq]at h;rw[<- h.2];exact Nat.le_trans (Z7K G) (Z8e fs C D xs z I)
   ·cases h
  ·cases h
theorem iR:∀(n:Nat) (fb:List Bf) (H H1:Heap) (z seen ids:List Nat),G9 n fb H z seen=some (H1,ids)->H.length<=H1.length
 | 0,fb,H,H1,z,seen,ids,h=>by simp[G9]at h
 | n+1,fb,H,H1,[],seen,ids,h=>by simp only[G9,Option.some.injEq,Prod.mk.injEq]at h;rw[<- h.1];exact Nat.le_refl _
 | n+1,fb,H,H1,id::z,seen,ids,h=>by
  simp only[G9]at h;split at h
  ·exact iR n _ _ _ _ _ _ h
  ·split at h
   ·split at h
    ·have:=iR n _ _ _ _ _ _ h;split at this
     ·exact this
     ·rw[bump_length]at this;exact this
    ·cases h
   ·split at h
    ·split at h
     ·split at h
      ·rename_i y D C;split at h
       ·split at h
        ·have:=iR n _ _ _ _ _ _ h;rw[List.length_set]at this;exact Nat.le_trans (Z7K C) this
        ·cases h
       ·cases h
      ·cases h
     ·cases h
    ·cases h
   ·cases h
theorem Z8J:∀(ids:List Nat) (H bs:Heap),H.length<=(IY H ids bs).length
 | [],H,bs=>by simp[IY]
 | id::ids,H,[]=>by simp[IY]
 | id::ids,H,b::bs=>by
  have:=Z8J ids (H.set id b) bs;rw[List.length_set]at this;simpa only[IY]using this
theorem ZmE {M:NC} {args:List V} {H H' : Heap} {r:V} (h:JE M args H=some (r,H')):H.length<=H'.length:=by
 unfold JE at h;split at h
 ·rename_i ids as Q z;unfold pack at z;split at z
  ·rename_i D H1 G;split at z
   ·rename_i R C I;simp only[Option.some.injEq,Prod.mk.injEq]at z;obtain⟨_,_,rfl⟩:=z;have J:=Nat.le_trans (Z8e _ _ _ _ _ G) (iR _ _ _ _ _ _ _ I);split at h
    ·split at h
     ·simp only[Option.some.injEq,Prod.mk.injEq]at h;rw[<- h.2];exact Nat.le_trans J (Z8J _ _ _)
     ·cases h
    ·cases h
   ·cases z
  ·cases z
 ·cases h
theorem Z8s:∀(n:Nat),NG (DY E n)
 | 0=>fun f args H r H' h=>by simp[DY]at h
 | n+1=>fun f args H r H' h=>by
  have C:=Z8s n;unfold DY at h;split at h
  ·split at h
   ·split at h
    ·simp only[Option.some.injEq,Prod.mk.injEq]at h;rw[<- h.2];exact Nat.le_refl _
    ·cases h
   ·cases h
  ·split at h
   ·split at h
    ·split at h
     ·split at h
      ·split at h
       ·simp only[Option.some.injEq,Prod.mk.injEq]at h;rw[<- h.2,bump_length];exact Nat.le_refl _
       ·cases h
      ·cases h
     ·cases h
    ·split at h
     ·split at h
      ·obtain⟨x,_,z⟩:=Option.map_eq_some_iff.1 h;simp only[Prod.mk.injEq]at z;rw[<- z.2,bump_length];exact Nat.le_refl _
      ·split at h
       ·simp only[Option.some.injEq,Prod.mk.injEq]at h;rw[<- h.2];refine Nat.le_trans ?_ (Jg _ _ _);rw[bump_length];exact Nat.le_refl _
       ·cases h
     ·cases h
   ·split at h
    ·split at h
     ·cases h
     ·split at h
      ·split at h
       ·obtain⟨x,_,z⟩:=Option.map_eq_some_iff.1 h;simp only[Prod.mk.injEq]at z;rw[<- z.2,bump_length];exact Nat.le_refl _
       ·cases h
      ·cases h
    ·split at h
     ·exact ZmE h
     ·split at h
      ·cases h
      ·exact ZmJ C h
theorem Nb (n:Nat):Nr E (DY E n):=⟨Zlg n,Zlc n,Znb n,Z8s n⟩
def Ya (w:World) (b c:Nat):Prop:=∃u,w.cell? ⟨b,c,none⟩=some u
theorem Zl8 {σ σ' : Sg} {w w' : World} {b:Bool} {e:Nat} {u:Value} (h:AL σ w [.sl b e []] [u]):AL σ' w' [.sl b e []] [u]:=by
 cases h with
 | EI _=>exact .EI .nil
 | Et a _=>exact .Et a .nil
 | sl b o c e C I J M D G Q _=>
  cases C.Dx;exact .sl b o c e .nil (fun x z=>absurd z (by simp)) (fun x z=>absurd z (by simp)) (fun x z=>absurd z (by simp[flat])) D G (fun j x z=>by simp[flat]at z) .nil
theorem ZnL {σ σ' : Sg} {w w' : World} {cs:List V} {ws:List Value} (h:AL σ w cs ws):AL σ' w' (cs.map Sr) ws:=by
 induction cs generalizing ws with
 | nil=>cases h.Dx;exact .nil
 | cons c cs G=>
  obtain⟨v,vs,rfl,z,C⟩:=h.Bd;simp only[List.map_cons];refine AL.Dk.2 ⟨?_,G C⟩;unfold Sr;split
  ·cases z with
   | lit D _=>exact .lit D .nil
  ·exact .und _ .nil
theorem Z75 (cs:List V):Be (cs.map Sr)=true:=by
 induction cs with
 | nil=>rfl
 | cons c cs z=>
  simp only[List.map_cons,Be,Bool.and_eq_true];exact⟨by unfold Sr;split<;>simp[Bz,Be],z⟩
theorem Zlx {B:Nat} {w0:Start} {σ:Sg} {H:Heap} {w:World} (h:Inv B w0 σ H w) {x y:V} {v:Value} (S:AL σ w [x] [v]) (G:OJ H x=some y):AL (bare (Ya w)) w [y] [v]/\Bz y=true:=by
 unfold OJ at G;split at G
 ·rename_i id i off tot;split at G
  ·rename_i hz;obtain⟨rfl,rfl⟩:=hz;split at G
   ·rename_i b hb;obtain⟨b1,b2,b3⟩:=Un hb;split at G
    ·rename_i cs Q J;simp only[Option.some.injEq]at G;subst G;obtain⟨L,us,m⟩:=h.meet b1 b2;cases S with
     | ptr g k1 k2 k3 k4 k5=>
      rename_i Y;have hL:Y = L:=by
       have:=m.box;rw[k1]at this;cases this;rfl
      subst hL;obtain⟨n,c,hv⟩:=k3 (m.tot.trans b3);have C:=m.Cj;rw[J]at C;have D:∃ws:List Value,us=[.agg ws.toArray]/\AL σ w cs ws/\∀u∈ws,u.oneCell' = true:=by
       cases C with
       | agg q1 q2 q3=>cases q3;exact⟨_,rfl,q1,q2⟩
      obtain⟨ws,D,hcs,M⟩:=D;refine⟨?_,by simp[Bz,Be,Z75]⟩;have key:AL (bare (Ya w)) w [.Bj b.Ag [.agg (cs.map Sr)] 0 0] [.pointer (some ⟨g,0+0*b.Ag+0,none⟩)]:=by
       refine .Bj (us:=us) g 0 b.Ag 0 0 ?_ ?_ (fun u I=>by rw[m.Ag];exact m.sizes u I) m.ones ?_ .nil
       ·rw[D];exact .agg (ZnL hcs) M .nil
       ·intro x R;simp only[List.mem_singleton]at R;subst R;simp[DU,okV,Bz,Z75]
       ·intro j u I;have:=m.cell (g:=g) (by rw[hv];rfl) j u I;rw[Nat.zero_add];exact⟨⟨u,this⟩,this⟩
      simp_all
    ·rename_i z Q J;simp only[Option.some.injEq]at G;subst G;obtain⟨L,us,m⟩:=h.meet b1 b2;cases S with
     | ptr g k1 k2 k3 k4 k5=>
      rename_i Y;have hL:Y = L:=by
       have:=m.box;rw[k1]at this;cases this;rfl
      subst hL;obtain⟨n,c,hv⟩:=k3 (m.tot.trans b3);have C:=m.Cj;rw[J]at C;have D:us=[z]/\leaf z=true:=by
       cases C with
       | lit q1 q2=>cases q2;exact⟨rfl,q1⟩
      obtain⟨D,hz⟩:=D;refine⟨?_,by simp[Bz,Be]⟩;have key:AL (bare (Ya w)) w [.Bj b.Ag [.lit z] 0 0] [.pointer (some ⟨g,0+0*b.Ag+0,none⟩)]:=by
       refine .Bj (us:=us) g 0 b.Ag 0 0 ?_ ?_ (fun u I=>by rw[m.Ag];exact m.sizes u I) m.ones ?_ .nil
       ·rw[D];exact .lit hz .nil
       ·intro x R;simp only[List.mem_singleton]at R;subst R;simp[DU,okV,Bz]
       ·intro j u I;have:=m.cell (g:=g) (by rw[hv];rfl) j u I;rw[Nat.zero_add];exact⟨⟨u,this⟩,this⟩
      simp_all
    ·cases G
   ·cases G
  ·cases G
 ·have hn:=iJ h S G;refine⟨?_,hn⟩;obtain⟨hI1,hEx1⟩:=h.freeze (DC x);have:=Xf h S G (DC x) (fun i hi=>hi);exact this.bare (fun b c hh=>⟨hI1.cells b c hh,rfl⟩) (by simp[Be,hn])
theorem ZiY {B:Nat} {w0:Start} {σ:Sg} {H:Heap} {w:World} (h:Inv B w0 σ H w):∀{xs ys:List V} {vs:List Value},AL σ w xs vs->KG H xs=some ys->AL (bare (Ya w)) w ys vs/\Be ys=true:=by
 intro xs;induction xs with
 | nil=>
  intro ys vs C z;cases C.Dx;simp only[KG,Option.some.injEq]at z;subst z;exact⟨.nil,rfl⟩
 | cons x xs M=>
  intro ys vs C z;obtain⟨v,vs',rfl,I,J⟩:=C.Bd;simp only[KG]at z;split at z
  ·rename_i y ys' D G;simp only[Option.some.injEq]at z;subst z;obtain⟨S,Q⟩:=Zlx h I D;obtain⟨Y,R⟩:=M J G;exact⟨AL.Dk.2 ⟨S,Y⟩,by simp[Be,Q,R]⟩
  ·cases z
theorem Znt {σ σ' : Sg} {w w' : World} {cs:List V} {ws:List Value} (h:AL σ w cs ws) (z:cs.all Ih=true):AL σ' w' cs ws:=by
 induction cs generalizing ws with
 | nil=>cases h.Dx;exact .nil
 | cons c cs I=>
  obtain⟨v,vs,rfl,D,G⟩:=h.Bd;simp only[List.all_cons,Bool.and_eq_true]at z;refine AL.Dk.2 ⟨?_,I G z.2⟩;cases D with
  | lit C _=>exact .lit C .nil
  | _=>simp[Ih]at z
theorem Z79 {σ σ' : Sg} {w w' : World} {x:V} {u:Value} (h:AL σ w [x] [u]) (z:NK x=true):AL σ' w' [x] [u]:=by
 unfold NK at z;split at z
 ·cases h with
  | lit C _=>exact .lit C .nil
 ·cases h with
  | agg D G _=>exact .agg (Znt D z) G .nil
 ·exact Zl8 h
 ·cases z
theorem Zm4 {σ σ' : Sg} {w w' : World} {cs:List V} {ws:List Value} (h:AL σ w cs ws) (z:cs.all NK=true):AL σ' w' cs ws:=by
 induction cs generalizing ws with
 | nil=>cases h.Dx;exact .nil
 | cons c cs G=>
  obtain⟨v,vs,rfl,C,D⟩:=h.Bd;simp only[List.all_cons,Bool.and_eq_true]at z;exact AL.Dk.2 ⟨Z79 C z.1,G D z.2⟩
theorem ZmL {σ σ' : Sg} {w w' : World} {x:V} {u:Value} (h:AL σ w [x] [u]) (z:Ql x=true):AL σ' w' [x] [u]:=by
 unfold Ql at z;split at z
 ·cases h with
  | Ap C _=>exact .Ap (Zm4 C z) .nil
 ·exact Z79 h z
theorem Zk6 {P:Program} {E:Env} {B:Nat} {w0:Start} {σ:Sg} {H:Heap} {w:World} {f:FuncId} {args as:List V} {r:V} {vs:List Value} (ts:List TypeId) (hp:Be (Ff E.rows ts as)=true->MX P E f (Ff E.rows ts as) r) (hf:KG H args=some as) (J:Ql r=true) (D:Inv B w0 σ H w) (hg:Ci E σ w) (hr:AL σ w args vs) :
  Calls P f vs.toArray w fun e w' =>∃u σ',e = .returned u/\Inv B w0 σ' (bump H (args.flatMap DC)) w' /\ Ext σ w σ' w' /\ AL σ' w' [r] [u]:=by
 obtain⟨G,z⟩:=D.freeze (args.flatMap DC);obtain⟨r1,n1⟩:=ZiY D hr hf;have Q:=vU E.rows ts r1;refine(hp (by rw[dF];exact n1) (Ya w) w vs (fun b c h=>h) (hg.bare (fun b c h=>⟨D.cells b c h,rfl⟩)) Q).mono ?_
 rintro e w' ⟨u,Y,rfl,hb,M,S,hcells,R,hnr⟩
 obtain⟨I,C⟩:=G.grown (Below.grownBy hb);exact⟨u,_,rfl,I,z.trans C,ZmL R J⟩
theorem Rk (hE:Bl E) (hP:E.P=P) (hF:LK P E):∀(n:Nat) (B:Nat) (w0:Start),JX P E B w0 (DY E n):=by
 intro n;induction n with
 | zero=>intro B w0 f args H x H' σ w vs h;cases h
 | succ n ih=>
  intro B w0 f args H x H' σ w vs h M hg Y;unfold DY at h;cases S:E.maps f with
  | some l=>rw[hF.maps f]at S;cases S
  | none=>
  simp only[S]at h;cases C:E.env f with
  | some F=>
   simp only[C]at h
   by_cases hq:args.any SC=true
   ·rw[if_pos hq]at h;cases J:E.own f with
    | some e=>simp[J]at h
    | none=>
     cases G:KG H args with
     | none=>simp[J,G]at h
     | some as=>
      simp only[J,G]at h;cases D:F (Ff E.rows (E.par f) as) with
      | none=>simp[D]at h
      | some r=>
       simp only[D]at h;split at h
       ·rename_i hfl;simp only[Option.some.injEq,Prod.mk.injEq]at h;obtain⟨rfl,rfl⟩:=h;obtain⟨h1,h2⟩:=hF.env f F C;refine⟨h1,Zk6 (E.par f) (fun hn=>?_) G hfl M hg Y⟩
        simp_all
       ·cases h
   rw[if_neg hq]at h;cases G:FC H args with
   | none=>simp[G]at h
   | some as=>
    simp only[G]at h;cases D:F (Ff E.rows (E.par f) as) with
    | none=>
     grind
    | some r=>
     obtain⟨h1,h2⟩:=hF.env f F C;have h3:=h2 _ r (by rw[dF];exact XB M Y G) D;cases J:E.own f with
     | none=>
      simp only[J,D,Option.map_some,Option.some.injEq,Prod.mk.injEq]at h;obtain⟨rfl,rfl⟩:=h;rw[J]at h3;exact⟨h1,Z7j (E.par f) h3 G M hg Y⟩
     | some e=>
      simp only[J,D]at h;rw[J]at h3;split at h
      ·rename_i sz xs hr0;simp only[Option.some.injEq,Prod.mk.injEq]at h hr0;obtain⟨rfl,rfl⟩:=h;exact⟨h1,Zt (E.par f) (h3 sz xs hr0) G M hg Y⟩
      ·cases h
  | none=>
   simp only[C]at h;split at h
   ·cases z:E.func f with
    | none=>simp[z]at h
    | some fn=>
     simp only[z]at h;cases G:FC H args with
     | none=>simp[G]at h
     | some as=>
      simp only[G]at h;cases I:Jp (DY E n) n E f fn as [] with
      | none=>simp[I]at h
      | some rr=>
       obtain⟨r0,H2⟩:=rr;simp only[I]at h;cases Q:JJ H2 r0 with
       | none=>simp[Q]at h
       | some r=>
        simp only[Q,Option.map_some,Option.some.injEq,Prod.mk.injEq]at h;obtain⟨rfl,rfl⟩:=h;have hent:Ky P f:=by
         obtain⟨hf1,hf2⟩:=hE.func f fn z;rw[hP]at hf1;refine⟨fn,hf1,?_,hf2⟩;unfold Jp at I;cases hb:fn.body with
         | none=>simp[hb]at I
         | some c=>rfl
        exact⟨hent,Z7j [] (by simpa[Ff]using iL hE hP ih (Nb n) z I Q) G M hg Y⟩
   ·cases R:E.hm f (if OM E f then [] else La args) with
    | some hs=>
     simp only[R]at h;obtain⟨h1,h2⟩:=hF.hm f _ hs R;exact⟨h1,Zof h2 h M hg Y⟩
    | none=>
     simp only[R]at h;cases z:E.func f with
     | none=>simp[z]at h
     | some fn=>
      simp only[z]at h;exact Z9S hE hP (ih B w0) (Nb n) z h M hg Y
theorem ZmQ {n:Nat} {as:List V} {r:V} {H' : Heap} (J:Bl E) (M:E.P=P) (R:LK P E) (Y:E.pure f=true) (I:E.env f=none) (G:E.maps f=none) (S:FC [] as=some as) (h:DY E (n+1) f as []=some (r,H')):MX P E f as r:=by
 unfold DY at h;simp only[G,I,Y,if_true]at h;cases C:E.func f with
 | none=>simp[C]at h
 | some fn=>
  simp only[C,S]at h;cases z:Jp (DY E n) n E f fn as [] with
  | none=>simp[z]at h
  | some rr=>
   obtain⟨r0,Q⟩:=rr;simp only[z]at h;cases D:JJ Q r0 with
   | none=>simp[D]at h
   | some r' =>
    simp only[D,Option.map_some,Option.some.injEq,Prod.mk.injEq]at h;obtain⟨rfl,_⟩:=h;exact iL J M (Rk J M R n) (Nb n) C z D
end
end Go.Proofs.YteinepnbndegdaaGreat.Le
namespace Go.Proofs.YteinepnbndegdaaGreat.Le
inductive SV (Ty:Nat->Type) where
 | lit (v:Value)
 | si (k:IntKind) (a:Int)
 | sb (b:Bool)
 | ss (s:ByteArray)
 | agg (cs:List (SV Ty))
 | Ap (vs:List (SV Ty))
 | nil (e:Nat)
 | sl (t:Nat) (xs:List (Ty t))
 | CE (t:Nat) (xs:List (Ty t))
 | all (id n:Nat)
 | BK (id off len tot:Nat)
 | ptr (id i off tot:Nat)
 | Bj (t:Nat) (xs:List (Ty t)) (i off:Nat)
 | fn (f:FuncId) (first caps:List (SV Ty))
 | raw (v:V)
 | O5 (kvs:List (SV Ty))
 | TR (d:Nat) (cs:List V) (off:Nat)
 | no
 | und
instance (Ty:Nat->Type):Inhabited (SV Ty):=⟨.und⟩
structure CX where
 Ty:Nat->Type
 Ag:Nat->Nat
 enc:(t:Nat)->Ty t->V
 encS:(t:Nat)->Ty t->SV Ty
 Gq:(t:Nat)->SV Ty->Option (Ty t)
 keys:List Nat
section
variable (U:CX)
mutual
def AU:SV U.Ty->V
 | .lit v=>.lit v
 | .si k a=>.lit (.int k a)
 | .sb b=>.lit (.bool b)
 | .ss s=>.lit (.string s)
 | .agg cs=>.agg (Aj cs)
 | .Ap cs=>.Ap (Aj cs)
 | .nil e=>.sl true e []
 | .sl t xs=>.sl false (U.Ag t) (xs.map (U.enc t))
 | .CE t xs=>.CE false (U.Ag t) (xs.map (U.enc t))
 | .all id n=>.BK id 0 n n
 | .BK id off len tot=>.BK id off len tot
 | .ptr id i off tot=>.ptr id i off tot
 | .Bj t xs i off=>.Bj (U.Ag t) (xs.map (U.enc t)) i off
 | .fn f a b=>.fn f (Aj a) (Aj b)
 | .raw v=>v
 | .O5 cs=>.Lt (Aj cs)
 | .TR d cs off=>.Bj d [.agg cs] 0 off
 | .no=>.no
 | .und=>.und
def Aj:List (SV U.Ty)->List V
 | []=>[]
 | x::xs=>AU x::Aj xs
end
inductive KQ (Ty:Nat->Type) where
 | var (elem:TypeId) (Ag:Nat) (x:SV Ty)
 | row (t:Nat) (xs:List (Ty t)) (fl:Option Nat)
 | dead
 | gone
 | fvar (elem:TypeId) (Ag:Nat) (x:SV Ty)
def KQ.floor {Ty:Nat->Type} (fl:Option Nat):Nat:=fl.getD 0
def BQ:KQ U.Ty->Box
 | .var e n x=>BO false false e n [AU U x]
 | .row t xs fl=>{ live:=true,row:=true,Dc:=false,elem:=t,Ag:=U.Ag t,xs:=xs.map (U.enc t),floor:=fl.getD 0 }
 | .dead=>PL
 | .gone=>Ry
 | .fvar e n x=>{ BO false false e n [AU U x] with floor:=1 }
abbrev Au:=List (KQ U.Ty)
def BC (H:Au U):Heap:=H.map (BQ U)
structure DI where
 s:List (SV U.Ty)
 H:Au U
def CB (st:DI U):St:=⟨Aj U st.s,BC U st.H⟩
inductive Tr (L:Type) where
 | leaf (l:L)
 | br (c:Bool) (a b:Tr L)
 | bind (t:Nat) (o:Option (U.Ty t)) (k:U.Ty t->Tr L)
 | chk (c:Bool) (a:Tr L)
 | fail
variable {U}
def Tr.andThen {L M:Type}:Tr U L->(L->Tr U M)->Tr U M
 | .leaf l,f=>f l
 | .br c a b,f=>.br c (a.andThen f) (b.andThen f)
 | .bind t o k,f=>.bind t o fun x=>(k x).andThen f
 | .chk c a,f=>.chk c (a.andThen f)
 | .fail,_=>.fail
def Tr.map {L M:Type} (g:L->M):Tr U L->Tr U M
 | .leaf l=>.leaf (g l)
 | .br c a b=>.br c (a.map g) (b.map g)
 | .bind t o k=>.bind t o fun x=>(k x).map g
 | .chk c a=>.chk c (a.map g)
 | .fail=>.fail
def Tr.den {L R:Type} (J:L->Option R):Tr U L->Option R
 | .leaf l=>J l
 | .br c a b=>cond c (a.den J) (b.den J)
 | .bind t o k=>o.bind fun x=>(k x).den J
 | .chk c a=>cond c (a.den J) none
 | .fail=>none
def Tr.AV {L:Type}:Tr U L->L->Prop
 | .leaf l,x=>l=x
 | .br c a b,x=>(c=true/\a.AV x)\/(c=false/\b.AV x)
 | .bind t o k,x=>∃a,o=some a/\(k a).AV x
 | .chk c a,x=>c=true/\a.AV x
 | .fail,_=>False
def Tr.opt {L:Type}:Option L->Tr U L
 | some l=>.leaf l
 | none=>.fail
def Tr.when {L:Type} (p:Prop) [Decidable p] (a:Tr U L):Tr U L:=if p then a else .fail
variable (U)
def Qm:V->SV U.Ty
 | .lit v=>.lit v
 | .sl true e []=>.nil e
 | .no=>.no
 | .und=>.und
 | v=>.raw v
def Jb:V->SV U.Ty
 | .agg cs=>.agg (cs.map (Qm U))
 | v=>Qm U v
variable {U}
def cellsS:SV U.Ty->List (SV U.Ty)
 | .agg cs=>cs
 | v=>[v]
def okS:SV U.Ty->Bool
 | .und | .no | .Ap _ | .O5 _ | .TR ..=>false
 | .raw (.agg _)=>false
 | .raw v=>okV v
 | _=>true
def Vz:SV U.Ty->Option Value
 | .lit v=>some v
 | .si k a=>some (.int k a)
 | .sb b=>some (.bool b)
 | .ss s=>some (.string s)
 | _=>none
def asInt:SV U.Ty->Option (IntKind×Int)
 | .lit (.int k a)=>some (k,a)
 | .si k a=>some (k,a)
 | _=>none
def J7:SV U.Ty->Option ByteArray
 | .lit (.string s)=>some s
 | .ss s=>some s
 | _=>none
def asBool:SV U.Ty->Option Bool
 | .lit (.bool b)=>some b
 | .sb b=>some b
 | _=>none
def CQ (E:Env) (s:List (SV U.Ty)):Operand->SV U.Ty
 | .tmp t=>s.getD t .und
 | .const v=>Jb U (PH v)
 | .func f=>.fn f [] []
 | .global g=>match E.D5 g with|some r=>.raw (.Bj r.length [.agg r] 0 0)|none=>.und
def Qr (s:List (SV U.Ty)) (d:Option Tmp) (v:SV U.Ty):List (SV U.Ty):=match d with|some t=>s.set t v|none=>s
def Ns (H:Au U) (k:Nat) (b:KQ U.Ty):Au U:=if k<H.length then H.set k b else H++[b]
def rowAt {L:Type} (H:Au U) (id tot:Nat) (k:(t:Nat)->List (U.Ty t)->Option Nat->Tr U L):Tr U L:=
 match H[id]? with
 | some (.row t xs fl)=>.chk (xs.length==tot) (k t xs fl)
 | _=>.fail
def Me (H:Au U):SV U.Ty->Tr U (SV U.Ty)
 | .lit v=>.leaf (.lit v)
 | .si k a=>.leaf (.si k a)
 | .sb b=>.leaf (.sb b)
 | .ss s=>.leaf (.ss s)
 | .nil e=>.leaf (.nil e)
 | .sl t xs=>.leaf (.sl t xs)
 | .CE t xs=>.leaf (.sl t xs)
 | .all id n=>rowAt H id n fun t xs _=>.leaf (.sl t xs)
 | .BK id off len tot=>rowAt H id tot fun t xs _=>.chk (decide (off+len<=tot)) (.leaf (.sl t ((xs.drop off).take len)))
 | .fn f [] []=>.leaf (.fn f [] [])
 | _=>.fail
def Sm (H:Au U):List (SV U.Ty)->Tr U (List (SV U.Ty))
 | []=>.leaf []
 | v::vs=>(Me H v).andThen fun w=>(Sm H vs).andThen fun ws=>.leaf (w::ws)
def Qn (H:Au U):SV U.Ty->Tr U (SV U.Ty)
 | .agg cs=>(Sm H cs).andThen fun ws=>.leaf (.agg ws)
 | v=>Me H v
def PM (H:Au U):List (SV U.Ty)->Tr U (List (SV U.Ty))
 | []=>.leaf []
 | v::vs=>(Qn H v).andThen fun w=>(PM H vs).andThen fun ws=>.leaf (w::ws)
def OC:SV U.Ty->List Nat
 | .BK id _ _ _=>[id]
 | .all id _=>[id]
 | .raw v=>Ec v
 | _=>[]
def LQ:SV U.Ty->List Nat
 | .agg cs=>cs.flatMap OC
 | .raw v=>DC v
 | v=>OC v
def jI:KQ U.Ty->KQ U.Ty
 | .row t xs _=>.row t xs (some xs.length)
 | b=>b
def Pe (H:Au U):List Nat->Au U
 | []=>H
 | i::z=>Pe (H.modify i jI) z
def Qg (cs:List (SV U.Ty)) (off n:Nat) (isAgg:Bool):Option (SV U.Ty):=
 if isAgg then (if off+n<=cs.length then some (.agg ((cs.drop off).take n)) else none) else cs[off]?
def Q3 (e:Nat):List (SV U.Ty)->Option (List (U.Ty e))
 | []=>some []
 | v::vs=>match okS v,U.Gq e v,Q3 e vs with|true,some a,some as=>some (a::as)|_,_,_=>none
def loadT (E:Env) (H:Au U) (t:TypeId) (a:SV U.Ty):Tr U (SV U.Ty):=
 match E.ti t with
 | none=>.fail
 | some i=>
  match a with
  | .Bj C xs j off=>.bind C xs[j]? fun x=>.opt (Qg (cellsS (U.encS C x)) off i.size i.isAgg)
  | .ptr id j off tot=>match H[id]? with
   | some (.var _ _ x)=>.when (j=0/\tot=1/\okS x=true) (.opt (Qg (cellsS x) off i.size i.isAgg))
   | some (.row C xs _)=>.chk (xs.length==tot) (.bind C xs[j]? fun x=>.opt (Qg (cellsS (U.encS C x)) off i.size i.isAgg))
   | _=>.fail
  | .raw (.Bj _ [.lit z] 0 0)=>.opt (Qg [.lit z] 0 i.size i.isAgg)
  | .raw (.Bj _ [.agg cs] 0 off)=>.opt ((partOf cs off i.size i.isAgg).map (Jb U))
  | .TR _ cs off=>match Q3 t (cs.map (Qm U)) with
   | some ys=>.when (i.size=1/\i.isAgg=false/\cs.all Ih=true) (.bind t ys[off]? fun x=>.leaf (U.encS t x))
   | none=>.fail
  | _=>.fail
def jS (x:SV U.Ty) (off:Nat) (cs:List (SV U.Ty)):Option (SV U.Ty):=
 match x with
 | .agg z=>if off+cs.length<=z.length then some (.agg (z.take off++cs++z.drop (off+cs.length))) else none
 | .raw _=>none
 | _=>match off,cs with|0,[c]=>some c|_,_=>none
def storeT (E:Env) (H:Au U) (t:TypeId) (a v:SV U.Ty):Tr U (Au U):=
 match E.ti t with
 | none=>.fail
 | some i=>
  match a with
  | .ptr id j off tot=>match H[id]? with
   | some (.var e n x)=>.when ((j=0/\tot=1)/\(cellsS v).length=i.size/\okS v=true/\okS x=true)
     (match jS x off (cellsS v) with
      | some z =>.when (okS z = true) (.leaf (H.set id (.var e n z)))
      | none=>.fail)
   | some (.row C xs fl)=>.when ((cellsS v).length=i.size/\okS v=true/\(LQ v).contains id=false)
     (.chk (xs.length==tot&&decide (fl.getD 0<=j)) (.bind C xs[j]? fun x=>(Qn H v).andThen fun v' =>
      match jS (U.encS C x) off (cellsS v') with
      | some z =>match U.Gq C z with
       | some y=>.when (okS v' = true/\okS z = true) (.leaf ((Pe H (LQ v)).set id (.row C (xs.set j y) fl)))
       | none=>.fail
      | none=>.fail))
   | _=>.fail
  | _=>.fail
end
section
variable {U:CX}
def intT (op:BinOp) (k:IntKind) (a b:Int) (lit:Bool):Tr U (SV U.Ty):=
 match op with
 | .add=>.leaf (.si k (k.wrap (a+b)))
 | .sub=>.leaf (.si k (k.wrap (a - b)))
 | .mul=>.leaf (.si k (k.wrap (a*b)))
 | .quo=>if lit then (if b=0 then .fail else .leaf (.si k (k.wrap (a.tdiv b)))) else .chk (b != 0) (.leaf (.si k (k.wrap (a.tdiv b))))
 | .rem=>if lit then (if b=0 then .fail else .leaf (.si k (a.tmod b))) else .chk (b != 0) (.leaf (.si k (a.tmod b)))
 | .and | .or | .xor | .andNot=>.leaf (.si k (bits op k a b))
 | .eql=>.leaf (.sb (a==b))
 | .neq=>.leaf (.sb (a != b))
 | .lss=>.leaf (.sb (decide (a<b)))
 | .leq=>.leaf (.sb (decide (a<=b)))
 | .gtr=>.leaf (.sb (decide (a>b)))
 | .geq=>.leaf (.sb (decide (a>=b)))
 | _=>.fail
def Zay (op:BinOp) (k:IntKind) (a b:Int):Option Int:=
 match op with
 | .shl=>some (k.wrap (a*2 ^ min b.toNat k.bits))
 | .shr=>some (a.fdiv (2 ^ min b.toNat k.bits))
 | _=>none
def kM (op:BinOp) (k:IntKind) (a b:Int) (lit:Bool):Tr U (SV U.Ty):=
 match Zay op k a b with
 | none=>.fail
 | some r=>if lit then (if b<0 then .fail else .leaf (.si k r)) else .chk (decide (0<=b)) (.leaf (.si k r))
def strT (op:BinOp) (x y:ByteArray):Tr U (SV U.Ty):=
 match op with
 | .add=>.chk (decide (x.size+y.size<=maxLen)) (.leaf (.ss (x++y)))
 | .eql=>.leaf (.sb (x.toList==y.toList))
 | .neq=>.leaf (.sb !(x.toList==y.toList))
 | .lss=>.leaf (.sb (Op.bytesLess x.toList y.toList))
 | .leq=>.leaf (.sb (Op.bytesLess x.toList y.toList||x.toList==y.toList))
 | .gtr=>.leaf (.sb !(Op.bytesLess x.toList y.toList||x.toList==y.toList))
 | .geq=>.leaf (.sb !(Op.bytesLess x.toList y.toList))
 | _=>.fail
def MP:List FK->List (SV U.Ty)->List (SV U.Ty)->Option Bool
 | [],[],[]=>some true
 | .b::z,x::xs,y::ys=>match asBool x,asBool y,MP z xs ys with|some a,some b,some r=>some (a==b&&r)|_,_,_=>none
 | .i k::z,x::xs,y::ys=>match asInt x,asInt y,MP z xs ys with
  | some (k1,a),some (k2,b),some r=>if k1=k/\k2=k then some (a==b&&r) else none
  | _,_,_=>none
 | .s::z,x::xs,y::ys=>match J7 x,J7 y,MP z xs ys with|some a,some b,some r=>some (a==b&&r)|_,_,_=>none
 | _,_,_=>none
def isLit:SV U.Ty->Bool | .lit _=>true|_=>false
def Z1q:SV U.Ty->SV U.Ty | .si k a=>.lit (.int k a) | .sb b=>.lit (.bool b)|v=>v
def binT (E:Env) (op:BinOp) (t:TypeId) (x y:SV U.Ty):Tr U (SV U.Ty):=
 match x,y with
 | .agg xs,.agg ys=>match E.flat t with
  | some z=>match MP z xs ys with
   | some b=>(match op with | .eql=>.leaf (.sb b) | .neq=>.leaf (.sb !b)|_=>.fail)
   | none=>.fail
  | none=>.fail
 | x,y=>match asInt x,asInt y with
  | some (k,a),some (j,b)=>(match op with
   | .shl=>kM .shl k a b (isLit y)
   | .shr=>kM .shr k a b (isLit y)
   | op=>if k=j then intT op k a b (isLit y) else .fail)
  | _,_=>match J7 x,J7 y with
   | some a,some b=>strT op a b
   | _,_=>match asBool x,asBool y with
    | some a,some b=>if E.isBool t then (match op with | .eql=>.leaf (.sb (a==b)) | .neq=>.leaf (.sb (!(a==b)))|_=>.fail) else .fail
    | _,_=>.fail
def unT (op:UnOp) (x:SV U.Ty):Tr U (SV U.Ty):=
 match op,asInt x,asBool x with
 | .neg,some (k,n),_=>.leaf (.si k (k.wrap (0 - n)))
 | .xor,some (k,n),_=>.leaf (.si k (bits .xor k (if k.signed then -1 else k.max) n))
 | .not,_,some b=>.leaf (.sb !b)
 | _,_,_=>.fail
def Yf (z:Bool) (k:IntKind):Int->List (SV U.Ty)->Option Int
 | a,[]=>some a
 | a,x::C=>match asInt x with
  | some (j,b)=>if k=j then Yf z k (if z then (if b>a then b else a) else (if b<a then b else a)) C else none
  | none=>none
def jJ (z:Bool):List (SV U.Ty)->Tr U (SV U.Ty)
 | x::C=>match asInt x with
  | some (k,a)=>(match Yf z k a C with|some r=>.leaf (.si k r)|none=>.fail)
  | none=>.fail
 | []=>.fail
def Qk (cs:List (SV U.Ty)):List (Nat×SV U.Ty)->(Nat->Option (Nat×Nat))->Option (List (SV U.Ty))
 | [],_=>some cs
 | (i,v)::z,place=>
  match place i with
  | none=>none
  | some (off,size)=>if (cellsS v).length==size&&decide (off+size<=cs.length)&&okS v then Qk (cs.take off++cellsS v++cs.drop (off+size)) z place else none
def Z0I (E:Env) (t:TypeId) (C:List (Nat×SV U.Ty)):Option (SV U.Ty):=
 match E.ti t with
 | some i=>match i.zero with
  | some z=>
   if okV z then
    match i.ty with
    | .struct fs=>if fs.all fun x=>(E.ti x.2).isSome then (Qk (cellsS (Jb U z)) C (placesOf E fs)).map .agg else none
    | .array _ e=>match E.ti e with
     | some D=>(Qk (cellsS (Jb U z)) C (fun i=>some (i*D.size,D.size))).map .agg
     | none=>none
    | _=>none
   else none
  | none=>none
 | none=>none
def yZ (E:Env) (k:Nat) (H:Au U) (t:TypeId) (n:Nat) (C:List (Nat×SV U.Ty)):Tr U (SV U.Ty×Au U):=
 match E.ti t with
 | some ⟨.slice e,_,_,_⟩=>match E.ti e with
  | some D=>match D.zero with
   | some z=>(PM H (C.map (·.2))).andThen fun vs=>match Q3 e vs with
    | some ys=>.when ((n*D.size<=16777216/\0<D.size/\z.cells.length=D.size/\okV z=true)/\C.map (·.1)=List.range n/\vs.all (fun v=>(cellsS v).length==D.size)=true/\U.Ag e=D.size)
      (.leaf (.all k n,Ns (Pe H ((C.map (·.2)).flatMap LQ)) k (.row e ys none)))
    | none=>.fail
   | none=>.fail
  | none=>.fail
 | _=>.fail
def zJ (E:Env) (s:TypeId) (x:SV U.Ty) (f:Nat):Option (SV U.Ty):=
 match E.ti s with
 | some ⟨.struct fs,_,_,_⟩=>match fs[f]? with
  | some (o,t)=>match E.size t with
   | some sz=>if sz=0 then none else match x with
    | .ptr id j off tot=>some (.ptr id j (off+o) tot)
    | .Bj d xs j off=>some (.Bj d xs j (off+o))
    | .raw (.Bj d xs j off)=>some (.raw (.Bj d xs j (off+o)))
    | _=>none
   | none=>none
  | none=>none
 | _=>none
def Z11 (E:Env) (s:TypeId) (x:SV U.Ty) (f:Nat):Option (SV U.Ty):=
 match E.ti s,x with
 | some ⟨.struct fs,_,_,_⟩,.agg cs=>match fs[f]? with
  | some (o,t)=>match E.ti t with|some i=>Qg cs o i.size i.isAgg|none=>none
  | none=>none
 | _,_=>none
def kD (H:Au U) (x:SV U.Ty) (e:Nat):Tr U (List (U.Ty e)):=
 let z (t:Nat) (xs:List (U.Ty t)):Tr U (List (U.Ty e)):=if h:t=e then .leaf (h▸xs) else .fail
 match x with
 | .nil _=>.leaf []
 | .sl t xs=>z t xs
 | .CE t xs=>z t xs
 | .all id n=>rowAt H id n fun t xs _=>z t xs
 | .BK id off len tot=>rowAt H id tot fun t xs _=>.chk (decide (off+len<=tot)) (z t ((xs.drop off).take len))
 | _=>.fail
def Z0y (E:Env) (k:Nat) (H:Au U) (t u:TypeId) (s x:SV U.Ty):Tr U (SV U.Ty×Au U):=
 match E.ti t with
 | some ⟨.slice e,_,_,_⟩=>match E.ti e with
  | some z=>.when (u=t/\0<z.size/\z.TQ=true/\U.Ag e=z.size) ((kD H x e).andThen fun ys=>
    match s with
    | .all id n=>rowAt H id n fun C xs fl=>if h:C = e then
      .chk (decide ((n+ys.length)*z.bytes<=lim)&&decide (n+ys.length<=maxLen))
       (.leaf (.all id ((h▸xs:List (U.Ty e))++ys).length,H.set id (.row e ((h▸xs:List (U.Ty e))++ys) fl)))
     else .fail
    | .BK id off len tot=>rowAt H id tot fun C xs fl=>if h:C = e then
      .chk (decide (off=0)&&(decide (fl.getD 0<=len)&&(decide (len<tot)&&decide (len+ys.length<=tot))))
       (.leaf (.BK id 0 (len+ys.length) tot,H.set id (.row e ((h▸xs:List (U.Ty e)).take len++ys++(h▸xs:List (U.Ty e)).drop (len+ys.length)) fl)))
     else .fail
    | .nil _=>.chk (decide (ys.length*z.bytes<=lim)&&decide (ys.length<=maxLen)) (.leaf (.all k ys.length,Ns H k (.row e ys none)))
    | .CE C xs=>if h:C = e then
      .chk (decide ((xs.length+ys.length)*z.bytes<=lim)&&decide (xs.length+ys.length<=maxLen))
       (.br ys.isEmpty (.leaf (.CE C xs,H)) (.leaf (.all k ((h▸xs:List (U.Ty e))++ys).length,Ns H k (.row e ((h▸xs:List (U.Ty e))++ys) none))))
     else .fail
    | _=>.fail)
  | none=>.fail
 | _=>.fail
def Z1r (E:Env) (H:Au U) (t u:TypeId) (d x:SV U.Ty):Tr U (SV U.Ty×Au U):=
 match E.ti t with
 | some ⟨.slice e,_,_,_⟩=>match E.ti e with
  | some z=>.when (U.Ag e=z.size) ((kD H x e).andThen fun ys=>
    match d with
    | .all id n=>rowAt H id n fun C xs fl=>if h:C = e then
      .when (fl.getD 0=0) (.leaf (.si .i64 (min ys.length xs.length:Nat),H.set id (.row e (ys.take xs.length++(h▸xs:List (U.Ty e)).drop ys.length) fl)))
     else .fail
    | _=>.fail)
  | none=>.fail
 | _=>.fail
def lenT (x:SV U.Ty):Option Nat:=
 match x with
 | .nil _=>some 0
 | .sl _ xs=>some xs.length
 | .CE _ xs=>some xs.length
 | .lit (.string s)=>some s.size
 | .ss s=>some s.size
 | _=>none
def NJ {L:Type} (H:Au U) (x:SV U.Ty) (k:Nat->Tr U L):Tr U L:=
 match x with
 | .all id n=>rowAt H id n fun _ _ _=>k n
 | .BK id _ len tot=>rowAt H id tot fun _ _ _=>k len
 | x=>match lenT x with|some n=>k n|none=>.fail
def SX (x:SV U.Ty):Bool:=(J7 x).isSome
def ZR (E:Env) (t:TypeId) (x:SV U.Ty):Bool:=
 if SX x then E.isStr t else match E.ti t with|some ⟨.slice _,_,_,_⟩=>true|_=>false
def Xz {L:Type} (x:Option (SV U.Ty)) (hi z:Nat) (k:Nat->Tr U L):Tr U L:=
 match x with
 | none=>k z
 | some v=>match asInt v with
  | some (_,n)=>.chk (decide (0<=n/\n<=hi)) (k n.toNat)
  | none=>.fail
def Z0M (E:Env) (H:Au U) (x:SV U.Ty) (n:Nat):Bool:=
 match x with
 | .nil _=>true
 | .sl t _=>U.Ag t==n
 | .CE t _=>U.Ag t==n
 | .all id _ | .BK id _ _ _=>match H[id]? with|some (.row t _ _)=>U.Ag t==n|_=>false
 | _=>false
def zS (E:Env) (H:Au U) (t:TypeId) (x:SV U.Ty):Bool:=
 if SX x then E.isStr t else match E.ti t with
  | some ⟨.slice e,_,_,_⟩=>match E.ti e with|some z=>Z0M E H x z.size|none=>false
  | _=>false
def sliceT (E:Env) (H:Au U) (t:TypeId) (x:SV U.Ty) (lo hi z:Option (SV U.Ty)):Tr U (SV U.Ty×Au U):=
 if zS E H t x then
  NJ H x fun n=>Xz hi n n fun h=>Xz lo h 0 fun l=>
   match z with
   | some m=>(match hi with
    | none=>.fail
    | some _=>Xz (some m) n n fun k=>.chk (k==h)
     (match x with
      | .sl e xs=>.leaf (.CE e ((xs.drop l).take (h - l)),H)
      | .CE e xs=>.leaf (.CE e ((xs.drop l).take (h - l)),H)
      | .all id n=>rowAt H id n fun e xs _=>.leaf (.CE e ((xs.drop l).take (h - l)),Pe H [id])
      | _=>.fail))
   | none=>match x with
    | .nil e=>.leaf (.nil e,H)
    | .sl e xs=>.leaf (.sl e ((xs.drop l).take (h - l)),H)
    | .CE e xs=>.leaf (.sl e ((xs.drop l).take (h - l)),H)
    | .all id n=>(match lo,hi with
     | none,none=>.leaf (.all id n,H)
     | _,_=>.leaf (.BK id l (h - l) n,H))
    | .BK id off _ tot=>.leaf (.BK id (off+l) (h - l) tot,H)
    | x=>match J7 x with
     | some s=>.leaf (.ss (s.extract l h),H)
     | none=>.fail
 else .fail
def ZA (x:Option (SV U.Ty)) (n:Nat):Option Nat:=match x with
 | none=>some n
 | some (.lit (.int _ h))=>if 0<=h/\h<=n then some h.toNat else none
 | _=>none
def Z0o (E:Env) (H:Au U) (n e:Nat) (x:SV U.Ty) (lo hi C:Option (SV U.Ty)):Tr U (SV U.Ty×Au U):=
 match x,lo,ZA hi n,C with
 | .ptr id i off tot,none,some m,none=>match H[id]? with
  | some (.var z k (.agg cs))=>match Q3 e cs with
   | some ys=>.when ((i=0/\off=0/\tot=1/\cs.length=n/\n<=maxLen)/\E.size e=some 1/\U.Ag e=1/\cs.all (fun c=>(Vz c).isSome)=true) (.leaf (.sl e (ys.take m),H.set id (.fvar z k (.agg cs))))
   | none=>.fail
  | _=>.fail
 | _,_,_,_=>.fail
def mY {L:Type} {t:Nat} (xs:List (U.Ty t)):Nat->Nat->(List Value->Tr U L)->Tr U L
 | _,0,k=>k []
 | i,n+1,k=>.bind t xs[i]? fun x=>match Vz (U.encS t x) with|some v=>mY xs (i+1) n fun vs=>k (v::vs)|none=>.fail
def arrT (E:Env) (t:TypeId) (x:SV U.Ty):Tr U (SV U.Ty):=
 match E.ti t,x with
 | some ⟨.array n e,_,_,_⟩,.sl z xs=>.when (E.size e=some 1/\U.Ag z = 1/\0<n) (mY xs 0 n fun vs=>.leaf (.raw (.Bj n [.agg (vs.map .lit)] 0 0)))
 | _,_=>.fail
def Ru {L:Type} (n:Int) (lit:Bool) (len:Nat) (k:Nat->Tr U L):Tr U L:=
 if lit then (if 0<=n/\n<len then k n.toNat else .fail)
 else (List.range len).foldr (fun(i:Nat) z=>.br (n==(i:Int)) (k i) z) .fail
def zW (E:Env) (H:Au U) (t:TypeId) (x i:SV U.Ty):Tr U (SV U.Ty):=
 match asInt i,E.ti t with
 | some (_,n),some ti=>
  match ti.ty with
  | .slice C=>(match x with
   | .sl z xs=>.when (E.size C=some (U.Ag z)) (.chk (decide (0<=n/\n<xs.length)) (.leaf (.Bj z xs n.toNat 0)))
   | .CE z xs=>.when (E.size C=some (U.Ag z)) (.chk (decide (0<=n/\n<xs.length)) (.leaf (.Bj z xs n.toNat 0)))
   | .all id m=>rowAt H id m fun z xs _=>.when (E.size C=some (U.Ag z)) (.chk (decide (0<=n/\n<m)) (.leaf (.ptr id n.toNat 0 m)))
   | .BK id off len tot=>rowAt H id tot fun z xs _=>.when (E.size C=some (U.Ag z)) (.chk (decide (0<=n/\n<len)) (.leaf (.ptr id (off+n.toNat) 0 tot)))
   | _=>.fail)
  | .array len e=>(match E.size e with
   | none=>.fail
   | some sz=>match x with
    | .ptr id j off tot=>Ru n (isLit i) len fun m=>.leaf (.ptr id j (off+m*sz) tot)
    | .Bj d xs j off=>Ru n (isLit i) len fun m=>.leaf (.Bj d xs j (off+m*sz))
    | .raw (.Bj d [.agg cs] 0 0)=>if (decide (sz=1)&&(cs.all Ih && !isLit i))=true then .chk (decide (0<=n/\n<len)) (.leaf (.TR d cs n.toNat))
     else Ru n (isLit i) len fun m=>.leaf (.raw (.Bj d [.agg cs] 0 (0+m*sz)))
    | .raw (.Bj d xs j off)=>Ru n (isLit i) len fun m=>.leaf (.raw (.Bj d xs j (off+m*sz)))
    | _=>.fail)
  | _=>.fail
 | _,_=>.fail
def Z0H (E:Env) (t:TypeId) (x i:SV U.Ty):Tr U (SV U.Ty):=
 match asInt i with
 | some (_,n)=>
  match E.ti t,x with
  | some ⟨.array len e,_,_,_⟩,.agg cs=>match E.ti e with
   | some z=>Ru n (isLit i) len fun m=>.opt (Qg cs (m*z.size) z.size z.isAgg)
   | none=>.fail
  | some ⟨.scalar,_,_,_⟩,x=>match J7 x with
   | some s=>if E.isStr t then .chk (decide (0<=n/\n<s.size)) (.leaf (.si .u8 (s.get! n.toNat).toNat)) else .fail
   | none=>.fail
  | _,_=>.fail
 | none=>.fail
def Nq (U:CX) (t:Nat) (xs:List (U.Ty t)):Bool:=match bytesOf (xs.map (U.enc t)) with|some bs=>decide (bs.length<=maxLen)|none=>false
def strOf (U:CX) (t:Nat) (xs:List (U.Ty t)):ByteArray:=⟨((bytesOf (xs.map (U.enc t))).getD []).toArray⟩
def Vh (t:Nat) (xs:List (U.Ty t)):Tr U (SV U.Ty):=.when (U.Ag t=1) (.chk (Nq U t xs) (.leaf (.ss (strOf U t xs))))
def Z16 (E:Env) (H:Au U) (src dst:TypeId) (x:SV U.Ty):Tr U (SV U.Ty):=
 .when ((E.isStr dst&&E.isBytes src)=true) (match x with
  | .nil _=>.leaf (.ss ⟨#[]⟩)
  | .sl t xs=>Vh t xs
  | .CE t xs=>Vh t xs
  | .all id n=>rowAt H id n fun t xs _=>Vh t xs
  | .BK id off len tot=>rowAt H id tot fun t xs _=>.chk (decide (off+len<=tot)) (Vh t ((xs.drop off).take len))
  | _=>.fail)
def Z1h (E:Env) (H:Au U) (src dst:TypeId) (x:SV U.Ty):Tr U (SV U.Ty):=
 match asInt x with
 | some (_,n)=>(match E.kind dst with
  | some k=>if (E.ti src).isSome then .leaf (.si k (k.wrap n)) else .fail
  | none=>.fail)
 | none=>match J7 x with
  | some s=>if E.isStr src&&E.isStr dst then .leaf (.ss s) else .fail
  | none=>Z16 E H src dst x
def lY (U:CX) (e:Nat) (st:ByteArray):Bool:=st.data.toList.all fun b=>(U.Gq e (.si .u8 b.toNat)).isSome
def Ku (U:CX) (e:Nat) (st:ByteArray):List (U.Ty e):=st.data.toList.filterMap fun b=>U.Gq e (.si .u8 b.toNat)
def Z0P (E:Env) (k:Nat) (H:Au U) (dst:TypeId) (x:SV U.Ty):Tr U (SV U.Ty×Au U):=
 match J7 x,E.ti dst with
 | some st,some ⟨.slice e,_,_,_⟩=>.when (E.size e=some 1/\U.Ag e=1) (.chk (lY U e st) (.leaf (.all k (Ku U e st).length,Ns H k (.row e (Ku U e st) none))))
 | _,_=>.fail
abbrev IK (U:CX):=FuncId->List (SV U.Ty)->Au U->Tr U (SV U.Ty×Au U)
def lU (x:SV U.Ty):Option (Int×Bool):=match x with | .lit (.int _ n)=>some (n,true) | .si _ n=>some (n,false)|_=>none
def JL (H:Au U) (T:Tr U (SV U.Ty)):Tr U (SV U.Ty×Au U):=T.andThen fun v=>.leaf (v,H)
def Z1u (E:Env) (M:IK U) (k:Nat) (H:Au U) (s:List (SV U.Ty)) (c:Call):Tr U (SV U.Ty×Au U):=
 match c.callee with
 | .builtin b=>(match b,c.args.toList.map (CQ E s),c.argTypes.toList with
  | .len,[x],[t]=>if ZR E t x then NJ H x fun n=>.leaf (.si .i64 n,H) else .fail
  | .append,[a,x],[t,u]=>Z0y E k H t u a x
  | .copy,[d,x],[t,u]=>Z1r E H t u d x
  | .min,args,_=>JL H (jJ false args)
  | .max,args,_=>JL H (jJ true args)
  | _,_,_=>.fail)
 | .value f=>(match CQ E s f with
  | .fn g first caps=>M g (first++c.args.toList.map (CQ E s)++caps) H
  | _=>.fail)
 | _=>.fail
def Pm {L:Type} (kd:IntKind) (n:Int) (lit:Bool) (z:Tr U L) (f:SV U.Ty->Tr U L):List (SV U.Ty)->Tr U L
 | []=>z
 | .lit (.int k a)::v::r=>.when (k=kd) (if lit then (if n=a then f v else Pm kd n lit z f r) else .br (n==a) (f v) (Pm kd n lit z f r))
 | _=>.fail
def Z1v (E:Env) (t:TypeId) (ok:Bool) (m x:SV U.Ty):Tr U (SV U.Ty):=
 match E.ti t,m,asInt x with
 | some ⟨.map k e,_,_,_⟩,.O5 kvs,some (kd,n)=>.when (E.kind k=some kd)
  (Pm kd n (isLit x) (match E.ti e with|some C=>(match C.zero with|some z=>.leaf (if ok then .Ap [Jb U z,.lit (.bool false)] else Jb U z)|none=>.fail)|none=>.fail)
   (fun v=>.leaf (if ok then .Ap [v,.lit (.bool true)] else v)) kvs)
 | _,_,_=>.fail
def Yc (E:Env) (M:IK U) (k:Nat) (H:Au U) (s:List (SV U.Ty)) (o:Oper):Tr U (SV U.Ty×Au U):=
 match o.op with
 | .move x=>.leaf (CQ E s x,H)
 | .assign (.const (.slice none 0 0))=>match E.ti o.type with
  | some ⟨.slice e,_,_,_⟩=>.when (U.Ag e=(E.size e).getD 0) (.leaf (.all k 0,Ns H k (.row e [] none)))
  | _=>.fail
 | .assign x=>.leaf (CQ E s x,H)
 | .pick c a b=>(match CQ E s c with
  | .lit (.bool true)=>.leaf (CQ E s a,H)
  | .lit (.bool false)=>.leaf (CQ E s b,H)
  | .sb t=>(match asBool (CQ E s a),asBool (CQ E s b) with
   | some x,some y=>.leaf (.sb (cond t x y),H)
   | _,_=>.br t (.leaf (CQ E s a,H)) (.leaf (CQ E s b,H)))
  | _=>.fail)
 | .alloc t=>match E.ti t with
  | some i=>match i.zero with|some z=>.when (z.cells.length=i.size/\okV z=true) (.leaf (.ptr k 0 0 1,Ns H k (.var t i.size (Jb U z))))|none=>.fail
  | none=>.fail
 | .box t x=>match E.ti t with
  | some i=>.when ((cellsS (CQ E s x)).length=i.size/\okS (CQ E s x)=true) (.leaf (.ptr k 0 0 1,Ns H k (.var t i.size (CQ E s x))))
  | none=>.fail
 | .build t C=>JL H (.opt (Z0I E t (C.toList.map fun(i,x)=>(i,CQ E s x))))
 | .buildSlice t n C=>yZ E k H t n (C.toList.map fun(i,x)=>(i,CQ E s x))
 | .load t a=>JL H (loadT E H t (CQ E s a))
 | .store t a v=>(storeT E H t (CQ E s a) (CQ E s v)).andThen fun H' =>.leaf (.no,H')
 | .nilCheck x=>(match CQ E s x with
  | .ptr a b c d=>.leaf (.ptr a b c d,H)
  | .Bj a b c d=>.leaf (.Bj a b c d,H)
  | .raw (.Bj a b c d)=>.leaf (.raw (.Bj a b c d),H)
  | .fn a b c=>.leaf (.fn a b c,H)
  | _=>.fail)
 | .binOp op t x y _=>JL H ((binT E op t (CQ E s x) (CQ E s y)).andThen fun v=>.leaf (if isLit (CQ E s x)&&isLit (CQ E s y) then Z1q v else v))
 | .unOp op _ x=>JL H (unT op (CQ E s x))
 | .convert src dst x=>if E.isStr src&&E.isBytes dst then Z0P E k H dst (CQ E s x) else JL H (Z1h E H src dst (CQ E s x))
 | .makeSlice t l c=>match E.ti t with
  | some ⟨.slice e,_,_,_⟩=>(match lU (CQ E s l),lU (CQ E s c),E.ti e with
   | some (n,_),some (m,_),some D=>(match D.zero with
    | some z=>(match U.Gq e (Jb U z) with
     | some y=>.when (0<D.size/\z.cells.length=D.size/\okV z=true/\U.Ag e=D.size)
       (.chk (decide (0<=n/\n<=m/\m.toNat*D.bytes<=lim/\m<=maxLen)) (.leaf (.all k (List.replicate n.toNat y).length,Ns H k (.row e (List.replicate n.toNat y) none))))
     | none=>.fail)
    | none=>.fail)
   | _,_,_=>.fail)
  | _=>.fail
 | .slice t x lo hi G=>match E.ti t with
  | some ⟨.array n e,_,_,_⟩=>Z0o E H n e (CQ E s x) (lo.map (CQ E s)) (hi.map (CQ E s)) (G.map (CQ E s))
  | _=>sliceT E H t (CQ E s x) (lo.map (CQ E s)) (hi.map (CQ E s)) (G.map (CQ E s))
 | .sliceToArrayPointer t x=>JL H (arrT E t (CQ E s x))
 | .fieldAddr t x f=>JL H (.opt (zJ E t (CQ E s x) f))
 | .field t x f=>JL H (.opt (Z11 E t (CQ E s x) f))
 | .indexAddr t x i=>JL H (zW E H t (CQ E s x) (CQ E s i))
 | .index t x i=>JL H (Z0H E t (CQ E s x) (CQ E s i))
 | .extract x i=>(match CQ E s x with | .Ap vs=>JL H (.opt vs[i]?)|_=>.fail)
 | .lookup t m x ok=>JL H (Z1v E t ok (CQ E s m) (CQ E s x))
 | .makeFunc (.func f) first caps=>.leaf (.fn f (first.toList.map (CQ E s)) (caps.toList.map (CQ E s)),H)
 | .call c=>Z1u E M k H s c
 | _=>.fail
def stepT (E:Env) (M:IK U) (ops:Array Oper) (k i:Nat) (st:DI U):Tr U (DI U):=
 match ops[i]? with
 | none=>.leaf st
 | some o=>
  let run (st:DI U):Tr U (DI U):=(Yc E M k st.H st.s o).andThen fun r=>.leaf ⟨Qr st.s o.dst r.1,r.2⟩;let skip (st:DI U):Tr U (DI U):=.leaf ⟨Qr st.s o.dst .no,st.H⟩
  match o.guard with
  | none=>run st
  | some (j,z)=>
   match (ops[j]?).bind (·.dst) with
   | none=>.fail
   | some d=>(match st.s.getD d .und with
    | .no=>skip st
    | .lit (.bool true)=>if z then run st else skip st
    | .lit (.bool false)=>if z then skip st else run st
    | .sb b=>.br b (if z then run ⟨st.s.set d (.lit (.bool true)),st.H⟩ else skip ⟨st.s.set d (.lit (.bool true)),st.H⟩)
      (if z then skip ⟨st.s.set d (.lit (.bool false)),st.H⟩ else run ⟨st.s.set d (.lit (.bool false)),st.H⟩)
    | _=>.fail)
def opsT (E:Env) (M:IK U) (ops:Array Oper):List Nat->DI U->Tr U (DI U)
 | [],st=>.leaf st
 | i::z,st=>(stepT E M ops st.H.length i st).andThen (opsT E M ops z)
def Qh:SV U.Ty->List Nat
 | .BK id _ _ _=>[id]
 | .all id _=>[id]
 | .ptr id _ _ _=>[id]
 | .raw v=>Dh v
 | _=>[]
def Z0E:SV U.Ty->List Nat
 | .agg cs=>cs.flatMap Qh
 | .raw v=>YN v
 | v=>Qh v
def YV:SV U.Ty->List Nat
 | .agg cs=>cs.flatMap Qh
 | .fn _ a b=>(a++b).flatMap Z0E
 | .raw v=>CJ v
 | v=>Qh v
def Zbe:SV U.Ty->Bool | .fn _ _ _=>true | .raw v=>nH v|_=>false
def Z0X (E:Env):SV U.Ty->Bool
 | .fn g a b=>Qo E g&&(a++b).all (fun v=>!Zbe v)
 | _=>false
def Z0Z (E:Env) (s:List (SV U.Ty)) (o:Oper):Bool:=
 match o.op with
 | .call c=>(match c.callee with
  | .value (.tmp t)=>!(E.quiet&&o.type != 0)||Z0X E (s.getD t .und)
  | _=>true)
 | _=>true
def VS (E:Env) (s:List (SV U.Ty)) (o:Oper):List Nat:=o.op.operands.toList.flatMap fun x=>YV (CQ E s x)
def Zb4:KQ U.Ty->Bool | .dead=>true|_=>false
def VK (E:Env) (s:List (SV U.Ty)) (o:Oper):SV U.Ty:=match Iy o with|some a=>CQ E s a|_=>.no
def Z0A (H:Au U) (a:SV U.Ty) (k:Nat):Bool:=match a with
 | .ptr id _ _ tot=>id==k&&(match H[id]? with|some (.var _ _ _)=>tot==1|_=>false)
 | .all id _=>id==k&&(match H[id]? with|some (.row _ _ _)=>true|_=>false)
 | _=>false
def YK (base:Nat) (s0:List (SV U.Ty)):Nat⊕Nat->Option Nat
 | .inl j=>some (base+j)
 | .inr d=>match s0.getD d .und with | .ptr id _ _ _=>some id | .all id _=>some id|_=>none
def Z1t (E:Env) (ms:List Nat) (lt:List (Nat×(Nat⊕Nat))) (s0:List (SV U.Ty)) (base i:Nat) (s:List (SV U.Ty)) (H:Au U) (o:Oper):Bool:=
 lt.all fun p=>match YK base s0 p.2 with
  | none=>false
  | some k=>if p.1=i then Z0A H (VK E s o) k else !needs E o||(linked ms p.1 i || !(VS E s o).contains k)
def lZ (E:Env) (ops:Array Oper) (base:Nat) (s0:List (SV U.Ty)) (o:Oper):Option Nat:=match o.op with
 | .load _ (.tmp d)=>(rootOf E ops 12 d).bind (YK base s0)
 | _=>none
def Z15 (E:Env) (ops:Array Oper) (ms:List Nat) (lt:List (Nat×(Nat⊕Nat))) (s0:List (SV U.Ty)) (base i:Nat) (s:List (SV U.Ty)) (o:Oper):Bool:=
 (List.range ops.size).all fun j=>match ops[j]? with
  | none=>true
  | some z=>linked ms i j||((!(isApp o&&Io z)||(lt.any (fun p=>p.1==i)||(match lZ E ops base s0 z,VK E s o with|some n,.all id _=>id != n|_,_=>false))) &&
    (!(Io o&&isApp z)||(lt.any (fun p=>p.1==j)||(match lZ E ops base s0 o with|some n=>(VS E s o).all (fun i=>i==n)|none=>false))))
def ZaT:KQ U.Ty->Bool | .dead=>true | .var _ _ _=>true|_=>false
def nD (ops:Array Oper) (base:Nat) (H:Au U):Bool:=
 (List.range ops.size).all fun j=>match ops[j]? with|some z=>!OU z||(match H[base+j]? with|some b=>ZaT b|none=>false)|none=>true
def Z0K (E:Env) (M:IK U) (ops:Array Oper) (ms:List Nat) (lt:List (Nat×(Nat⊕Nat))) (s0:List (SV U.Ty)) (base m i:Nat) (st:DI U):Tr U (DI U):=
 match ops[i]? with
 | none=>.leaf st
 | some o=>
  .when ((VS E st.s o).all (fun id=>decide (id<base)||(decide (base+m<=id)&&VO E ops ms i)||(decide (id<base+m)&&(ms.getD i 0).testBit (id - base)))=true) (.when ((Z0Z E st.s o&&Z15 E ops ms lt s0 base i st.s o&&Z1t E ms lt s0 base i st.s st.H o&&(!IC E o||(decide (base+m<=st.H.length)&&(!Hr E o||nD ops base st.H))))=true)
   (if BU E o = .a then
    match st.H[base+i]? with
    | some b=>if Zb4 b then stepT E M ops (base+i) i st else .fail
    | none=>.fail
    else stepT E M ops st.H.length i st))
def Xh (E:Env) (M:IK U) (ops:Array Oper) (ms:List Nat) (lt:List (Nat×(Nat⊕Nat))) (s0:List (SV U.Ty)) (base m:Nat):List Nat->DI U->Tr U (DI U)
 | [],st=>.leaf st
 | i::z,st=>(Z0K E M ops ms lt s0 base m i st).andThen (Xh E M ops ms lt s0 base m z)
def mV (E:Env) (M:IK U) (ops:Array Oper) (st:DI U):Tr U (DI U):=
 let m:=if ops.any (fun o=>decide (BU E o = .a)) then ops.size else 0
 Xh E M ops (F8 [] ops.toList) (P7 E ops) st.s st.H.length m (List.range ops.size) ⟨st.s,st.H++List.replicate m .dead⟩
end
structure Cm (U:CX) (E:Env):Prop where
 encS:∀t a,AU U (U.encS t a)=U.enc t a
 dec:∀t v a,U.Gq t v=some a->DX (E.rows t) (AU U v)=U.enc t a
 cells:∀t a,(U.enc t a).cells=Aj U (cellsS (U.encS t a))
 nr:∀t a,Bz (U.enc t a)=true
 inj:∀t∈U.keys,∀a b,U.enc t a=U.enc t b->a=b
section
variable {U:CX}
theorem Eb (xs:List (SV U.Ty)):Aj U xs=xs.map (AU U):=by
 induction xs with
 | nil=>rfl
 | cons x xs z=>simp[Aj,z]
theorem Uu (s:List (SV U.Ty)) (t:Nat):(Aj U s).getD t .und=AU U (s.getD t .und):=by
 rw[Eb];simp only[List.getD,List.getElem?_map];cases s[t]?<;>rfl
theorem ZZ (v:V):AU U (Qm U v)=v:=by
 unfold Qm;split<;>rfl
theorem VM (v:V):AU U (Jb U v)=v:=by
 unfold Jb;split
 ·rename_i cs;simp only[AU,Eb,List.map_map,V.agg.injEq]
  conv=>rhs;rw[<- List.map_id cs]
  apply List.map_congr_left;intro x _;exact ZZ x
 ·exact ZZ _
theorem FX (E:Env) (s:List (SV U.Ty)) (x:Operand):ev E (Aj U s) x=AU U (CQ E s x):=by
 cases x with
 | tmp t=>exact Uu s t
 | const v=>simp only[ev,CQ,VM]
 | func f=>rfl
 | global g=>simp only[ev,CQ];cases E.D5 g<;>rfl
theorem Zah (E:Env) (s:List (SV U.Ty)) (xs:List Operand):xs.map (ev E (Aj U s))=Aj U (xs.map (CQ E s)):=by
 rw[Eb (xs.map (CQ E s)),List.map_map];apply List.map_congr_left;intro x _;exact FX E s x
theorem Za6 (s:List (SV U.Ty)) (d:Option Tmp) (v:SV U.Ty):Aj U (Qr s d v)=setSlot (Aj U s) d (AU U v):=by
 unfold Qr setSlot;cases d with
 | none=>rfl
 | some t=>simp only[Eb,List.map_set]
theorem Oj (H:Au U):(BC U H).length=H.length:=by simp[BC]
theorem KH (H:Au U) (i:Nat):(BC U H)[i]? = (H[i]?).map (BQ U):=by simp[BC]
theorem PN (H:Au U) (i:Nat) (b:KQ U.Ty):BC U (H.set i b)=(BC U H).set i (BQ U b):=by simp[BC,List.map_set]
theorem QV (H:Au U) (k:Nat) (b:KQ U.Ty):BC U (Ns H k b)=place (BC U H) k (BQ U b):=by
 unfold Ns place;rw[Oj];split
 ·exact PN H k b
 ·simp[BC]
theorem PI {x:SV U.Ty} (h:okS x=true):okV (AU U x)=true:=by
 cases x<;>simp_all [okS,AU,okV]
 grind
theorem Ri {x:SV U.Ty} (h:okS x=true):(AU U x).cells=Aj U (cellsS x):=by
 cases x<;>simp_all [okS,AU,V.cells,cellsS,Aj]
 grind
theorem Dn {L M:Type} (T:Tr U L) (f:L->Tr U M) (y:M):(T.andThen f).AV y↔∃x,T.AV x/\(f x).AV y:=by
 induction T with
 | leaf l=>simp[Tr.andThen,Tr.AV]
 | br c a b C D=>
  simp only[Tr.andThen,Tr.AV,C,D]
  grind
 | bind t o k z=>
  simp only[Tr.andThen,Tr.AV,z]
  grind
 | chk c a z=>
  simp only[Tr.andThen,Tr.AV,z]
  grind
 | fail=>simp[Tr.andThen,Tr.AV]
theorem Nl {L:Type} {o:Option L} {x:L}:(Tr.opt (U:=U) o).AV x↔o=some x:=by
 cases o<;>simp[Tr.opt,Tr.AV]
theorem ER {L:Type} {p:Prop} [Decidable p] {a:Tr U L} {x:L}:(Tr.when p a).AV x↔p/\a.AV x:=by
 unfold Tr.when;split<;>simp_all [Tr.AV]
theorem Gw {L:Type} {H:Au U} {id tot:Nat} {k:(t:Nat)->List (U.Ty t)->Option Nat->Tr U L} {y:L} (h:(rowAt H id tot k).AV y) :
  ∃t xs fl,H[id]? = some (.row t xs fl)/\xs.length=tot/\(k t xs fl).AV y/\Cc (BC U H) id tot=some (BQ U (.row t xs fl)):=by
 unfold rowAt at h;split at h
 ·rename_i t xs fl hb;simp only[Tr.AV,beq_iff_eq]at h;refine⟨t,xs,fl,hb,h.1,h.2,?_⟩;unfold Cc;rw[KH,hb];simp[BQ,h.1]
 ·simp[Tr.AV]at h
theorem Z05 {H:Au U} {x y:SV U.Ty} (h:(Me H x).AV y):F9 (BC U H) (AU U x)=some (AU U y):=by
 unfold Me at h;split at h<;>(try (simp only[Tr.AV]at h;subst h;rfl))
 ·obtain⟨t,xs,fl,G,D,z,C⟩:=Gw h;simp only[Tr.AV]at z;subst z;subst D;simp only[AU,F9,C];simp only[BQ,Nat.zero_add,Nat.le_refl,decide_true,Bool.and_self,if_true,List.drop_zero,Option.some.injEq,V.sl.injEq,true_and];exact List.take_of_length_le (by simp)
 ·obtain⟨t,xs,fl,G,D,z,C⟩:=Gw h;simp only[Tr.AV,decide_eq_true_eq]at z;obtain⟨z,rfl⟩:=z;simp only[AU,F9,C];simp[BQ,z,List.map_take,List.map_drop]
 ·simp[Tr.AV]at h
theorem Zou {H:Au U}:∀{xs ys:List (SV U.Ty)},(Sm H xs).AV ys->J8 (BC U H) (Aj U xs)=some (Aj U ys):=by
 intro xs;induction xs with
 | nil=>intro ys h;simp only[Sm,Tr.AV]at h;subst h;rfl
 | cons x xs D=>
  intro ys h;simp only[Sm,Dn,Tr.AV]at h;obtain⟨w,z,ws,C,rfl⟩:=h;simp only[Aj,J8,Z05 z,D C]
theorem jM {H:Au U} {x y:SV U.Ty} (h:(Qn H x).AV y):H9 (BC U H) (AU U x)=some (AU U y):=by
 unfold Qn at h;split at h
 ·rename_i cs;simp only[Dn,Tr.AV]at h;obtain⟨ws,z,rfl⟩:=h;simp only[AU,H9,Zou z,Option.map_some]
 ·rename_i D;have:=Z05 h;unfold H9;split
  ·rename_i cs C;exfalso;cases x<;>simp_all [AU,Me,Tr.AV]
  ·exact this
theorem zF {H:Au U}:∀{xs ys:List (SV U.Ty)},(PM H xs).AV ys->FC (BC U H) (Aj U xs)=some (Aj U ys):=by
 intro xs;induction xs with
 | nil=>intro ys h;simp only[PM,Tr.AV]at h;subst h;rfl
 | cons x xs D=>
  intro ys h;simp only[PM,Dn,Tr.AV]at h;obtain⟨w,z,ws,C,rfl⟩:=h;simp only[Aj,FC,jM z,D C]
theorem Z9e (x:SV U.Ty):Ec (AU U x)=OC x:=by
 cases x<;>simp[AU,Ec,OC]
theorem Z02 (x:SV U.Ty):DC (AU U x)=LQ x:=by
 cases x<;>simp[AU,DC,LQ,OC,Ec];rename_i cs;rw[Eb,List.flatMap_map];simp[Z9e]
theorem ZC (xs:List (SV U.Ty)):(Aj U xs).flatMap DC=xs.flatMap LQ:=by
 rw[Eb,List.flatMap_map];simp[Z02]
theorem Z93 (x:SV U.Ty):Dh (AU U x)=Qh x:=by
 cases x<;>simp[AU,Dh,Qh]
theorem ZmC (x:SV U.Ty):YN (AU U x)=Z0E x:=by
 cases x<;>simp[AU,YN,Z0E,Qh,Dh];rename_i cs;rw[Eb,List.flatMap_map];simp[Z93]
theorem ZnO (x:SV U.Ty):CJ (AU U x)=YV x:=by
 cases x with
 | agg cs=>
  simp only[AU,CJ,YV];rw[Eb,List.flatMap_map];simp[Z93]
 | fn f a b=>
  simp only[AU,CJ,YV];rw[Eb,Eb,<- List.map_append,List.flatMap_map];simp[ZmC]
 | _=>simp[AU,CJ,YV,Qh,Dh]
theorem VJ (H:Au U):∀(ids:List Nat),(∀i∈ids,∃t xs fl,H[i]? = some (.row t xs fl))->BC U (Pe H ids)=bump (BC U H) ids:=by
 intro ids;induction ids generalizing H with
 | nil=>intro _;rfl
 | cons i I G=>
  intro h;simp only[Pe,bump];have C:BC U (H.modify i jI)=(BC U H).modify i fun b=>{ b with floor:=b.xs.length }:=by
   apply List.ext_getElem?;intro j;simp only[BC,List.getElem?_map,List.getElem?_modify]
   by_cases z:i=j
   ·subst z;obtain⟨t,xs,fl,hb⟩:=h i (by simp);simp[hb,jI,BQ]
   ·simp[z]
  rw[G,C];intro j D;obtain⟨t,xs,fl,hb⟩:=h j (by simp[D])
  by_cases z:i=j
  ·subst z;exact⟨t,xs,some xs.length,by simp[List.getElem?_modify,hb,jI]⟩
  simp_all
theorem zK {H:Au U} {x y:SV U.Ty} (h:(Me H x).AV y):∀i∈OC x,∃t xs fl,H[i]? = some (.row t xs fl):=by
 intro i hi;unfold Me at h;split at h<;>(try (simp[OC]at hi))
 ·obtain⟨t,xs,fl,z,_⟩:=Gw h
  simp_all
 ·obtain⟨t,xs,fl,z,_⟩:=Gw h
  simp_all
 ·simp[Tr.AV]at h
theorem Zl5 {H:Au U}:∀{xs ys:List (SV U.Ty)},(Sm H xs).AV ys->∀i∈xs.flatMap OC,∃t xs fl,H[i]? = some (.row t xs fl):=by
 intro xs;induction xs with
 | nil=>simp_all
 | cons x xs D=>
  intro ys h i hi;simp only[Sm,Dn,Tr.AV]at h;obtain⟨w,z,ws,C,rfl⟩:=h;simp only[List.flatMap_cons,List.mem_append]at hi;rcases hi with hi|hi
  ·exact zK z i hi
  ·exact D C i hi
theorem Z8j {H:Au U} {x y:SV U.Ty} (h:(Qn H x).AV y):∀i∈LQ x,∃t xs fl,H[i]? = some (.row t xs fl):=by
 unfold Qn at h;split at h
 ·simp only[Dn,Tr.AV]at h;obtain⟨ws,z,rfl⟩:=h;exact Zl5 z
 ·rename_i C;intro i hi;refine zK h i ?_;cases x<;>simp_all [LQ,OC];simp[Me,Tr.AV]at h
theorem Z6v {H:Au U}:∀{xs ys:List (SV U.Ty)},(PM H xs).AV ys->∀i∈xs.flatMap LQ,∃t xs fl,H[i]? = some (.row t xs fl):=by
 intro xs;induction xs with
 | nil=>simp_all
 | cons x xs D=>
  intro ys h i hi;simp only[PM,Dn,Tr.AV]at h;obtain⟨w,z,ws,C,rfl⟩:=h;simp only[List.flatMap_cons,List.mem_append]at hi;rcases hi with hi|hi
  ·exact Z8j z i hi
  ·exact D C i hi
theorem VI (cs:List (SV U.Ty)) (off n:Nat) (b:Bool):partOf (Aj U cs) off n b=(Qg cs off n b).map (AU U):=by
 unfold partOf Qg;simp only[Eb,List.length_map];split
 ·split
  ·simp[AU,Eb,List.map_take,List.map_drop]
  ·rfl
 ·simp
theorem Iu (cs:List (SV U.Ty)):(Aj U cs).length=cs.length:=by simp[Eb]
theorem Z7C {x:SV U.Ty} {off:Nat} {cs:List (SV U.Ty)} {y:SV U.Ty} (h:jS x off cs=some y):Kz (AU U x) off (Aj U cs)=some (AU U y):=by
 unfold jS at h;split at h
 ·rename_i ds;split at h
  ·rename_i z;simp only[Option.some.injEq]at h;subst h;simp only[AU,Kz,Iu,z,if_true];simp[Eb,List.map_take,List.map_drop]
  ·cases h
 ·cases h
 ·rename_i D G;split at h
  ·rename_i c;simp only[Option.some.injEq]at h;subst h;have:∀ds,AU U x≠.agg ds:=by
    intro ds C;cases x<;>simp_all [AU]
   unfold Kz;split
   ·simp_all
   ·simp[Aj]
  ·cases h
theorem ZL {H:Au U} {id:Nat} {e n:Nat} {x:SV U.Ty} (h:H[id]? = some (.var e n x)):Cc (BC U H) id 1=some (BO false false e n [AU U x]):=by
 unfold Cc;rw[KH,h];simp[BQ,BO]
theorem Z8A {H:Au U} {id tot:Nat} {t:Nat} {xs:List (U.Ty t)} {fl:Option Nat} (h:H[id]? = some (.row t xs fl)) (z:xs.length=tot):Cc (BC U H) id tot=some (BQ U (.row t xs fl)):=by
 unfold Cc;rw[KH,h];simp[BQ,z]
theorem Zl {E:Env} (D:Cm U E) {e:Nat}:∀{vs:List (SV U.Ty)} {ys:List (U.Ty e)},Q3 e vs=some ys->(Aj U vs).map (DX (E.rows e))=ys.map (U.enc e)/\∀v∈vs,okS v=true:=by
 intro vs;induction vs with
 | nil=>intro ys h;simp only[Q3,Option.some.injEq]at h;subst h;simp[Aj]
 | cons v vs I=>
  intro ys h;simp only[Q3]at h;split at h
  ·rename_i a as J z C;simp only[Option.some.injEq]at h;subst h;obtain⟨G,M⟩:=I C;refine⟨by simp only[Aj,List.map_cons,G,D.dec _ _ _ z],?_⟩
   simp_all
  ·cases h
theorem ZsX {E:Env} (G:Cm U E) {t:Nat} {cs:List V} {ys:List (U.Ty t)} {j:Nat} {x:U.Ty t} (J:Q3 t (cs.map (Qm U))=some ys) (M:cs.all Ih=true) (R:ys[j]? = some x):cs[j]? = some (AU U (U.encS t x)):=by
 obtain⟨D,-⟩:=Zl G J;have I:Aj U (cs.map (Qm U))=cs:=by
  rw[Eb,List.map_map];exact(List.map_congr_left fun v _=>ZZ v).trans (List.map_id cs)
 rw[I]at D;have C:=congrArg (·[j]?) D;simp only[List.getElem?_map,R,Option.map_some]at C;cases hc:cs[j]? with
 | none=>simp[hc]at C
 | some v=>
  simp only[hc,Option.map_some,Option.some.injEq]at C;have Q:=List.all_eq_true.1 M v (List.mem_of_getElem? hc);cases v with
  | lit z=>rw[G.encS,<- C];rfl
  | _=>simp[Ih]at Q
theorem Z9l {E:Env} (G:Cm U E) {H:Au U} {t:TypeId} {a y:SV U.Ty} (h:(loadT E H t a).AV y):LP E (BC U H) t (AU U a)=some (AU U y):=by
 unfold loadT at h;split at h
 ·simp[Tr.AV]at h
 ·rename_i i hi;unfold LP;rw[hi];simp only;split at h
  ·rename_i M xs j off;simp only[Tr.AV,Nl]at h;obtain⟨x,D,C⟩:=h;simp only[AU,OA,List.getElem?_map,D,Option.map_some];rw[G.cells,VI,C];rfl
  ·rename_i id j off tot;split at h
   ·rename_i e n x hb;simp only[ER,Nl]at h;obtain⟨⟨rfl,rfl,I⟩,C⟩:=h;simp only[AU,ZL hb,BO,OA,List.getElem?_cons_zero];rw[Ri I,VI,C];rfl
   ·rename_i M xs fl hb;simp only[Tr.AV,Nl,beq_iff_eq]at h;obtain⟨S,x,D,C⟩:=h;simp only[AU,Z8A hb S,BQ,OA,List.getElem?_map,D,Option.map_some];rw[G.cells,VI,C];rfl
   ·simp[Tr.AV]at h
  ·rename_i e z;simp only[Nl]at h;simp only[AU,OA,List.getElem?_cons_zero];rw[show (V.lit z).cells=Aj U [SV.lit z] from rfl,VI,h];rfl
  ·rename_i e cs off;simp only[Nl]at h;cases C:partOf cs off i.size i.isAgg with
   | none=>simp[C]at h
   | some v=>
    simp only[C,Option.map_some,Option.some.injEq]at h;subst h;simp only[AU,OA,List.getElem?_cons_zero,V.cells,C,VM]
  ·rename_i d cs off;split at h
   ·rename_i ys J;simp only[ER,Tr.AV]at h;obtain⟨⟨Y,Q,R⟩,x,D,rfl⟩:=h;simp only[AU,OA,List.getElem?_cons_zero,V.cells,partOf,Q,ZsX G J R D,Bool.false_eq_true,if_false]
   ·simp[Tr.AV]at h
  ·simp[Tr.AV]at h
theorem Zmj {E:Env} (hU:Cm U E) {H H' : Au U} {t:TypeId} {a v:SV U.Ty} (h:(storeT E H t a v).AV H'):J3 E (BC U H) t (AU U a) (AU U v)=some (BC U H'):=by
 unfold storeT at h;split at h
 ·simp[Tr.AV]at h
 ·rename_i i hi;unfold J3;rw[hi];simp only;split at h
  ·rename_i id j off tot;split at h
   ·rename_i e n x hb;simp only[ER]at h;obtain⟨⟨⟨rfl,rfl⟩,hl,z,hokx⟩,h⟩:=h;split at h
    ·rename_i x' G;simp only[ER,Tr.AV]at h;obtain⟨J,rfl⟩:=h;simp only[AU,ZL hb,BO,List.getElem?_cons_zero];rw[Ri z,Iu,hl,Z7C G,PI z];simp[PI J,PN,BQ,BO]
    ·simp[Tr.AV]at h
   ·rename_i et xs fl hb;simp only[ER,Tr.AV,Dn,Bool.and_eq_true,beq_iff_eq,decide_eq_true_eq]at h;obtain⟨⟨hl,z,hni⟩,⟨I,Y⟩,x,hx,v',S,h⟩:=h;split at h
    ·rename_i x' G;split at h
     ·rename_i y hy;simp only[ER,Tr.AV]at h;obtain⟨⟨D,M⟩,rfl⟩:=h;simp only[AU,Z8A hb I,BQ,List.getElem?_map,hx,Option.map_some];rw[Ri z,Iu,hl,PI z];have hc:(H9 (BC U H) (AU U v))=some (AU U v'):=jM S;have R:=Z7C G;rw[hU.encS]at R;have C:=hU.dec et x' y hy;have Q:okV (U.enc et y)=true:=by rw[<- C,XV];exact PI M
      rw[hc];simp only[Ri D,R,Option.map_some,C,Q,PI D,Z02,hni,beq_self_eq_true,Bool.and_self,Bool.and_true,decide_eq_true Y,if_true,Bool.not_true,Bool.or_self,Bool.false_eq_true,if_false];rw[PN,VJ H _ (Z8j S)];simp[BQ,List.map_set]
     ·simp[Tr.AV]at h
    ·simp[Tr.AV]at h
   ·simp[Tr.AV]at h
  ·simp[Tr.AV]at h
end
end Go.Proofs.YteinepnbndegdaaGreat.Le
