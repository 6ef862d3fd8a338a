/- A part of it. -/
import Derived.Test.YtjodhcdmhobmoaaGreatDoorL4
set_option linter.unusedVariables false
set_option linter.unusedSimpArgs false
namespace Go.Proofs.YtjodhcdmhobmoaaGreatDoor.Le
section
variable {U:CY}
mutual
def Gn:SV U.Ty->List Nat
 | .all id _=>[id]
 | .Ba id _ _ _=>[id]
 | .ptr id _ _ _=>[id]
 | .agg cs=>Oz cs
 | .BF cs=>Oz cs
 | .Oc cs=>Oz cs
 | .fn _ a b=>Oz a++Oz b
 | .raw v=>EL v
 | _=>[]
def Oz:List (SV U.Ty)->List Nat
 | []=>[]
 | x::xs=>Gn x++Oz xs
end
mutual
def FX (ρ:Nat->Nat):SV U.Ty->SV U.Ty
 | .all id n=>.all (ρ id) n
 | .Ba id off len tot=>.Ba (ρ id) off len tot
 | .ptr id i off tot=>.ptr (ρ id) i off tot
 | .agg cs=>.agg (NM ρ cs)
 | .BF cs=>.BF (NM ρ cs)
 | .Oc cs=>.Oc (NM ρ cs)
 | .fn f a b=>.fn f (NM ρ a) (NM ρ b)
 | .raw v=>.raw (FQ ρ v)
 | v=>v
def NM (ρ:Nat->Nat):List (SV U.Ty)->List (SV U.Ty)
 | []=>[]
 | x::xs=>FX ρ x::NM ρ xs
end
mutual
theorem Zcl:∀x:SV U.Ty,EL (AU U x)=Gn x
 | .all _ _=>by simp only [AU,EL,Gn]
 | .Ba _ _ _ _=>by simp only [AU,EL,Gn]
 | .ptr _ _ _ _=>by simp only [AU,EL,Gn]
 | .agg cs=>by simp only [AU,EL,Gn];exact RZ cs
 | .BF cs=>by simp only [AU,EL,Gn];exact RZ cs
 | .Oc cs=>by simp only [AU,EL,Gn];exact RZ cs
 | .fn _ a b=>by simp only [AU,EL,Gn];rw [RZ a,RZ b]
 | .raw v=>by simp only [AU,Gn]
 | .lit _=>by simp only [AU,EL,Gn]
 | .si _ _=>by simp only [AU,EL,Gn]
 | .sb _=>by simp only [AU,EL,Gn]
 | .ss _=>by simp only [AU,EL,Gn]
 | .nil _=>by simp only [AU,EL,Gn]
 | .sl _ _=>by simp only [AU,EL,Gn]
 | .Cb _ _=>by simp only [AU,EL,Gn]
 | .CG _ _ _ _=>by simp only [AU,EL,Gn]
 | .TD _ _ _=>by simp only [AU,EL,Gn]
 | .no=>by simp only [AU,EL,Gn]
 | .und=>by simp only [AU,EL,Gn]
theorem RZ:∀xs:List (SV U.Ty),D5 (Ar U xs)=Oz xs
 | []=>rfl
 | x::xs=>by simp only [Ar,D5,Oz];rw [Zcl x,RZ xs]
end
mutual
theorem qY (ρ:Nat->Nat):∀x:SV U.Ty,AU U (FX ρ x)=FQ ρ (AU U x)
 | .all _ _=>by simp only [AU,FQ,FX]
 | .Ba _ _ _ _=>by simp only [AU,FQ,FX]
 | .ptr _ _ _ _=>by simp only [AU,FQ,FX]
 | .agg cs=>by simp only [AU,FQ,FX];rw [Ou ρ cs]
 | .BF cs=>by simp only [AU,FQ,FX];rw [Ou ρ cs]
 | .Oc cs=>by simp only [AU,FQ,FX];rw [Ou ρ cs]
 | .fn _ a b=>by simp only [AU,FQ,FX];rw [Ou ρ a,Ou ρ b]
 | .raw v=>by simp only [AU,FX]
 | .lit _=>by simp only [AU,FQ,FX]
 | .si _ _=>by simp only [AU,FQ,FX]
 | .sb _=>by simp only [AU,FQ,FX]
 | .ss _=>by simp only [AU,FQ,FX]
 | .nil _=>by simp only [AU,FQ,FX]
 | .sl _ _=>by simp only [AU,FQ,FX]
 | .Cb _ _=>by simp only [AU,FQ,FX]
 | .CG _ _ _ _=>by simp only [AU,FQ,FX]
 | .TD _ _ _=>by simp only [AU,FQ,FX]
 | .no=>by simp only [AU,FQ,FX]
 | .und=>by simp only [AU,FQ,FX]
theorem Ou (ρ:Nat->Nat):∀xs:List (SV U.Ty),Ar U (NM ρ xs)=Gi ρ (Ar U xs)
 | []=>rfl
 | x::xs=>by simp only [Ar,Gi,NM];rw [qY ρ x,Ou ρ xs]
end
def retS (e sz:Nat) (H:BC U):SV U.Ty->Tr U (SV U.Ty×BC U)
 | .nil _=>.when (U.Ap e=sz) (.leaf (.sl e [],H))
 | y=>.leaf (y,H)
def SK:Fk->BC U->SV U.Ty->Tr U (SV U.Ty×BC U)
 | .s e sz,H,x=>(NR H x).andThen fun y=>retS e sz (P7 H (O3 x)) y
 | .own e sz,H,x=>(match x with
  | .nil _=>.when (U.Ap e=sz) (.leaf (.all H.length 0,H++[.row e [] none]))
  | .all id n=>.leaf (.all id n,H)
  | _=>.fail)
 | .keep,H,x=>.leaf (x,H)
 | .drop,H,_=>.leaf (.und,H)
def SH:List Fk->BC U->List (SV U.Ty)->Tr U (List (SV U.Ty)×BC U)
 | [],H,[]=>.leaf ([],H)
 | f::fs,H,x::xs=>(SK f H x).andThen fun r=>(SH fs r.2 xs).andThen fun q=>.leaf (r.1::q.1,q.2)
 | _,_,_=>.fail
def uA (fl:List Fk) (H:BC U) (x:SV U.Ty):Tr U (SV U.Ty×BC U):=
 match x with
 | .agg cs=>(SH fl H cs).andThen fun r=>.leaf (.agg r.1,r.2)
 | .raw _=>.fail
 | x=>match fl with
  | [f]=>SK f H x
  | _=>.fail
def SC:List (List Fk)->BC U->List (SV U.Ty)->Tr U (List (SV U.Ty)×BC U)
 | [],H,[]=>.leaf ([],H)
 | f::fs,H,x::xs=>(uA f H x).andThen fun r=>(SC fs r.2 xs).andThen fun q=>.leaf (r.1::q.1,q.2)
 | _,_,_=>.fail
def PO:Nat->List Bf->BC U->List Nat->List Nat->Tr U (BC U×List Nat)
 | 0,_,_,_,_=>.fail
 | _+1,_,H,[],seen=>.leaf (H,seen)
 | n+1,fb,H,id::todo,seen=>
  if seen.contains id then PO n fb H todo seen else
  match H[id]?,fb with
  | some (.row _ _ none),.row true::fb' =>PO n fb' H todo (seen++[id])
  | some (.row _ _ _),.row false::fb' =>PO n fb' (P7 H [id]) todo (seen++[id])
  | some (.var _ _ x),.var fl::fb' =>(uA fl H x).andThen fun r=>(match r.2[id]? with
    | some (.var e m _)=>.when (okS r.1=true) (PO n fb' (r.2.set id (.var e m r.1)) (todo++Gn r.1) (seen++[id]))
    | _=>.fail)
  | _,_=>.fail
def rZ (ρ:Nat->Nat):MW U.Ty->MW U.Ty
 | .var e n x=>.var e n (FX ρ x)
 | .fvar e n x=>.fvar e n (FX ρ x)
 | b=>b
def VN (H:BC U) (ids:List Nat):BC U:=ids.map fun id=>rZ (ids.idxOf ·) ((H[id]?).getD .dead)
def VU (fa:List (List Fk)) (fb:List Bf) (k:Nat) (args:List (SV U.Ty)) (H:BC U):Tr U (List Nat×List (SV U.Ty)×BC U):=
 (SC fa H args).andThen fun r=>(PO 1000 fb r.2 (List.range k++Oz r.1) []).andThen fun q=>.leaf (q.2,r.1,q.1)
def gK:BC U->List Nat->BC U->BC U
 | H,[],bs=>H++bs
 | H,id::ids,b::bs=>gK (H.set id b) ids bs
 | H,_::_,[]=>H
def dZ (H:BC U) (ids:List Nat) (H3:BC U):BC U:=gK H ids (H3.map (rZ (JP ids H.length)))
theorem ZCB {e sz:Nat} {H:BC U} {y:SV U.Ty} {r:SV U.Ty×BC U} (h:(retS e sz H y).AY r) (hy:∀v,y≠.raw v):AU U r.1=GI sz (AU U y)/\r.2=H:=by
 unfold retS at h
 split at h
 ·simp only [EY,Tr.AY] at h
  obtain⟨he,rfl⟩:=h
  simp [AU,GI,he]
 ·simp only [Tr.AY] at h
  subst h
  refine⟨?_,rfl⟩
  cases y with
  | nil e' =>rename_i hne;exact absurd rfl (hne e')
  | raw v=>exact absurd rfl (hy v)
  | _=>simp [AU,GI]
theorem ZzO {H:BC U} {x y:SV U.Ty} (h:(NR H x).AY y):∀v,y≠.raw v:=by
 intro v hv
 subst hv
 unfold NR at h
 split at h<;>(try (simp [Tr.AY] at h;done))
 ·obtain⟨t,xs,fl,h1,h2,h3,h4⟩:=Gy h;simp [Tr.AY] at h3
 ·obtain⟨t,xs,fl,h1,h2,h3,h4⟩:=Gy h;simp [Tr.AY] at h3
theorem ZcH {f:Fk} {H:BC U} {x:SV U.Ty} {r:SV U.Ty×BC U} (h:(SK f H x).AY r):Ht f (BL U H) (AU U x)=some (AU U r.1,BL U r.2):=by
 cases f with
 | s e sz=>
  simp only [SK,EH] at h
  obtain⟨y,h1,h2⟩:=h
  obtain⟨e1,e2⟩:=ZCB h2 (ZzO h1)
  simp only [Ht,Z34 h1,Option.map_some,e1,e2]
  rw [Zdx,Ul H _ (Z1D h1)]
 | own e sz=>
  simp only [SK] at h
  split at h
  ·simp only [EY,Tr.AY] at h
   obtain⟨he,rfl⟩:=h
   simp [Ht,gJ,AU,BL,CW,Bg,he]
  ·simp only [Tr.AY] at h
   subst h
   simp [Ht,gJ,AU]
  ·simp [Tr.AY] at h
 | keep=>
  simp only [SK,Tr.AY] at h
  subst h
  rfl
 | drop=>
  simp only [SK,Tr.AY] at h
  subst h
  rfl
theorem ZyU:∀{fl:List Fk} {H:BC U} {xs:List (SV U.Ty)} {r:List (SV U.Ty)×BC U},(SH fl H xs).AY r->Hu fl (BL U H) (Ar U xs)=some (Ar U r.1,BL U r.2):=by
 intro fl
 induction fl with
 | nil=>
  intro H xs r h
  cases xs with
  | nil=>simp only [SH,Tr.AY] at h;subst h;rfl
  | cons=>simp [SH,Tr.AY] at h
 | cons f fl ih=>
  intro H xs r h
  cases xs with
  | nil=>simp [SH,Tr.AY] at h
  | cons x xs=>
   simp only [SH,EH,Tr.AY] at h
   obtain⟨p,h1,q,h2,rfl⟩:=h
   simp only [Ar,Hu,ZcH h1,ih h2]
theorem ZcL {fl:List Fk} {H:BC U} {x:SV U.Ty} {r:SV U.Ty×BC U} (h:(uA fl H x).AY r):Jm fl (BL U H) (AU U x)=some (AU U r.1,BL U r.2):=by
 unfold uA at h
 split at h
 ·rename_i cs
  simp only [EH,Tr.AY] at h
  obtain⟨p,h1,rfl⟩:=h
  simp only [AU,Jm,ZyU h1,Option.map_some]
 ·simp [Tr.AY] at h
 ·rename_i hn1 hn2
  split at h
  ·rename_i f
   have h1:=ZcH h
   unfold Jm
   split
   ·rename_i cs hcs
    exfalso
    cases x<;>simp_all [AU]
   ·exact h1
  ·simp [Tr.AY] at h
theorem ZxC:∀{fl:List (List Fk)} {H:BC U} {xs:List (SV U.Ty)} {r:List (SV U.Ty)×BC U},(SC fl H xs).AY r->IE fl (BL U H) (Ar U xs)=some (Ar U r.1,BL U r.2):=by
 intro fl
 induction fl with
 | nil=>
  intro H xs r h
  cases xs with
  | nil=>simp only [SC,Tr.AY] at h;subst h;rfl
  | cons=>simp [SC,Tr.AY] at h
 | cons f fl ih=>
  intro H xs r h
  cases xs with
  | nil=>simp [SC,Tr.AY] at h
  | cons x xs=>
   simp only [SC,EH,Tr.AY] at h
   obtain⟨p,h1,q,h2,rfl⟩:=h
   simp only [Ar,IE,ZcL h1,ih h2]
theorem Zz7:∀{n:Nat} {fb:List Bf} {H:BC U} {todo seen:List Nat} {r:BC U×List Nat},(PO n fb H todo seen).AY r->Jl n fb (BL U H) todo seen=some (BL U r.1,r.2):=by
 intro n
 induction n with
 | zero=>intro fb H todo seen r h;simp [PO,Tr.AY] at h
 | succ n ih=>
  intro fb H todo seen r h
  cases todo with
  | nil=>simp only [PO,Tr.AY] at h;subst h;rfl
  | cons id todo=>
   unfold PO at h
   unfold Jl
   by_cases hin:seen.contains id=true
   ·rw [if_pos hin] at h ⊢
    exact ih h
   ·rw [if_neg hin] at h ⊢
    rw [Lp]
    split at h
    ·rename_i t xs fb' hb
     rw [hb]
     simp only [Option.map_some,CW,Bool.and_self,if_true]
     exact ih h
    ·rename_i t xs fl fb' hb
     rw [hb]
     simp only [Option.map_some,CW,Bool.and_self,if_true,Bool.false_eq_true,if_false]
     rw [<- Ul H [id] (fun i hi=>by simp at hi;subst hi;exact⟨t,xs,fl,hb⟩)]
     exact ih h
    ·rename_i e m x fl fb' hb
     rw [hb]
     simp only [EH] at h
     obtain⟨p,h1,h2⟩:=h
     simp only [Option.map_some,CW,Bg,Bool.not_false,Bool.and_self,if_true,ZcL h1,Lp]
     split at h2
     ·rename_i e' m' x' hb'
      simp only [EY] at h2
      obtain⟨hok,h2⟩:=h2
      rw [hb']
      simp only [Option.map_some,CW,Bg,PE hok,if_true]
      have:=ih h2
      rw [PK] at this
      simp only [CW,Bg] at this
      rw [Zcl]
      exact this
     ·simp [Tr.AY] at h2
    ·simp [Tr.AY] at h
theorem qU {fa:List (List Fk)} {fb:List Bf} {k:Nat} {args:List (SV U.Ty)} {H:BC U} {r:List Nat×List (SV U.Ty)×BC U} (h:(VU fa fb k args H).AY r):pack fa fb k (Ar U args) (BL U H)=some (r.1,Ar U r.2.1,BL U r.2.2):=by
 simp only [VU,EH,Tr.AY] at h
 obtain⟨p,h1,q,h2,rfl⟩:=h
 simp only [pack,ZxC h1,RZ,Zz7 h2]
theorem Z8o (ρ:Nat->Nat) (b:MW U.Ty):CW U (rZ ρ b)=Fg ρ (CW U b):=by
 cases b<;>simp [rZ,CW,Fg,Bg,QX,Gi,qY]
theorem qC (H:BC U) (ids:List Nat):BL U (VN H ids)=Ih (BL U H) ids:=by
 simp only [BL,VN,Ih,List.map_map]
 apply List.map_congr_left
 intro id _
 simp only [Function.comp,Z8o]
 congr 1
 rw [List.getElem?_map]
 cases H[id]?<;>rfl
theorem Zyh:∀(H:BC U) (ids:List Nat) (bs:BC U),BL U (gK H ids bs)=P8 (BL U H) ids (BL U bs):=by
 intro H ids
 induction ids generalizing H with
 | nil=>intro bs;simp [gK,P8,BL]
 | cons id ids ih=>
  intro bs
  cases bs with
  | nil=>rfl
  | cons b bs=>
   simp only [gK,ih,PK]
   rfl
theorem Zoi (H:BC U) (ids:List Nat) (H3:BC U):BL U (dZ H ids H3)=OA (BL U H) ids (BL U H3):=by
 simp only [dZ,OA,Zyh]
 congr 1
 simp only [BL,List.map_map]
 apply List.map_congr_left
 intro b _
 simp [Function.comp,Z8o]
def Uy:List (SV U.Ty)->List FuncId
 | []=>[]
 | .fn f _ _::vs=>f::Uy vs
 | .raw v::vs=>MJ [v]++Uy vs
 | _::vs=>Uy vs
theorem Zww (v:V) (vs:List V):MJ (v::vs)=MJ [v]++MJ vs:=by
 cases v<;>simp [MJ]
theorem ZwM:∀(vs:List (SV U.Ty)),MJ (Ar U vs)=Uy vs:=by
 intro vs
 induction vs with
 | nil=>rfl
 | cons v vs ih=>
  simp only [Ar]
  rw [Zww,ih]
  cases v<;>simp [AU,MJ,Uy]
end
open Go.RowKit (Below)
structure Zfd (k:Nat) (ids:List Nat) (st st' : St):Prop where
 nodup:ids.Nodup
 pre:ids.take k=List.range k
 len:st'.H.length=ids.length
 heap:∀(j id:Nat),ids[j]? = some id->∃b b',st.H[id]? = some b/\b.live=true/\st'.H[j]? = some b' /\ b'.live=true/\b'.row=b.row/\(b'.EX=true->b.EX=true)/\b'.elem=b.elem/\b'.Ap=b.Ap /\
  (b.floor<=b'.floor\/b'.floor=b'.xs.length)/\b'.floor<=b'.xs.length/\(b.row=true->b'.xs=b.xs)/\(b.row=false->b'.xs=Gi (ids.idxOf ·) b.xs/\∀r∈D5 b.xs,r∈ids)
 slen:st'.s.length=st.s.length
 slots:∀(i:Nat) (v' : V),st'.s[i]? = some v' -> v' = .und\/∃v,st.s[i]? = some v/\v' = FQ (ids.idxOf ·) v/\∀r∈EL v,r∈ids
theorem Zbb {σ:Sg} {w:World}:∀{xs:List V} {vs:List Value},xs.length=vs.length->(∀(i:Nat) (x:V) (v:Value),xs[i]? = some x->vs[i]? = some v->AQ σ w [x] [v])->AQ σ w xs vs:=by
 intro xs
 induction xs with
 | nil=>intro vs hl _;cases vs with|nil=>exact .nil|cons=>simp at hl
 | cons x xs ih=>
  intro vs hl h
  cases vs with
  | nil=>simp at hl
  | cons v vs=>exact AQ.FH.2 ⟨h 0 x v rfl rfl,ih (by simpa using hl) (fun i y u h1 h2=>h (i+1) y u (by simpa using h1) (by simpa using h2))⟩
theorem ZDm {E:Env} {B:Nat} {w0:Start} {σ:Sg} {st st' : St} {a:Act} {w:World} {k:Nat} {ids:List Nat} (ht:Zfd k ids st st') (h:Eu E B w0 σ st a w):Eu E B w0 (σ.ren ids) st' a w:=by
 have hbox:∀{j:Nat} {L:Loc},(σ.ren ids).box j=some L->∃id,ids[j]? = some id/\σ.box id=some L:=by
  intro j L hL
  simp only [Sg.ren] at hL
  cases hj:ids[j]? with
  | none=>simp [hj] at hL
  | some id=>simp only [hj,Option.bind_some] at hL;exact⟨id,rfl,hL⟩
 have hsome:∀{j:Nat} {b' : Box},st'.H[j]? = some b' -> ∃id,ids[j]? = some id:=by
  intro j b' hb
  have hlt:=(List.getElem?_eq_some_iff.1 hb).1
  rw [ht.len] at hlt
  exact⟨ids[j],List.getElem?_eq_getElem hlt⟩
 refine⟨⟨h.inv.below,h.inv.size,?_,?_,?_,h.inv.cells,?_,?_,h.inv.old,fun b hb=>?_⟩,h.Ea.bare (fun b c hh=>⟨hh,rfl⟩) (EM.refl _),?_,h.calm⟩
 ·intro j L hL
  obtain⟨id,h1,h2⟩:=hbox hL
  obtain⟨b,b',_,_,q1,q2,_⟩:=ht.heap j id h1
  exact⟨b',q1,q2⟩
 ·intro j b' hb hl
  obtain⟨id,hid⟩:=hsome hb
  obtain⟨b,b2,p1,p2,p3,p4,p5,p6,p7,p8,p9,p10,p11,p12⟩:=ht.heap j id hid
  rw [hb] at p3
  cases p3
  obtain⟨L,hL,hok⟩:=h.inv.boxes id b p1 p2
  obtain⟨us,r1,r2,r3,r4⟩:=hok.D9
  refine⟨L,by simp [Sg.ren,hid,hL],?_⟩
  have hlen:b'.xs.length=b.xs.length:=by
   cases hr:b.row with
   | true=>rw [p11 hr]
   | false=>rw [(p12 hr).1,Z0y]
  have hreps:AQ (σ.ren ids) w b'.xs us:=by
   cases hr:b.row with
   | true=>rw [p11 hr];exact r1.bare (fun b c hh=>⟨hh,rfl⟩) (EM.refl _) ((KG _).2 (hok.Ho hr))
   | false=>rw [(p12 hr).1];exact dQ r1 (p12 hr).2
  refine⟨by rw [hlen];exact hok.tot,⟨us,hreps,r2,r3,by rw [p7,hlen];exact r4⟩,fun hn=>hok.EX (p6 hn),by rw [p8];exact hok.Ap,?_,?_⟩
  ·intro x hx
   cases hr:b.row with
   | true=>rw [p11 hr] at hx;exact hok.oks x hx
   | false=>
    rw [(p12 hr).1,Z2V] at hx
    obtain⟨y,hy,rfl⟩:=List.mem_map.1 hx
    rw [Ze3]
    exact hok.oks y hy
  ·intro hr x hx
   rw [p5] at hr
   rw [p11 hr] at hx
   exact hok.Ho hr x hx
 ·intro j j' b1 b2 L1 L2 g h1 h2 l1 l2 s1 s2 g1 g2
  obtain⟨i1,e1,t1⟩:=hbox s1
  obtain⟨i2,e2,t2⟩:=hbox s2
  obtain⟨c1,_,p1,p2,_⟩:=ht.heap j i1 e1
  obtain⟨c2,_,q1,q2,_⟩:=ht.heap j' i2 e2
  have:=h.inv.apart i1 i2 c1 c2 L1 L2 g p1 q1 p2 q2 t1 t2 g1 g2
  subst this
  exact Z2H ht.nodup e1 e2
 ·intro b c hc j b' L hb hl hL hg
  obtain⟨id,hid,hL'⟩:=hbox hL
  obtain⟨b0,b2,p1,p2,p3,p4,p5,p6,p7,p8,p9,p10,p11,p12⟩:=ht.heap j id hid
  rw [hb] at p3
  cases p3
  have:=h.inv.floor b c hc id b0 L p1 p2 hL' hg
  have hlen:b'.xs.length=b0.xs.length:=by
   cases hr:b0.row with
   | true=>rw [p11 hr]
   | false=>rw [(p12 hr).1,Z0y]
  have hle:b0.floor<=b'.floor:=by
   rcases p9 with p9|p9
   ·exact p9
   ·rw [p9,hlen];exact h.inv.low id b0 p1 p2
  exact Nat.lt_of_lt_of_le this (Nat.mul_le_mul_right _ hle)
 ·intro j b' hb hl
  obtain⟨id,hid⟩:=hsome hb
  obtain⟨b0,b2,p1,p2,p3,p4,p5,p6,p7,p8,p9,p10,p11,p12⟩:=ht.heap j id hid
  rw [hb] at p3
  cases p3
  exact p10
 ·obtain⟨k1,k2,k3,k4⟩:=h.inv.kept b hb
  refine⟨k1,k2,fun j L hL hg=>?_,k4⟩
  obtain⟨id,hid,hL'⟩:=hbox hL
  exact k3 id L hL' hg
 ·refine Zbb (by rw [ht.slen];exact h.slots.length) (fun i x v hx hv=>?_)
  rcases ht.slots i x hx with rfl|⟨y,hy,rfl,hc⟩
  ·exact .und _ .nil
  ·obtain⟨u,hu,hr⟩:=h.slots.get hy
   rw [hv] at hu
   cases hu
   exact dQ hr (by simpa [D5] using hc)
def spread {α:Type} (u:α) (n:Nat):List Nat->List α->List α
 | k::ks,v::vs=>(spread u n ks vs).set k v
 | _,_=>List.replicate n u
theorem Zn0 {α:Type} (u:α) (n:Nat):∀(ks:List Nat) (vs:List α),(spread u n ks vs).length=n:=by
 intro ks
 induction ks with
 | nil=>intro vs;simp [spread]
 | cons k ks ih=>intro vs;cases vs<;>simp [spread,ih]
theorem Zxf {α:Type} (u:α) (n:Nat):∀(ks:List Nat) (vs:List α) (i:Nat) (x:α),(spread u n ks vs)[i]? = some x->x=u\/∃j:Nat,ks[j]? = some i/\vs[j]? = some x:=by
 intro ks
 induction ks with
 | nil=>
  intro vs i x h
  simp only [spread,List.getElem?_replicate] at h
  split at h
  ·exact .inl (Option.some.inj h).symm
  ·cases h
 | cons k ks ih=>
  intro vs i x h
  cases vs with
  | nil=>
   simp only [spread,List.getElem?_replicate] at h
   split at h
   ·exact .inl (Option.some.inj h).symm
   ·cases h
  | cons v vs=>
   simp only [spread,List.getElem?_set] at h
   split at h
   ·rename_i hk
    subst hk
    split at h
    ·exact .inr ⟨0,rfl,h⟩
    ·cases h
   ·rcases ih vs i x h with h|⟨j,h1,h2⟩
    ·exact .inl h
    ·exact .inr ⟨j+1,h1,h2⟩
theorem Zwy {α β:Type} (g:α->β) (u:α) (n:Nat):∀(ks:List Nat) (vs:List α),(spread u n ks vs).map g=spread (g u) n ks (vs.map g):=by
 intro ks
 induction ks with
 | nil=>intro vs;simp [spread]
 | cons k ks ih=>intro vs;cases vs<;>simp [spread,List.map_set,ih]
theorem Zxz {σ:Sg} {w:World} {xs:List V} {vs:List Value} (h:AQ σ w xs vs):∀keep:List Nat,AQ σ w (keep.map fun i=>xs.getD i .und) (keep.map fun i=>vs.getD i undef):=by
 intro keep
 induction keep with
 | nil=>exact .nil
 | cons i keep ih=>
  simp only [List.map_cons]
  refine AQ.FH.2 ⟨?_,ih⟩
  cases hx:xs[i]? with
  | none=>simp only [List.getD,hx,Option.getD_none];exact .und _ .nil
  | some x=>
   obtain⟨v,hv,hr⟩:=h.get hx
   simp only [List.getD,hx,hv,Option.getD_some]
   exact hr
theorem ZAq {E:Env} {B:Nat} {w0:Start} {σ:Sg} {st:St} {a:Act} {w:World} {k:Nat} {fa:List (List Fk)} {fb:List Bf} {keep ids:List Nat} {as:List V} {H2:Heap} (hp:pack fa fb k (keep.map fun i=>st.s.getD i .und) st.H=some (ids,as,H2))
  (h:Eu E B w0 σ st a w):∃σ1,Ext σ w σ1 w/\Eu E B w0 (σ1.ren ids) ⟨spread .und st.s.length keep (Gi (ids.idxOf ·) as),Ih H2 ids⟩ a w:=by
 obtain⟨hs,hm,_,σ1,hI1,hE1,hr1⟩:=Z3r h.inv (Zxz h.slots keep) hp
 have hsub:=Z3Y hI1 hs w0 hI1.below hI1.old (fun b hb=>by
  obtain⟨k1,k2,k3,k4⟩:=hI1.kept b hb
  exact⟨k1,k2,fun id _ L hL=>k3 id L hL,k4⟩)
 refine⟨σ1,hE1,hsub,(h.Ea.ext hE1).bare (fun b c hh=>⟨hh,rfl⟩) (EM.refl _),?_,h.calm⟩
 refine Zbb (by rw [Zn0];exact h.slots.length) (fun i x v hx hv=>?_)
 rcases Zxf _ _ _ _ i x hx with rfl|⟨j,h1,h2⟩
 ·exact .und _ .nil
 ·obtain⟨u,hu,hr⟩:=(dQ hr1 hm).get h2
  simp only [List.getElem?_map,h1,Option.map_some,List.getD,hv,Option.getD_some,Option.some.injEq] at hu
  subst hu
  exact hr
inductive Vp where
 | run (c:Code)|nxt|exit (id:Nat)|ret
inductive Fr where
 | seq (c:Code)|blk (id:Nat)|loop (b:Code)
def Nu:List (List Nat)->List V->List V
 | es::rs,v::vs=>Du es v::Nu rs vs
 | [],vs=>vs
 | _,[]=>[]
def Q3 (rs:List (List Nat)):V->V
 | .BF vs=>.BF (Nu rs vs)
 | v=>Du (rs.headD []) v
inductive DU (call:Dl) (E:Env) (f:FuncId) (fn:Func) (k:Nat) (Z:St->V×Heap->Prop):Vp->List Fr->St->V×Heap->Prop where
 | skip {K st r}:DU call E f fn k Z .nxt K st r->DU call E f fn k Z (.run .skip) K st r
 | region {id ops K st st' r}:MM call E ops (List.range ops.size) st=some st' -> DU call E f fn k Z .nxt K st' r->DU call E f fn k Z (.run (.region id ops false)) K st r
 | draw {id ops K st st' r}:E.calm f id=true->SS call E ops st=some st' -> DU call E f fn k Z .nxt K st' r->DU call E f fn k Z (.run (.region id ops true)) K st r
 | seq {a b K st r}:DU call E f fn k Z (.run a) (.seq b::K) st r->DU call E f fn k Z (.run (.seq a b)) K st r
 | cond {c a b t K st r}:ev E st.s c = .lit (.bool t)->DU call E f fn k Z (.run (if t then a else b)) K st r->DU call E f fn k Z (.run (.cond c a b)) K st r
 | block {id b K st r}:DU call E f fn k Z (.run b) (.blk id::K) st r->DU call E f fn k Z (.run (.block id b)) K st r
 | loop {b K st r}:DU call E f fn k Z (.run b) (.loop b::K) st r->DU call E f fn k Z (.run (.loop b)) K st r
 | scope {b K st r}:DU call E f fn k Z (.run b) K st r->DU call E f fn k Z (.run (.scope b)) K st r
 | label {l K st r}:DU call E f fn k Z .nxt K st r->DU call E f fn k Z (.run (.label l)) K st r
 | exit {id K st r}:DU call E f fn k Z (.exit id) K st r->DU call E f fn k Z (.run (.exit id)) K st r
 | ret {K st r}:DU call E f fn k Z .ret K st r->DU call E f fn k Z (.run .ret) K st r
 | nseq {c K st r}:DU call E f fn k Z (.run c) K st r->DU call E f fn k Z .nxt (.seq c::K) st r
 | nblk {id K st r}:DU call E f fn k Z .nxt K st r->DU call E f fn k Z .nxt (.blk id::K) st r
 | ZeU {b K st r}:DU call E f fn k Z (.run b) (.loop b::K) st r->DU call E f fn k Z .nxt (.loop b::K) st r
 | eseq {id c K st r}:DU call E f fn k Z (.exit id) K st r->DU call E f fn k Z (.exit id) (.seq c::K) st r
 | Zfg {id b K st r}:DU call E f fn k Z (.exit id) K st r->DU call E f fn k Z (.exit id) (.loop b::K) st r
 | eblk {id K st r}:DU call E f fn k Z .nxt K st r->DU call E f fn k Z (.exit id) (.blk id::K) st r
 | Zf3 {id i K st r}:id≠i->DU call E f fn k Z (.exit id) K st r->DU call E f fn k Z (.exit id) (.blk i::K) st r
 | rany {x K st r}:DU call E f fn k Z .ret K st r->DU call E f fn k Z .ret (x::K) st r
 | finN {st r}:Z st r->DU call E f fn k Z .nxt [] st r
 | finR {st r}:Z st r->DU call E f fn k Z .ret [] st r
 | tidy {ctl K ids st st' r}:Zfd k ids st st' -> DU call E f fn k Z ctl K st' r->DU call E f fn k Z ctl K st r
 | ZeV {ctl K fa fb keep ids as H2 st r}:pack fa fb k (keep.map fun i=>st.s.getD i .und) st.H=some (ids,as,H2)->ids.take k=List.range k->DU call E f fn k Z ctl K ⟨spread .und st.s.length keep (Gi (ids.idxOf ·) as),Ih H2 ids⟩ r->DU call E f fn k Z ctl K st r
def LoopIn (P:Program) (b:Code) (Q:Exit->Act->World->Prop) (a:Act) (w:World):Prop:=
 ∀fr k cs,∃e a' w',Q e a' w' /\ Arrives P (lone (fr.at a (.code b :: .inLoop b::k)) cs w) fr k cs e a' w'
theorem LoopIn.of {P:Program} {b:Code} {Q:Exit->Act->World->Prop} {a:Act} {w:World} (h:b.wp P (Exit.then (LoopIn P b Q) Q) a w):LoopIn P b Q a w:=by
 intro fr k cs
 obtain⟨e,a₁,w₁,hq,harr⟩:=h fr (.inLoop b::k) cs
 cases e with
 | normal=>
  obtain⟨e₂,a₂,w₂,hq₂,harr₂⟩:=hq fr k cs
  exact⟨e₂,a₂,w₂,hq₂,.of_steps (Steps.trans harr (.one step_inLoop)) harr₂⟩
 | exit id=>exact⟨_,a₁,w₁,hq,.pass (x:=.inLoop b) rfl (fun _ _=>.inl (by simp)) harr⟩
 | goto l=>exact⟨_,a₁,w₁,hq,.pass (x:=.inLoop b) rfl (fun _ _=>.inl (by simp)) harr⟩
 | ret=>exact⟨_,a₁,w₁,hq,.pass (x:=.inLoop b) rfl (fun _ _=>.inl (by simp)) harr⟩
 | panic ch=>exact⟨_,a₁,w₁,hq,.pass (x:=.inLoop b) rfl (fun _ _=>.inl (by simp)) harr⟩
 | outgrown=>exact⟨_,a₁,w₁,hq,.pass (x:=.inLoop b) rfl (fun _ _=>.inl (by simp)) harr⟩
theorem LoopIn.wp {P:Program} {b:Code} {Q:Exit->Act->World->Prop} {a:Act} {w:World} (h:LoopIn P b Q a w):(Code.loop b).wp P Q a w:=by
 intro fr k cs
 obtain⟨e,a',w',hq,harr⟩:=h fr k cs
 exact⟨e,a',w',hq,.of_steps (.one step_loop) harr⟩
def QK (P:Program) (Z:Act->World->Prop):List Fr->Exit->Act->World->Prop
 | [],.normal,a,w=>Z a w
 | [],.ret,a,w=>Z a w
 | [],_,_,_=>False
 | .seq c::K,e,a,w=>Exit.then (c.wp P (QK P Z K)) (QK P Z K) e a w
 | .blk id::K,e,a,w=>Exit.inBlock id (QK P Z K) e a w
 | .loop b::K,e,a,w=>Exit.then (LoopIn P b (QK P Z K)) (QK P Z K) e a w
theorem rO {P:Program} {Z:Act->World->Prop} {l:Nat} {a:Act} {w:World}:∀K:List Fr,QK P Z K (.goto l) a w->False
 | [],h=>h
 | .seq _::K,h=>rO K h
 | .blk _::K,h=>rO K h
 | .loop _::K,h=>rO K h
def Z4q (P:Program) (Z:Act->World->Prop) (K:List Fr) (a:Act) (w:World):Vp->Prop
 | .run c=>c.wp P (QK P Z K) a w
 | .nxt=>QK P Z K .normal a w
 | .exit id=>QK P Z K (.exit id) a w
 | .ret=>QK P Z K .ret a w
def eQ (E:Env) (f:FuncId):Vp->Bool
 | .run c=>E8 E f c
 | _=>true
def MH (E:Env) (f:FuncId):List Fr->Bool
 | []=>true
 | .seq c::K=>E8 E f c&&MH E f K
 | .loop c::K=>E8 E f c&&MH E f K
 | .blk _::K=>MH E f K
theorem Zne {σ w}:∀(rs:List (List Nat)) {xs:List V} {vs:List Value},AQ σ w xs vs->AQ σ w (Nu rs xs) vs:=by
 intro rs
 induction rs with
 | nil=>intro xs vs h;simpa [Nu] using h
 | cons r rs ih=>
  intro xs vs h
  cases xs with
  | nil=>simpa [Nu] using h
  | cons x xs=>
   obtain⟨v,vs',rfl,h1,h2⟩:=h.Dq
   exact AQ.FH.2 ⟨RU _ h1,ih h2⟩
theorem ZpQ {σ w x v} (rs:List (List Nat)) (h:AQ σ w [x] [v]):AQ σ w [Q3 rs x] [v]:=by
 unfold Q3
 split
 ·cases h with
  | BF h1 _=>exact .BF (Zne rs h1) .nil
 ·exact RU _ h
theorem Zlo:∀(rs:List (List Nat)) (xs:List V),CJ (Nu rs xs)=CJ xs:=by
 intro rs
 induction rs with
 | nil=>intro xs;simp [Nu]
 | cons r rs ih=>intro xs;cases xs<;>simp [Nu,CJ,RN,ih]
theorem Z8H (rs:List (List Nat)) (x:V) (h:CU x=true):CU (Q3 rs x)=true:=by
 unfold Q3
 split
 ·simpa [CU,Zlo] using h
 ·rw [RN];exact h
def Zp (E:Env) (fn:Func) (st:St) (r:V×Heap):Prop:=∃r0 r1,KO E st.H st.s fn.results.toList=some r0/\JU st.H r0=some r1/\r=(Q3 (fn.resultTypes.toList.map E.rows) r1,[])
def Zh (E:Env) (fn:Func) (fa:List (List Fk)) (fb:List Bf) (k:Nat) (st:St) (r:V×Heap):Prop:=∃r0,KO E st.H st.s fn.results.toList=some r0/\uQ fa fb k r0 st.H=some r
def Fin (P:Program) (fn:Func) (B:Nat) (w0:Start) (r:V×Heap) (a:Act) (w:World):Prop:=
 a.defers=[]/\∃u fz',(results fn a.tmps).run P w = .ok u w/\Below B w0.w w/\(∀b c,w0.fz b c->fz' b c)/\(∀b c,fz' b c->b<B->w0.fz b c)/\(∀b c,fz' b c->∃u,w.cell? ⟨b,c,none⟩=some u)/\AQ (bare fz') w [r.1] [u]/\CU r.1=true
def FinH (P:Program) (fn:Func) (B:Nat) (w0:Start) (σ0:Sg) (ws:World) (r:V×Heap) (a:Act) (w:World):Prop:=
 a.defers=[]/\∃u σ',(results fn a.tmps).run P w = .ok u w/\Inv B w0 σ' r.2 w/\Ext σ0 ws σ' w/\AQ σ' w [r.1] [u]
structure O9 (k:Nat) (σ:Sg) (w:World) (σ' : Sg) (w' : World):Prop where
 box:∀id L,id<k->σ.box id=some L->∃L',σ'.box id=some L' /\ L'.Ap=L.Ap/\(L' = L\/L.tot<L'.tot)
 fz:∀b c,σ.fz b c->σ'.fz b c/\w'.cell? ⟨b,c,none⟩=w.cell? ⟨b,c,none⟩
 mp:EM w w'
theorem Ext.k {k:Nat} {σ w σ' w'} (h:Ext σ w σ' w'):O9 k σ w σ' w' :=⟨fun id L _ hL=>h.box id L hL,h.fz,h.mp⟩
theorem O9.trans {k:Nat} {σ w σ' w' σ'' w''} (h:O9 k σ w σ' w') (g:Ext σ' w' σ'' w''):O9 k σ w σ'' w'' :=by
 refine⟨fun id L hk hL=>?_,fun b c hc=>?_,h.mp.trans g.mp⟩
 ·obtain⟨L',h1,h2,h3⟩:=h.box id L hk hL
  obtain⟨L'',k1,k2,k3⟩:=g.box id L' h1
  refine⟨L'',k1,k2.trans h2,?_⟩
  rcases h3 with rfl|h3
  ·exact k3
  ·rcases k3 with rfl|k3
   ·exact .inr h3
   ·exact .inr (Nat.lt_trans h3 k3)
 ·obtain⟨a1,a2⟩:=h.fz b c hc
  obtain⟨b1,b2⟩:=g.fz b c a1
  exact⟨b1,b2.trans a2⟩
theorem Zw8 {ids:List Nat} {k j:Nat} (h:ids.take k=List.range k) (hj:j<k):ids[j]? = some j:=by
 have:(ids.take k)[j]? = some j:=by rw [h];simp [hj]
 rw [List.getElem?_take] at this
 simpa [hj] using this
theorem O9.ren {k:Nat} {σ w σ' w'} {ids:List Nat} (h:O9 k σ w σ' w') (hp:ids.take k=List.range k):O9 k σ w (σ'.ren ids) w' :=by
 refine⟨fun id L hk hL=>?_,h.fz,h.mp⟩
 obtain⟨L',h1,h2⟩:=h.box id L hk hL
 exact⟨L',by simp only [Sg.ren,Zw8 hp hk,Option.bind_some];exact h1,h2⟩
section
variable {P:Program} {E:Env} {B:Nat} {w0:Start} {call:Dl} {f:FuncId} {fn:Func}
theorem ZEs (hE:Ci E) (hP:E.P=P) {σ:Sg} {st:St} {a:Act} {w:World} {r:V×Heap} (h:Eu E B w0 σ st a w) (hfz:∀b c,w0.fz b c->σ.fz b c) (hz:Zp E fn st r):Fin P fn B w0 r a w:=by
 obtain⟨r0,r1,hr,hf,rfl⟩:=hz
 obtain⟨u,hu,hur⟩:=o8 (P:=P) hE hP h.inv h.slots hr
 obtain⟨hI,hEx⟩:=h.inv.freeze (O6 r0)
 have hr2:=Z2z h.inv hur hf (O6 r0) (fun i hi=>hi)
 have hn:=Z1N h.inv hur hf
 refine⟨h.calm,u,(σ.freeze st.H (O6 r0)).fz,hu,hI.below,fun b c hh=>(hEx.fz b c (hfz b c hh)).1,fun b c hh hlt=>hI.old b c hh hlt,hI.cells,?_,Z8H _ _ hn⟩
 exact AQ.bare (ZpQ _ hr2) (fun b c hh=>⟨hh,rfl⟩) (EM.refl _) (by simp [CJ,Z8H _ _ hn])
theorem ZCS (hE:Ci E) (hP:E.P=P) {fa:List (List Fk)} {fb:List Bf} {k:Nat} {σ0:Sg} {ws:World} (h0:∀id L,σ0.box id=some L->id<k) {σ:Sg} {st:St} {a:Act} {w:World} {r:V×Heap} (h:Eu E B w0 σ st a w) (hx:O9 k σ0 ws σ w)
  (hz:Zh E fn fa fb k st r):FinH P fn B w0 σ0 ws r a w:=by
 obtain⟨r0,hr,he⟩:=hz
 obtain⟨u,hu,hur⟩:=o8 (P:=P) hE hP h.inv h.slots hr
 have key:∀{args as:List V} {vs:List Value} {ids:List Nat} {H2:Heap},AQ σ w args vs->pack fa fb k args st.H=some (ids,as,H2)->ids.take k=List.range k ->
   ∃σ',Inv B w0 σ' (Ih H2 ids) w/\Ext σ0 ws σ' w/\AQ σ' w (Gi (ids.idxOf ·) as) vs:=by
  intro args as vs ids H2 hra hp hk
  obtain⟨hs,hm,_,σ1,hI1,hE1,hr1⟩:=Z3r h.inv hra hp
  have hsub:=Z3Y hI1 hs w0 hI1.below hI1.old (fun b hb=>by
   obtain⟨k1,k2,k3,k4⟩:=hI1.kept b hb
   exact⟨k1,k2,fun id _ L hL=>k3 id L hL,k4⟩)
  refine⟨_,hsub,?_,dQ hr1 hm⟩
  have:=(hx.trans hE1).ren hk
  exact⟨fun id L hL=>this.box id L (h0 id L hL) hL,this.fz,this.mp⟩
 refine⟨h.calm,u,?_⟩
 unfold uQ at he
 split at he
 ·rename_i vs
  split at he
  ·rename_i ids as H2 hp
   split at he
   ·rename_i hk
    simp only [Option.some.injEq] at he
    subst he
    cases hur with
    | BF h1 _=>
     obtain⟨σ',i1,i2,i3⟩:=key h1 hp hk
     exact⟨σ',hu,i1,i2,.BF i3 .nil⟩
   ·cases he
  ·cases he
 ·split at he
  ·rename_i ids x H2 hp
   split at he
   ·rename_i hk
    simp only [Option.some.injEq] at he
    subst he
    obtain⟨σ',i1,i2,i3⟩:=key hur hp hk
    exact⟨σ',hu,i1,i2,i3⟩
   ·cases he
  ·cases he
theorem ZdU (hE:Ci E) (hP:E.P=P) (hcall:JL P E B w0 call) (hpure:OB E call) {k:Nat} {Z:St->V×Heap->Prop} {F:V×Heap->Act->World->Prop} {σ0:Sg} {ws:World}
  (hZ:∀st r σ a w,Z st r->Eu E B w0 σ st a w->O9 k σ0 ws σ w->F r a w) {ctl:Vp} {K:List Fr} {st:St} {r:V×Heap} (h:DU call E f fn k Z ctl K st r) :
  eQ E f ctl=true->MH E f K=true->∀(σ:Sg) (a:Act) (w:World),Eu E B w0 σ st a w->O9 k σ0 ws σ w->Z4q P (F r) K a w ctl:=by
 induction h with
 | skip h ih=>intro hc hk σ a w hr hf;exact wp_skip (ih rfl hk σ a w hr hf)
 | region hs h ih=>
  intro hc hk σ a w hr hf
  exact wp_region (Zee hE hP hcall _ _ σ a w hr hs (fun a' w' σ' hr' he' =>ih rfl hk σ' a' w' hr' (hf.trans he')))
 | draw hcalm hs h ih=>
  intro hc hk σ a w hr hf
  refine Ze9 hE hP (by rw [<- hP];exact hE.mix) hcall hpure ?_ hr hs (fun a' w' σ' hr' he' =>ih rfl hk σ' a' w' hr' (hf.trans he'))
  simpa [eQ,E8,hcalm] using hc
 | seq h ih=>
  intro hc hk σ a w hr hf
  simp only [eQ,E8,Bool.and_eq_true] at hc
  exact wp_seq (ih hc.1 (by simp [MH,hc.2,hk]) σ a w hr hf)
 | cond ht h ih=>
  rename_i c x y t K st r
  intro hc hk σ a w hr hf
  simp only [eQ,E8,Bool.and_eq_true] at hc
  have hv:=EU (a:=a) hr.Ea hr.slots c
  rw [ht] at hv
  have hb:a.eval c = .bool t:=by generalize a.eval c=v at hv;cases hv;rfl
  refine wp_cond hb ?_
  refine ih ?_ hk σ a w hr hf
  cases t
  ·exact hc.2
  ·exact hc.1
 | block h ih=>
  intro hc hk σ a w hr hf
  exact wp_block (ih hc hk σ a w hr hf)
 | loop h ih=>
  intro hc hk σ a w hr hf
  simp only [eQ,E8] at hc
  exact(LoopIn.of (ih hc (by simp [MH,hc,hk]) σ a w hr hf)).wp
 | scope h ih=>
  intro hc hk σ a w hr hf
  have h1:=ih hc hk σ a w hr hf
  refine wp_scope_straight (wp_mono h1 fun e a' w' hq=>?_)
  cases e with
  | goto l=>exact(rO _ hq).elim
  | _=>exact hq
 | label h ih=>intro hc hk σ a w hr hf;exact wp_label (ih rfl hk σ a w hr hf)
 | exit h ih=>intro hc hk σ a w hr hf;exact wp_exit (ih rfl hk σ a w hr hf)
 | ret h ih=>intro hc hk σ a w hr hf;exact wp_ret (ih rfl hk σ a w hr hf)
 | nseq h ih=>
  intro hc hk σ a w hr hf
  simp only [MH,Bool.and_eq_true] at hk
  exact ih hk.1 hk.2 σ a w hr hf
 | nblk h ih=>intro hc hk σ a w hr hf;exact ih rfl hk σ a w hr hf
 | ZeU h ih=>
  intro hc hk σ a w hr hf
  have hk' :=hk
  simp only [MH,Bool.and_eq_true] at hk'
  exact LoopIn.of (ih hk'.1 hk σ a w hr hf)
 | eseq h ih=>
  intro hc hk σ a w hr hf
  simp only [MH,Bool.and_eq_true] at hk
  exact ih rfl hk.2 σ a w hr hf
 | Zfg h ih=>
  intro hc hk σ a w hr hf
  simp only [MH,Bool.and_eq_true] at hk
  exact ih rfl hk.2 σ a w hr hf
 | eblk h ih=>
  intro hc hk σ a w hr hf
  have:=ih rfl hk σ a w hr hf
  simp only [Z4q,QK,Exit.inBlock,if_true]
  exact this
 | Zf3 hne h ih=>
  intro hc hk σ a w hr hf
  have:=ih rfl hk σ a w hr hf
  simp only [Z4q,QK,Exit.inBlock,hne,if_false]
  exact this
 | rany h ih=>
  rename_i x K st r
  intro hc hk σ a w hr hf
  have:MH E f K=true:=by cases x<;>simp_all [MH]
  have:=ih rfl this σ a w hr hf
  cases x<;>exact this
 | finN hz=>intro hc hk σ a w hr hf;exact hZ _ _ σ a w hz hr hf
 | finR hz=>intro hc hk σ a w hr hf;exact hZ _ _ σ a w hz hr hf
 | tidy ht h ih=>intro hc hk σ a w hr hf;exact ih hc hk _ a w (ZDm ht hr) (hf.ren ht.pre)
 | ZeV hp hpre h ih=>
  intro hc hk σ a w hr hf
  obtain⟨σ1,h1,h2⟩:=ZAq hp hr
  exact ih hc hk _ a w h2 ((hf.trans h1).ren hpre)
end
section
variable {U:CY}
def Ux:List Bool->Bool
 | []=>true
 | [b]=>b
 | b::bs=>b&&Ux bs
theorem Zbv:∀{l:List Bool},Ux l=true->∀b∈l,b=true:=by
 intro l
 induction l with
 | nil=>intro _ b hb;simp at hb
 | cons x xs ih=>
  intro h b hb
  cases xs with
  | nil=>simp only [Ux] at h;simp only [List.mem_singleton] at hb;rw [hb];exact h
  | cons y ys=>
   simp only [Ux,Bool.and_eq_true] at h
   rcases List.mem_cons.1 hb with hb|hb
   ·rw [hb];exact h.1
   ·exact ih h.2 b hb
def resT (E:Env) (H:BC U) (s:List (SV U.Ty)):ResultVar->Tr U (SV U.Ty)
 | .tmp t=>.leaf (s.getD t .und)
 | .cell a t=>loadT E H t (s.getD a .und)
def VW (E:Env) (H:BC U) (s:List (SV U.Ty)):List ResultVar->Tr U (List (SV U.Ty))
 | []=>.leaf []
 | r::rs=>(resT E H s r).andThen fun v=>(VW E H s rs).andThen fun vs=>.leaf (v::vs)
def SB:List Nat->List (SV U.Ty)->Option (List (SV U.Ty))
 | [],[]=>some []
 | t::ts,w::ws=>match U.Gq t w,SB ts ws with|some a,some r=>some (U.encS t a::r)|_,_=>none
 | _,_=>none
def Z4j (E:Env) (fn:Func) (st:D8 U):Tr U (SV U.Ty):=
 (VW E st.H st.s fn.results.toList).andThen fun vs=>
  match vs,fn.resultTypes.toList with
  | [v],[t]=>(Qv st.H v).andThen fun w=>(match U.Gq t w with|some a=>.leaf (U.encS t a)|none=>.fail)
  | vs,ts=>.when (vs.length≠1) ((PI st.H vs).andThen fun ws=>(match SB ts ws with|some es=>.leaf (.BF es)|none=>.fail))
theorem Zdn {E:Env} (hU:D7 U E) {st:D8 U}:∀{rs:List ResultVar} {vs:List (SV U.Ty)},(VW E st.H st.s rs).AY vs->rs.mapM (resD E (CX U st).H (CX U st).s)=some (Ar U vs):=by
 intro rs
 induction rs with
 | nil=>intro vs h;simp only [VW,Tr.AY] at h;subst h;rfl
 | cons r rs ih=>
  intro vs h
  simp only [VW,EH,Tr.AY] at h
  obtain⟨v,h1,ws,h2,rfl⟩:=h
  have hr:resD E (CX U st).H (CX U st).s r=some (AU U v):=by
   cases r with
   | tmp t=>
    simp only [resT,Tr.AY] at h1
    subst h1
    exact congrArg some (Ub st.s t)
   | cell a t=>
    simp only [resD]
    rw [show (CX U st).s.getD a .und=AU U (st.s.getD a .und) from Ub st.s a]
    exact Zdq hU h1
  rw [List.mapM_cons,hr,ih h2]
  rfl
theorem Zyb {E:Env} (hU:D7 U E):∀{ts:List Nat} {ws es:List (SV U.Ty)},SB ts ws=some es->Nu (ts.map E.rows) (Ar U ws)=Ar U es:=by
 intro ts
 induction ts with
 | nil=>
  intro ws es h
  cases ws with
  | nil=>simp only [SB,Option.some.injEq] at h;subst h;rfl
  | cons=>simp [SB] at h
 | cons t ts ih=>
  intro ws es h
  cases ws with
  | nil=>simp [SB] at h
  | cons w ws=>
   simp only [SB] at h
   split at h
   ·rename_i a r h1 h2
    simp only [Option.some.injEq] at h
    subst h
    simp only [List.map_cons,Ar,Nu,hU.dec _ _ _ h1,hU.encS,ih h2]
   ·cases h
theorem ZCh {H:Heap} {x y:V} (h:IB H x=some y):∀vs,y≠.BF vs:=by
 intro vs hy
 subst hy
 unfold IB at h
 split at h
 ·rename_i cs
  cases hl:JF H cs<;>simp [hl] at h
 ·unfold IA at h
  split at h<;>(try (cases h;done))<;>(try (split at h<;>(try (split at h))<;>cases h))
theorem ZAa {E:Env} (hU:D7 U E) {fn:Func} {st:D8 U} {v:SV U.Ty} (h:(Z4j E fn st).AY v) :
  ∃r0 r1,KO E (CX U st).H (CX U st).s fn.results.toList=some r0/\JU (CX U st).H r0=some r1/\Q3 (fn.resultTypes.toList.map E.rows) r1=AU U v:=by
 unfold Z4j at h
 simp only [EH] at h
 obtain⟨vs,h1,h⟩:=h
 have hm:=Zdn hU h1
 split at h
 ·rename_i v0 t hts
  simp only [EH] at h
  obtain⟨w,h2,h⟩:=h
  split at h
  ·rename_i a ha
   simp only [Tr.AY] at h
   subst h
   have hf:IB (CX U st).H (AU U v0)=some (AU U w):=rJ h2
   refine⟨AU U v0,AU U w,by simp only [KO,hm,Ar],?_,?_⟩
   ·unfold JU
    split
    ·rename_i us hus
     rw [hus] at hf
     simp [IB,IA] at hf
    ·exact hf
   ·rw [hts]
    unfold Q3
    split
    ·rename_i us hus
     exact absurd hus (ZCh hf us)
    ·simp only [List.map_cons,List.headD_cons,hU.dec _ _ _ ha,hU.encS]
  ·simp [Tr.AY] at h
 ·rename_i va vs ts hneg
  simp only [EY,EH] at h
  obtain⟨hl,ws,h2,h⟩:=h
  split at h
  ·rename_i es hes
   simp only [Tr.AY] at h
   subst h
   refine⟨.BF (Ar U va),.BF (Ar U ws),?_,?_,?_⟩
   ·simp only [KO,hm]
    split
    ·rename_i x hx
     simp only [Option.some.injEq] at hx
     exfalso
     apply hl
     have:=congrArg List.length hx
     rw [IU] at this
     simpa using this
    ·rename_i hx
     simp only [Option.some.injEq] at hx
     rw [<- hx]
    ·rename_i hx;cases hx
   ·simp only [JU,CX,Z2d h2,Option.map_some]
   ·simp only [Q3,Zyb hU hes,AU]
  ·simp [Tr.AY] at h
def gG (E:Env) (fn:Func) (st:D8 U):Tr U (SV U.Ty×BC U):=(Z4j E fn st).andThen fun v=>.leaf (v,[])
def Z4s (E:Env) (fn:Func) (fa:List (List Fk)) (fb:List Bf) (k:Nat) (st:D8 U):Tr U (SV U.Ty×BC U):=
 (VW E st.H st.s fn.results.toList).andThen fun vs=>
  match vs with
  | [.BF _]=>.fail
  | [.raw _]=>.fail
  | [v]=>(VU fa fb k [v] st.H).andThen fun r=>(match r.2.1 with
   | [a]=>.when (r.1.take k=List.range k) (.leaf (FX (r.1.idxOf ·) a,VN r.2.2 r.1))
   | _=>.fail)
  | vs=>.when (vs.length≠1) ((VU fa fb k vs st.H).andThen fun r=>.when (r.1.take k=List.range k) (.leaf (.BF (NM (r.1.idxOf ·) r.2.1),VN r.2.2 r.1)))
theorem ZA0 {E:Env} (hU:D7 U E) {fn:Func} {st:D8 U} {r:SV U.Ty×BC U} (h:(gG E fn st).AY r):Zp E fn (CX U st) (AU U r.1,BL U r.2):=by
 simp only [gG,EH,Tr.AY] at h
 obtain⟨v,h1,rfl⟩:=h
 obtain⟨r0,r1,e1,e2,e3⟩:=ZAa hU h1
 exact⟨r0,r1,e1,e2,by rw [e3];rfl⟩
theorem ZBl {E:Env} (hU:D7 U E) {fn:Func} {fa:List (List Fk)} {fb:List Bf} {k:Nat} {st:D8 U} {r:SV U.Ty×BC U} (h:(Z4s E fn fa fb k st).AY r):Zh E fn fa fb k (CX U st) (AU U r.1,BL U r.2):=by
 simp only [Z4s,EH] at h
 obtain⟨vs,h1,h⟩:=h
 have hm:=Zdn hU h1
 split at h
 ·simp [Tr.AY] at h
 ·simp [Tr.AY] at h
 ·rename_i v hn1 hn2
  simp only [EH] at h
  obtain⟨p,hp,h⟩:=h
  split at h
  ·rename_i a ha
   simp only [EY,Tr.AY] at h
   obtain⟨hk,rfl⟩:=h
   have hp' :=qU hp
   rw [ha] at hp'
   refine⟨AU U v,by simp only [KO,hm,Ar],?_⟩
   have hnt:∀cs,AU U v≠.BF cs:=by
    intro cs hcs
    cases v with
    | BF vs=>exact hn1 vs rfl
    | raw x=>exact hn2 x rfl
    | _=>simp [AU] at hcs
   unfold uQ
   split
   ·rename_i cs hcs;exact absurd hcs (hnt cs)
   ·simp only [Ar] at hp'
    simp only [CX,hp']
    rw [if_pos hk,qY,qC]
  ·simp [Tr.AY] at h
 ·rename_i hneg
  simp only [EY,EH,Tr.AY] at h
  obtain⟨hl,p,hp,hk,rfl⟩:=h
  have hp' :=qU hp
  refine⟨.BF (Ar U vs),?_,?_⟩
  ·simp only [KO,hm]
   split
   ·rename_i x hx
    simp only [Option.some.injEq] at hx
    exfalso
    apply hl
    have:=congrArg List.length hx
    rw [IU] at this
    simpa using this
   ·rename_i hx
    simp only [Option.some.injEq] at hx
    rw [<- hx]
   ·rename_i hx;cases hx
  ·simp only [uQ,CX,hp']
   rw [if_pos hk,qC]
   simp only [AU,Ou]
inductive Vb (U:CY) where
 | done (v:SV U.Ty×BC U)
 | jump (c:Code) (K:List Fr) (st:D8 U)
def ZBj (call:Dl) (E:Env) (f:FuncId) (fn:Func) (kk:Nat) (Z:St->V×Heap->Prop):Vb U->V×Heap->Prop
 | .done s,v=>v=(AU U s.1,BL U s.2)
 | .jump c K st,v=>DU call E f fn kk Z (.run c) K (CX U st) v
end
inductive Pc where
 | v (t n:Nat) (agg:Bool)
 | own (e j:Nat)
 | ptr (j:Nat)
 | fn (f:FuncId) (a b:List Nat)
 | no
 | und
 | iP (ptr:Bool)
inductive Sp where
 | one (c:Pc)
 | agg (cs:List Pc)
inductive Pb where
 | var (e m:Nat) (p:Sp)
 | row (t:Nat) (fresh:Bool)
structure Shape where
 args:List Sp
 boxes:List Pb
abbrev Sp.cells:Sp->List Pc
 | .one c=>[c]
 | .agg cs=>cs
section
variable (U:CY)
@[reducible] def PX:List Pc->Type
 | []=>Unit
 | .v t _ _::ps=>U.Ty t×PX ps
 | _::ps=>PX ps
@[reducible] def AX:List Sp->Type
 | []=>Unit
 | p::ps=>PX U p.cells×AX ps
@[reducible] def BX:List Pb->Type
 | []=>Unit
 | .var _ _ p::bs=>PX U p.cells×BX bs
 | .row t _::bs=>List (U.Ty t)×BX bs
@[reducible] def Shape.X (s:Shape):Type:=AX U s.args×BX U s.boxes
variable {U}
def JA:(bs:List Pb)->BX U bs->List Nat
 | [],_=>[]
 | .var _ _ _::bs,x=>1::JA bs x.2
 | .row _ _::bs,x=>x.1.length::JA bs x.2
def iH (j:Nat):SV U.Ty:=.ptr j 0 0 1
def nulS:Bool->SV U.Ty
 | true=>.lit (.pointer none)
 | false=>.lit .nilFunc
def Z4g:Bool->SV U.Ty->Bool
 | true,.lit (.pointer none)=>true
 | false,.lit .nilFunc=>true
 | _,_=>false
theorem ZBt {b:Bool} {c:SV U.Ty} (h:Z4g b c=true):c=nulS b:=by
 unfold Z4g at h
 split at h<;>first|rfl|cases h
def DF (ls:List Nat):(ps:List Pc)->PX U ps->List (SV U.Ty)
 | [],_=>[]
 | .v t _ _::ps,x=>cellsS (U.encS t x.1)++DF ls ps x.2
 | .own _ j::ps,x=>.all j (ls.getD j 0)::DF ls ps x
 | .ptr j::ps,x=>iH j::DF ls ps x
 | .fn f a b::ps,x=>.fn f (a.map iH) (b.map iH)::DF ls ps x
 | .no::ps,x=>.no::DF ls ps x
 | .und::ps,x=>.und::DF ls ps x
 | .iP b::ps,x=>nulS b::DF ls ps x
def IZ (ls:List Nat):(p:Sp)->PX U p.cells->SV U.Ty
 | .one c,x=>(DF ls [c] x).headD .und
 | .agg cs,x=>.agg (DF ls cs x)
def JS (ls:List Nat):(ps:List Sp)->AX U ps->List (SV U.Ty)
 | [],_=>[]
 | p::ps,x=>IZ ls p x.1::JS ls ps x.2
def Ej (ls:List Nat):(bs:List Pb)->BX U bs->BC U
 | [],_=>[]
 | .var e m p::bs,x=>.var e m (IZ ls p x.1)::Ej ls bs x.2
 | .row t fresh::bs,x=>.row t x.1 (if fresh then none else some x.1.length)::Ej ls bs x.2
def Shape.enc (s:Shape) (x:s.X U):List (SV U.Ty)×BC U:=(JS (JA s.boxes x.2) s.args x.1,Ej (JA s.boxes x.2) s.boxes x.2)
def PR:SV U.Ty->Bool
 | .nil _ | .raw _ | .agg _ | .BF _ | .Oc _ | .TD ..=>false
 | _=>true
def SI:List Nat->List (SV U.Ty)->Bool
 | [],[]=>true
 | j::js,.ptr i a b c::xs=>decide (i=j/\a=0/\b=0/\c=1)&&SI js xs
 | _,_=>false
def VR (H:BC U):List Nat:=H.map fun b=>match b with | .row _ xs _=>xs.length|_=>1
def F6 (ls:List Nat):(ps:List Pc)->List (SV U.Ty)->Option (PX U ps×List Bool)
 | [],cs=>if cs.isEmpty then some ((),[]) else none
 | .v t n true::ps,cs=>if (cs.take n).length=n/\(cs.take n).all PR=true then
   (match U.Gq t (.agg (cs.take n)),F6 ls ps (cs.drop n) with
    | some a,some r=>some ((a,r.1),r.2)
    | _,_=>none) else none
 | .v t _ false::ps,c::cs=>if PR c then
   (match U.Gq t c,F6 ls ps cs with
    | some a,some r=>some ((a,r.1),r.2)
    | _,_=>none) else none
 | .own _ j::ps,.all i n::cs=>if i=j then (F6 ls ps cs).map fun r=>(r.1,(ls.getD j 0==n)::r.2) else none
 | .ptr j::ps,.ptr i a b c::cs=>if i=j/\a=0/\b=0/\c=1 then F6 ls ps cs else none
 | .fn f a b::ps,.fn g a' b' :: cs=>if g=f/\SI a a' = true/\SI b b' = true then F6 ls ps cs else none
 | .no::ps,.no::cs=>F6 ls ps cs
 | .und::ps,.und::cs=>F6 ls ps cs
 | .iP b::ps,c::cs=>if Z4g b c=true then F6 ls ps cs else none
 | _::_,_=>none
def uT (ls:List Nat):(p:Sp)->SV U.Ty->Option (PX U p.cells×List Bool)
 | .one c,x=>F6 ls [c] [x]
 | .agg cs,.agg xs=>F6 ls cs xs
 | _,_=>none
def V9 (ls:List Nat):(ps:List Sp)->List (SV U.Ty)->Option (AX U ps×List Bool)
 | [],[]=>some ((),[])
 | p::ps,x::xs=>(match uT ls p x,V9 ls ps xs with
  | some a,some r=>some ((a.1,r.1),a.2++r.2)
  | _,_=>none)
 | _,_=>none
def Qq (ls:List Nat):(bs:List Pb)->BC U->Option (BX U bs×List Bool)
 | [],[]=>some ((),[])
 | .var e m p::bs,.var e' m' x::H=>if e' = e/\m' = m then
   (match uT ls p x,Qq ls bs H with
    | some a,some r=>some ((a.1,r.1),a.2++r.2)
    | _,_=>none) else none
 | .row t fresh::bs,.row t' xs fl::H=>if h:t' = t then
   (match fresh,fl,Qq ls bs H with
    | true,none,some r=>some ((h▸xs,r.1),r.2)
    | false,some n,some r=>some ((h▸xs,r.1),(n==xs.length)::r.2)
    | _,_,_=>none) else none
 | _,_=>none
def Shape.dec (s:Shape) (as:List (SV U.Ty)) (H:BC U):Option (s.X U×List Bool):=
 match V9 (VR H) s.args as,Qq (VR H) s.boxes H with
 | some a,some b=>some ((a.1,b.1),a.2++b.2)
 | _,_=>none
theorem Z8l {x:SV U.Ty} (h:PR x=true) (e:Nat):GI e (AU U x)=AU U x:=by
 cases x<;>simp_all [PR,AU,GI]
theorem Zo6 {x:SV U.Ty} (h:PR x=true):(AU U x).cells=[AU U x]:=by
 cases x<;>first|rfl|(simp [PR] at h)
theorem ZvZ {x:SV U.Ty} (h:PR x=true):∀cs,AU U x≠.agg cs:=by
 intro cs hc
 cases x<;>first|(cases hc;done)|(simp [PR] at h)
theorem ZqB:∀{xs:List (SV U.Ty)},xs.all PR=true->∀es,F9 es (Ar U xs)=Ar U xs:=by
 intro xs
 induction xs with
 | nil=>intro _ es;cases es<;>rfl
 | cons x xs ih=>
  intro h es
  simp only [List.all_cons,Bool.and_eq_true] at h
  cases es with
  | nil=>rfl
  | cons e es=>simp only [Ar,F9,Z8l h.1,ih h.2]
theorem QL (xs ys:List (SV U.Ty)):Ar U (xs++ys)=Ar U xs++Ar U ys:=by simp [En]
theorem ZcN:∀{js:List Nat} {xs:List (SV U.Ty)},SI js xs=true->xs=js.map iH:=by
 intro js
 induction js with
 | nil=>intro xs h;cases xs with
  | nil=>rfl
  | cons=>simp [SI] at h
 | cons j js ih=>
  intro xs h
  cases xs with
  | nil=>simp [SI] at h
  | cons x xs=>
   cases x<;>simp [SI] at h
   obtain⟨⟨rfl,rfl,rfl,rfl⟩,h2⟩:=h
   rw [ih h2]
   rfl
theorem ZdP {E:Env} (hU:D7 U E) (ls:List Nat):∀(ps:List Pc) {cs:List (SV U.Ty)} {r:PX U ps×List Bool},F6 ls ps cs=some r->(∀b∈r.2,b=true)->Ar U cs=Ar U (DF ls ps r.1):=by
 intro ps
 induction ps with
 | nil=>
  intro cs r h _
  simp only [F6] at h
  split at h
  ·rename_i hc;cases cs with
   | nil=>rfl
   | cons=>simp at hc
  ·cases h
 | cons p ps ih=>
  intro cs r h hb
  cases p with
  | v t n ag=>
   cases ag with
   | true=>
    simp only [F6] at h
    split at h
    ·rename_i hc
     split at h
     ·rename_i a r' h1 h2
      simp only [Option.some.injEq] at h
      subst h
      have e:=hU.dec t _ a h1
      simp only [AU,Du] at e
      rw [ZqB hc.2] at e
      have ec:=hU.cells t a
      rw [<- e] at ec
      simp only [V.cells] at ec
      simp only [DF,QL,<- ec,<- ih h2 hb]
      rw [<- QL,List.take_append_drop]
     ·cases h
    ·cases h
   | false=>
    cases cs with
    | nil=>simp [F6] at h
    | cons c cs=>
     simp only [F6] at h
     split at h
     ·rename_i hc
      split at h
      ·rename_i a r' h1 h2
       simp only [Option.some.injEq] at h
       subst h
       have e:=hU.dec t _ a h1
       have hr:∀es,Du es (AU U c)=AU U c:=by
        intro es
        unfold Du
        split
        ·rename_i cs' hcs
         exact absurd hcs (ZvZ hc cs')
        ·exact Z8l hc _
       rw [hr] at e
       have ec:=hU.cells t a
       rw [<- e] at ec
       rw [Zo6 hc] at ec
       simp only [DF,QL,<- ec,<- ih h2 hb]
       rfl
      ·cases h
     ·cases h
  | own e j=>
   cases cs with
   | nil=>simp [F6] at h
   | cons c cs=>
    cases c<;>simp only [F6] at h<;>try (cases h;done)
    split at h
    ·rename_i hij
     subst hij
     simp only [Option.map_eq_some_iff] at h
     obtain⟨r',h2,rfl⟩:=h
     have hn:=hb _ (List.mem_cons_self ..)
     simp only [beq_iff_eq] at hn
     simp only [DF,Ar,AU,hn,ih h2 (fun b hh=>hb b (by simp [hh]))]
    ·cases h
  | ptr j=>
   cases cs with
   | nil=>simp [F6] at h
   | cons c cs=>
    cases c<;>simp only [F6] at h<;>try (cases h;done)
    split at h
    ·rename_i hij
     obtain⟨rfl,rfl,rfl,rfl⟩:=hij
     simp only [DF,Ar,iH,ih h hb]
    ·cases h
  | fn f a b=>
   cases cs with
   | nil=>simp [F6] at h
   | cons c cs=>
    cases c<;>simp only [F6] at h<;>try (cases h;done)
    split at h
    ·rename_i hij
     obtain⟨rfl,h1,h2⟩:=hij
     rw [ZcN h1,ZcN h2]
     simp only [DF,Ar,ih h hb]
    ·cases h
  | no=>
   cases cs with
   | nil=>simp [F6] at h
   | cons c cs=>
    cases c<;>simp only [F6] at h<;>try (cases h;done)
    simp only [DF,Ar,ih h hb]
  | und=>
   cases cs with
   | nil=>simp [F6] at h
   | cons c cs=>
    cases c<;>simp only [F6] at h<;>try (cases h;done)
    simp only [DF,Ar,ih h hb]
  | iP b=>
   cases cs with
   | nil=>simp [F6] at h
   | cons c cs=>
    simp only [F6] at h
    split at h
    ·rename_i hn
     rw [ZBt hn]
     simp only [DF,Ar,ih h hb]
    ·cases h
theorem Zdf {E:Env} (hU:D7 U E) (ls:List Nat) {p:Sp} {x:SV U.Ty} {r:PX U p.cells×List Bool} (h:uT ls p x=some r) (hb:∀b∈r.2,b=true):AU U x=AU U (IZ ls p r.1):=by
 cases p with
 | one c=>
  have:=ZdP hU ls [c] h hb
  simp only [Ar] at this
  cases hp:DF ls [c] r.1 with
  | nil=>rw [hp] at this;cases this
  | cons y ys=>
   rw [hp] at this
   simp only [Ar,List.cons.injEq] at this
   simp only [IZ]
   rw [hp]
   exact this.1
 | agg cs=>
  cases x<;>simp only [uT] at h<;>try (cases h;done)
  have:=ZdP hU ls cs h hb
  simp only [IZ,AU,this]
theorem ZC1 {E:Env} (hU:D7 U E) (ls:List Nat):∀(ps:List Sp) {cs:List (SV U.Ty)} {r:AX U ps×List Bool},V9 ls ps cs=some r->(∀b∈r.2,b=true)->Ar U cs=Ar U (JS ls ps r.1):=by
 intro ps
 induction ps with
 | nil=>
  intro cs r h _
  cases cs with
  | nil=>rfl
  | cons=>simp [V9] at h
 | cons p ps ih=>
  intro cs r h hb
  cases cs with
  | nil=>simp [V9] at h
  | cons c cs=>
   simp only [V9] at h
   split at h
   ·rename_i a r' h1 h2
    simp only [Option.some.injEq] at h
    subst h
    simp only [JS,Ar,Zdf hU ls h1 (fun b hh=>hb b (by simp [hh])),ih h2 (fun b hh=>hb b (by simp [hh]))]
   ·cases h
theorem ZDb {E:Env} (hU:D7 U E) (ls:List Nat):∀(bs:List Pb) {H:BC U} {r:BX U bs×List Bool},Qq ls bs H=some r->(∀b∈r.2,b=true)->BL U H=BL U (Ej ls bs r.1)/\JA bs r.1=VR H:=by
 intro bs
 induction bs with
 | nil=>
  intro H r h _
  cases H with
  | nil=>exact⟨rfl,rfl⟩
  | cons=>simp [Qq] at h
 | cons b bs ih=>
  intro H r h hb
  cases H with
  | nil=>cases b<;>simp [Qq] at h
  | cons x H=>
   cases b with
   | var e m p=>
    cases x<;>simp only [Qq] at h<;>try (cases h;done)
    split at h
    ·rename_i he
     obtain⟨rfl,rfl⟩:=he
     split at h
     ·rename_i a r' h1 h2
      simp only [Option.some.injEq] at h
      subst h
      obtain⟨e1,e2⟩:=ih h2 (fun b hh=>hb b (by simp [hh]))
      have e3:=Zdf hU ls h1 (fun b hh=>hb b (by simp [hh]))
      refine⟨?_,?_⟩
      ·simp only [BL,Ej,List.map_cons,CW,e3]
       exact congrArg _ e1
      ·simp only [JA,VR,List.map_cons,e2]
     ·cases h
    ·cases h
   | row t fresh=>
    cases x<;>simp only [Qq] at h<;>try (cases h;done)
    rename_i t' xs fl
    split at h
    ·rename_i ht
     subst ht
     split at h
     ·rename_i r' h2
      simp only [Option.some.injEq] at h
      subst h
      obtain⟨e1,e2⟩:=ih h2 hb
      refine⟨?_,?_⟩
      ·simp only [BL,Ej,List.map_cons,if_true]
       exact congrArg _ e1
      ·simp only [JA,VR,List.map_cons,e2]
     ·rename_i n r' h2
      simp only [Option.some.injEq] at h
      subst h
      obtain⟨e1,e2⟩:=ih h2 (fun b hh=>hb b (by simp [hh]))
      have hn:=hb _ (List.mem_cons_self ..)
      simp only [beq_iff_eq] at hn
      refine⟨?_,?_⟩
      ·simp only [BL,Ej,List.map_cons,Bool.false_eq_true,if_false,CW,hn]
       exact congrArg _ e1
      ·simp only [JA,VR,List.map_cons,e2]
     ·cases h
    ·cases h
theorem Shape.sQ {E:Env} (hU:D7 U E) {s:Shape} {as:List (SV U.Ty)} {H:BC U} {r:s.X U×List Bool} (h:s.dec as H=some r) (hb:∀b∈r.2,b=true):Ar U as=Ar U (s.enc r.1).1/\BL U H=BL U (s.enc r.1).2:=by
 unfold Shape.dec at h
 split at h
 ·rename_i a b h1 h2
  simp only [Option.some.injEq] at h
  subst h
  obtain⟨e1,e2⟩:=ZDb hU _ _ h2 (fun b hh=>hb b (by simp [hh]))
  have e3:=ZC1 hU _ _ h1 (fun b hh=>hb b (by simp [hh]))
  simp only [Shape.enc,e2]
  exact⟨e3,e1⟩
 ·cases h
variable (U)
def vF:Pc->Prop
 | .v t n true=>t∈U.keys/\∀a,∃cs,U.encS t a = .agg cs/\cs.length=n
 | .v t n false=>t∈U.keys/\∀a,cellsS (U.encS t a)=[U.encS t a]
 | _=>True
def vU:List Pc->Prop
 | []=>True
 | p::ps=>vF U p/\vU ps
def vS:Sp->Prop
 | .one (.v _ _ true)=>False
 | .one c=>vF U c
 | .agg cs=>vU U cs
def vI:List Sp->Prop
 | []=>True
 | p::ps=>vS U p/\vI ps
def iD:List Pb->Prop
 | []=>True
 | .var _ _ p::bs=>vS U p/\iD bs
 | .row t _::bs=>t∈U.keys/\iD bs
def Shape.OK (s:Shape):Prop:=vI U s.args/\iD U s.boxes
variable {U}
def Vq (k1:List Nat) (kN:List (Nat×Nat)):Pc->Bool
 | .v t n true=>kN.contains (t,n)
 | .v t _ false=>k1.contains t
 | _=>true
def vW (k1:List Nat) (kN:List (Nat×Nat)):Sp->Bool
 | .one (.v _ _ true)=>false
 | .one c=>Vq k1 kN c
 | .agg cs=>cs.all (Vq k1 kN)
def pbB (U:CY) (k1:List Nat) (kN:List (Nat×Nat)):Pb->Bool
 | .var _ _ p=>vW k1 kN p
 | .row t _=>U.keys.contains t
def shB (U:CY) (k1:List Nat) (kN:List (Nat×Nat)) (s:Shape):Bool:=s.args.all (vW k1 kN)&&s.boxes.all (pbB U k1 kN)
theorem Shape.ok_of {k1:List Nat} {kN:List (Nat×Nat)} (h1:∀t∈k1,t∈U.keys/\∀a,cellsS (U.encS t a)=[U.encS t a]) (hN:∀p∈kN,p.1∈U.keys/\∀a,∃cs,U.encS p.1 a = .agg cs/\cs.length=p.2) {s:Shape} (h:shB U k1 kN s=true):s.OK U:=by
 have hp:∀c,Vq k1 kN c=true->vF U c:=by
  intro c hc
  cases c with
  | v t n ag=>cases ag with
   | true=>exact hN (t,n) (by simpa [Vq] using hc)
   | false=>exact h1 t (by simpa [Vq] using hc)
  | _=>trivial
 have hps:∀cs:List Pc,cs.all (Vq k1 kN)=true->vU U cs:=by
  intro cs
  induction cs with
  | nil=>intro _;trivial
  | cons c cs ih=>intro h;simp only [List.all_cons,Bool.and_eq_true] at h;exact⟨hp c h.1,ih h.2⟩
 have hsp:∀p,vW k1 kN p=true->vS U p:=by
  intro p hh
  cases p with
  | agg cs=>exact hps cs hh
  | one c=>cases c with
   | v t n ag=>cases ag with
    | true=>cases hh
    | false=>exact hp (.v t n false) hh
   | _=>trivial
 have has:∀l:List Sp,l.all (vW k1 kN)=true->vI U l:=by
  intro l
  induction l with
  | nil=>intro _;trivial
  | cons p l ih=>intro h;simp only [List.all_cons,Bool.and_eq_true] at h;exact⟨hsp p h.1,ih h.2⟩
 have hbs:∀l:List Pb,l.all (pbB U k1 kN)=true->iD U l:=by
  intro l
  induction l with
  | nil=>intro _;trivial
  | cons p l ih=>
   intro h
   simp only [List.all_cons,Bool.and_eq_true] at h
   cases p with
   | var e m q=>exact⟨hsp q h.1,ih h.2⟩
   | row t fr=>exact⟨by simpa [pbB] using h.1,ih h.2⟩
 unfold shB at h
 rw [Bool.and_eq_true] at h
 exact⟨has _ h.1,hbs _ h.2⟩
theorem Z3e {E:Env} (hU:D7 U E) {ls ls' : List Nat}:∀{ps:List Pc} {x y:PX U ps},vU U ps->Ar U (DF ls ps x)=Ar U (DF ls' ps y)->x=y:=by
 intro ps
 induction ps with
 | nil=>intro x y _ _;rfl
 | cons p ps ih=>
  intro x y hk h
  obtain⟨hp,hk⟩:=hk
  cases p with
  | v t n ag=>
   obtain⟨a,x'⟩:=x
   obtain⟨b,y'⟩:=y
   simp only [DF,QL] at h
   have key:Ar U (cellsS (U.encS t a))=Ar U (cellsS (U.encS t b))/\Ar U (DF ls ps x')=Ar U (DF ls' ps y')/\U.enc t a=U.enc t b/\t∈U.keys:=by
    cases ag with
    | true=>
     obtain⟨hm,hl⟩:=hp
     obtain⟨ca,ea,la⟩:=hl a
     obtain⟨cb,eb,lb⟩:=hl b
     have:=List.append_inj h (by rw [IU,IU,ea,eb];simp only [cellsS,la,lb])
     refine⟨this.1,this.2,?_,hm⟩
     rw [<- hU.encS,<- hU.encS,ea,eb]
     have h1:=this.1
     rw [ea,eb] at h1
     simp only [cellsS] at h1
     simp only [AU,h1]
    | false=>
     obtain⟨hm,hl⟩:=hp
     have:=List.append_inj h (by rw [IU,IU,hl a,hl b];rfl)
     refine⟨this.1,this.2,?_,hm⟩
     have h1:=this.1
     rw [hl a,hl b] at h1
     simp only [Ar,List.cons.injEq,and_true,hU.encS] at h1
     exact h1
   obtain⟨_,h2,h3,hm⟩:=key
   have ha:=hU.inj t hm a b h3
   subst ha
   rw [ih hk h2]
  | own e j=>
   simp only [DF,Ar,List.cons.injEq] at h
   exact ih hk h.2
  | ptr j=>
   simp only [DF,Ar,List.cons.injEq] at h
   exact ih hk h.2
  | fn f a b=>
   simp only [DF,Ar,List.cons.injEq] at h
   exact ih hk h.2
  | no=>
   simp only [DF,Ar,List.cons.injEq] at h
   exact ih hk h.2
  | und=>
   simp only [DF,Ar,List.cons.injEq] at h
   exact ih hk h.2
  | iP b=>
   simp only [DF,Ar,List.cons.injEq] at h
   exact ih hk h.2
theorem ZcX {E:Env} (hU:D7 U E) {ls ls' : List Nat} {p:Sp} {x y:PX U p.cells} (hk:vS U p) (h:AU U (IZ ls p x)=AU U (IZ ls' p y)):x=y:=by
 cases p with
 | one c=>
  cases c with
  | v t n ag=>
   cases ag with
   | true=>exact hk.elim
   | false=>
    obtain⟨a,x'⟩:=x
    obtain⟨b,y'⟩:=y
    have hk' : vF U (.v t n false):=hk
    refine Z3e hU (ps:=[.v t n false]) ⟨hk',trivial⟩ (ls:=ls) (ls' :=ls') ?_
    simp only [IZ,DF,hk'.2,List.append_nil,List.headD_cons] at h
    simp only [DF,hk'.2,List.append_nil,Ar,h]
  | own e j=>exact Z3e hU (ps:=[.own e j]) ⟨trivial,trivial⟩ (ls:=ls) (ls' :=ls') (by simp only [IZ,DF,List.headD_cons] at h;simp only [DF,Ar,h])
  | ptr j=>rfl
  | fn f a b=>rfl
  | no=>rfl
  | und=>rfl
  | iP b=>rfl
 | agg cs=>
  simp only [IZ,AU,V.agg.injEq] at h
  exact Z3e hU hk h
theorem ZBc {E:Env} (hU:D7 U E) {ls ls' : List Nat}:∀{ps:List Sp} {x y:AX U ps},vI U ps->Ar U (JS ls ps x)=Ar U (JS ls' ps y)->x=y:=by
 intro ps
 induction ps with
 | nil=>intro x y _ _;rfl
 | cons p ps ih=>
  intro x y hk h
  obtain⟨a,x'⟩:=x
  obtain⟨b,y'⟩:=y
  simp only [JS,Ar,List.cons.injEq] at h
  rw [ZcX hU hk.1 h.1,ih hk.2 h.2]
theorem ZtJ {E:Env} (hU:D7 U E) {t:Nat} (ht:t∈U.keys):∀{xs ys:List (U.Ty t)},xs.map (U.enc t)=ys.map (U.enc t)->xs=ys:=by
 intro xs
 induction xs with
 | nil=>intro ys h;cases ys with
  | nil=>rfl
  | cons=>cases h
 | cons x xs ih=>
  intro ys h
  cases ys with
  | nil=>cases h
  | cons y ys=>
   simp only [List.map_cons,List.cons.injEq] at h
   rw [hU.inj t ht x y h.1,ih h.2]
theorem ZAJ {E:Env} (hU:D7 U E) {ls ls' : List Nat}:∀{bs:List Pb} {x y:BX U bs},iD U bs->BL U (Ej ls bs x)=BL U (Ej ls' bs y)->x=y:=by
 intro bs
 induction bs with
 | nil=>intro x y _ _;rfl
 | cons b bs ih=>
  intro x y hk h
  cases b with
  | var e m p=>
   obtain⟨a,x'⟩:=x
   obtain⟨b,y'⟩:=y
   simp only [Ej,BL,List.map_cons,List.cons.injEq,CW,Bg,Box.mk.injEq,true_and,and_true] at h
   rw [ZcX hU hk.1 h.1,ih hk.2 h.2]
  | row t fresh=>
   obtain⟨a,x'⟩:=x
   obtain⟨b,y'⟩:=y
   simp only [Ej,BL,List.map_cons,List.cons.injEq,CW,Box.mk.injEq,true_and] at h
   rw [ZtJ hU hk.1 h.1.1,ih hk.2 h.2]
theorem Shape.ZdZ {E:Env} (hU:D7 U E) {s:Shape} (hk:s.OK U) {x y:s.X U} (h1:Ar U (s.enc x).1=Ar U (s.enc y).1) (h2:BL U (s.enc x).2=BL U (s.enc y).2):x=y:=by
 obtain⟨a,b⟩:=x
 obtain⟨a',b'⟩:=y
 have e2:=ZAJ hU hk.2 h2
 simp only at e2
 subst e2
 have e1:=ZBc hU hk.1 h1
 simp only at e1
 rw [e1]
variable (U)
structure HMod where
 fa:List (List Fk)
 fb:List Bf
 DZ:Shape
 JX:Shape
 one:Bool
 ky:Nat
 N7:U.Ty ky->JX.X U
 fn:DZ.X U->Option (U.Ty ky)
 ok:DZ.OK U
variable {U}
def HMod.out (m:HMod U) (y:U.Ty m.ky):SV U.Ty×BC U:=((if m.one then (m.JX.enc (m.N7 y)).1.headD .und else .BF (m.JX.enc (m.N7 y)).1),(m.JX.enc (m.N7 y)).2)
open Classical in
noncomputable def HMod.spec (m:HMod U):VK where
 fa:=m.fa
 fb:=m.fb
 run:=fun as H0=>if h:∃x:m.DZ.X U,Ar U (m.DZ.enc x).1=as/\BL U (m.DZ.enc x).2=H0 then (m.fn (Classical.choose h)).map fun y=>(AU U (m.out y).1,BL U (m.out y).2) else none
theorem HMod.ZAy {E:Env} (hU:D7 U E) (m:HMod U) (x:m.DZ.X U):m.spec.run (Ar U (m.DZ.enc x).1) (BL U (m.DZ.enc x).2)=(m.fn x).map fun y=>(AU U (m.out y).1,BL U (m.out y).2):=by
 have h:∃y:m.DZ.X U,Ar U (m.DZ.enc y).1=Ar U (m.DZ.enc x).1/\BL U (m.DZ.enc y).2=BL U (m.DZ.enc x).2:=⟨x,rfl,rfl⟩
 simp only [HMod.spec,dif_pos h]
 rw [Shape.ZdZ hU m.ok (Classical.choose_spec h).1 (Classical.choose_spec h).2]
def Z3Q (m:HMod U) (as:List (SV U.Ty)) (H:BC U):Tr U (SV U.Ty×BC U):=
 (VU m.fa m.fb 0 as H).andThen fun r=>match m.DZ.dec (NM (r.1.idxOf ·) r.2.1) (VN r.2.2 r.1) with
  | some x=>(match x.2 with
   | []=>.bind m.ky (m.fn x.1) fun y=>.when (r.1.length<=(m.out y).2.length) (.leaf (FX (JP r.1 r.2.2.length) (m.out y).1,dZ r.2.2 r.1 (m.out y).2))
   | c::cs=>.chk (Ux (c::cs)) (.bind m.ky (m.fn x.1) fun y=>.when (r.1.length<=(m.out y).2.length) (.leaf (FX (JP r.1 r.2.2.length) (m.out y).1,dZ r.2.2 r.1 (m.out y).2))))
  | none=>.fail
theorem ZyI {E:Env} (hU:D7 U E) {m:HMod U} {as:List (SV U.Ty)} {H:BC U} {r:SV U.Ty×BC U} (h:(Z3Q m as H).AY r):OX m.spec (Ar U as) (BL U H)=some (AU U r.1,BL U r.2):=by
 simp only [Z3Q,EH] at h
 obtain⟨p,hp,h⟩:=h
 have hp' :=qU hp
 split at h
 ·rename_i x hx
  have key:(∀b∈x.2,b=true)/\∃y,m.fn x.1=some y/\p.1.length<=(m.out y).2.length/\r=(FX (JP p.1 p.2.2.length) (m.out y).1,dZ p.2.2 p.1 (m.out y).2):=by
   split at h
   ·rename_i hnil
    simp only [Tr.AY,EY] at h
    obtain⟨y,h1,h2,h3⟩:=h
    exact⟨by rw [hnil];intro b hb;simp at hb,y,h1,h2,h3.symm⟩
   ·rename_i c cs hcs
    simp only [Tr.AY,EY] at h
    obtain⟨hc,y,h1,h2,h3⟩:=h
    exact⟨by rw [hcs];exact Zbv hc,y,h1,h2,h3.symm⟩
  obtain⟨hb,y,h1,h2,rfl⟩:=key
  obtain⟨e1,e2⟩:=Shape.sQ hU hx hb
  rw [Ou] at e1
  rw [qC] at e2
  unfold OX
  simp only [show m.spec.fa=m.fa from rfl,show m.spec.fb=m.fb from rfl,hp',e1,e2,HMod.ZAy hU,h1,Option.map_some,RY]
  rw [if_pos h2,qY,Zoi]
 ·simp [Tr.AY] at h
end
section
variable {U:CY}
def FY (U:CY):List Nat->Type
 | []=>Unit
 | t::ts=>U.Ty t×FY U ts
def Gg:(ts:List Nat)->FY U ts->List V
 | [],_=>[]
 | t::ts,x=>U.enc t x.1::Gg ts x.2
def Ro:(ts:List Nat)->List (SV U.Ty)->Option (FY U ts)
 | [],[]=>some ()
 | t::ts,v::vs=>match U.Gq t v,Ro ts vs with|some a,some as=>some (a,as)|_,_=>none
 | _,_=>none
structure Af (U:CY) where
 ts:List Nat
 rt:Nat
 fn:FY U ts->Option (U.Ty rt)
 ok:∀t∈ts,t∈U.keys
def fC:SV U.Ty->Bool
 | .ptr _ _ _ _=>true
 | .raw v=>SE v
 | _=>false
def Z3T (H:BC U):SV U.Ty->Tr U (SV U.Ty)
 | .ptr id i off tot=>if i=0/\off=0/\tot=1 then (match H[id]? with
   | some (.var _ n (.agg cs))=>.leaf (.raw (.CG n [.agg ((Ar U cs).map VP)] 0 0))
   | some (.var _ n x)=>(match Vd x with|some z=>.leaf (.raw (.CG n [.lit z] 0 0))|none=>.fail)
   | _=>.fail) else .fail
 | .raw _=>.fail
 | v=>Qv H v
def dX (H:BC U):List (SV U.Ty)->Tr U (List (SV U.Ty))
 | []=>.leaf []
 | v::vs=>(Z3T H v).andThen fun w=>(dX H vs).andThen fun ws=>.leaf (w::ws)
def sD:SV U.Ty->Bool
 | .lit _ | .si _ _ | .sb _ | .ss _=>true
 | _=>false
def Uw:SV U.Ty->Bool
 | .lit _ | .si _ _ | .sb _ | .ss _=>true
 | .agg cs=>cs.all sD
 | _=>false
def Z4i:SV U.Ty->Bool
 | .BF vs=>vs.all Uw
 | v=>Uw v
theorem ZyM (x:SV U.Ty):SE (AU U x)=fC x:=by
 cases x<;>simp [fC,SE,AU]
theorem ZaV (xs:List (SV U.Ty)):(Ar U xs).any SE=xs.any fC:=by
 induction xs with
 | nil=>rfl
 | cons x xs ih=>simp only [Ar,List.any_cons,ih,ZyM]
theorem ZxX (x:SV U.Ty) (h:sD x=true):Ic (AU U x)=true:=by
 cases x<;>simp_all [sD,Ic,AU]
theorem ZbA (xs:List (SV U.Ty)) (h:xs.all sD=true):(Ar U xs).all Ic=true:=by
 induction xs with
 | nil=>rfl
 | cons x xs ih=>
  simp only [List.all_cons,Bool.and_eq_true] at h
  simp only [Ar,List.all_cons,Bool.and_eq_true]
  exact⟨ZxX x h.1,ih h.2⟩
theorem ZzK (x:SV U.Ty) (h:Uw x=true):Jo (AU U x)=true:=by
 cases x<;>first|(simp [Uw] at h;done)|(simp [Jo,AU];done)|skip
 rename_i cs
 simp only [AU,Jo]
 exact ZbA cs h
theorem Zx9 (xs:List (SV U.Ty)) (h:xs.all Uw=true):(Ar U xs).all Jo=true:=by
 induction xs with
 | nil=>rfl
 | cons x xs ih=>
  simp only [List.all_cons,Bool.and_eq_true] at h
  simp only [Ar,List.all_cons,Bool.and_eq_true]
  exact⟨ZzK x h.1,ih h.2⟩
theorem ZAS (x:SV U.Ty) (h:Z4i x=true):O1 (AU U x)=true:=by
 cases x<;>first|(simp [Z4i,Uw] at h;done)|(simp [O1,Jo,AU];done)|skip
 ·rename_i cs
  simp only [AU,O1,Jo]
  exact ZbA cs h
 ·rename_i vs
  simp only [AU,O1]
  exact Zx9 vs h
theorem ZxU {H:BC U} {x y:SV U.Ty} (h:(Z3T H x).AY y):O5 (BL U H) (AU U x)=some (AU U y):=by
 unfold Z3T at h
 split at h
 ·rename_i id i off tot
  split at h
  ·rename_i hz
   obtain⟨rfl,rfl,rfl⟩:=hz
   split at h
   ·rename_i e n cs hb
    simp only [Tr.AY] at h
    subst h
    simp only [AU,O5,and_self,if_true,DW,Lp,hb,Option.map_some,CW,Bg]
    simp
   ·rename_i e n x hb hna
    split at h
    ·rename_i z hz
     simp only [Tr.AY] at h
     subst h
     have hx:AU U x = .lit z:=by cases x<;>simp_all [Vd,AU]
     simp only [AU,O5,and_self,if_true,DW,Lp,hna,Option.map_some,CW,Bg,hx]
     simp
    ·simp [Tr.AY] at h
   ·simp [Tr.AY] at h
  ·simp [Tr.AY] at h
 ·simp [Tr.AY] at h
 ·rename_i hn1 hn2
  unfold O5
  split
  ·rename_i id i off tot hv
   exfalso
   cases x<;>simp [AU] at hv
   ·exact hn1 _ _ _ _ rfl
   ·exact hn2 _ rfl
  ·exact rJ h
theorem Zu4 {H:BC U}:∀{xs ys:List (SV U.Ty)},(dX H xs).AY ys->KU (BL U H) (Ar U xs)=some (Ar U ys):=by
 intro xs
 induction xs with
 | nil=>intro ys h;simp only [dX,Tr.AY] at h;subst h;rfl
 | cons x xs ih=>
  intro ys h
  simp only [dX,EH,Tr.AY] at h
  obtain⟨w,h1,ws,h2,rfl⟩:=h
  simp only [Ar,KU,ZxU h1,ih h2]
def Z4o (hmods:FuncId->List FuncId->Option (HMod U)) (g:FuncId):Bool:=match hmods g [] with|some m=>m.fb.isEmpty|none=>false
def Qk (mods:FuncId->Option (Af U)) (hmods:FuncId->List FuncId->Option (HMod U)):IJ U:=fun g as H=>
 match mods g with
 | some m=>if as.any fC then (dX H as).andThen fun as' =>(match Ro m.ts as' with
   | some x=>.bind m.rt (m.fn x) fun r=>.when (Z4i (U.encS m.rt r)=true/\(as.flatMap NP).isEmpty=true) (.leaf (U.encS m.rt r,H))
   | none=>.fail)
  else (PI H as).andThen fun as' =>(match Ro m.ts as' with
  | some x=>.bind m.rt (m.fn x) fun r=>.leaf (U.encS m.rt r,P7 H (as.flatMap NP))
  | none=>.fail)
 | none=>match hmods g (if Z4o hmods g then [] else Uy as) with
  | some m=>Z3Q m as H
  | none=>.fail
noncomputable def V3 (hmods:FuncId->List FuncId->Option (HMod U)):FuncId->List FuncId->Option VK:=fun g k=>(hmods g k).map HMod.spec
open Classical in
noncomputable def OU (mods:FuncId->Option (Af U)):FuncId->Option (List V->Option V):=fun g=>
 match mods g with
 | some m=>some fun as=>if h:∃x:FY U m.ts,Gg m.ts x=as then (m.fn (Classical.choose h)).map (U.enc m.rt) else none
 | none=>none
theorem Zbl {E:Env} (hU:D7 U E):∀{ts:List Nat} {vs:List (SV U.Ty)} {x:FY U ts},Ro ts vs=some x->GG E.rows ts (Ar U vs)=Gg ts x:=by
 intro ts
 induction ts with
 | nil=>
  intro vs x h
  cases vs with
  | nil=>rfl
  | cons=>simp [Ro] at h
 | cons t ts ih=>
  intro vs x h
  cases vs with
  | nil=>simp [Ro] at h
  | cons v vs=>
   simp only [Ro] at h
   split at h
   ·rename_i a as h1 h2
    cases h
    simp only [Ar,GG,Gg,hU.dec _ _ _ h1,ih h2]
   ·cases h
theorem Zrz {E:Env} (hU:D7 U E):∀{ts:List Nat} {x y:FY U ts},(∀t∈ts,t∈U.keys)->Gg ts x=Gg ts y->x=y:=by
 intro ts
 induction ts with
 | nil=>intro x y _ _;rfl
 | cons t ts ih=>
  intro x y hk h
  obtain⟨x1,x2⟩:=x
  obtain⟨y1,y2⟩:=y
  simp only [Gg,List.cons.injEq] at h
  rw [hU.inj t (hk t (by simp)) _ _ h.1,ih (fun t' ht' =>hk t' (by simp [ht'])) h.2]
theorem Z3f {E:Env} (hU:D7 U E) {mods:FuncId->Option (Af U)} {g:FuncId} {m:Af U} (hm:mods g=some m) {F:List V->Option V} (hF:OU mods g=some F) (x:FY U m.ts):F (Gg m.ts x)=(m.fn x).map (U.enc m.rt):=by
 unfold OU at hF
 simp only [hm,Option.some.injEq] at hF
 subst hF
 have h:∃y:FY U m.ts,Gg m.ts y=Gg m.ts x:=⟨x,rfl⟩
 simp only [dif_pos h]
 rw [Zrz hU m.ok (Classical.choose_spec h)]
theorem ZAL {E:Env} (hU:D7 U E) {mods:FuncId->Option (Af U)} {hmods:FuncId->List FuncId->Option (HMod U)} (henv:E.env=OU mods) (hhm:E.hm=V3 hmods) (hpu:∀g,E.pure g=false) (hpar:∀g m,mods g=some m->E.par g=m.ts)
  (hown:∀g,E.own g=none) (n:Nat):NQ U (Qk mods hmods) (Eh E (n+1)):=by
 intro g as H v H' h
 unfold Qk at h
 cases hm:mods g with
 | none=>
  simp only [hm] at h
  have hne:E.env g=none:=by rw [henv];unfold OU;simp [hm]
  split at h
  ·rename_i m hmm
   have:=ZyI hU h
   unfold Eh
   simp only [hne,hpu g,Bool.false_eq_true,if_false]
   have hfr:PW E g=Z4o hmods g:=by
    unfold PW Z4o
    rw [hne,hpu g,hhm]
    simp only [V3]
    cases hmods g []<;>rfl
   have hk:E.hm g (if PW E g then [] else MJ (Ar U as))=some m.spec:=by rw [hfr,hhm,ZwM];simp only [V3,hmm,Option.map_some]
   simp only [hk,this]
  ·simp [Tr.AY] at h
 | some m=>
  simp only [hm] at h
  by_cases hq:as.any fC=true
  ·rw [if_pos hq] at h
   simp only [EH] at h
   obtain⟨as',h1,h⟩:=h
   split at h
   ·rename_i x hx
    simp only [Tr.AY,EY,Prod.mk.injEq] at h
    obtain⟨r,hr,⟨hfl,hids⟩,rfl,rfl⟩:=h
    have hF:∃F,E.env g=some F:=by rw [henv];unfold OU;simp [hm]
    obtain⟨F,hF⟩:=hF
    have hat:=Z3f hU hm (by rw [<- henv];exact hF) x
    have hfl' :=ZAS _ hfl
    rw [hU.encS] at hfl'
    have hids' : (Ar U as).flatMap Dj=[]:=by rw [Z2u];simpa using hids
    unfold Eh
    simp only [hF]
    rw [if_pos (by rw [ZaV];exact hq),Zu4 h1]
    simp only [hown g,hpar g m hm,Zbl hU hx,hat,hr,Option.map_some]
    rw [if_pos hfl',hids',hU.encS]
    rfl
   ·simp [Tr.AY] at h
  rw [if_neg hq] at h
  simp only [EH] at h
  obtain⟨as',h1,h⟩:=h
  split at h
  ·rename_i x hx
   simp only [Tr.AY,Prod.mk.injEq] at h
   obtain⟨r,hr,rfl,rfl⟩:=h
   have hF:∃F,E.env g=some F:=by rw [henv];unfold OU;simp [hm]
   obtain⟨F,hF⟩:=hF
   have hat:=Z3f hU hm (by rw [<- henv];exact hF) x
   unfold Eh
   simp only [hF]
   rw [if_neg (by rw [ZaV];exact hq)]
   simp only [Z2d h1,hown g,hpar g m hm,Zbl hU hx,hat,hr,Option.map_some,Z2u,Ul H _ (Z8V h1),hU.encS]
  ·simp [Tr.AY] at h
structure Ad (P:Program) (E:Env) (g:FuncId) (m:Af U):Prop where
 entered:OD P g
 pure:∀x a,m.fn x=some a->OO P E g (Gg m.ts x) (U.enc m.rt a)
theorem Ad.Ea {P:Program} {E E' : Env} (h:E'.Ea=E.Ea) {g:FuncId} {m:Af U} (hf:Ad P E g m):Ad P E' g m:=by
 refine⟨hf.entered,fun x a hx fz w vs hc hg hr=>hf.pure x a hx fz w vs hc ?_ hr⟩
 intro g r hh
 exact hg g r (by rw [h];exact hh)
structure Dv (P:Program) (E:Env) (g:FuncId) (m:HMod U):Prop where
 entered:OD P g
 heap:∀x y,m.fn x=some y->sG P E g (Ar U (m.DZ.enc x).1) (BL U (m.DZ.enc x).2) (AU U (m.out y).1) (BL U (m.out y).2)
theorem Dv.Ea {P:Program} {E E' : Env} (h:E'.Ea=E.Ea) {g:FuncId} {m:HMod U} (hf:Dv P E g m):Dv P E' g m:=by
 refine⟨hf.entered,fun x y hx B w0 σ w vs hi hg hr=>hf.heap x y hx B w0 σ w vs hi ?_ hr⟩
 intro g r hh
 exact hg g r (by rw [h];exact hh)
theorem ZcA {P:Program} {E:Env} (hU:D7 U E) {mods:FuncId->Option (Af U)} {hmods:FuncId->List FuncId->Option (HMod U)} (henv:E.env=OU mods) (hhm:E.hm=V3 hmods) (hown:∀g,E.own g=none) (h:∀g m,mods g=some m->Ad P E g m)
  (h' : ∀g k m,hmods g k=some m->Dv P E g m):Qb P E:=by
 refine⟨?_,fun g k hs hh=>?_⟩
 rotate_left
 ·rw [hhm] at hh
  simp only [V3,Option.map_eq_some_iff] at hh
  obtain⟨m,hm,rfl⟩:=hh
  refine⟨(h' g k m hm).entered,fun as H0 r H1 hrun=>?_⟩
  simp only [HMod.spec] at hrun
  split at hrun
  ·rename_i hx
   obtain⟨x,rfl,rfl⟩:=hx
   simp only [Option.map_eq_some_iff] at hrun
   obtain⟨y,hy,he⟩:=hrun
   simp only [Prod.mk.injEq] at he
   obtain⟨rfl,rfl⟩:=he
   generalize hch:(⟨x,rfl,rfl⟩:∃y:m.DZ.X U,Ar U (m.DZ.enc y).1=Ar U (m.DZ.enc x).1/\BL U (m.DZ.enc y).2=BL U (m.DZ.enc x).2)=hex at hy
   have hxe:=Shape.ZdZ hU m.ok (Classical.choose_spec hex).1 (Classical.choose_spec hex).2
   rw [hxe] at hy
   exact(h' g k m hm).heap x y hy
  ·cases hrun
 intro g F hF
 have hm:∃m,mods g=some m:=by
  rw [henv] at hF
  unfold OU at hF
  cases hm:mods g with
  | none=>simp [hm] at hF
  | some m=>exact⟨m,rfl⟩
 obtain⟨m,hm⟩:=hm
 refine⟨(h g m hm).entered,fun as r _ hr=>?_⟩
 rw [hown g]
 have hF' :=hF
 rw [henv] at hF
 unfold OU at hF
 simp only [hm,Option.some.injEq] at hF
 subst hF
 simp only at hr
 split at hr
 ·rename_i hx
  obtain⟨x,hx'⟩:=hx
  subst hx'
  have:=Z3f hU hm (by rw [henv] at hF';exact hF') x
  have hr' : (m.fn x).map (U.enc m.rt)=some r:=by
   rw [<- this]
   simp only [dif_pos (⟨x,rfl⟩:∃y:FY U m.ts,Gg m.ts y=Gg m.ts x)]
   exact hr
  cases hfx:m.fn x with
  | none=>simp [hfx] at hr'
  | some a=>
   simp only [hfx,Option.map_some,Option.some.injEq] at hr'
   subst hr'
   exact(h g m hm).pure x a hfx
 ·cases hr
theorem Zpi {P:Program} {E:Env} (hE:Ci E) (hP:E.P=P) (hF:Qb P E) {n:Nat} {f:FuncId} {fn:Func} (hfn:E.func f=some fn) {c:Code} (hb:fn.body=some c) {as:List V} {r:V} {H1:Heap}
  (h:DU (Eh E n) E f fn 0 (Zp E fn) (.run c) [] ⟨as++List.replicate (fn.ntmps - as.length) EE,[]⟩ (r,H1)):OD P f/\OO P E f as r:=by
 obtain⟨hf1,hf2⟩:=hE.func f fn hfn
 rw [hP] at hf1
 refine⟨⟨fn,hf1,by simp [hb],hf2⟩,?_⟩
 intro fz w vs hcells hg hr
 have hI:Inv w.heap.size (Start.of w fz) (bare fz) [] w:=⟨Below.refl _ w,Nat.le_refl _,fun id L hL=>(by cases hL),fun id bx hb=>by simp at hb,fun i j b1 b2 L1 L2 g h1=>by simp at h1,hcells,
  fun b c hc id bx L hb=>by simp at hb,fun id bx hb=>by simp at hb,fun b c hc _=>hc,fun b hb=>hb.elim⟩
 have hslots:AQ (bare fz) w (as++List.replicate (fn.ntmps - as.length) EE) (vs.toArray++Array.replicate (fn.ntmps - vs.toArray.size) undef).toList:=by
  simp only [Array.toList_append,Array.toList_replicate,List.size_toArray]
  rw [<- hr.length]
  exact hr.append (AQ.replicate _ (.no .nil))
 have hrel:Eu E w.heap.size (Start.of w fz) (bare fz) ⟨as++List.replicate (fn.ntmps - as.length) EE,[]⟩ { tmps:=vs.toArray++Array.replicate (fn.ntmps - vs.toArray.size) undef,defers:=[] } w:=⟨hI,hg,hslots,rfl⟩
 have hwp:=ZdU hE hP (Z2Z hE hP hF n w.heap.size (Start.of w fz)) (UU n) (F:=Fin P fn w.heap.size (Start.of w fz)) (σ0:=bare fz) (ws:=w)
  (fun st r σ a w' hz hr hx=>ZEs hE hP hr (fun b c hh=>(hx.fz b c hh).1) hz) h (hE.calm f fn c hfn hb) rfl _ _ _ hrel (Ext.refl _ _).k
 refine calls_of_wp hf1 hb ?_
 intro fr k cs
 obtain⟨e,a',w',hq,harr⟩:=hwp fr k cs
 refine⟨e,a',w',?_,harr⟩
 cases e with
 | normal=>
  obtain⟨h0,u,fz',h1,h2,h3,h4,h5,h6,h7⟩:=hq
  exact⟨h0,u,h1,u,fz',rfl,h2,h3,h4,h5,h6,h7⟩
 | ret=>
  obtain⟨h0,u,fz',h1,h2,h3,h4,h5,h6,h7⟩:=hq
  exact⟨h0,u,h1,u,fz',rfl,h2,h3,h4,h5,h6,h7⟩
 | exit id=>exact hq.elim
 | goto l=>exact hq.elim
 | panic c=>exact hq.elim
 | outgrown=>exact hq.elim
theorem Zpn {P:Program} {E:Env} (hE:Ci E) (hP:E.P=P) (hF:Qb P E) {n:Nat} {f:FuncId} {fn:Func} (hfn:E.func f=some fn) {c:Code} (hb:fn.body=some c) {as:List V} {H0:Heap} {r:V} {H1:Heap} {fa:List (List Fk)} {fb:List Bf} {k:Nat} (hk:H0.length=k)
  (h:DU (Eh E n) E f fn k (Zh E fn fa fb k) (.run c) [] ⟨as++List.replicate (fn.ntmps - as.length) EE,H0⟩ (r,H1)):OD P f/\sG P E f as H0 r H1:=by
 obtain⟨hf1,hf2⟩:=hE.func f fn hfn
 rw [hP] at hf1
 refine⟨⟨fn,hf1,by simp [hb],hf2⟩,?_⟩
 intro B w0 σ w vs hI hg hr
 have hslots:AQ σ w (as++List.replicate (fn.ntmps - as.length) EE) (vs.toArray++Array.replicate (fn.ntmps - vs.toArray.size) undef).toList:=by
  simp only [Array.toList_append,Array.toList_replicate,List.size_toArray]
  rw [<- hr.length]
  exact hr.append (AQ.replicate _ (.no .nil))
 have hrel:Eu E B w0 σ ⟨as++List.replicate (fn.ntmps - as.length) EE,H0⟩ { tmps:=vs.toArray++Array.replicate (fn.ntmps - vs.toArray.size) undef,defers:=[] } w:=⟨hI,hg,hslots,rfl⟩
 have hwp:=ZdU hE hP (Z2Z hE hP hF n B w0) (UU n) (F:=FinH P fn B w0 σ w) (σ0:=σ) (ws:=w)
  (fun st r σ' a w' hz hr hx=>ZCS hE hP (fun id L hL=>by rw [<- hk];exact hI.Z4c hL) hr hx hz) h (hE.calm f fn c hfn hb) rfl _ _ _ hrel (Ext.refl _ _).k
 refine calls_of_wp hf1 hb ?_
 intro fr k cs
 obtain⟨e,a',w',hq,harr⟩:=hwp fr k cs
 refine⟨e,a',w',?_,harr⟩
 cases e with
 | normal=>
  obtain⟨h0,u,σ',h1,h2,h3,h4⟩:=hq
  exact⟨h0,u,h1,u,σ',rfl,h2,h3,h4⟩
 | ret=>
  obtain⟨h0,u,σ',h1,h2,h3,h4⟩:=hq
  exact⟨h0,u,h1,u,σ',rfl,h2,h3,h4⟩
 | exit id=>exact hq.elim
 | goto l=>exact hq.elim
 | panic c=>exact hq.elim
 | outgrown=>exact hq.elim
theorem Zdk {L R:Type} {J:L->Option R}:∀{T:Tr U L} {r:R},T.den J=some r->∃l,T.AY l/\J l=some r:=by
 intro T
 induction T with
 | leaf l=>intro r h;exact⟨l,rfl,h⟩
 | br c a b iha ihb=>
  intro r h
  cases c with
  | true=>obtain⟨l,h1,h2⟩:=iha h;exact⟨l,.inl ⟨rfl,h1⟩,h2⟩
  | false=>obtain⟨l,h1,h2⟩:=ihb h;exact⟨l,.inr ⟨rfl,h1⟩,h2⟩
 | bind t o k ih=>
  intro r h
  cases o with
  | none=>cases h
  | some a=>obtain⟨l,h1,h2⟩:=ih a h;exact⟨l,⟨a,rfl,h1⟩,h2⟩
 | chk c a ih=>
  intro r h
  cases c with
  | true=>obtain⟨l,h1,h2⟩:=ih h;exact⟨l,⟨rfl,h1⟩,h2⟩
  | false=>cases h
 | fail=>intro r h;cases h
theorem ZAo {L M:Type} {g:L->M}:∀{T:Tr U L} {l:L},T.AY l->(T.map g).AY (g l):=by
 intro T
 induction T with
 | leaf l=>intro l h;simp only [Tr.AY] at h;subst h;rfl
 | br c a b iha ihb=>
  intro l h
  rcases h with ⟨hc,h⟩|⟨hc,h⟩
  ·exact .inl ⟨hc,iha h⟩
  ·exact .inr ⟨hc,ihb h⟩
 | bind t o k ih=>rintro l ⟨a,ha,h⟩;exact⟨a,ha,ih a h⟩
 | chk c a ih=>rintro l ⟨hc,h⟩;exact⟨hc,ih h⟩
 | fail=>intro l h;exact h
def Pm:Code->List Nat->List Fr->Code×List Fr
 | .seq a b,0::p,K=>Pm a p (.seq b::K)
 | .seq a b,_::p,K=>Pm b p K
 | .cond _ a b,0::p,K=>Pm a p K
 | .cond _ a b,_::p,K=>Pm b p K
 | .block id b,_::p,K=>Pm b p (.blk id::K)
 | .loop b,_::p,K=>Pm b p (.loop b::K)
 | .scope b,_::p,K=>Pm b p K
 | c,_,K=>(c,K)
def JM (fn:Func):Code:=match fn.body with|some c=>c|none=>.skip
open Classical in
noncomputable def iF {α:Type} (g:Nat->Option α):Option α:=if h:∃n a,g n=some a then g (Classical.choose h) else none
theorem Z2o {α:Type} {g:Nat->Option α} {a:α} (h:iF g=some a):∃n,g n=some a:=by
 unfold iF at h
 split at h
 ·exact⟨_,h⟩
 ·cases h
def Mono {α:Type} (g:Nat->Option α):Prop:=∀n a,g n=some a->g (n+1)=some a
theorem Mono.le {α:Type} {g:Nat->Option α} (hg:Mono g) {n m:Nat} {a:α} (h:g n=some a) (hle:n<=m):g m=some a:=by
 induction hle with
 | refl=>exact h
 | step _ ih=>exact hg _ _ ih
theorem ZCe {α:Type} {g:Nat->Option α} (hg:Mono g) {n:Nat} {a:α} (h:g n=some a):iF g=some a:=by
 unfold iF
 have hex:∃n a,g n=some a:=⟨n,a,h⟩
 rw [dif_pos hex]
 obtain⟨b,hb⟩:=Classical.choose_spec hex
 have h1:=hg.le h (Nat.le_max_left n (Classical.choose hex))
 have h2:=hg.le hb (Nat.le_max_right n (Classical.choose hex))
 rw [hb]
 rw [h1] at h2
 exact h2.symm
end
abbrev AP (x:Int):Int:=IntKind.wrap .i64 x
structure AB (Ty:Nat->Type) (T:Type) where
 Au:T->List V
 encS:T->List (SV Ty)
 dec:List (SV Ty)->Option (T×List (SV Ty))
section
variable {Ty:Nat->Type}
def AB.int (k:IntKind):AB Ty Int where
 Au:=fun a=>[.lit (.int k a)]
 encS:=fun a=>[.si k a]
 dec:=fun cs=>match cs with
  | .si j a::r=>if j=k then some (a,r) else none
  | .lit (.int j a)::r=>if j=k then some (a,r) else none
  | _=>none
def AB.bool:AB Ty Bool where
 Au:=fun b=>[.lit (.bool b)]
 encS:=fun b=>[.sb b]
 dec:=fun cs=>match cs with
  | .sb b::r=>some (b,r)
  | .lit (.bool b)::r=>some (b,r)
  | _=>none
def AB.str:AB Ty ByteArray where
 Au:=fun b=>[.lit (.string b)]
 encS:=fun b=>[.ss b]
 dec:=fun cs=>match cs with
  | .ss b::r=>some (b,r)
  | .lit (.string b)::r=>some (b,r)
  | _=>none
def AB.list (t n:Nat) (e:Ty t->V):AB Ty (List (Ty t)) where
 Au:=fun xs=>[.sl false n (xs.map e)]
 encS:=fun xs=>[.sl t xs]
 dec:=fun cs=>match cs with
  | .sl t' xs::r=>if h:t' = t then some (h▸xs,r) else none
  | .nil _::r=>some ([],r)
  | _=>none
def AB.unit:AB Ty Unit where
 Au:=fun _=>[]
 encS:=fun _=>[]
 dec:=fun cs=>some ((),cs)
def AB.pair {A B:Type} (a:AB Ty A) (b:AB Ty B):AB Ty (A×B) where
 Au:=fun x=>a.Au x.1++b.Au x.2
 encS:=fun x=>a.encS x.1++b.encS x.2
 dec:=fun cs=>match a.dec cs with
  | some (x,r)=>match b.dec r with|some (y,r')=>some ((x,y),r')|none=>none
  | none=>none
def AB.CZ {A B:Type} (f:A->B) (g:B->A) (b:AB Ty B):AB Ty A where
 Au:=fun x=>b.Au (f x)
 encS:=fun x=>b.encS (f x)
 dec:=fun cs=>match b.dec cs with|some (y,r)=>some (g y,r)|none=>none
def AB.agg {T:Type} (c:AB Ty T) (v:SV Ty):Option T:=match v with
 | .agg cs=>match c.dec cs with|some (a,[])=>some a|_=>none
 | _=>none
def AB.one {T:Type} (c:AB Ty T) (v:SV Ty):Option T:=match c.dec [v] with|some (a,[])=>some a|_=>none
def AB.BV {T:Type} (c:AB Ty T) (a:T):V:=(c.Au a).headD .no
def AB.DR {T:Type} (c:AB Ty T) (a:T):SV Ty:=(c.encS a).headD .no
end
structure A7 (U:CY) {T:Type} (c:AB U.Ty T) (rs:List Nat):Prop where
 enc:∀a,Ar U (c.encS a)=c.Au a
 len:∀a,(c.Au a).length=rs.length
 dec:∀cs a rest,c.dec cs=some (a,rest)->∃pre,cs=pre++rest/\pre.length=rs.length/\F9 rs (Ar U pre)=c.Au a
 nr:∀a,CJ (c.Au a)=true
 inj:∀a b,c.Au a=c.Au b->a=b
section
variable {U:CY}
theorem A7.int (k:IntKind):A7 U (AB.int k:AB U.Ty Int) [0]:=by
 refine⟨fun a=>rfl,fun a=>rfl,?_,fun a=>rfl,fun a b h=>by simpa [AB.int] using h⟩
 intro cs a rest h
 simp only [AB.int] at h
 split at h
 ·rename_i j x r
  split at h
  ·rename_i hj
   simp only [Option.some.injEq,Prod.mk.injEq] at h
   obtain⟨rfl,rfl⟩:=h
   subst hj
   exact⟨[_],rfl,rfl,rfl⟩
  ·cases h
 ·rename_i j x r
  split at h
  ·rename_i hj
   simp only [Option.some.injEq,Prod.mk.injEq] at h
   obtain⟨rfl,rfl⟩:=h
   subst hj
   exact⟨[_],rfl,rfl,rfl⟩
  ·cases h
 ·cases h
theorem A7.bool:A7 U (AB.bool:AB U.Ty Bool) [0]:=by
 refine⟨fun a=>rfl,fun a=>rfl,?_,fun a=>rfl,fun a b h=>by simpa [AB.bool] using h⟩
 intro cs a rest h
 simp only [AB.bool] at h
 split at h<;>cases h<;>exact⟨[_],rfl,rfl,rfl⟩
theorem A7.str:A7 U (AB.str:AB U.Ty ByteArray) [0]:=by
 refine⟨fun a=>rfl,fun a=>rfl,?_,fun a=>rfl,fun a b h=>by simpa [AB.str] using h⟩
 intro cs a rest h
 simp only [AB.str] at h
 split at h<;>cases h<;>exact⟨[_],rfl,rfl,rfl⟩
theorem ZDf {α β:Type} {f:α->β} (hf:∀a b,f a=f b->a=b):∀{xs ys:List α},xs.map f=ys.map f->xs=ys:=by
 intro xs
 induction xs with
 | nil=>intro ys h;cases ys with
  | nil=>rfl
  | cons=>simp at h
 | cons x xs ih=>intro ys h;cases ys with
  | nil=>simp at h
  | cons y ys=>
   simp only [List.map_cons,List.cons.injEq] at h
   rw [hf _ _ h.1,ih h.2]
theorem A7.list {t n:Nat} {e:U.Ty t->V} (he:∀a,U.enc t a=e a) (hn:U.Ap t=n) (hnr:∀a,CU (e a)=true) (hinj:∀a b,e a=e b->a=b):A7 U (AB.list t n e:AB U.Ty (List (U.Ty t))) [n]:=by
 have hmap:∀xs:List (U.Ty t),xs.map (U.enc t)=xs.map e:=fun xs=>List.map_congr_left fun a _=>he a
 refine⟨fun a=>?_,fun a=>rfl,?_,fun a=>?_,fun a b h=>?_⟩
 ·simp [AB.list,Ar,AU,hn,hmap]
 ·intro cs a rest h
  simp only [AB.list] at h
  split at h
  ·rename_i t' xs r
   split at h
   ·rename_i ht
    subst ht
    simp only [Option.some.injEq,Prod.mk.injEq] at h
    obtain⟨rfl,rfl⟩:=h
    exact⟨[_],rfl,rfl,by simp [Ar,AU,F9,GI,AB.list,hn,hmap]⟩
   ·cases h
  ·cases h
   exact⟨[_],rfl,rfl,by simp [Ar,AU,F9,GI,AB.list]⟩
  ·cases h
 ·simp only [AB.list,CJ,CU,Bool.and_true]
  rw [KG]
  intro x hx
  obtain⟨y,_,rfl⟩:=List.mem_map.1 hx
  exact hnr y
 ·simp only [AB.list,List.cons.injEq,V.sl.injEq,true_and,and_true] at h
  exact ZDf hinj h
theorem A7.unit:A7 U (AB.unit:AB U.Ty Unit) []:=
 ⟨fun a=>rfl,fun a=>rfl,fun cs a rest h=>by cases h;exact⟨[],rfl,rfl,rfl⟩,fun a=>rfl,fun a b _=>rfl⟩
theorem Zmd:∀(r1 r2:List Nat) (x y:List V),x.length=r1.length->F9 (r1++r2) (x++y)=F9 r1 x++F9 r2 y:=by
 intro r1
 induction r1 with
 | nil=>intro r2 x y h;cases x with
  | nil=>simp [F9]
  | cons=>simp at h
 | cons r r1 ih=>intro r2 x y h;cases x with
  | nil=>simp at h
  | cons v x=>simp [F9,ih r2 x y (by simpa using h)]
theorem ZmL (x y:List V):CJ (x++y)=(CJ x&&CJ y):=by
 induction x with
 | nil=>simp [CJ]
 | cons a x ih=>simp [CJ,ih,Bool.and_assoc]
theorem A7.pair {A B:Type} {a:AB U.Ty A} {b:AB U.Ty B} {r1 r2:List Nat} (ha:A7 U a r1) (hb:A7 U b r2):A7 U (AB.pair a b) (r1++r2):=by
 refine⟨fun x=>?_,fun x=>?_,?_,fun x=>?_,fun x y h=>?_⟩
 ·simp only [AB.pair,QL,ha.enc,hb.enc]
 ·simp only [AB.pair,List.length_append,ha.len,hb.len]
 ·intro cs x rest h
  simp only [AB.pair] at h
  split at h
  ·rename_i p r hp
   split at h
   ·rename_i q r' hq
    cases h
    obtain⟨p1,e1,l1,t1⟩:=ha.dec _ _ _ hp
    obtain⟨p2,e2,l2,t2⟩:=hb.dec _ _ _ hq
    refine⟨p1++p2,by rw [e1,e2,List.append_assoc],by simp [l1,l2],?_⟩
    rw [QL,Zmd _ _ _ _ (by rw [IU];exact l1),t1,t2]
    rfl
   ·cases h
  ·cases h
 ·simp only [AB.pair,ZmL,ha.nr,hb.nr,Bool.and_self]
 ·simp only [AB.pair] at h
  obtain⟨h1,h2⟩:=List.append_inj h (by rw [ha.len,ha.len])
  obtain⟨x1,x2⟩:=x
  obtain⟨y1,y2⟩:=y
  exact Prod.ext (ha.inj _ _ h1) (hb.inj _ _ h2)
theorem A7.CZ {A B:Type} {f:A->B} {g:B->A} {b:AB U.Ty B} {r:List Nat} (hb:A7 U b r) (hfg:∀y,f (g y)=y) (hgf:∀x,g (f x)=x):A7 U (AB.CZ f g b) r:=by
 refine⟨fun x=>hb.enc _,fun x=>hb.len _,?_,fun x=>hb.nr _,fun x y h=>?_⟩
 ·intro cs x rest h
  simp only [AB.CZ] at h
  split at h
  ·rename_i y r' hy
   cases h
   obtain⟨p,e,l,t⟩:=hb.dec _ _ _ hy
   exact⟨p,e,l,by simp only [AB.CZ,hfg];exact t⟩
  ·cases h
 ·have:=hb.inj _ _ h
  rw [<- hgf x,this,hgf]
theorem A7.agg {T:Type} {c:AB U.Ty T} {r:List Nat} (h:A7 U c r) {v:SV U.Ty} {a:T} (hd:c.agg v=some a):Du r (AU U v) = .agg (c.Au a):=by
 unfold AB.agg at hd
 split at hd
 ·split at hd
  ·rename_i cs _ hcs
   cases hd
   obtain⟨p,e,l,t⟩:=h.dec _ _ _ hcs
   simp only [List.append_nil] at e
   subst e
   simp only [AU,Du,t]
  ·cases hd
 ·cases hd
theorem A7.one {T:Type} {c:AB U.Ty T} {n:Nat} (h:A7 U c [n]) {v:SV U.Ty} {a:T} (hd:c.one v=some a) (hv:∀cs,AU U v≠.agg cs):Du [n] (AU U v)=c.BV a:=by
 unfold AB.one at hd
 split at hd
 ·rename_i hcs
  cases hd
  obtain⟨p,e,l,t⟩:=h.dec _ _ _ hcs
  simp only [List.append_nil] at e
  subst e
  simp only [Ar,F9] at t
  unfold AB.BV
  rw [<- t]
  unfold Du
  split
  ·rename_i cs hcs';exact absurd hcs' (hv cs)
  ·rfl
 ·cases hd
theorem Q5 {k:IntKind} {v:SV U.Ty} {a:Int} (h:(AB.int k:AB U.Ty Int).one v=some a):∀cs,AU U v≠.agg cs:=by
 rintro cs hc
 cases v<;>simp_all [AU,AB.one,AB.int]
theorem ZD4 {v:SV U.Ty} {a:Bool} (h:(AB.bool:AB U.Ty Bool).one v=some a):∀cs,AU U v≠.agg cs:=by
 rintro cs hc
 cases v<;>simp_all [AU,AB.one,AB.bool]
theorem ZFP {v:SV U.Ty} {a:ByteArray} (h:(AB.str:AB U.Ty ByteArray).one v=some a):∀cs,AU U v≠.agg cs:=by
 rintro cs hc
 cases v<;>simp_all [AU,AB.one,AB.str]
theorem NK {t n:Nat} {e:U.Ty t->V} {v:SV U.Ty} {a:List (U.Ty t)} (h:(AB.list t n e:AB U.Ty (List (U.Ty t))).one v=some a):∀cs,AU U v≠.agg cs:=by
 rintro cs hc
 cases v<;>simp_all [AU,AB.one,AB.list]
theorem A7.ZeT {T:Type} {c:AB U.Ty T} {n:Nat} (h:A7 U c [n]) (a:T):AU U (c.DR a)=c.BV a:=by
 unfold AB.DR AB.BV
 rw [<- h.enc a]
 have hl:=h.len a
 rw [<- h.enc a,IU] at hl
 cases hs:c.encS a with
 | nil=>rw [hs] at hl;simp at hl
 | cons x xs=>rfl
theorem A7.Q4 {T:Type} {c:AB U.Ty T} {n:Nat} (h:A7 U c [n]) {a b:T} (he:c.BV a=c.BV b):a=b:=by
 refine h.inj a b ?_
 have h1:=h.len a
 have h2:=h.len b
 unfold AB.BV at he
 cases ha:c.Au a with
 | nil=>rw [ha] at h1;simp at h1
 | cons x xs=>
  cases hb:c.Au b with
  | nil=>rw [hb] at h2;simp at h2
  | cons y ys=>
   rw [ha,hb] at he
   rw [ha] at h1
   rw [hb] at h2
   simp only [List.headD_cons] at he
   have hx:xs=[]:=by simpa using h1
   have hy:ys=[]:=by simpa using h2
   rw [he,hx,hy]
theorem A7.Qj {T:Type} {c:AB U.Ty T} {n:Nat} (h:A7 U c [n]) (a:T):CU (c.BV a)=true:=by
 have:=h.nr a
 unfold AB.BV
 cases ha:c.Au a with
 | nil=>rfl
 | cons x xs=>rw [ha] at this;simp [CJ] at this;exact this.1
end
def AB.skip {Ty:Nat->Type}:AB Ty Unit where
 Au:=fun _=>[.und]
 encS:=fun _=>[.und]
 dec:=fun cs=>match cs with
  | .und::r=>some ((),r)
  | _=>none
theorem A7.skip {U:CY}:A7 U (AB.skip:AB U.Ty Unit) [0]:=by
 refine⟨fun a=>rfl,fun a=>rfl,?_,fun a=>rfl,fun a b _=>rfl⟩
 intro cs a rest h
 simp only [AB.skip] at h
 split at h<;>cases h
 exact⟨[_],rfl,rfl,rfl⟩
def rawS {Ty:Nat->Type}:V->SV Ty
 | .lit v=>.lit v
 | .und=>.und
 | _=>.no
def gI:V->Bool
 | .lit _=>true
 | .und=>true
 | _=>false
def AB.NU {Ty:Nat->Type} {T:Type} (c:AB Ty T) (n:Nat) (a:T):V:=.CG n [.agg (c.Au a)] 0 0
def AB.uZ {Ty:Nat->Type} {T:Type} (c:AB Ty T) (n:Nat) (v:SV Ty):Option T:=match v with
 | .raw (.CG m [.agg cs] 0 0)=>if m=n/\cs.all gI=true then c.agg (.agg (cs.map rawS)) else none
 | _=>none
def AB.PV {Ty:Nat->Type} {T:Type} (c:AB Ty T) (n:Nat) (a:T):V:=.CG n (c.Au a) 0 0
def AB.Z4r {Ty:Nat->Type} {T:Type} (c:AB Ty T) (n:Nat) (v:SV Ty):Option T:=match v with
 | .raw (.CG m [.lit z] 0 0)=>if m=n then (match c.dec [.lit z] with|some (a,[])=>some a|_=>none) else none
 | _=>none
theorem A7.ZAc {U:CY} {T:Type} {c:AB U.Ty T} {r:List Nat} (h:A7 U c r) {n:Nat} {v:SV U.Ty} {a:T} (hd:c.Z4r n v=some a) (rs:List Nat):Du rs (AU U v)=c.PV n a:=by
 unfold AB.Z4r at hd
 split at hd
 ·rename_i m z
  split at hd
  ·rename_i hc
   subst hc
   split at hd
   ·rename_i a' ha
    cases hd
    obtain⟨pre,h1,h2,h3⟩:=h.dec _ _ _ ha
    rw [List.append_nil] at h1
    subst h1
    have:c.Au a=[V.lit z]:=by
     rw [<- h3]
     cases r with
     | nil=>simp [Ar,AU,F9]
     | cons a b=>cases b<;>simp [Ar,AU,F9,GI]
    simp only [AU,Du,GI,AB.PV,this]
   ·cases hd
  ·cases hd
 ·cases hd
theorem A7.ZD1 {U:CY} {T:Type} {c:AB U.Ty T} {r:List Nat} (h:A7 U c r) (n:Nat) (a:T):CU (c.PV n a)=true:=by
 simp [AB.PV,CU,h.nr]
theorem A7.ZA7 {U:CY} {T:Type} {c:AB U.Ty T} {r:List Nat} (h:A7 U c r) {n:Nat} {a b:T} (he:c.PV n a=c.PV n b):a=b:=by
 simp only [AB.PV,V.CG.injEq,and_true,true_and] at he
 exact h.inj _ _ he
theorem ZB8 {U:CY}:∀{cs:List V},cs.all gI=true->Ar U (cs.map rawS)=cs:=by
 intro cs
 induction cs with
 | nil=>intro _;rfl
 | cons c cs ih=>
  intro h
  simp only [List.all_cons,Bool.and_eq_true] at h
  simp only [List.map_cons,Ar,ih h.2]
  cases c<;>simp_all [gI,rawS,AU]
theorem ZuP:∀{cs:List V},cs.all gI=true->∀rs,F9 rs cs=cs:=by
 intro cs
 induction cs with
 | nil=>intro _ rs;cases rs<;>rfl
 | cons c cs ih=>
  intro h rs
  simp only [List.all_cons,Bool.and_eq_true] at h
  cases rs with
  | nil=>rfl
  | cons r rs=>
   simp only [F9,ih h.2]
   cases c<;>simp_all [gI,GI]
theorem A7.Ze0 {U:CY} {T:Type} {c:AB U.Ty T} {r:List Nat} (h:A7 U c r) {n:Nat} {v:SV U.Ty} {a:T} (hd:c.uZ n v=some a) (rs:List Nat):Du rs (AU U v)=c.NU n a:=by
 unfold AB.uZ at hd
 split at hd
 ·rename_i m cs
  split at hd
  ·rename_i hc
   obtain⟨rfl,hall⟩:=hc
   have:=h.agg hd
   simp only [AU,Du,ZB8 hall,V.agg.injEq] at this
   rw [ZuP hall] at this
   simp only [AU,Du,GI,AB.NU,this]
  ·cases hd
 ·cases hd
theorem A7.ZeE {U:CY} {T:Type} {c:AB U.Ty T} {r:List Nat} (h:A7 U c r) (n:Nat) (a:T):CU (c.NU n a)=true:=by
 simp [AB.NU,CU,CJ,h.nr]
theorem A7.Ze2 {U:CY} {T:Type} {c:AB U.Ty T} {r:List Nat} (h:A7 U c r) {n:Nat} {a b:T} (he:c.NU n a=c.NU n b):a=b:=by
 simp only [AB.NU,V.CG.injEq,List.cons.injEq,V.agg.injEq,and_true,true_and] at he
 exact h.inj _ _ he
noncomputable def NZ {U:CY} (P:Program) (gl:Nat->Option (List V)) (f:FuncId) (mods:FuncId->Option (Af U)) (hmods:FuncId->List FuncId->Option (HMod U)):Env:=
 { Nw P (fun _=>false) (OU mods) with
  func:=fun g=>if g=f then P.funcs[g]? else none
  Ea:=gl
  hm:=V3 hmods
  par:=fun g=>match mods g with|some m=>m.ts|none=>[] }
def ZBU (E:Env) (P:Program) (f:FuncId):Bool:=match (P.funcs[f]?).bind (·.body) with|some c=>!E8 E f c|none=>false
noncomputable def EV {U:CY} (P:Program) (gl:Nat->Option (List V)) (f:FuncId) (mods:FuncId->Option (Af U)) (hmods:FuncId->List FuncId->Option (HMod U)):Env:=
 { NZ P gl f mods hmods with quiet:=ZBU (NZ P gl f mods hmods) P f }
section
variable {U:CY} {P:Program} {gl:Nat->Option (List V)} {f:FuncId} {mods:FuncId->Option (Af U)} {hmods:FuncId->List FuncId->Option (HMod U)}
theorem Zf6 (hmix:P.follows .mixedOrders=true) {fn:Func} {c:Code} (hfn:P.funcs[f]? = some fn) (hname:(fn.name == "runtime.NumGoroutine")=false) (hb:fn.body=some c) (hcalm:E8 (EV P gl f mods hmods) f c=true):Ci (EV P gl f mods hmods):=by
 refine⟨fun t i h=>h,?_,hmix,?_,?_,?_,?_,fun t ks h=>h,?_⟩
 ·intro g fn' h
  simp only [EV,NZ] at h
  split at h
  ·rename_i hg
   subst hg
   rw [hfn] at h
   cases h
   exact⟨hfn,hname⟩
  ·cases h
 ·intro g fn' c' h hb'
  simp only [EV,NZ] at h
  split at h
  ·rename_i hg
   subst hg
   rw [hfn] at h
   cases h
   rw [hb] at hb'
   cases hb'
   exact hcalm
  ·cases h
 ·intro t k h
  simp only [EV,NZ,Nw] at h
  split at h
  ·rename_i d hd
   simp only [Option.some.injEq] at h
   subst h
   exact hd
  ·cases h
 ·intro t h
  simp only [EV,NZ,Nw] at h
  split at h
  ·rename_i hd;exact hd
  ·cases h
 ·intro t h
  simp only [EV,NZ,Nw] at h
  split at h
  ·rename_i hd;exact hd
  ·cases h
 ·intro t h
  simp only [EV,NZ,Nw] at h
  split at h
  ·rename_i e he
   split at h
   ·rename_i hd;exact⟨e,he,hd⟩
   ·cases h
  ·cases h
def qR:(ts:List Nat)->FY U ts->List (SV U.Ty)
 | [],_=>[]
 | t::ts,x=>U.encS t x.1::qR ts x.2
def fE (ts:List Nat) (x:FY U ts) (n:Nat):D8 U:=⟨qR ts x++List.replicate (n - ts.length) .no,[]⟩
theorem Zqj {E:Env} (hU:D7 U E):∀{ts:List Nat} (x:FY U ts),Ar U (qR ts x)=Gg ts x:=by
 intro ts
 induction ts with
 | nil=>intro x;rfl
 | cons t ts ih=>intro x;simp only [qR,Ar,Gg,hU.encS,ih]
theorem Z7p:∀{ts:List Nat} (x:FY U ts),(Gg ts x).length=ts.length:=by
 intro ts
 induction ts with
 | nil=>intro x;rfl
 | cons t ts ih=>intro x;simp [Gg,ih]
theorem Zvp {E:Env} (hU:D7 U E) {ts:List Nat} (x:FY U ts) (n:Nat):CX U (fE ts x n)=⟨Gg ts x++List.replicate (n - (Gg ts x).length) EE,[]⟩:=by
 simp only [CX,fE,QL,Zqj hU,Z7p]
 congr 1
 congr 1
 rw [En,List.map_replicate]
 rfl
theorem fn_ok {E0:Env} (hE0:E0.Ea=gl) (hU:D7 U (EV P gl f mods hmods)) (hmix:P.follows .mixedOrders=true) {fn:Func} {c:Code} (hok:∀g m,mods g=some m->Ad P E0 g m) (hhok:∀g k m,hmods g k=some m->Dv P E0 g m) (hfn:P.funcs[f]? = some fn) (hname:(fn.name == "runtime.NumGoroutine")=false)
  (hb:fn.body=some c) (hcalm:E8 (EV P gl f mods hmods) f c=true) (m:Af U)
  (h:∀x a,m.fn x=some a->DU (Eh (EV P gl f mods hmods) 1) (EV P gl f mods hmods) f fn 0 (Zp (EV P gl f mods hmods) fn) (.run c) [] (CX U (fE m.ts x fn.ntmps)) (U.enc m.rt a,[])):Ad P E0 f m:=by
 have hE:=Zf6 (gl:=gl) (mods:=mods) hmix hfn hname hb hcalm
 have hF:Qb P (EV P gl f mods hmods):=ZcA hU rfl rfl (fun _=>rfl) (fun g m hm=>(hok g m hm).Ea (by rw [hE0];rfl)) (fun g k m hm=>(hhok g k m hm).Ea (by rw [hE0];rfl))
 have hfn' : (EV P gl f mods hmods).func f=some fn:=by simp only [EV,NZ,if_true];exact hfn
 have key:∀x a,m.fn x=some a->OD P f/\OO P (EV P gl f mods hmods) f (Gg m.ts x) (U.enc m.rt a):=by
  intro x a hx
  have:=h x a hx
  rw [Zvp hU] at this
  exact Zpi hE rfl hF hfn' hb this
 refine⟨⟨fn,hfn,by simp [hb],hname⟩,fun x a hx fz w vs hc hg hr=>(key x a hx).2 fz w vs hc ?_ hr⟩
 intro g r hh
 exact hg g r (by rw [hE0];exact hh)
def fD (e:List (SV U.Ty)×BC U) (n:Nat):D8 U:=⟨e.1++List.replicate (n - e.1.length) .no,e.2⟩
theorem Zx7 (e:List (SV U.Ty)×BC U) (n:Nat):CX U (fD e n)=⟨Ar U e.1++List.replicate (n - (Ar U e.1).length) EE,BL U e.2⟩:=by
 simp only [CX,fD,QL,IU]
 congr 1
 congr 1
 rw [En,List.map_replicate]
 rfl
theorem ZFy {E0:Env} (hE0:E0.Ea=gl) (hU:D7 U (EV P gl f mods hmods)) (hmix:P.follows .mixedOrders=true) {fn:Func} {c:Code} (hok:∀g m,mods g=some m->Ad P E0 g m) (hhok:∀g k m,hmods g k=some m->Dv P E0 g m) (hfn:P.funcs[f]? = some fn) (hname:(fn.name == "runtime.NumGoroutine")=false)
  (hb:fn.body=some c) (hcalm:E8 (EV P gl f mods hmods) f c=true) (m:HMod U) {fa:List (List Fk)} {fb:List Bf} {k:Nat} (hk:∀x:m.DZ.X U,(m.DZ.enc x).2.length=k)
  (h:∀(x:m.DZ.X U) (y:U.Ty m.ky),m.fn x=some y->DU (Eh (EV P gl f mods hmods) 1) (EV P gl f mods hmods) f fn k (Zh (EV P gl f mods hmods) fn fa fb k) (.run c) [] (CX U (fD (m.DZ.enc x) fn.ntmps)) (AU U (m.out y).1,BL U (m.out y).2)):Dv P E0 f m:=by
 have hE:=Zf6 (gl:=gl) (mods:=mods) (hmods:=hmods) hmix hfn hname hb hcalm
 have hF:Qb P (EV P gl f mods hmods):=ZcA hU rfl rfl (fun _=>rfl) (fun g m hm=>(hok g m hm).Ea (by rw [hE0];rfl)) (fun g k m hm=>(hhok g k m hm).Ea (by rw [hE0];rfl))
 have hfn' : (EV P gl f mods hmods).func f=some fn:=by simp only [EV,NZ,if_true];exact hfn
 refine⟨⟨fn,hfn,by simp [hb],hname⟩,fun x y hx B w0 σ w vs hi hg hr=>?_⟩
 have h1:=h x y hx
 rw [Zx7] at h1
 exact(Zpn hE rfl hF hfn' hb (by rw [RY];exact hk x) h1).2 B w0 σ w vs hi (fun g r hh=>hg g r (by rw [hE0];exact hh)) hr
theorem ZeN (hU:D7 U (EV P gl f mods hmods)):NQ U (Qk mods hmods) (Eh (EV P gl f mods hmods) 1):=
 ZAL hU rfl rfl (fun _=>rfl) (fun g m h=>by simp only [EV,NZ,h]) (fun _=>rfl) 0
end
structure CE (U:CY) (E:Env) (t:Nat):Prop where
 encS:∀a,AU U (U.encS t a)=U.enc t a
 dec:∀v a,U.Gq t v=some a->Du (E.rows t) (AU U v)=U.enc t a
 cells:∀a,(U.enc t a).cells=Ar U (cellsS (U.encS t a))
 nr:∀a,CU (U.enc t a)=true
 inj:∀a b,U.enc t a=U.enc t b->a=b
def fJ (U:CY) (E:Env) {α:Type}:List ((i:Nat)×(α->U.Ty i))->Prop
 | []=>True
 | c::cs=>CE U E c.1/\fJ U E cs
def Z44 (U:CY) {α:Type} (x y:α):List ((i:Nat)×(α->U.Ty i))->Prop
 | []=>True
 | c::cs=>c.2 x=c.2 y/\Z44 U x y cs
theorem ZcU {U:CY} {E:Env} {α:Type} (x:α):∀{cs:List ((i:Nat)×(α->U.Ty i))},fJ U E cs->Ar U (cs.map fun c=>U.encS c.1 (c.2 x))=cs.map fun c=>U.enc c.1 (c.2 x):=by
 intro cs
 induction cs with
 | nil=>intro _;rfl
 | cons c cs ih=>intro h;simp only [List.map_cons,Ar,h.1.encS,ih h.2]
theorem ZBO {U:CY} {E:Env} {α:Type} (x:α):∀{cs:List ((i:Nat)×(α->U.Ty i))},fJ U E cs->CJ (cs.map fun c=>U.enc c.1 (c.2 x))=true:=by
 intro cs
 induction cs with
 | nil=>intro _;rfl
 | cons c cs ih=>intro h;simp only [List.map_cons,CJ,h.1.nr,ih h.2,Bool.and_self]
theorem ZB4 {U:CY} {E:Env} {α:Type} (x y:α):∀{cs:List ((i:Nat)×(α->U.Ty i))},fJ U E cs->(cs.map fun c=>U.enc c.1 (c.2 x))=(cs.map fun c=>U.enc c.1 (c.2 y))->Z44 U x y cs:=by
 intro cs
 induction cs with
 | nil=>intro _ _;trivial
 | cons c cs ih=>intro h e;simp only [List.map_cons,List.cons.injEq] at e;exact⟨h.1.inj _ _ e.1,ih h.2 e.2⟩
theorem CE.BF {U:CY} {E:Env} {t:Nat} (cs:List ((i:Nat)×(U.Ty t->U.Ty i))) (h:fJ U E cs) (h1:∀x,U.enc t x = .BF (cs.map fun c=>U.enc c.1 (c.2 x))) (h2:∀x,U.encS t x = .BF (cs.map fun c=>U.encS c.1 (c.2 x))) (h3:∀v,U.Gq t v=none)
  (h4:∀x y,Z44 U x y cs->x=y):CE U E t:=by
 refine⟨fun a=>?_,fun v a e=>?_,fun a=>?_,fun a=>?_,fun a b e=>?_⟩
 ·rw [h1,h2,AU,ZcU a h]
 ·rw [h3] at e;cases e
 ·rw [h1,h2]
  show [V.BF _]=[V.BF _]
  rw [ZcU a h]
 ·rw [h1];exact ZBO a h
 ·rw [h1,h1] at e
  exact h4 a b (ZB4 a b h (V.BF.inj e))
theorem CE.Gp {U:CY} {E:Env} {t:Nat} {c:AB U.Ty (U.Ty t)} {rs:List Nat} (hc:A7 U c rs) (hr:E.rows t=rs) (h1:∀a,U.enc t a = .agg (c.Au a)) (h2:∀a,U.encS t a = .agg (c.encS a)) (h3:∀v,U.Gq t v=c.agg v):CE U E t:=by
 refine⟨fun a=>?_,fun v a h=>?_,fun a=>?_,fun a=>?_,fun a b h=>?_⟩
 ·rw [h1,h2,AU,hc.enc]
 ·rw [hr,h1];exact hc.agg (by rw [<- h3];exact h)
 ·rw [h1,h2];exact(hc.enc a).symm
 ·rw [h1];exact hc.nr a
 ·rw [h1,h1] at h;exact hc.inj _ _ (V.agg.inj h)
theorem CE.Hg {U:CY} {E:Env} {t n:Nat} {c:AB U.Ty (U.Ty t)} (hc:A7 U c [n]) (hr:E.rows t=[n]) (na:∀{v:SV U.Ty} {a:U.Ty t},c.one v=some a->∀cs,AU U v≠.agg cs) (h1:∀a,U.enc t a=c.BV a) (h2:∀a,U.encS t a=c.DR a) (h3:∀v,U.Gq t v=c.one v)
  (h4:∀a,(c.BV a).cells=[c.BV a]) (h5:∀a,cellsS (c.DR a)=[c.DR a]):CE U E t:=by
 refine⟨fun a=>?_,fun v a h=>?_,fun a=>?_,fun a=>?_,fun a b h=>?_⟩
 ·rw [h1,h2];exact hc.ZeT a
 ·rw [h3] at h;rw [hr,h1];exact hc.one h (na h)
 ·rw [h1,h2,h4,h5,Ar,Ar,hc.ZeT]
 ·rw [h1];exact hc.Qj a
 ·rw [h1,h1] at h;exact hc.Q4 h
def iE (p:Nat->Prop):List Nat->Prop
 | []=>True
 | t::ts=>p t/\iE p ts
theorem iE.at {p:Nat->Prop} {t:Nat}:∀{l:List Nat},iE p l->t∈l->p t:=by
 intro l
 induction l with
 | nil=>intro _ m;cases m
 | cons x l ih=>
  intro h m
  rcases List.mem_cons.1 m with rfl|m
  ·exact h.1
  ·exact ih h.2 m
section
variable {U:CY} {R P:Type}
def Hf {R P:Type} (g:P->Option R):R⊕P->Option R
 | .inl r=>some r
 | .inr q=>g q
def Qh (T:P->Tr U (R⊕P)):Nat->P->Option R
 | 0,_=>none
 | n+1,p=>(T p).den (Hf (Qh T n))
noncomputable def AV (T:P->Tr U (R⊕P)) (p:P):Option R:=iF fun n=>Qh T n p
theorem ZeJ {L:Type} {J K:L->Option R} (h:∀l r,J l=some r->K l=some r):∀{T:Tr U L} {r:R},T.den J=some r->T.den K=some r:=by
 intro T
 induction T with
 | leaf l=>intro r hr;exact h l r hr
 | br c a b iha ihb=>intro r hr;cases c with
  | true=>exact iha hr
  | false=>exact ihb hr
 | bind t o k ih=>intro r hr;cases o with
  | none=>cases hr
  | some a=>exact ih a hr
 | chk c a ih=>intro r hr;cases c with
  | true=>exact ih hr
  | false=>cases hr
 | fail=>intro r hr;cases hr
theorem Zw5 (T:P->Tr U (R⊕P)):∀n p r,Qh T n p=some r->Qh T (n+1) p=some r:=by
 intro n
 induction n with
 | zero=>intro p r h;cases h
 | succ n ih=>
  intro p r h
  refine ZeJ ?_ h
  intro l r hl
  cases l with
  | inl a=>exact hl
  | inr q=>exact ih q r hl
theorem ZdX (T:P->Tr U (R⊕P)) {n:Nat} {p:P} {r:R} (h:Qh T n p=some r):AV T p=some r:=
 ZCe (fun n a h=>Zw5 T n p a h) h
theorem AZ (T:P->Tr U (R⊕P)) (p:P):AV T p=(T p).den (Hf (AV T)):=by
 have h1:∀r,AV T p=some r->(T p).den (Hf (AV T))=some r:=by
  intro r h
  obtain⟨n,hn⟩:=Z2o h
  cases n with
  | zero=>cases hn
  | succ n=>
   refine ZeJ ?_ hn
   intro l r hl
   cases l with
   | inl a=>exact hl
   | inr q=>exact ZdX T hl
 have h2:∀r,(T p).den (Hf (AV T))=some r->AV T p=some r:=by
  intro r h
  obtain⟨l,hl,hr⟩:=Zdk h
  have key:∃n,(T p).den (Hf (Qh T n))=some r:=by
   have hn:∃n,Hf (Qh T n) l=some r:=by
    cases l with
    | inl a=>exact⟨0,hr⟩
    | inr q=>obtain⟨n,hn⟩:=Z2o hr;exact⟨n,hn⟩
   obtain⟨n,hn⟩:=hn
   refine⟨n,?_⟩
   have:∀(X:Tr U (R⊕P)),X.AY l->X.den (Hf (Qh T n))=some r:=by
    intro X
    induction X with
    | leaf x=>intro hx;simp only [Tr.AY] at hx;subst hx;exact hn
    | br c a b iha ihb=>
     rintro (⟨rfl,hx⟩|⟨rfl,hx⟩)
     ·exact iha hx
     ·exact ihb hx
    | bind t o k ih=>rintro ⟨a,rfl,hx⟩;exact ih a hx
    | chk c a ih=>rintro ⟨rfl,hx⟩;exact ih hx
    | fail=>intro hx;exact hx.elim
   exact this _ hl
  obtain⟨n,hn⟩:=key
  exact ZdX T (n:=n+1) hn
 cases ha:AV T p with
 | some r=>exact(h1 r ha).symm
 | none=>
  cases hb:(T p).den (Hf (AV T)) with
  | none=>rfl
  | some r=>rw [h2 r hb] at ha;cases ha
structure Ac (U:CY) where
 c:Code
 K:List Fr
 st:D8 U
 sk:Bool
def SG {R:Type} (out:R->SV U.Ty×BC U) (sp:P->Ac U):R⊕P->Vb U
 | .inl r=>.done (out r)
 | .inr q=>.jump (sp q).c (sp q).K (sp q).st
end
def vJ {U:CY} (rt:Nat) (r:U.Ty rt):SV U.Ty×BC U:=(U.encS rt r,[])
structure Lay where
 keep:List Nat
 fa:List (List Fk)
 fb:List Bf
 sh:Shape
section
variable {U:CY}
def sN {L:Type} (bs:List Bool) (t:Tr U L):Tr U L:=match bs with
 | []=>t
 | c::cs=>.chk (Ux (c::cs)) t
theorem Z1q {L:Type} {bs:List Bool} {t:Tr U L} {l:L} (h:(sN bs t).AY l):(∀b∈bs,b=true)/\t.AY l:=by
 cases bs with
 | nil=>exact⟨by intro b hb;simp at hb,h⟩
 | cons c cs=>exact⟨Zbv h.1,h.2⟩
def layT (kk:Nat) (l:Lay) (st:D8 U):Tr U (D8 U):=
 (VU l.fa l.fb kk (l.keep.map fun i=>st.s.getD i .und) st.H).andThen fun r=>
  .when (r.1.take kk=List.range kk) (match l.sh.dec (NM (r.1.idxOf ·) r.2.1) (VN r.2.2 r.1) with
   | some x=>sN x.2 (.leaf ⟨spread .und st.s.length l.keep (l.sh.enc x.1).1,(l.sh.enc x.1).2⟩)
   | none=>.fail)
theorem Zxs (s:List (SV U.Ty)) (keep:List Nat):Ar U (keep.map fun i=>s.getD i .und)=keep.map fun i=>(Ar U s).getD i .und:=by
 induction keep with
 | nil=>rfl
 | cons i keep ih=>simp only [List.map_cons,Ar,ih,<- Ub]
theorem ZDH {E:Env} (hU:D7 U E) {kk:Nat} {l:Lay} {st st' : D8 U} (h:(layT kk l st).AY st'):∃ids as H2,pack l.fa l.fb kk (l.keep.map fun i=>(CX U st).s.getD i .und) (CX U st).H=some (ids,as,H2)/\ids.take kk=List.range kk /\
  CX U st' = ⟨spread .und (CX U st).s.length l.keep (Gi (ids.idxOf ·) as),Ih H2 ids⟩:=by
 simp only [layT,EH,EY] at h
 obtain⟨p,hp,hk,h⟩:=h
 have hp' :=qU hp
 rw [Zxs] at hp'
 split at h
 ·rename_i x hx
  obtain⟨hb,h⟩:=Z1q h
  simp only [Tr.AY] at h
  subst h
  obtain⟨e1,e2⟩:=Shape.sQ hU hx hb
  refine⟨_,_,_,hp',hk,?_⟩
  rw [Ou] at e1
  rw [qC] at e2
  simp only [CX]
  rw [e1,e2,IU]
  congr 1
  rw [En,Zwy,<- En]
  rfl
 ·simp [Tr.AY] at h
def uJ (E:Env) (fn:Func) (fa:List (List Fk)) (fb:List Bf) (k:Nat) (sh:Shape) (one:Bool) (st:D8 U):Tr U (SV U.Ty×BC U):=
 (Z4s E fn fa fb k st).andThen fun r=>match one,r.1 with
  | true,.BF _=>.fail
  | true,v=>(match sh.dec [v] r.2 with
   | some x=>sN x.2 (.leaf ((sh.enc x.1).1.headD .und,(sh.enc x.1).2))
   | none=>.fail)
  | false,.BF vs=>(match sh.dec vs r.2 with
   | some x=>sN x.2 (.leaf (.BF (sh.enc x.1).1,(sh.enc x.1).2))
   | none=>.fail)
  | false,_=>.fail
theorem ZAw {E:Env} (hU:D7 U E) {fn:Func} {fa:List (List Fk)} {fb:List Bf} {k:Nat} {sh:Shape} {one:Bool} {st:D8 U} {r:SV U.Ty×BC U} (h:(uJ E fn fa fb k sh one st).AY r):Zh E fn fa fb k (CX U st) (AU U r.1,BL U r.2):=by
 simp only [uJ,EH] at h
 obtain⟨q,hq,h⟩:=h
 have hz:=ZBl hU hq
 have key:AU U q.1=AU U r.1/\BL U q.2=BL U r.2:=by
  split at h
  ·simp [Tr.AY] at h
  ·split at h
   ·rename_i x hx
    obtain⟨hb,h⟩:=Z1q h
    simp only [Tr.AY] at h
    subst h
    obtain⟨e1,e2⟩:=Shape.sQ hU hx hb
    refine⟨?_,e2⟩
    cases he:(sh.enc x.1).1 with
    | nil=>rw [he] at e1;cases e1
    | cons y ys=>
     rw [he] at e1
     simp only [Ar,List.cons.injEq] at e1
     exact e1.1
   ·simp [Tr.AY] at h
  ·rename_i vs hvs
   split at h
   ·rename_i x hx
    obtain⟨hb,h⟩:=Z1q h
    simp only [Tr.AY] at h
    subst h
    obtain⟨e1,e2⟩:=Shape.sQ hU hx hb
    refine⟨?_,e2⟩
    rw [hvs]
    simp only [AU,e1]
   ·simp [Tr.AY] at h
  ·simp [Tr.AY] at h
 rw [<- key.1,<- key.2]
 exact hz
def ER (E:Env) (M:IJ U) (A:Nat->Option Lay) (f:FuncId) (fn:Func) (kk:Nat) (D:D8 U->Tr U (SV U.Ty×BC U)):Nat->Vp->List Fr->D8 U->Bool->Tr U (Vb U)
 | 0,_,_,_,_=>.fail
 | n+1,.run c,K,st,sk=>
  match c with
  | .skip=>ER E M A f fn kk D n .nxt K st sk
  | .region id ops draw=>
   let go:Tr U (Vb U):=if draw then (if E.calm f id then (uH E M ops st).andThen fun st' =>ER E M A f fn kk D n .nxt K st' false else .fail)
    else (opsT E M ops (List.range ops.size) st).andThen fun st' =>ER E M A f fn kk D n .nxt K st' false
   match sk with
   | true=>go
   | false=>match A id with
    | none=>go
    | some l=>(layT kk l st).andThen fun st' =>.leaf (.jump (.region id ops draw) K st')
  | .seq a b=>ER E M A f fn kk D n (.run a) (.seq b::K) st sk
  | .cond c a b=>match Cm E st.s c with
   | .lit (.bool true)=>ER E M A f fn kk D n (.run a) K st sk
   | .lit (.bool false)=>ER E M A f fn kk D n (.run b) K st sk
   | .sb t=>.br t (ER E M A f fn kk D n (.run a) K st sk) (ER E M A f fn kk D n (.run b) K st sk)
   | _=>.fail
  | .block id b=>ER E M A f fn kk D n (.run b) (.blk id::K) st sk
  | .loop b=>ER E M A f fn kk D n (.run b) (.loop b::K) st sk
  | .scope b=>ER E M A f fn kk D n (.run b) K st sk
  | .label _=>ER E M A f fn kk D n .nxt K st sk
  | .exit id=>ER E M A f fn kk D n (.exit id) K st sk
  | .ret=>ER E M A f fn kk D n .ret K st sk
  | _=>.fail
 | n+1,.nxt,[],st,_=>(D st).andThen fun v=>.leaf (.done v)
 | n+1,.nxt,.seq c::K,st,sk=>ER E M A f fn kk D n (.run c) K st sk
 | n+1,.nxt,.blk _::K,st,sk=>ER E M A f fn kk D n .nxt K st sk
 | n+1,.nxt,.loop b::K,st,sk=>ER E M A f fn kk D n (.run b) (.loop b::K) st sk
 | n+1,.exit id,.blk i::K,st,sk=>if id=i then ER E M A f fn kk D n .nxt K st sk else ER E M A f fn kk D n (.exit id) K st sk
 | n+1,.exit id,_::K,st,sk=>ER E M A f fn kk D n (.exit id) K st sk
 | n+1,.exit _,[],_,_=>.fail
 | n+1,.ret,[],st,_=>(D st).andThen fun v=>.leaf (.done v)
 | n+1,.ret,_::K,st,sk=>ER E M A f fn kk D n .ret K st sk
theorem ZCw {E:Env} {M:IJ U} {A:Nat->Option Lay} {call:Dl} (hU:D7 U E) (hM:NQ U M call) {f:FuncId} {fn:Func} {kk:Nat} {D:D8 U->Tr U (SV U.Ty×BC U)} {Z:St->V×Heap->Prop} (hD:∀st s,(D st).AY s->Z (CX U st) (AU U s.1,BL U s.2)) {r:V×Heap}:∀(n:Nat) (ctl:Vp) (K:List Fr) (st:D8 U) (sk:Bool) (l:Vb U),
  (ER E M A f fn kk D n ctl K st sk).AY l->ZBj call E f fn kk Z l r->DU call E f fn kk Z ctl K (CX U st) r:=by
 intro n
 induction n with
 | zero=>intro ctl K st sk l h;simp [ER,Tr.AY] at h
 | succ n ih=>
  intro ctl K st sk l h hl
  cases ctl with
  | run c=>
   cases c with
   | skip=>exact .skip (ih _ _ _ _ _ h hl)
   | region id ops draw=>
    simp only [ER] at h
    have go:(if draw=true then (if E.calm f id=true then (uH E M ops st).andThen fun st' =>ER E M A f fn kk D n .nxt K st' false else .fail)
      else (opsT E M ops (List.range ops.size) st).andThen fun st' =>ER E M A f fn kk D n .nxt K st' false:Tr U (Vb U)).AY l->DU call E f fn kk Z (.run (.region id ops draw)) K (CX U st) r:=by
     intro hg
     cases draw with
     | true=>
      simp only [if_true] at hg
      by_cases hc:E.calm f id=true
      ·rw [if_pos hc,EH] at hg
       obtain⟨st1,h1,h2⟩:=hg
       exact .draw hc (ZAR hU hM h1) (ih _ _ _ _ _ h2 hl)
      ·rw [if_neg hc] at hg
       simp [Tr.AY] at hg
     | false=>
      simp only [Bool.false_eq_true,if_false] at hg
      rw [EH] at hg
      obtain⟨st1,h1,h2⟩:=hg
      exact .region (ZC6 hU hM h1) (ih _ _ _ _ _ h2 hl)
    cases sk with
    | true=>exact go h
    | false=>
     simp only at h
     split at h
     ·exact go h
     ·rename_i l' hA
      simp only [EH,Tr.AY] at h
      obtain⟨st1,ht,rfl⟩:=h
      obtain⟨ids,as,H2,h1,h2,h3⟩:=ZDH hU ht
      have hl' : DU call E f fn kk Z (.run (.region id ops draw)) K (CX U st1) r:=hl
      rw [h3] at hl'
      exact .ZeV h1 h2 hl'
   | seq a b=>exact .seq (ih _ _ _ _ _ h hl)
   | cond c a b=>
    simp only [ER] at h
    have hev:ev E (CX U st).s c=AU U (Cm E st.s c):=Fb E st.s c
    split at h
    ·rename_i hc
     rw [hc] at hev
     exact .cond (t:=true) hev (ih _ _ _ _ _ h hl)
    ·rename_i hc
     rw [hc] at hev
     exact .cond (t:=false) hev (ih _ _ _ _ _ h hl)
    ·rename_i t hc
     rw [hc] at hev
     simp only [Tr.AY] at h
     rcases h with ⟨rfl,h⟩|⟨rfl,h⟩
     ·exact .cond (t:=true) hev (ih _ _ _ _ _ h hl)
     ·exact .cond (t:=false) hev (ih _ _ _ _ _ h hl)
    ·simp [Tr.AY] at h
   | block id b=>exact .block (ih _ _ _ _ _ h hl)
   | loop b=>exact .loop (ih _ _ _ _ _ h hl)
   | scope b=>exact .scope (ih _ _ _ _ _ h hl)
   | label l=>exact .label (ih _ _ _ _ _ h hl)
   | exit id=>exact .exit (ih _ _ _ _ _ h hl)
   | ret=>exact .ret (ih _ _ _ _ _ h hl)
   | _=>simp [ER,Tr.AY] at h
  | nxt=>
   cases K with
   | nil=>
    simp only [ER,EH,Tr.AY] at h
    obtain⟨v,h1,rfl⟩:=h
    have:r=(AU U v.1,BL U v.2):=hl
    rw [this]
    exact .finN (hD _ _ h1)
   | cons x K=>
    cases x with
    | seq c=>exact .nseq (ih _ _ _ _ _ h hl)
    | blk i=>exact .nblk (ih _ _ _ _ _ h hl)
    | loop b=>exact .ZeU (ih _ _ _ _ _ h hl)
  | exit id=>
   cases K with
   | nil=>simp [ER,Tr.AY] at h
   | cons x K=>
    cases x with
    | seq c=>exact .eseq (ih _ _ _ _ _ h hl)
    | blk i=>
     simp only [ER] at h
     split at h
     ·rename_i hi
      subst hi
      exact .eblk (ih _ _ _ _ _ h hl)
     ·rename_i hi
      exact .Zf3 hi (ih _ _ _ _ _ h hl)
    | loop b=>exact .Zfg (ih _ _ _ _ _ h hl)
  | ret=>
   cases K with
   | nil=>
    simp only [ER,EH,Tr.AY] at h
    obtain⟨v,h1,rfl⟩:=h
    have:r=(AU U v.1,BL U v.2):=hl
    rw [this]
    exact .finR (hD _ _ h1)
   | cons x K=>exact .rany (ih _ _ _ _ _ h hl)
theorem ZbH {R P:Type} {E:Env} {M:IJ U} {A:Nat->Option Lay} {call:Dl} (hU:D7 U E) (hM:NQ U M call) {f:FuncId} {fn:Func} {kk:Nat} {D:D8 U->Tr U (SV U.Ty×BC U)} {Z:St->V×Heap->Prop} (hD:∀st s,(D st).AY s->Z (CX U st) (AU U s.1,BL U s.2))
  {out:R->SV U.Ty×BC U} {N:Nat} (T:P->Tr U (R⊕P)) (sp:P->Ac U)
  (h:∀p,ER E M A f fn kk D N (.run (sp p).c) (sp p).K (sp p).st (sp p).sk=(T p).map (SG out sp)) {p:P} {r:R} (hr:AV T p=some r) :
  DU call E f fn kk Z (.run (sp p).c) (sp p).K (CX U (sp p).st) (AU U (out r).1,BL U (out r).2):=by
 obtain⟨n,hn⟩:=Z2o hr
 clear hr
 induction n generalizing p r with
 | zero=>cases hn
 | succ n ih=>
  obtain⟨l,h1,h2⟩:=Zdk hn
  have h3:=ZAo (g:=SG out sp) h1
  rw [<- h p] at h3
  refine ZCw hU hM hD N _ _ _ _ _ h3 ?_
  cases l with
  | inl a=>
   simp only [Hf,Option.some.injEq] at h2
   subst h2
   rfl
  | inr q=>exact ih h2
end
def spot {U:CY} (c:Code) (p:List Nat) (n:Nat) (keep:List Nat) (e:List (SV U.Ty)×BC U):Ac U:=⟨(Pm c p []).1,(Pm c p []).2,⟨spread .und n keep e.1,e.2⟩,true⟩
theorem Zdg {U:CY} {P:Program} {gl:Nat->Option (List V)} {f:FuncId} {mods:FuncId->Option (Af U)} {hmods:FuncId->List FuncId->Option (HMod U)} {E0:Env} (hE0:E0.Ea=gl) (hU:D7 U (EV P gl f mods hmods)) (hmix:P.follows .mixedOrders=true) {fn:Func} {c:Code}
  (hok:∀g m,mods g=some m->Ad P E0 g m) (hhok:∀g k m,hmods g k=some m->Dv P E0 g m) (hfn:P.funcs[f]? = some fn) (hname:(fn.name == "runtime.NumGoroutine")=false) (hb:fn.body=some c) (hcalm:E8 (EV P gl f mods hmods) f c=true) (m:Af U)
  {Pt:Type} {A:Nat->Option Lay} {N:Nat} (T:Pt->Tr U (U.Ty m.rt⊕Pt)) (sp:Pt->Ac U)
  (h:∀p,ER (EV P gl f mods hmods) (Qk mods hmods) A f fn 0 (gG (EV P gl f mods hmods) fn) N (.run (sp p).c) (sp p).K (sp p).st (sp p).sk=(T p).map (SG (vJ m.rt) sp))
  (b0:FY U m.ts->Pt) (hm:∀x,m.fn x=AV T (b0 x)) (hsp:∀x,sp (b0 x)=⟨c,[],fE m.ts x fn.ntmps,false⟩):Ad P E0 f m:=by
 refine fn_ok hE0 hU hmix hok hhok hfn hname hb hcalm m fun x a hx=>?_
 rw [hm] at hx
 have:=ZbH hU (ZeN hU) (fun st s hs=>ZA0 hU hs) T sp h hx
 rw [hsp] at this
 simp only [vJ,hU.encS] at this
 exact this
theorem ZyY {U:CY} {P:Program} {gl:Nat->Option (List V)} {f:FuncId} {mods:FuncId->Option (Af U)} {hmods:FuncId->List FuncId->Option (HMod U)} {E0:Env} (hE0:E0.Ea=gl) (hU:D7 U (EV P gl f mods hmods)) (hmix:P.follows .mixedOrders=true) {fn:Func} {c:Code}
  (hok:∀g m,mods g=some m->Ad P E0 g m) (hhok:∀g k m,hmods g k=some m->Dv P E0 g m) (hfn:P.funcs[f]? = some fn) (hname:(fn.name == "runtime.NumGoroutine")=false) (hb:fn.body=some c) (hcalm:E8 (EV P gl f mods hmods) f c=true) (m:HMod U)
  {fa:List (List Fk)} {fb:List Bf} {k:Nat} (hk:∀x:m.DZ.X U,(m.DZ.enc x).2.length=k) {Pt:Type} {A:Nat->Option Lay} {N:Nat} (T:Pt->Tr U (U.Ty m.ky⊕Pt)) (sp:Pt->Ac U)
  (h:∀p,ER (EV P gl f mods hmods) (Qk mods hmods) A f fn k (uJ (EV P gl f mods hmods) fn fa fb k m.JX m.one) N (.run (sp p).c) (sp p).K (sp p).st (sp p).sk=(T p).map (SG m.out sp))
  (b0:m.DZ.X U->Pt) (hm:∀x:m.DZ.X U,m.fn x=AV T (b0 x)) (hsp:∀x:m.DZ.X U,sp (b0 x)=⟨c,[],fD (m.DZ.enc x) fn.ntmps,false⟩):Dv P E0 f m:=by
 refine ZFy hE0 hU hmix hok hhok hfn hname hb hcalm m hk (fa:=fa) (fb:=fb) fun x y hx=>?_
 rw [hm] at hx
 have:=ZbH hU (ZeN hU) (fun st s hs=>ZAw hU hs) T sp h hx
 rw [hsp] at this
 exact this
end Go.Proofs.YtjodhcdmhobmoaaGreatDoor.Le
