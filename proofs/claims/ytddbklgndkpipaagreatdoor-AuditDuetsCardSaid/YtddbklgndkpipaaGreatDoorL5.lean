/- A part of it. -/
import Derived.Test.YtddbklgndkpipaaGreatDoorL4
import Derived.OpenShut
set_option linter.unusedVariables false
set_option linter.unusedSimpArgs false
namespace Go.Proofs.YtddbklgndkpipaaGreatDoor.Le
section
variable {U:Cm}
mutual
def G6:SV U.Ty->List Nat
 | .all id _=>[id]
 | .Be id _ _ _=>[id]
 | .ptr id _ _ _=>[id]
 | .agg cs=>OB cs
 | .BG cs=>OB cs
 | .N9 cs=>OB cs
 | .fn _ a b=>OB a++OB b
 | .raw v=>EF v
 | _=>[]
def OB:List (SV U.Ty)->List Nat
 | []=>[]
 | x::xs=>G6 x++OB xs
end
mutual
def FP (ρ:Nat->Nat):SV U.Ty->SV U.Ty
 | .all id n=>.all (ρ id) n
 | .Be id off len tot=>.Be (ρ id) off len tot
 | .ptr id i off tot=>.ptr (ρ id) i off tot
 | .agg cs=>.agg (L8 ρ cs)
 | .BG cs=>.BG (L8 ρ cs)
 | .N9 cs=>.N9 (L8 ρ cs)
 | .fn f a b=>.fn f (L8 ρ a) (L8 ρ b)
 | .raw v=>.raw (Ej ρ v)
 | v=>v
def L8 (ρ:Nat->Nat):List (SV U.Ty)->List (SV U.Ty)
 | []=>[]
 | x::xs=>FP ρ x::L8 ρ xs
end
mutual
theorem Z4B:∀x:SV U.Ty,EF (AY U x)=G6 x
 | .all _ _=>by simp only [AY,EF,G6]
 | .Be _ _ _ _=>by simp only [AY,EF,G6]
 | .ptr _ _ _ _=>by simp only [AY,EF,G6]
 | .agg cs=>by simp only [AY,EF,G6];exact QN cs
 | .BG cs=>by simp only [AY,EF,G6];exact QN cs
 | .N9 cs=>by simp only [AY,EF,G6];exact QN cs
 | .fn _ a b=>by simp only [AY,EF,G6];rw [QN a,QN b]
 | .raw v=>by simp only [AY,G6]
 | .lit _=>by simp only [AY,EF,G6]
 | .si _ _=>by simp only [AY,EF,G6]
 | .sb _=>by simp only [AY,EF,G6]
 | .ss _=>by simp only [AY,EF,G6]
 | .nil _=>by simp only [AY,EF,G6]
 | .sl _ _=>by simp only [AY,EF,G6]
 | .Cj _ _=>by simp only [AY,EF,G6]
 | .CY _ _ _ _=>by simp only [AY,EF,G6]
 | .Qv _ _ _=>by simp only [AY,EF,G6]
 | .no=>by simp only [AY,EF,G6]
 | .und=>by simp only [AY,EF,G6]
theorem QN:∀xs:List (SV U.Ty),D6 (Aw U xs)=OB xs
 | []=>rfl
 | x::xs=>by simp only [Aw,D6,OB];rw [Z4B x,QN xs]
end
mutual
theorem Vs (ρ:Nat->Nat):∀x:SV U.Ty,AY U (FP ρ x)=Ej ρ (AY U x)
 | .all _ _=>by simp only [AY,Ej,FP]
 | .Be _ _ _ _=>by simp only [AY,Ej,FP]
 | .ptr _ _ _ _=>by simp only [AY,Ej,FP]
 | .agg cs=>by simp only [AY,Ej,FP];rw [Nk ρ cs]
 | .BG cs=>by simp only [AY,Ej,FP];rw [Nk ρ cs]
 | .N9 cs=>by simp only [AY,Ej,FP];rw [Nk ρ cs]
 | .fn _ a b=>by simp only [AY,Ej,FP];rw [Nk ρ a,Nk ρ b]
 | .raw v=>by simp only [AY,FP]
 | .lit _=>by simp only [AY,Ej,FP]
 | .si _ _=>by simp only [AY,Ej,FP]
 | .sb _=>by simp only [AY,Ej,FP]
 | .ss _=>by simp only [AY,Ej,FP]
 | .nil _=>by simp only [AY,Ej,FP]
 | .sl _ _=>by simp only [AY,Ej,FP]
 | .Cj _ _=>by simp only [AY,Ej,FP]
 | .CY _ _ _ _=>by simp only [AY,Ej,FP]
 | .Qv _ _ _=>by simp only [AY,Ej,FP]
 | .no=>by simp only [AY,Ej,FP]
 | .und=>by simp only [AY,Ej,FP]
theorem Nk (ρ:Nat->Nat):∀xs:List (SV U.Ty),Aw U (L8 ρ xs)=Fg ρ (Aw U xs)
 | []=>rfl
 | x::xs=>by simp only [Aw,Fg,L8];rw [Vs ρ x,Nk ρ xs]
end
def wL (e sz:Nat) (H:BF U):SV U.Ty->Tr U (SV U.Ty×BF U)
 | .nil _=>.when (U.Au e=sz) (.leaf (.sl e [],H))
 | y=>.leaf (y,H)
def Qb:Fk->BF U->SV U.Ty->Tr U (SV U.Ty×BF U)
 | .s e sz,H,x=>(Lj H x).andThen fun y=>wL e sz (OY H (NR x)) y
 | .own e sz,H,x=>(match x with
  | .nil _=>.when (U.Au e=sz) (.leaf (.all H.length 0,H++[.row e [] none]))
  | .all id n=>.leaf (.all id n,H)
  | _=>.fail)
 | .keep,H,x=>.leaf (x,H)
 | .drop,H,_=>.leaf (.und,H)
def Qe:List Fk->BF U->List (SV U.Ty)->Tr U (List (SV U.Ty)×BF U)
 | [],H,[]=>.leaf ([],H)
 | f::fs,H,x::xs=>(Qb f H x).andThen fun r=>(Qe fs r.2 xs).andThen fun q=>.leaf (r.1::q.1,q.2)
 | _,_,_=>.fail
def dS (fl:List Fk) (H:BF U) (x:SV U.Ty):Tr U (SV U.Ty×BF U):=
 match x with
 | .agg cs=>(Qe fl H cs).andThen fun r=>.leaf (.agg r.1,r.2)
 | .raw _=>.fail
 | x=>match fl with
  | [f]=>Qb f H x
  | _=>.fail
def Qg:List (List Fk)->BF U->List (SV U.Ty)->Tr U (List (SV U.Ty)×BF U)
 | [],H,[]=>.leaf ([],H)
 | f::fs,H,x::xs=>(dS f H x).andThen fun r=>(Qg fs r.2 xs).andThen fun q=>.leaf (r.1::q.1,q.2)
 | _,_,_=>.fail
def OL:Nat->List Bf->BF U->List Nat->List Nat->Tr U (BF U×List Nat)
 | 0,_,_,_,_=>.fail
 | _+1,_,H,[],seen=>.leaf (H,seen)
 | n+1,fb,H,id::todo,seen=>
  if seen.contains id then OL n fb H todo seen else
  match H[id]?,fb with
  | some (.row _ _ none),.row true::fb' =>OL n fb' H todo (seen++[id])
  | some (.row _ _ _),.row false::fb' =>OL n fb' (OY H [id]) todo (seen++[id])
  | some (.var _ _ x),.var fl::fb' =>(dS fl H x).andThen fun r=>(match r.2[id]? with
    | some (.var e m _)=>.when (okS r.1=true) (OL n fb' (r.2.set id (.var e m r.1)) (todo++G6 r.1) (seen++[id]))
    | _=>.fail)
  | _,_=>.fail
def WG (ρ:Nat->Nat):Jt U.Ty->Jt U.Ty
 | .var e n x=>.var e n (FP ρ x)
 | .fvar e n x=>.fvar e n (FP ρ x)
 | b=>b
def TK (H:BF U) (ids:List Nat):BF U:=ids.map fun id=>WG (ids.idxOf ·) ((H[id]?).getD .dead)
def TJ (fa:List (List Fk)) (fb:List Bf) (k:Nat) (args:List (SV U.Ty)) (H:BF U):Tr U (List Nat×List (SV U.Ty)×BF U):=
 (Qg fa H args).andThen fun r=>(OL 1000 fb r.2 (List.range k++OB r.1) []).andThen fun q=>.leaf (q.2,r.1,q.1)
def Wx:BF U->List Nat->BF U->BF U
 | H,[],bs=>H++bs
 | H,id::ids,b::bs=>Wx (H.set id b) ids bs
 | H,_::_,[]=>H
def Vx (H:BF U) (ids:List Nat) (H3:BF U):BF U:=Wx H ids (H3.map (WG (Iq ids H.length)))
theorem ZmX {e sz:Nat} {H:BF U} {y:SV U.Ty} {r:SV U.Ty×BF U} (h:(wL e sz H y).AZ r) (hy:∀v,y≠.raw v):AY U r.1=Gx sz (AY U y)/\r.2=H:=by
 unfold wL at h
 split at h
 ·simp only [EM,Tr.AZ] at h
  obtain⟨he,rfl⟩:=h
  simp [AY,Gx,he]
 ·simp only [Tr.AZ] at h
  subst h
  refine⟨?_,rfl⟩
  cases y with
  | nil e' =>simp_all
  | raw v=>exact absurd rfl (hy v)
  | _=>simp [AY,Gx]
theorem ZjH {H:BF U} {x y:SV U.Ty} (h:(Lj H x).AZ y):∀v,y≠.raw v:=by
 intro v hv
 subst hv
 unfold Lj at h
 split at h<;>(try (simp [Tr.AZ] at h;done))
 ·obtain⟨t,xs,fl,h1,h2,h3,h4⟩:=Gj h;simp [Tr.AZ] at h3
 ·obtain⟨t,xs,fl,h1,h2,h3,h4⟩:=Gj h;simp [Tr.AZ] at h3
theorem Z4z {f:Fk} {H:BF U} {x:SV U.Ty} {r:SV U.Ty×BF U} (h:(Qb f H x).AZ r):FV f (BI U H) (AY U x)=some (AY U r.1,BI U r.2):=by
 cases f with
 | s e sz=>
  simp only [Qb,Dy] at h
  obtain⟨y,h1,h2⟩:=h
  obtain⟨e1,e2⟩:=ZmX h2 (ZjH h1)
  simp only [FV,rZ h1,Option.map_some,e1,e2]
  rw [Z5G,SG H _ (oO h1)]
 | own e sz=>
  simp only [Qb] at h
  split at h
  ·simp only [EM,Tr.AZ] at h
   obtain⟨he,rfl⟩:=h
   simp [FV,TG,AY,BI,Ce,DD,he]
  ·simp only [Tr.AZ] at h
   subst h
   simp [FV,TG,AY]
  ·simp [Tr.AZ] at h
 | keep=>
  simp only [Qb,Tr.AZ] at h
  subst h
  rfl
 | drop=>
  simp only [Qb,Tr.AZ] at h
  subst h
  rfl
theorem Zj9:∀{fl:List Fk} {H:BF U} {xs:List (SV U.Ty)} {r:List (SV U.Ty)×BF U},(Qe fl H xs).AZ r->FQ fl (BI U H) (Aw U xs)=some (Aw U r.1,BI U r.2):=by
 intro fl
 induction fl with
 | nil=>
  intro H xs r h
  cases xs with
  | nil=>simp only [Qe,Tr.AZ] at h;subst h;rfl
  | cons=>simp [Qe,Tr.AZ] at h
 | cons f fl ih=>
  intro H xs r h
  cases xs with
  | nil=>simp [Qe,Tr.AZ] at h
  | cons x xs=>
   simp only [Qe,Dy,Tr.AZ] at h
   obtain⟨p,h1,q,h2,rfl⟩:=h
   simp only [Aw,FQ,Z4z h1,ih h2]
theorem Z5y {fl:List Fk} {H:BF U} {x:SV U.Ty} {r:SV U.Ty×BF U} (h:(dS fl H x).AZ r):IW fl (BI U H) (AY U x)=some (AY U r.1,BI U r.2):=by
 unfold dS at h
 split at h
 ·rename_i cs
  simp only [Dy,Tr.AZ] at h
  obtain⟨p,h1,rfl⟩:=h
  simp only [AY,IW,Zj9 h1,Option.map_some]
 ·simp [Tr.AZ] at h
 ·rename_i hn1 hn2
  split at h
  ·rename_i f
   have h1:=Z4z h
   unfold IW
   split
   ·rename_i cs hcs
    exfalso
    cases x<;>simp_all [AY]
   ·exact h1
  ·simp [Tr.AZ] at h
theorem ZiK:∀{fl:List (List Fk)} {H:BF U} {xs:List (SV U.Ty)} {r:List (SV U.Ty)×BF U},(Qg fl H xs).AZ r->FW fl (BI U H) (Aw U xs)=some (Aw U r.1,BI U r.2):=by
 intro fl
 induction fl with
 | nil=>
  intro H xs r h
  cases xs with
  | nil=>simp only [Qg,Tr.AZ] at h;subst h;rfl
  | cons=>simp [Qg,Tr.AZ] at h
 | cons f fl ih=>
  intro H xs r h
  cases xs with
  | nil=>simp [Qg,Tr.AZ] at h
  | cons x xs=>
   simp only [Qg,Dy,Tr.AZ] at h
   obtain⟨p,h1,q,h2,rfl⟩:=h
   simp only [Aw,FW,Z5y h1,ih h2]
theorem Zj2:∀{n:Nat} {fb:List Bf} {H:BF U} {todo seen:List Nat} {r:BF U×List Nat},(OL n fb H todo seen).AZ r->Ho n fb (BI U H) todo seen=some (BI U r.1,r.2):=by
 intro n
 induction n with
 | zero=>intro fb H todo seen r h;simp [OL,Tr.AZ] at h
 | succ n ih=>
  intro fb H todo seen r h
  cases todo with
  | nil=>simp only [OL,Tr.AZ] at h;subst h;rfl
  | cons id todo=>
   unfold OL at h
   unfold Ho
   by_cases hin:seen.contains id=true
   ·grind
   ·rw [if_neg hin] at h ⊢
    rw [Jn]
    split at h
    ·rename_i t xs fb' hb
     rw [hb]
     simp only [Option.map_some,Ce,Bool.and_self,if_true]
     exact ih h
    ·rename_i t xs fl fb' hb
     rw [hb]
     simp only [Option.map_some,Ce,Bool.and_self,if_true,Bool.false_eq_true,if_false]
     rw [<- SG H [id] (fun i hi=>by simp at hi;subst hi;exact⟨t,xs,fl,hb⟩)]
     exact ih h
    ·rename_i e m x fl fb' hb
     rw [hb]
     simp only [Dy] at h
     obtain⟨p,h1,h2⟩:=h
     simp only [Option.map_some,Ce,DD,Bool.not_false,Bool.and_self,if_true,Z5y h1,Jn]
     split at h2
     ·rename_i e' m' x' hb'
      simp only [EM] at h2
      obtain⟨hok,h2⟩:=h2
      rw [hb']
      simp only [Option.map_some,Ce,DD,OE hok,if_true]
      have:=ih h2
      rw [Nu] at this
      simp only [Ce,DD] at this
      rw [Z4B]
      exact this
     ·simp [Tr.AZ] at h2
    ·simp [Tr.AZ] at h
theorem aS {fa:List (List Fk)} {fb:List Bf} {k:Nat} {args:List (SV U.Ty)} {H:BF U} {r:List Nat×List (SV U.Ty)×BF U} (h:(TJ fa fb k args H).AZ r):pack fa fb k (Aw U args) (BI U H)=some (r.1,Aw U r.2.1,BI U r.2.2):=by
 simp only [TJ,Dy,Tr.AZ] at h
 obtain⟨p,h1,q,h2,rfl⟩:=h
 simp only [pack,ZiK h1,QN,Zj2 h2]
theorem jM (ρ:Nat->Nat) (b:Jt U.Ty):Ce U (WG ρ b)=Ey ρ (Ce U b):=by
 cases b<;>simp [WG,Ce,Ey,DD,OC,SQ,Fg,Vs]
theorem aB (H:BF U) (ids:List Nat):BI U (TK H ids)=G8 (BI U H) ids:=by
 simp only [BI,TK,G8,List.map_map]
 apply List.map_congr_left
 intro id _
 simp only [Function.comp,jM]
 congr 1
 rw [List.getElem?_map]
 cases H[id]?<;>rfl
theorem ZiU:∀(H:BF U) (ids:List Nat) (bs:BF U),BI U (Wx H ids bs)=Ja (BI U H) ids (BI U bs):=by
 intro H ids
 induction ids generalizing H with
 | nil=>intro bs;simp [Wx,Ja,BI]
 | cons id ids ih=>
  intro bs
  cases bs with
  | nil=>rfl
  | cons b bs=>
   simp only [Wx,ih,Nu]
   rfl
theorem Zdq (H:BF U) (ids:List Nat) (H3:BF U):BI U (Vx H ids H3)=LY (BI U H) ids (BI U H3):=by
 simp only [Vx,LY,ZiU]
 congr 1
 simp only [BI,List.map_map]
 apply List.map_congr_left
 intro b _
 simp [Function.comp,jM]
def TD:List (SV U.Ty)->List FuncId
 | []=>[]
 | .fn f _ _::vs=>f::TD vs
 | .raw v::vs=>KW [v]++TD vs
 | _::vs=>TD vs
theorem ZhN (v:V) (vs:List V):KW (v::vs)=KW [v]++KW vs:=by
 cases v<;>simp [KW]
theorem Zi4:∀(vs:List (SV U.Ty)),KW (Aw U vs)=TD vs:=by
 intro vs
 induction vs with
 | nil=>rfl
 | cons v vs ih=>
  simp only [Aw]
  rw [ZhN,ih]
  cases v<;>simp [AY,KW,TD]
end
end Go.Proofs.YtddbklgndkpipaaGreatDoor.Le
namespace Go.Proofs.YtddbklgndkpipaaGreatDoor.Le
open Go.RowKit (Below)
structure Z7r (k:Nat) (ids:List Nat) (st st' : St):Prop where
 nodup:ids.Nodup
 pre:ids.take k=List.range k
 len:st'.H.length=ids.length
 heap:∀(j id:Nat),ids[j]? = some id->∃b b',st.H[id]? = some b/\b.live=true/\st'.H[j]? = some b' /\ b'.live=true/\b'.row=b.row/\(b'.EK=true->b.EK=true)/\b'.elem=b.elem/\b'.Au=b.Au /\
  (b.floor<=b'.floor\/b'.floor=b'.xs.length)/\b'.floor<=b'.xs.length/\(b.row=true->b'.xs=b.xs)/\(b.row=false->b'.xs=Fg (ids.idxOf ·) b.xs/\∀r∈D6 b.xs,r∈ids)
 slen:st'.s.length=st.s.length
 slots:∀(i:Nat) (v' : V),st'.s[i]? = some v' -> v' = .und\/∃v,st.s[i]? = some v/\v' = Ej (ids.idxOf ·) v/\∀r∈EF v,r∈ids
theorem Z3f {σ:Sg} {w:World}:∀{xs:List V} {vs:List Value},xs.length=vs.length->(∀(i:Nat) (x:V) (v:Value),xs[i]? = some x->vs[i]? = some v->AU σ w [x] [v])->AU σ w xs vs:=by
 intro xs
 induction xs with
 | nil=>intro vs hl _;cases vs with|nil=>exact .nil|cons=>simp at hl
 | cons x xs ih=>
  intro vs hl h
  cases vs with
  | nil=>simp at hl
  | cons v vs=>exact AU.Ew.2 ⟨h 0 x v rfl rfl,ih (by simpa using hl) (fun i y u h1 h2=>h (i+1) y u (by simpa using h1) (by simpa using h2))⟩
theorem Zmu {E:Env} {B:Nat} {w0:Start} {σ:Sg} {st st' : St} {a:Act} {w:World} {k:Nat} {ids:List Nat} (ht:Z7r k ids st st') (h:Ez E B w0 σ st a w):Ez E B w0 (σ.ren ids) st' a w:=by
 have hbox:∀{j:Nat} {L:Loc},(σ.ren ids).box j=some L->∃id,ids[j]? = some id/\σ.box id=some L:=by
  intro j L hL
  simp only [Sg.ren] at hL
  cases hj:ids[j]? with
  | none=>simp [hj] at hL
  | some id=>simp_all
 have hsome:∀{j:Nat} {b' : Box},st'.H[j]? = some b' -> ∃id,ids[j]? = some id:=by
  intro j b' hb
  have hlt:=(List.getElem?_eq_some_iff.1 hb).1
  rw [ht.len] at hlt
  exact⟨ids[j],List.getElem?_eq_getElem hlt⟩
 refine⟨⟨h.inv.below,h.inv.size,?_,?_,?_,h.inv.cells,?_,?_,h.inv.old,fun b hb=>?_⟩,h.EP.bare (fun b c hh=>⟨hh,rfl⟩) (EH.refl _),?_,h.calm⟩
 ·intro j L hL
  obtain⟨id,h1,h2⟩:=hbox hL
  obtain⟨b,b',_,_,q1,q2,_⟩:=ht.heap j id h1
  exact⟨b',q1,.inl q2⟩
 ·intro j b' hb hl
  obtain⟨id,hid⟩:=hsome hb
  obtain⟨b,b2,p1,p2,p3,p4,p5,p6,p7,p8,p9,p10,p11,p12⟩:=ht.heap j id hid
  rw [hb] at p3
  cases p3
  obtain⟨L,hL,hok⟩:=h.inv.boxes id b p1 p2
  obtain⟨us,r1,r2,r3,r4⟩:=hok.Dj
  refine⟨L,by simp [Sg.ren,hid,hL],?_⟩
  have hlen:b'.xs.length=b.xs.length:=by
   cases hr:b.row with
   | true=>rw [p11 hr]
   | false=>rw [(p12 hr).1,kH]
  have hreps:AU (σ.ren ids) w b'.xs us:=by
   cases hr:b.row with
   | true=>rw [p11 hr];exact r1.bare (fun b c hh=>⟨hh,rfl⟩) (EH.refl _) ((KC _).2 (hok.Gu hr))
   | false=>rw [(p12 hr).1];exact SC r1 (p12 hr).2
  refine⟨by rw [hlen];exact hok.tot,⟨us,hreps,r2,r3,by rw [p7,hlen];exact r4⟩,fun hn=>hok.EK (p6 hn),by rw [p8];exact hok.Au,?_,?_⟩
  ·intro x hx
   cases hr:b.row with
   | true=>rw [p11 hr] at hx;exact hok.oks x hx
   | false=>
    rw [(p12 hr).1,pY] at hx
    obtain⟨y,hy,rfl⟩:=List.mem_map.1 hx
    rw [Z6P]
    exact hok.oks y hy
  ·intro hr x hx
   rw [p5] at hr
   rw [p11 hr] at hx
   exact hok.Gu hr x hx
 ·intro j j' b1 b2 L1 L2 g h1 h2 l1 l2 s1 s2 g1 g2
  obtain⟨i1,e1,t1⟩:=hbox s1
  obtain⟨i2,e2,t2⟩:=hbox s2
  obtain⟨c1,_,p1,p2,_⟩:=ht.heap j i1 e1
  obtain⟨c2,_,q1,q2,_⟩:=ht.heap j' i2 e2
  have:=h.inv.apart i1 i2 c1 c2 L1 L2 g p1 q1 p2 q2 t1 t2 g1 g2
  subst this
  exact Z5m ht.nodup e1 e2
 ·intro b c hc j b' L hb hl hL hg
  obtain⟨id,hid,hL'⟩:=hbox hL
  obtain⟨b0,b2,p1,p2,p3,p4,p5,p6,p7,p8,p9,p10,p11,p12⟩:=ht.heap j id hid
  rw [hb] at p3
  cases p3
  have:=h.inv.floor b c hc id b0 L p1 p2 hL' hg
  have hlen:b'.xs.length=b0.xs.length:=by
   cases hr:b0.row with
   | true=>rw [p11 hr]
   | false=>rw [(p12 hr).1,kH]
  have hle:b0.floor<=b'.floor:=by
   rcases p9 with p9|p9
   ·exact p9
   ·rw [p9,hlen];exact h.inv.low id b0 p1 p2
  exact Nat.lt_of_lt_of_le this (Nat.mul_le_mul_right _ hle)
 ·intro j b' hb hl
  obtain⟨id,hid⟩:=hsome hb
  obtain⟨b0,b2,p1,p2,p3,p4,p5,p6,p7,p8,p9,p10,p11,p12⟩:=ht.heap j id hid
  simp_all
 ·obtain⟨k1,k2,k3,k4⟩:=h.inv.kept b hb
  refine⟨k1,k2,fun j L hL hg=>?_,k4⟩
  grind
 ·refine Z3f (by rw [ht.slen];exact h.slots.length) (fun i x v hx hv=>?_)
  rcases ht.slots i x hx with rfl|⟨y,hy,rfl,hc⟩
  ·exact .und _ .nil
  ·obtain⟨u,hu,hr⟩:=h.slots.get hy
   rw [hv] at hu
   cases hu
   exact SC hr (by simpa [D6] using hc)
def spread {α:Type} (u:α) (n:Nat):List Nat->List α->List α
 | k::ks,v::vs=>(spread u n ks vs).set k v
 | _,_=>List.replicate n u
theorem Zbe {α:Type} (u:α) (n:Nat):∀(ks:List Nat) (vs:List α),(spread u n ks vs).length=n:=by
 intro ks
 induction ks with
 | nil=>intro vs;simp [spread]
 | cons k ks ih=>intro vs;cases vs<;>simp [spread,ih]
theorem ZgT {α:Type} (u:α) (n:Nat):∀(ks:List Nat) (vs:List α) (i:Nat) (x:α),(spread u n ks vs)[i]? = some x->x=u\/∃j:Nat,ks[j]? = some i/\vs[j]? = some x:=by
 intro ks
 induction ks with
 | nil=>
  intro vs i x h
  simp only [spread,List.getElem?_replicate] at h
  simp_all
 | cons k ks ih=>
  intro vs i x h
  cases vs with
  | nil=>
   simp only [spread,List.getElem?_replicate] at h
   simp_all
  | cons v vs=>
   simp only [spread,List.getElem?_set] at h
   split at h
   ·rename_i hk
    subst hk
    split at h
    ·exact .inr ⟨0,rfl,h⟩
    ·cases h
   ·rcases ih vs i x h with h|⟨j,h1,h2⟩
    ·exact .inl h
    ·exact .inr ⟨j+1,h1,h2⟩
theorem Zig {α β:Type} (g:α->β) (u:α) (n:Nat):∀(ks:List Nat) (vs:List α),(spread u n ks vs).map g=spread (g u) n ks (vs.map g):=by
 intro ks
 induction ks with
 | nil=>intro vs;simp [spread]
 | cons k ks ih=>intro vs;cases vs<;>simp [spread,List.map_set,ih]
theorem ZiG {σ:Sg} {w:World} {xs:List V} {vs:List Value} (h:AU σ w xs vs):∀keep:List Nat,AU σ w (keep.map fun i=>xs.getD i .und) (keep.map fun i=>vs.getD i undef):=by
 intro keep
 induction keep with
 | nil=>exact .nil
 | cons i keep ih=>
  simp only [List.map_cons]
  refine AU.Ew.2 ⟨?_,ih⟩
  cases hx:xs[i]? with
  | none=>simp only [List.getD,hx,Option.getD_none];exact .und _ .nil
  | some x=>
   obtain⟨v,hv,hr⟩:=h.get hx
   simp_all
theorem ZlC {E:Env} {B:Nat} {w0:Start} {σ:Sg} {st:St} {a:Act} {w:World} {k:Nat} {fa:List (List Fk)} {fb:List Bf} {keep ids:List Nat} {as:List V} {H2:Heap} (hp:pack fa fb k (keep.map fun i=>st.s.getD i .und) st.H=some (ids,as,H2))
  (h:Ez E B w0 σ st a w):∃σ1,Ext σ w σ1 w/\Ez E B w0 (σ1.ren ids) ⟨spread .und st.s.length keep (Fg (ids.idxOf ·) as),G8 H2 ids⟩ a w:=by
 obtain⟨hs,hm,_,σ1,hI1,hE1,hr1⟩:=bU h.inv (ZiG h.slots keep) hp
 have hsub:=dR hI1 hs w0 hI1.below hI1.old (fun b hb=>by
  obtain⟨k1,k2,k3,k4⟩:=hI1.kept b hb
  grind)
 refine⟨σ1,hE1,hsub,(h.EP.ext hE1).bare (fun b c hh=>⟨hh,rfl⟩) (EH.refl _),?_,h.calm⟩
 refine Z3f (by rw [Zbe];exact h.slots.length) (fun i x v hx hv=>?_)
 rcases ZgT _ _ _ _ i x hx with rfl|⟨j,h1,h2⟩
 ·exact .und _ .nil
 ·obtain⟨u,hu,hr⟩:=(SC hr1 hm).get h2
  simp_all
inductive Ti where
 | run (c:Code)|nxt|exit (id:Nat)|ret
inductive Fr where
 | seq (c:Code)|blk (id:Nat)|loop (b:Code)
def MM:List (List Nat)->List V->List V
 | es::rs,v::vs=>EC es v::MM rs vs
 | [],vs=>vs
 | _,[]=>[]
def PN (rs:List (List Nat)):V->V
 | .BG vs=>.BG (MM rs vs)
 | v=>EC (rs.headD []) v
inductive DW (call:Df) (E:Env) (f:FuncId) (fn:Func) (k:Nat) (Z:St->V×Heap->Prop):Ti->List Fr->St->V×Heap->Prop where
 | skip {K st r}:DW call E f fn k Z .nxt K st r->DW call E f fn k Z (.run .skip) K st r
 | region {id ops K st st' r}:O4 call E ops (List.range ops.size) st=some st' -> DW call E f fn k Z .nxt K st' r->DW call E f fn k Z (.run (.region id ops false)) K st r
 | draw {id ops K st st' r}:E.calm f id=true->Qn call E ops st=some st' -> DW call E f fn k Z .nxt K st' r->DW call E f fn k Z (.run (.region id ops true)) K st r
 | seq {a b K st r}:DW call E f fn k Z (.run a) (.seq b::K) st r->DW call E f fn k Z (.run (.seq a b)) K st r
 | cond {c a b t K st r}:ev E st.s c = .lit (.bool t)->DW call E f fn k Z (.run (if t then a else b)) K st r->DW call E f fn k Z (.run (.cond c a b)) K st r
 | block {id b K st r}:DW call E f fn k Z (.run b) (.blk id::K) st r->DW call E f fn k Z (.run (.block id b)) K st r
 | loop {b K st r}:DW call E f fn k Z (.run b) (.loop b::K) st r->DW call E f fn k Z (.run (.loop b)) K st r
 | scope {b K st r}:DW call E f fn k Z (.run b) K st r->DW call E f fn k Z (.run (.scope b)) K st r
 | label {l K st r}:DW call E f fn k Z .nxt K st r->DW call E f fn k Z (.run (.label l)) K st r
 | exit {id K st r}:DW call E f fn k Z (.exit id) K st r->DW call E f fn k Z (.run (.exit id)) K st r
 | ret {K st r}:DW call E f fn k Z .ret K st r->DW call E f fn k Z (.run .ret) K st r
 | nseq {c K st r}:DW call E f fn k Z (.run c) K st r->DW call E f fn k Z .nxt (.seq c::K) st r
 | nblk {id K st r}:DW call E f fn k Z .nxt K st r->DW call E f fn k Z .nxt (.blk id::K) st r
 | Z7v {b K st r}:DW call E f fn k Z (.run b) (.loop b::K) st r->DW call E f fn k Z .nxt (.loop b::K) st r
 | eseq {id c K st r}:DW call E f fn k Z (.exit id) K st r->DW call E f fn k Z (.exit id) (.seq c::K) st r
 | Z7w {id b K st r}:DW call E f fn k Z (.exit id) K st r->DW call E f fn k Z (.exit id) (.loop b::K) st r
 | eblk {id K st r}:DW call E f fn k Z .nxt K st r->DW call E f fn k Z (.exit id) (.blk id::K) st r
 | Z7s {id i K st r}:id≠i->DW call E f fn k Z (.exit id) K st r->DW call E f fn k Z (.exit id) (.blk i::K) st r
 | rany {x K st r}:DW call E f fn k Z .ret K st r->DW call E f fn k Z .ret (x::K) st r
 | finN {st r}:Z st r->DW call E f fn k Z .nxt [] st r
 | finR {st r}:Z st r->DW call E f fn k Z .ret [] st r
 | tidy {ctl K ids st st' r}:Z7r k ids st st' -> DW call E f fn k Z ctl K st' r->DW call E f fn k Z ctl K st r
 | Z7o {ctl K fa fb keep ids as H2 st r}:pack fa fb k (keep.map fun i=>st.s.getD i .und) st.H=some (ids,as,H2)->ids.take k=List.range k->DW call E f fn k Z ctl K ⟨spread .und st.s.length keep (Fg (ids.idxOf ·) as),G8 H2 ids⟩ r->DW call E f fn k Z ctl K st r
def LoopIn (P:Program) (b:Code) (Q:Exit->Act->World->Prop) (a:Act) (w:World):Prop:=
 ∀fr k cs,∃e a' w',Q e a' w' /\ Arrives P (lone (fr.at a (.code b :: .inLoop b::k)) cs w) fr k cs e a' w'
theorem LoopIn.of {P:Program} {b:Code} {Q:Exit->Act->World->Prop} {a:Act} {w:World} (h:b.wp P (Exit.then (LoopIn P b Q) Q) a w):LoopIn P b Q a w:=by
 intro fr k cs
 obtain⟨e,a₁,w₁,hq,harr⟩:=h fr (.inLoop b::k) cs
 cases e with
 | normal=>
  obtain⟨e₂,a₂,w₂,hq₂,harr₂⟩:=hq fr k cs
  exact⟨e₂,a₂,w₂,hq₂,.of_steps (Steps.trans harr (.one step_inLoop)) harr₂⟩
 | exit id=>exact⟨_,a₁,w₁,hq,.pass (x:=.inLoop b) rfl (fun _ _=>.inl (by simp)) harr⟩
 | goto l=>exact⟨_,a₁,w₁,hq,.pass (x:=.inLoop b) rfl (fun _ _=>.inl (by simp)) harr⟩
 | ret=>exact⟨_,a₁,w₁,hq,.pass (x:=.inLoop b) rfl (fun _ _=>.inl (by simp)) harr⟩
 | panic ch=>exact⟨_,a₁,w₁,hq,.pass (x:=.inLoop b) rfl (fun _ _=>.inl (by simp)) harr⟩
 | outgrown=>exact⟨_,a₁,w₁,hq,.pass (x:=.inLoop b) rfl (fun _ _=>.inl (by simp)) harr⟩
theorem LoopIn.wp {P:Program} {b:Code} {Q:Exit->Act->World->Prop} {a:Act} {w:World} (h:LoopIn P b Q a w):(Code.loop b).wp P Q a w:=by
 intro fr k cs
 obtain⟨e,a',w',hq,harr⟩:=h fr k cs
 exact⟨e,a',w',hq,.of_steps (.one step_loop) harr⟩
def QK (P:Program) (Z:Act->World->Prop):List Fr->Exit->Act->World->Prop
 | [],.normal,a,w=>Z a w
 | [],.ret,a,w=>Z a w
 | [],_,_,_=>False
 | .seq c::K,e,a,w=>Exit.then (c.wp P (QK P Z K)) (QK P Z K) e a w
 | .blk id::K,e,a,w=>Exit.inBlock id (QK P Z K) e a w
 | .loop b::K,e,a,w=>Exit.then (LoopIn P b (QK P Z K)) (QK P Z K) e a w
theorem bV {P:Program} {Z:Act->World->Prop} {l:Nat} {a:Act} {w:World}:∀K:List Fr,QK P Z K (.goto l) a w->False
 | [],h=>h
 | .seq _::K,h=>bV K h
 | .blk _::K,h=>bV K h
 | .loop _::K,h=>bV K h
def vS (P:Program) (Z:Act->World->Prop) (K:List Fr) (a:Act) (w:World):Ti->Prop
 | .run c=>c.wp P (QK P Z K) a w
 | .nxt=>QK P Z K .normal a w
 | .exit id=>QK P Z K (.exit id) a w
 | .ret=>QK P Z K .ret a w
def WQ (E:Env) (f:FuncId):Ti->Bool
 | .run c=>EO E f c
 | _=>true
def KU (E:Env) (f:FuncId):List Fr->Bool
 | []=>true
 | .seq c::K=>EO E f c&&KU E f K
 | .loop c::K=>EO E f c&&KU E f K
 | .blk _::K=>KU E f K
theorem ZaW {σ w}:∀(rs:List (List Nat)) {xs:List V} {vs:List Value},AU σ w xs vs->AU σ w (MM rs xs) vs:=by
 intro rs
 induction rs with
 | nil=>intro xs vs h;simpa [MM] using h
 | cons r rs ih=>
  intro xs vs h
  cases xs with
  | nil=>simpa [MM] using h
  | cons x xs=>
   obtain⟨v,vs',rfl,h1,h2⟩:=h.Dt
   exact AU.Ew.2 ⟨QJ _ h1,ih h2⟩
theorem ZcP {σ w x v} (rs:List (List Nat)) (h:AU σ w [x] [v]):AU σ w [PN rs x] [v]:=by
 unfold PN
 split
 ·cases h with
  | BG h1 _=>exact .BG (ZaW rs h1) .nil
 ·exact QJ _ h
theorem Z9P:∀(rs:List (List Nat)) (xs:List V),CS (MM rs xs)=CS xs:=by
 intro rs
 induction rs with
 | nil=>intro xs;simp [MM]
 | cons r rs ih=>intro xs;cases xs<;>simp [MM,CS,QG,ih]
theorem ZP (rs:List (List Nat)) (x:V) (h:Cf x=true):Cf (PN rs x)=true:=by
 unfold PN
 split
 ·simpa [Cf,Z9P] using h
 ·rw [QG];exact h
def Zp (E:Env) (fn:Func) (st:St) (r:V×Heap):Prop:=∃r0 r1,KH E st.H st.s fn.results.toList=some r0/\Js st.H r0=some r1/\r=(PN (fn.resultTypes.toList.map E.rows) r1,[])
def Zh (E:Env) (fn:Func) (fa:List (List Fk)) (fb:List Bf) (k:Nat) (st:St) (r:V×Heap):Prop:=∃r0,KH E st.H st.s fn.results.toList=some r0/\Ws fa fb k r0 st.H=some r
def Fin (P:Program) (fn:Func) (B:Nat) (w0:Start) (r:V×Heap) (a:Act) (w:World):Prop:=
 a.defers=[]/\∃u fz',(results fn a.tmps).run P w = .ok u w/\Below B w0.w w/\(∀b c,w0.fz b c->fz' b c)/\(∀b c,fz' b c->b<B->w0.fz b c)/\(∀b c,fz' b c->∃u,w.cell? ⟨b,c,none⟩=some u)/\AU (bare fz') w [r.1] [u]/\Cf r.1=true
def FinH (P:Program) (fn:Func) (B:Nat) (w0:Start) (σ0:Sg) (ws:World) (r:V×Heap) (a:Act) (w:World):Prop:=
 a.defers=[]/\∃u σ',(results fn a.tmps).run P w = .ok u w/\Inv B w0 σ' r.2 w/\Ext σ0 ws σ' w/\AU σ' w [r.1] [u]
structure JH (k:Nat) (σ:Sg) (w:World) (σ' : Sg) (w' : World):Prop where
 box:∀id L,id<k->σ.box id=some L->∃L',σ'.box id=some L' /\ L'.Au=L.Au/\(L' = L\/L.tot<L'.tot)
 fz:∀b c,σ.fz b c->σ'.fz b c/\w'.cell? ⟨b,c,none⟩=w.cell? ⟨b,c,none⟩
 mp:EH w w'
theorem Ext.k {k:Nat} {σ w σ' w'} (h:Ext σ w σ' w'):JH k σ w σ' w' :=⟨fun id L _ hL=>h.box id L hL,h.fz,h.mp⟩
theorem JH.trans {k:Nat} {σ w σ' w' σ'' w''} (h:JH k σ w σ' w') (g:Ext σ' w' σ'' w''):JH k σ w σ'' w'' :=by
 refine⟨fun id L hk hL=>?_,fun b c hc=>?_,h.mp.trans g.mp⟩
 ·obtain⟨L',h1,h2,h3⟩:=h.box id L hk hL
  obtain⟨L'',k1,k2,k3⟩:=g.box id L' h1
  grind
 ·obtain⟨a1,a2⟩:=h.fz b c hc
  obtain⟨b1,b2⟩:=g.fz b c a1
  simp_all
theorem Zi5 {ids:List Nat} {k j:Nat} (h:ids.take k=List.range k) (hj:j<k):ids[j]? = some j:=by
 have:(ids.take k)[j]? = some j:=by rw [h];simp [hj]
 grind
theorem JH.ren {k:Nat} {σ w σ' w'} {ids:List Nat} (h:JH k σ w σ' w') (hp:ids.take k=List.range k):JH k σ w (σ'.ren ids) w' :=by
 refine⟨fun id L hk hL=>?_,h.fz,h.mp⟩
 obtain⟨L',h1,h2⟩:=h.box id L hk hL
 exact⟨L',by simp only [Sg.ren,Zi5 hp hk,Option.bind_some];exact h1,h2⟩
section
variable {P:Program} {E:Env} {B:Nat} {w0:Start} {call:Df} {f:FuncId} {fn:Func}
theorem ZoX (hE:Ci E) (hP:E.P=P) {σ:Sg} {st:St} {a:Act} {w:World} {r:V×Heap} (h:Ez E B w0 σ st a w) (hfz:∀b c,w0.fz b c->σ.fz b c) (hz:Zp E fn st r):Fin P fn B w0 r a w:=by
 obtain⟨r0,r1,hr,hf,rfl⟩:=hz
 obtain⟨u,hu,hur⟩:=Y5 (P:=P) hE hP h.inv h.slots hr
 obtain⟨hI,hEx⟩:=h.inv.freeze (Pm r0)
 have hr2:=Z4p h.inv hur hf (Pm r0) (fun i hi=>hi)
 have hn:=Z4l h.inv hur hf
 refine⟨h.calm,u,(σ.freeze st.H (Pm r0)).fz,hu,hI.below,fun b c hh=>(hEx.fz b c (hfz b c hh)).1,fun b c hh hlt=>hI.old b c hh hlt,hI.cells,?_,ZP _ _ hn⟩
 exact AU.bare (ZcP _ hr2) (fun b c hh=>⟨hh,rfl⟩) (EH.refl _) (by simp [CS,ZP _ _ hn])
theorem Znr (hE:Ci E) (hP:E.P=P) {fa:List (List Fk)} {fb:List Bf} {k:Nat} {σ0:Sg} {ws:World} (h0:∀id L,σ0.box id=some L->id<k) {σ:Sg} {st:St} {a:Act} {w:World} {r:V×Heap} (h:Ez E B w0 σ st a w) (hx:JH k σ0 ws σ w)
  (hz:Zh E fn fa fb k st r):FinH P fn B w0 σ0 ws r a w:=by
 obtain⟨r0,hr,he⟩:=hz
 obtain⟨u,hu,hur⟩:=Y5 (P:=P) hE hP h.inv h.slots hr
 have key:∀{args as:List V} {vs:List Value} {ids:List Nat} {H2:Heap},AU σ w args vs->pack fa fb k args st.H=some (ids,as,H2)->ids.take k=List.range k ->
   ∃σ',Inv B w0 σ' (G8 H2 ids) w/\Ext σ0 ws σ' w/\AU σ' w (Fg (ids.idxOf ·) as) vs:=by
  intro args as vs ids H2 hra hp hk
  obtain⟨hs,hm,_,σ1,hI1,hE1,hr1⟩:=bU h.inv hra hp
  have hsub:=dR hI1 hs w0 hI1.below hI1.old (fun b hb=>by
   obtain⟨k1,k2,k3,k4⟩:=hI1.kept b hb
   grind)
  refine⟨_,hsub,?_,SC hr1 hm⟩
  have:=(hx.trans hE1).ren hk
  exact⟨fun id L hL=>this.box id L (h0 id L hL) hL,this.fz,this.mp⟩
 refine⟨h.calm,u,?_⟩
 unfold Ws at he
 split at he
 ·rename_i vs
  split at he
  ·rename_i ids as H2 hp
   split at he
   ·rename_i hk
    simp only [Option.some.injEq] at he
    subst he
    cases hur with
    | BG h1 _=>
     obtain⟨σ',i1,i2,i3⟩:=key h1 hp hk
     exact⟨σ',hu,i1,i2,.BG i3 .nil⟩
   ·cases he
  ·cases he
 ·split at he
  ·rename_i ids x H2 hp
   split at he
   ·rename_i hk
    simp only [Option.some.injEq] at he
    subst he
    obtain⟨σ',i1,i2,i3⟩:=key hur hp hk
    exact⟨σ',hu,i1,i2,i3⟩
   ·cases he
  ·cases he
theorem tC (hE:Ci E) (hP:E.P=P) (hcall:Jo P E B w0 call) (hpure:OA E call) {k:Nat} {Z:St->V×Heap->Prop} {F:V×Heap->Act->World->Prop} {σ0:Sg} {ws:World}
  (hZ:∀st r σ a w,Z st r->Ez E B w0 σ st a w->JH k σ0 ws σ w->F r a w) {ctl:Ti} {K:List Fr} {st:St} {r:V×Heap} (h:DW call E f fn k Z ctl K st r) :
  WQ E f ctl=true->KU E f K=true->∀(σ:Sg) (a:Act) (w:World),Ez E B w0 σ st a w->JH k σ0 ws σ w->vS P (F r) K a w ctl:=by
 induction h with
 | skip h ih=>intro hc hk σ a w hr hf;exact wp_skip (ih rfl hk σ a w hr hf)
 | region hs h ih=>
  intro hc hk σ a w hr hf
  exact wp_region (Z6H hE hP hcall _ _ σ a w hr hs (fun a' w' σ' hr' he' =>ih rfl hk σ' a' w' hr' (hf.trans he')))
 | draw hcalm hs h ih=>
  intro hc hk σ a w hr hf
  refine Z6u hE hP (by rw [<- hP];exact hE.mix) hcall hpure ?_ hr hs (fun a' w' σ' hr' he' =>ih rfl hk σ' a' w' hr' (hf.trans he'))
  simpa [WQ,EO,hcalm] using hc
 | seq h ih=>
  intro hc hk σ a w hr hf
  simp only [WQ,EO,Bool.and_eq_true] at hc
  exact wp_seq (ih hc.1 (by simp [KU,hc.2,hk]) σ a w hr hf)
 | cond ht h ih=>
  rename_i c x y t K st r
  intro hc hk σ a w hr hf
  simp only [WQ,EO,Bool.and_eq_true] at hc
  have hv:=EW (a:=a) hr.EP hr.slots c
  rw [ht] at hv
  have hb:a.eval c = .bool t:=by generalize a.eval c=v at hv;cases hv;rfl
  refine wp_cond hb ?_
  refine ih ?_ hk σ a w hr hf
  cases t
  ·exact hc.2
  ·exact hc.1
 | block h ih=>
  intro hc hk σ a w hr hf
  exact wp_block (ih hc hk σ a w hr hf)
 | loop h ih=>
  intro hc hk σ a w hr hf
  simp only [WQ,EO] at hc
  exact(LoopIn.of (ih hc (by simp [KU,hc,hk]) σ a w hr hf)).wp
 | scope h ih=>
  intro hc hk σ a w hr hf
  have h1:=ih hc hk σ a w hr hf
  refine wp_scope_straight (wp_mono h1 fun e a' w' hq=>?_)
  cases e with
  | goto l=>exact(bV _ hq).elim
  | _=>exact hq
 | label h ih=>intro hc hk σ a w hr hf;exact wp_label (ih rfl hk σ a w hr hf)
 | exit h ih=>intro hc hk σ a w hr hf;exact wp_exit (ih rfl hk σ a w hr hf)
 | ret h ih=>intro hc hk σ a w hr hf;exact wp_ret (ih rfl hk σ a w hr hf)
 | nseq h ih=>
  intro hc hk σ a w hr hf
  simp only [KU,Bool.and_eq_true] at hk
  exact ih hk.1 hk.2 σ a w hr hf
 | nblk h ih=>intro hc hk σ a w hr hf;exact ih rfl hk σ a w hr hf
 | Z7v h ih=>
  intro hc hk σ a w hr hf
  have hk' :=hk
  simp only [KU,Bool.and_eq_true] at hk'
  exact LoopIn.of (ih hk'.1 hk σ a w hr hf)
 | eseq h ih=>
  intro hc hk σ a w hr hf
  simp only [KU,Bool.and_eq_true] at hk
  exact ih rfl hk.2 σ a w hr hf
 | Z7w h ih=>
  intro hc hk σ a w hr hf
  simp only [KU,Bool.and_eq_true] at hk
  exact ih rfl hk.2 σ a w hr hf
 | eblk h ih=>
  intro hc hk σ a w hr hf
  have:=ih rfl hk σ a w hr hf
  simp only [vS,QK,Exit.inBlock,if_true]
  exact this
 | Z7s hne h ih=>
  intro hc hk σ a w hr hf
  have:=ih rfl hk σ a w hr hf
  simp only [vS,QK,Exit.inBlock,hne,if_false]
  exact this
 | rany h ih=>
  rename_i x K st r
  intro hc hk σ a w hr hf
  have:KU E f K=true:=by cases x<;>simp_all [KU]
  have:=ih rfl this σ a w hr hf
  cases x<;>exact this
 | finN hz=>intro hc hk σ a w hr hf;exact hZ _ _ σ a w hz hr hf
 | finR hz=>intro hc hk σ a w hr hf;exact hZ _ _ σ a w hz hr hf
 | tidy ht h ih=>intro hc hk σ a w hr hf;exact ih hc hk _ a w (Zmu ht hr) (hf.ren ht.pre)
 | Z7o hp hpre h ih=>
  intro hc hk σ a w hr hf
  obtain⟨σ1,h1,h2⟩:=ZlC hp hr
  exact ih hc hk _ a w h2 ((hf.trans h1).ren hpre)
end
end Go.Proofs.YtddbklgndkpipaaGreatDoor.Le
namespace Go.Proofs.YtddbklgndkpipaaGreatDoor.Le
open Go.RowKit (Below)
section
variable {U:Cm}
def TB:List Bool->Bool
 | []=>true
 | [b]=>b
 | b::bs=>b&&TB bs
theorem Z3z:∀{l:List Bool},TB l=true->∀b∈l,b=true:=by
 intro l
 induction l with
 | nil=>simp_all
 | cons x xs ih=>
  intro h b hb
  cases xs with
  | nil=>simp only [TB] at h;simp only [List.mem_singleton] at hb;rw [hb];exact h
  | cons y ys=>
   simp only [TB,Bool.and_eq_true] at h
   grind
def resT (E:Env) (H:BF U) (s:List (SV U.Ty)):ResultVar->Tr U (SV U.Ty)
 | .tmp t=>.leaf (s.getD t .und)
 | .cell a t=>loadT E H t (s.getD a .und)
def TE (E:Env) (H:BF U) (s:List (SV U.Ty)):List ResultVar->Tr U (List (SV U.Ty))
 | []=>.leaf []
 | r::rs=>(resT E H s r).andThen fun v=>(TE E H s rs).andThen fun vs=>.leaf (v::vs)
def Qh:List Nat->List (SV U.Ty)->Option (List (SV U.Ty))
 | [],[]=>some []
 | t::ts,w::ws=>match U.Gf t w,Qh ts ws with|some a,some r=>some (U.encS t a::r)|_,_=>none
 | _,_=>none
def vM (E:Env) (fn:Func) (st:D9 U):Tr U (SV U.Ty):=
 (TE E st.H st.s fn.results.toList).andThen fun vs=>
  match vs,fn.resultTypes.toList with
  | [v],[t]=>(Pj st.H v).andThen fun w=>(match U.Gf t w with|some a=>.leaf (U.encS t a)|none=>.fail)
  | vs,ts=>.when (vs.length≠1) ((Ny st.H vs).andThen fun ws=>(match Qh ts ws with|some es=>.leaf (.BG es)|none=>.fail))
theorem Z65 {E:Env} (hU:D5 U E) {st:D9 U}:∀{rs:List ResultVar} {vs:List (SV U.Ty)},(TE E st.H st.s rs).AZ vs->rs.mapM (resD E (C9 U st).H (C9 U st).s)=some (Aw U vs):=by
 intro rs
 induction rs with
 | nil=>intro vs h;simp only [TE,Tr.AZ] at h;subst h;rfl
 | cons r rs ih=>
  intro vs h
  simp only [TE,Dy,Tr.AZ] at h
  obtain⟨v,h1,ws,h2,rfl⟩:=h
  have hr:resD E (C9 U st).H (C9 U st).s r=some (AY U v):=by
   cases r with
   | tmp t=>
    simp only [resT,Tr.AZ] at h1
    subst h1
    exact congrArg some (Rw st.s t)
   | cell a t=>
    simp only [resD]
    rw [show (C9 U st).s.getD a .und=AY U (st.s.getD a .und) from Rw st.s a]
    exact Z61 hU h1
  rw [List.mapM_cons,hr,ih h2]
  rfl
theorem Ziu {E:Env} (hU:D5 U E):∀{ts:List Nat} {ws es:List (SV U.Ty)},Qh ts ws=some es->MM (ts.map E.rows) (Aw U ws)=Aw U es:=by
 intro ts
 induction ts with
 | nil=>
  intro ws es h
  cases ws with
  | nil=>simp only [Qh,Option.some.injEq] at h;subst h;rfl
  | cons=>simp [Qh] at h
 | cons t ts ih=>
  intro ws es h
  cases ws with
  | nil=>simp [Qh] at h
  | cons w ws=>
   simp only [Qh] at h
   split at h
   ·rename_i a r h1 h2
    simp only [Option.some.injEq] at h
    subst h
    simp only [List.map_cons,Aw,MM,hU.dec _ _ _ h1,hU.encS,ih h2]
   ·cases h
theorem Zn1 {H:Heap} {x y:V} (h:Hz H x=some y):∀vs,y≠.BG vs:=by
 intro vs hy
 subst hy
 unfold Hz at h
 split at h
 ·simp_all
 ·unfold Fj at h
  grind
theorem Zku {E:Env} (hU:D5 U E) {fn:Func} {st:D9 U} {v:SV U.Ty} (h:(vM E fn st).AZ v) :
  ∃r0 r1,KH E (C9 U st).H (C9 U st).s fn.results.toList=some r0/\Js (C9 U st).H r0=some r1/\PN (fn.resultTypes.toList.map E.rows) r1=AY U v:=by
 unfold vM at h
 simp only [Dy] at h
 obtain⟨vs,h1,h⟩:=h
 have hm:=Z65 hU h1
 split at h
 ·rename_i v0 t hts
  simp only [Dy] at h
  obtain⟨w,h2,h⟩:=h
  split at h
  ·rename_i a ha
   simp only [Tr.AZ] at h
   subst h
   have hf:Hz (C9 U st).H (AY U v0)=some (AY U w):=bQ h2
   refine⟨AY U v0,AY U w,by simp only [KH,hm,Aw],?_,?_⟩
   ·unfold Js
    split
    ·rename_i us hus
     rw [hus] at hf
     simp [Hz,Fj] at hf
    ·exact hf
   ·rw [hts]
    unfold PN
    split
    ·rename_i us hus
     exact absurd hus (Zn1 hf us)
    ·simp only [List.map_cons,List.headD_cons,hU.dec _ _ _ ha,hU.encS]
  ·simp [Tr.AZ] at h
 ·rename_i va vs ts hneg
  simp only [EM,Dy] at h
  obtain⟨hl,ws,h2,h⟩:=h
  split at h
  ·rename_i es hes
   simp only [Tr.AZ] at h
   subst h
   refine⟨.BG (Aw U va),.BG (Aw U ws),?_,?_,?_⟩
   ·simp only [KH,hm]
    split
    ·rename_i x hx
     simp only [Option.some.injEq] at hx
     exfalso
     apply hl
     have:=congrArg List.length hx
     rw [Ik] at this
     simpa using this
    ·simp_all
    simp_all
   ·simp only [Js,C9,nU h2,Option.map_some]
   ·simp only [PN,Ziu hU hes,AY]
  ·simp [Tr.AZ] at h
def dU (E:Env) (fn:Func) (st:D9 U):Tr U (SV U.Ty×BF U):=(vM E fn st).andThen fun v=>.leaf (v,[])
def vI (E:Env) (fn:Func) (fa:List (List Fk)) (fb:List Bf) (k:Nat) (st:D9 U):Tr U (SV U.Ty×BF U):=
 (TE E st.H st.s fn.results.toList).andThen fun vs=>
  match vs with
  | [.BG _]=>.fail
  | [.raw _]=>.fail
  | [v]=>(TJ fa fb k [v] st.H).andThen fun r=>(match r.2.1 with
   | [a]=>.when (r.1.take k=List.range k) (.leaf (FP (r.1.idxOf ·) a,TK r.2.2 r.1))
   | _=>.fail)
  | vs=>.when (vs.length≠1) ((TJ fa fb k vs st.H).andThen fun r=>.when (r.1.take k=List.range k) (.leaf (.BG (L8 (r.1.idxOf ·) r.2.1),TK r.2.2 r.1)))
theorem ZkN {E:Env} (hU:D5 U E) {fn:Func} {st:D9 U} {r:SV U.Ty×BF U} (h:(dU E fn st).AZ r):Zp E fn (C9 U st) (AY U r.1,BI U r.2):=by
 simp only [dU,Dy,Tr.AZ] at h
 obtain⟨v,h1,rfl⟩:=h
 obtain⟨r0,r1,e1,e2,e3⟩:=Zku hU h1
 exact⟨r0,r1,e1,e2,by rw [e3];rfl⟩
theorem Zla {E:Env} (hU:D5 U E) {fn:Func} {fa:List (List Fk)} {fb:List Bf} {k:Nat} {st:D9 U} {r:SV U.Ty×BF U} (h:(vI E fn fa fb k st).AZ r):Zh E fn fa fb k (C9 U st) (AY U r.1,BI U r.2):=by
 simp only [vI,Dy] at h
 obtain⟨vs,h1,h⟩:=h
 have hm:=Z65 hU h1
 split at h
 ·simp [Tr.AZ] at h
 ·simp [Tr.AZ] at h
 ·rename_i v hn1 hn2
  simp only [Dy] at h
  obtain⟨p,hp,h⟩:=h
  split at h
  ·rename_i a ha
   simp only [EM,Tr.AZ] at h
   obtain⟨hk,rfl⟩:=h
   have hp' :=aS hp
   rw [ha] at hp'
   refine⟨AY U v,by simp only [KH,hm,Aw],?_⟩
   have hnt:∀cs,AY U v≠.BG cs:=by
    intro cs hcs
    cases v with
    | BG vs=>exact hn1 vs rfl
    | raw x=>exact hn2 x rfl
    | _=>simp [AY] at hcs
   unfold Ws
   split
   ·rename_i cs hcs;exact absurd hcs (hnt cs)
   ·simp only [Aw] at hp'
    simp only [C9,hp']
    rw [if_pos hk,Vs,aB]
  ·simp [Tr.AZ] at h
 ·rename_i hneg
  simp only [EM,Dy,Tr.AZ] at h
  obtain⟨hl,p,hp,hk,rfl⟩:=h
  have hp' :=aS hp
  refine⟨.BG (Aw U vs),?_,?_⟩
  ·simp only [KH,hm]
   split
   ·rename_i x hx
    simp only [Option.some.injEq] at hx
    exfalso
    apply hl
    have:=congrArg List.length hx
    rw [Ik] at this
    simpa using this
   ·simp_all
   simp_all
  ·simp only [Ws,C9,hp']
   rw [if_pos hk,aB]
   simp only [AY,Nk]
inductive TT (U:Cm) where
 | done (v:SV U.Ty×BF U)
 | jump (c:Code) (K:List Fr) (st:D9 U)
def ZlD (call:Df) (E:Env) (f:FuncId) (fn:Func) (kk:Nat) (Z:St->V×Heap->Prop):TT U->V×Heap->Prop
 | .done s,v=>v=(AY U s.1,BI U s.2)
 | .jump c K st,v=>DW call E f fn kk Z (.run c) K (C9 U st) v
end
end Go.Proofs.YtddbklgndkpipaaGreatDoor.Le
namespace Go.Proofs.YtddbklgndkpipaaGreatDoor.Le
inductive Pc where
 | v (t n:Nat) (agg:Bool)
 | own (e j:Nat)
 | ptr (j:Nat)
 | fn (f:FuncId) (a b:List Nat)
 | no
 | und
 | XL (ptr:Bool)
inductive Sp where
 | one (c:Pc)
 | agg (cs:List Pc)
inductive Pb where
 | var (e m:Nat) (p:Sp)
 | row (t:Nat) (fresh:Bool)
 | gone
structure Shape where
 args:List Sp
 boxes:List Pb
abbrev Sp.cells:Sp->List Pc
 | .one c=>[c]
 | .agg cs=>cs
section
variable (U:Cm)
@[reducible] def PX:List Pc->Type
 | []=>Unit
 | .v t _ _::ps=>U.Ty t×PX ps
 | _::ps=>PX ps
@[reducible] def AX:List Sp->Type
 | []=>Unit
 | p::ps=>PX U p.cells×AX ps
@[reducible] def BX:List Pb->Type
 | []=>Unit
 | .var _ _ p::bs=>PX U p.cells×BX bs
 | .row t _::bs=>List (U.Ty t)×BX bs
 | .gone::bs=>BX bs
@[reducible] def Shape.X (s:Shape):Type:=AX U s.args×BX U s.boxes
variable {U}
def NJ:(bs:List Pb)->BX U bs->List Nat
 | [],_=>[]
 | .var _ _ _::bs,x=>1::NJ bs x.2
 | .row _ _::bs,x=>x.1.length::NJ bs x.2
 | .gone::bs,x=>1::NJ bs x
def XB (j:Nat):SV U.Ty:=.ptr j 0 0 1
def nulS:Bool->SV U.Ty
 | true=>.lit (.pointer none)
 | false=>.lit .nilFunc
def vU:Bool->SV U.Ty->Bool
 | true,.lit (.pointer none)=>true
 | false,.lit .nilFunc=>true
 | _,_=>false
theorem Zlj {b:Bool} {c:SV U.Ty} (h:vU b c=true):c=nulS b:=by
 unfold vU at h
 split at h<;>first|rfl|cases h
def Ei (ls:List Nat):(ps:List Pc)->PX U ps->List (SV U.Ty)
 | [],_=>[]
 | .v t _ _::ps,x=>cellsS (U.encS t x.1)++Ei ls ps x.2
 | .own _ j::ps,x=>.all j (ls.getD j 0)::Ei ls ps x
 | .ptr j::ps,x=>XB j::Ei ls ps x
 | .fn f a b::ps,x=>.fn f (a.map XB) (b.map XB)::Ei ls ps x
 | .no::ps,x=>.no::Ei ls ps x
 | .und::ps,x=>.und::Ei ls ps x
 | .XL b::ps,x=>nulS b::Ei ls ps x
def OQ (ls:List Nat):(p:Sp)->PX U p.cells->SV U.Ty
 | .one c,x=>(Ei ls [c] x).headD .und
 | .agg cs,x=>.agg (Ei ls cs x)
def Qp (ls:List Nat):(ps:List Sp)->AX U ps->List (SV U.Ty)
 | [],_=>[]
 | p::ps,x=>OQ ls p x.1::Qp ls ps x.2
def Jb (ls:List Nat):(bs:List Pb)->BX U bs->BF U
 | [],_=>[]
 | .var e m p::bs,x=>.var e m (OQ ls p x.1)::Jb ls bs x.2
 | .row t fresh::bs,x=>.row t x.1 (if fresh then none else some x.1.length)::Jb ls bs x.2
 | .gone::bs,x=>.gone::Jb ls bs x
def Shape.enc (s:Shape) (x:s.X U):List (SV U.Ty)×BF U:=(Qp (NJ s.boxes x.2) s.args x.1,Jb (NJ s.boxes x.2) s.boxes x.2)
def OH:SV U.Ty->Bool
 | .nil _ | .raw _ | .agg _ | .BG _ | .N9 _ | .Qv ..=>false
 | _=>true
def Qd:List Nat->List (SV U.Ty)->Bool
 | [],[]=>true
 | j::js,.ptr i a b c::xs=>decide (i=j/\a=0/\b=0/\c=1)&&Qd js xs
 | _,_=>false
def Ql (H:BF U):List Nat:=H.map fun b=>match b with | .row _ xs _=>xs.length|_=>1
def FY (ls:List Nat):(ps:List Pc)->List (SV U.Ty)->Option (PX U ps×List Bool)
 | [],cs=>if cs.isEmpty then some ((),[]) else none
 | .v t n true::ps,cs=>if (cs.take n).length=n/\(cs.take n).all OH=true then
   (match U.Gf t (.agg (cs.take n)),FY ls ps (cs.drop n) with
    | some a,some r=>some ((a,r.1),r.2)
    | _,_=>none) else none
 | .v t _ false::ps,c::cs=>if OH c then
   (match U.Gf t c,FY ls ps cs with
    | some a,some r=>some ((a,r.1),r.2)
    | _,_=>none) else none
 | .own _ j::ps,.all i n::cs=>if i=j then (FY ls ps cs).map fun r=>(r.1,(ls.getD j 0==n)::r.2) else none
 | .ptr j::ps,.ptr i a b c::cs=>if i=j/\a=0/\b=0/\c=1 then FY ls ps cs else none
 | .fn f a b::ps,.fn g a' b' :: cs=>if g=f/\Qd a a' = true/\Qd b b' = true then FY ls ps cs else none
 | .no::ps,.no::cs=>FY ls ps cs
 | .und::ps,.und::cs=>FY ls ps cs
 | .XL b::ps,c::cs=>if vU b c=true then FY ls ps cs else none
 | _::_,_=>none
def fB (ls:List Nat):(p:Sp)->SV U.Ty->Option (PX U p.cells×List Bool)
 | .one c,x=>FY ls [c] [x]
 | .agg cs,.agg xs=>FY ls cs xs
 | _,_=>none
def TR (ls:List Nat):(ps:List Sp)->List (SV U.Ty)->Option (AX U ps×List Bool)
 | [],[]=>some ((),[])
 | p::ps,x::xs=>(match fB ls p x,TR ls ps xs with
  | some a,some r=>some ((a.1,r.1),a.2++r.2)
  | _,_=>none)
 | _,_=>none
def NY (ls:List Nat):(bs:List Pb)->BF U->Option (BX U bs×List Bool)
 | [],[]=>some ((),[])
 | .var e m p::bs,.var e' m' x::H=>if e' = e/\m' = m then
   (match fB ls p x,NY ls bs H with
    | some a,some r=>some ((a.1,r.1),a.2++r.2)
    | _,_=>none) else none
 | .row t fresh::bs,.row t' xs fl::H=>if h:t' = t then
   (match fresh,fl,NY ls bs H with
    | true,none,some r=>some ((h▸xs,r.1),r.2)
    | false,some n,some r=>some ((h▸xs,r.1),(n==xs.length)::r.2)
    | _,_,_=>none) else none
 | .gone::bs,.gone::H=>NY ls bs H
 | _,_=>none
def Shape.dec (s:Shape) (as:List (SV U.Ty)) (H:BF U):Option (s.X U×List Bool):=
 match TR (Ql H) s.args as,NY (Ql H) s.boxes H with
 | some a,some b=>some ((a.1,b.1),a.2++b.2)
 | _,_=>none
theorem Z0h {x:SV U.Ty} (h:OH x=true) (e:Nat):Gx e (AY U x)=AY U x:=by
 cases x<;>simp_all [OH,AY,Gx]
theorem ZbV {x:SV U.Ty} (h:OH x=true):(AY U x).cells=[AY U x]:=by
 cases x<;>first|rfl|(simp [OH] at h)
theorem ZgR {x:SV U.Ty} (h:OH x=true):∀cs,AY U x≠.agg cs:=by
 intro cs hc
 cases x<;>first|(cases hc;done)|(simp [OH] at h)
theorem ZcE:∀{xs:List (SV U.Ty)},xs.all OH=true->∀es,G5 es (Aw U xs)=Aw U xs:=by
 intro xs
 induction xs with
 | nil=>intro _ es;cases es<;>rfl
 | cons x xs ih=>
  intro h es
  simp only [List.all_cons,Bool.and_eq_true] at h
  cases es with
  | nil=>rfl
  | cons e es=>simp only [Aw,G5,Z0h h.1,ih h.2]
theorem Oq (xs ys:List (SV U.Ty)):Aw U (xs++ys)=Aw U xs++Aw U ys:=by simp [E5]
theorem Z4u:∀{js:List Nat} {xs:List (SV U.Ty)},Qd js xs=true->xs=js.map XB:=by
 intro js
 induction js with
 | nil=>intro xs h;cases xs with
  | nil=>rfl
  | cons=>simp [Qd] at h
 | cons j js ih=>
  intro xs h
  cases xs with
  | nil=>simp [Qd] at h
  | cons x xs=>
   cases x<;>simp [Qd] at h
   obtain⟨⟨rfl,rfl,rfl,rfl⟩,h2⟩:=h
   rw [ih h2]
   rfl
theorem Z6U {E:Env} (hU:D5 U E) (ls:List Nat):∀(ps:List Pc) {cs:List (SV U.Ty)} {r:PX U ps×List Bool},FY ls ps cs=some r->(∀b∈r.2,b=true)->Aw U cs=Aw U (Ei ls ps r.1):=by
 intro ps
 induction ps with
 | nil=>
  intro cs r h _
  simp only [FY] at h
  split at h
  ·rename_i hc;cases cs with
   | nil=>rfl
   | cons=>simp at hc
  ·cases h
 | cons p ps ih=>
  intro cs r h hb
  cases p with
  | v t n ag=>
   cases ag with
   | true=>
    simp only [FY] at h
    split at h
    ·rename_i hc
     split at h
     ·rename_i a r' h1 h2
      simp only [Option.some.injEq] at h
      subst h
      have e:=hU.dec t _ a h1
      simp only [AY,EC] at e
      rw [ZcE hc.2] at e
      have ec:=hU.cells t a
      rw [<- e] at ec
      simp only [V.cells] at ec
      simp only [Ei,Oq,<- ec,<- ih h2 hb]
      rw [<- Oq,List.take_append_drop]
     ·cases h
    ·cases h
   | false=>
    cases cs with
    | nil=>simp [FY] at h
    | cons c cs=>
     simp only [FY] at h
     split at h
     ·rename_i hc
      split at h
      ·rename_i a r' h1 h2
       simp only [Option.some.injEq] at h
       subst h
       have e:=hU.dec t _ a h1
       have hr:∀es,EC es (AY U c)=AY U c:=by
        intro es
        unfold EC
        split
        ·rename_i cs' hcs
         exact absurd hcs (ZgR hc cs')
        ·exact Z0h hc _
       rw [hr] at e
       have ec:=hU.cells t a
       rw [<- e] at ec
       rw [ZbV hc] at ec
       simp only [Ei,Oq,<- ec,<- ih h2 hb]
       rfl
      ·cases h
     ·cases h
  | own e j=>
   cases cs with
   | nil=>simp [FY] at h
   | cons c cs=>
    cases c<;>simp only [FY] at h<;>try (cases h;done)
    split at h
    ·rename_i hij
     subst hij
     simp only [Option.map_eq_some_iff] at h
     obtain⟨r',h2,rfl⟩:=h
     have hn:=hb _ (List.mem_cons_self ..)
     simp only [beq_iff_eq] at hn
     simp only [Ei,Aw,AY,hn,ih h2 (fun b hh=>hb b (by simp [hh]))]
    ·cases h
  | ptr j=>
   cases cs with
   | nil=>simp [FY] at h
   | cons c cs=>
    cases c<;>simp only [FY] at h<;>try (cases h;done)
    split at h
    ·rename_i hij
     obtain⟨rfl,rfl,rfl,rfl⟩:=hij
     simp only [Ei,Aw,XB,ih h hb]
    ·cases h
  | fn f a b=>
   cases cs with
   | nil=>simp [FY] at h
   | cons c cs=>
    cases c<;>simp only [FY] at h<;>try (cases h;done)
    split at h
    ·rename_i hij
     obtain⟨rfl,h1,h2⟩:=hij
     rw [Z4u h1,Z4u h2]
     simp only [Ei,Aw,ih h hb]
    ·cases h
  | no=>
   cases cs with
   | nil=>simp [FY] at h
   | cons c cs=>
    cases c<;>simp only [FY] at h<;>try (cases h;done)
    simp only [Ei,Aw,ih h hb]
  | und=>
   cases cs with
   | nil=>simp [FY] at h
   | cons c cs=>
    cases c<;>simp only [FY] at h<;>try (cases h;done)
    simp only [Ei,Aw,ih h hb]
  | XL b=>
   cases cs with
   | nil=>simp [FY] at h
   | cons c cs=>
    simp only [FY] at h
    split at h
    ·rename_i hn
     rw [Zlj hn]
     simp only [Ei,Aw,ih h hb]
    ·cases h
theorem Z6h {E:Env} (hU:D5 U E) (ls:List Nat) {p:Sp} {x:SV U.Ty} {r:PX U p.cells×List Bool} (h:fB ls p x=some r) (hb:∀b∈r.2,b=true):AY U x=AY U (OQ ls p r.1):=by
 cases p with
 | one c=>
  have:=Z6U hU ls [c] h hb
  simp only [Aw] at this
  cases hp:Ei ls [c] r.1 with
  | nil=>rw [hp] at this;cases this
  | cons y ys=>
   rw [hp] at this
   simp only [Aw,List.cons.injEq] at this
   simp only [OQ]
   simp_all
 | agg cs=>
  cases x<;>simp only [fB] at h<;>try (cases h;done)
  have:=Z6U hU ls cs h hb
  simp only [OQ,AY,this]
theorem ZlO {E:Env} (hU:D5 U E) (ls:List Nat):∀(ps:List Sp) {cs:List (SV U.Ty)} {r:AX U ps×List Bool},TR ls ps cs=some r->(∀b∈r.2,b=true)->Aw U cs=Aw U (Qp ls ps r.1):=by
 intro ps
 induction ps with
 | nil=>
  intro cs r h _
  cases cs with
  | nil=>rfl
  | cons=>simp [TR] at h
 | cons p ps ih=>
  intro cs r h hb
  cases cs with
  | nil=>simp [TR] at h
  | cons c cs=>
   simp only [TR] at h
   split at h
   ·rename_i a r' h1 h2
    simp only [Option.some.injEq] at h
    subst h
    simp only [Qp,Aw,Z6h hU ls h1 (fun b hh=>hb b (by simp [hh])),ih h2 (fun b hh=>hb b (by simp [hh]))]
   ·cases h
theorem Zmz {E:Env} (hU:D5 U E) (ls:List Nat):∀(bs:List Pb) {H:BF U} {r:BX U bs×List Bool},NY ls bs H=some r->(∀b∈r.2,b=true)->BI U H=BI U (Jb ls bs r.1)/\NJ bs r.1=Ql H:=by
 intro bs
 induction bs with
 | nil=>
  intro H r h _
  cases H with
  | nil=>exact⟨rfl,rfl⟩
  | cons=>simp [NY] at h
 | cons b bs ih=>
  intro H r h hb
  cases H with
  | nil=>cases b<;>simp [NY] at h
  | cons x H=>
   cases b with
   | var e m p=>
    cases x<;>simp only [NY] at h<;>try (cases h;done)
    split at h
    ·rename_i he
     obtain⟨rfl,rfl⟩:=he
     split at h
     ·rename_i a r' h1 h2
      simp only [Option.some.injEq] at h
      subst h
      obtain⟨e1,e2⟩:=ih h2 (fun b hh=>hb b (by simp [hh]))
      have e3:=Z6h hU ls h1 (fun b hh=>hb b (by simp [hh]))
      refine⟨?_,?_⟩
      ·simp only [BI,Jb,List.map_cons,Ce,e3]
       exact congrArg _ e1
      ·simp only [NJ,Ql,List.map_cons,e2]
     ·cases h
    ·cases h
   | row t fresh=>
    cases x<;>simp only [NY] at h<;>try (cases h;done)
    rename_i t' xs fl
    split at h
    ·rename_i ht
     subst ht
     split at h
     ·rename_i r' h2
      simp only [Option.some.injEq] at h
      subst h
      obtain⟨e1,e2⟩:=ih h2 hb
      refine⟨?_,?_⟩
      ·simp only [BI,Jb,List.map_cons,if_true]
       exact congrArg _ e1
      ·simp only [NJ,Ql,List.map_cons,e2]
     ·rename_i n r' h2
      simp only [Option.some.injEq] at h
      subst h
      obtain⟨e1,e2⟩:=ih h2 (fun b hh=>hb b (by simp [hh]))
      have hn:=hb _ (List.mem_cons_self ..)
      simp only [beq_iff_eq] at hn
      refine⟨?_,?_⟩
      ·simp only [BI,Jb,List.map_cons,Bool.false_eq_true,if_false,Ce,hn]
       exact congrArg _ e1
      ·simp only [NJ,Ql,List.map_cons,e2]
     ·cases h
    ·cases h
   | gone=>
    cases x<;>simp only [NY] at h<;>try (cases h;done)
    obtain⟨e1,e2⟩:=ih h hb
    refine⟨?_,?_⟩
    ·simp only [BI,Jb,List.map_cons]
     exact congrArg _ e1
    ·simp only [NJ,Ql,List.map_cons,e2]
theorem Shape.dI {E:Env} (hU:D5 U E) {s:Shape} {as:List (SV U.Ty)} {H:BF U} {r:s.X U×List Bool} (h:s.dec as H=some r) (hb:∀b∈r.2,b=true):Aw U as=Aw U (s.enc r.1).1/\BI U H=BI U (s.enc r.1).2:=by
 unfold Shape.dec at h
 split at h
 ·rename_i a b h1 h2
  simp only [Option.some.injEq] at h
  subst h
  obtain⟨e1,e2⟩:=Zmz hU _ _ h2 (fun b hh=>hb b (by simp [hh]))
  have e3:=ZlO hU _ _ h1 (fun b hh=>hb b (by simp [hh]))
  simp only [Shape.enc,e2]
  exact⟨e3,e1⟩
 ·cases h
variable (U)
def fM:Pc->Prop
 | .v t n true=>t∈U.keys/\∀a,∃cs,U.encS t a = .agg cs/\cs.length=n
 | .v t n false=>t∈U.keys/\∀a,cellsS (U.encS t a)=[U.encS t a]
 | _=>True
def fH:List Pc->Prop
 | []=>True
 | p::ps=>fM U p/\fH ps
def fK:Sp->Prop
 | .one (.v _ _ true)=>False
 | .one c=>fM U c
 | .agg cs=>fH U cs
def fQ:List Sp->Prop
 | []=>True
 | p::ps=>fK U p/\fQ ps
def Tc:List Pb->Prop
 | []=>True
 | .var _ _ p::bs=>fK U p/\Tc bs
 | .row t _::bs=>t∈U.keys/\Tc bs
 | .gone::bs=>Tc bs
def Shape.OK (s:Shape):Prop:=fQ U s.args/\Tc U s.boxes
variable {U}
def Tj (k1:List Nat) (kN:List (Nat×Nat)):Pc->Bool
 | .v t n true=>kN.contains (t,n)
 | .v t _ false=>k1.contains t
 | _=>true
def gG (k1:List Nat) (kN:List (Nat×Nat)):Sp->Bool
 | .one (.v _ _ true)=>false
 | .one c=>Tj k1 kN c
 | .agg cs=>cs.all (Tj k1 kN)
def pbB (U:Cm) (k1:List Nat) (kN:List (Nat×Nat)):Pb->Bool
 | .var _ _ p=>gG k1 kN p
 | .row t _=>U.keys.contains t
 | .gone=>true
def shB (U:Cm) (k1:List Nat) (kN:List (Nat×Nat)) (s:Shape):Bool:=s.args.all (gG k1 kN)&&s.boxes.all (pbB U k1 kN)
theorem Shape.ok_of {k1:List Nat} {kN:List (Nat×Nat)} (h1:∀t∈k1,t∈U.keys/\∀a,cellsS (U.encS t a)=[U.encS t a]) (hN:∀p∈kN,p.1∈U.keys/\∀a,∃cs,U.encS p.1 a = .agg cs/\cs.length=p.2) {s:Shape} (h:shB U k1 kN s=true):s.OK U:=by
 have hp:∀c,Tj k1 kN c=true->fM U c:=by
  intro c hc
  cases c with
  | v t n ag=>cases ag with
   | true=>exact hN (t,n) (by simpa [Tj] using hc)
   | false=>exact h1 t (by simpa [Tj] using hc)
  | _=>trivial
 have hps:∀cs:List Pc,cs.all (Tj k1 kN)=true->fH U cs:=by
  intro cs
  induction cs with
  | nil=>intro _;trivial
  | cons c cs ih=>intro h;simp only [List.all_cons,Bool.and_eq_true] at h;exact⟨hp c h.1,ih h.2⟩
 have hsp:∀p,gG k1 kN p=true->fK U p:=by
  intro p hh
  cases p with
  | agg cs=>exact hps cs hh
  | one c=>cases c with
   | v t n ag=>cases ag with
    | true=>cases hh
    | false=>exact hp (.v t n false) hh
   | _=>trivial
 have has:∀l:List Sp,l.all (gG k1 kN)=true->fQ U l:=by
  intro l
  induction l with
  | nil=>intro _;trivial
  | cons p l ih=>intro h;simp only [List.all_cons,Bool.and_eq_true] at h;exact⟨hsp p h.1,ih h.2⟩
 have hbs:∀l:List Pb,l.all (pbB U k1 kN)=true->Tc U l:=by
  intro l
  induction l with
  | nil=>intro _;trivial
  | cons p l ih=>
   intro h
   simp only [List.all_cons,Bool.and_eq_true] at h
   cases p with
   | var e m q=>exact⟨hsp q h.1,ih h.2⟩
   | row t fr=>exact⟨by simpa [pbB] using h.1,ih h.2⟩
   | gone=>exact ih h.2
 unfold shB at h
 rw [Bool.and_eq_true] at h
 exact⟨has _ h.1,hbs _ h.2⟩
theorem Z6b {E:Env} (hU:D5 U E) {ls ls' : List Nat}:∀{ps:List Pc} {x y:PX U ps},fH U ps->Aw U (Ei ls ps x)=Aw U (Ei ls' ps y)->x=y:=by
 intro ps
 induction ps with
 | nil=>intro x y _ _;rfl
 | cons p ps ih=>
  intro x y hk h
  obtain⟨hp,hk⟩:=hk
  cases p with
  | v t n ag=>
   obtain⟨a,x'⟩:=x
   obtain⟨b,y'⟩:=y
   simp only [Ei,Oq] at h
   have key:Aw U (cellsS (U.encS t a))=Aw U (cellsS (U.encS t b))/\Aw U (Ei ls ps x')=Aw U (Ei ls' ps y')/\U.enc t a=U.enc t b/\t∈U.keys:=by
    cases ag with
    | true=>
     obtain⟨hm,hl⟩:=hp
     obtain⟨ca,ea,la⟩:=hl a
     obtain⟨cb,eb,lb⟩:=hl b
     have:=List.append_inj h (by rw [Ik,Ik,ea,eb];simp only [cellsS,la,lb])
     refine⟨this.1,this.2,?_,hm⟩
     rw [<- hU.encS,<- hU.encS,ea,eb]
     have h1:=this.1
     rw [ea,eb] at h1
     simp only [cellsS] at h1
     simp only [AY,h1]
    | false=>
     obtain⟨hm,hl⟩:=hp
     have:=List.append_inj h (by simp_all;rfl)
     refine⟨this.1,this.2,?_,hm⟩
     have h1:=this.1
     rw [hl a,hl b] at h1
     simp only [Aw,List.cons.injEq,and_true,hU.encS] at h1
     exact h1
   obtain⟨_,h2,h3,hm⟩:=key
   have ha:=hU.inj t hm a b h3
   grind
  | own e j=>
   simp only [Ei,Aw,List.cons.injEq] at h
   exact ih hk h.2
  | ptr j=>
   simp only [Ei,Aw,List.cons.injEq] at h
   exact ih hk h.2
  | fn f a b=>
   simp only [Ei,Aw,List.cons.injEq] at h
   exact ih hk h.2
  | no=>
   simp only [Ei,Aw,List.cons.injEq] at h
   exact ih hk h.2
  | und=>
   simp only [Ei,Aw,List.cons.injEq] at h
   exact ih hk h.2
  | XL b=>
   simp only [Ei,Aw,List.cons.injEq] at h
   exact ih hk h.2
theorem Z5e {E:Env} (hU:D5 U E) {ls ls' : List Nat} {p:Sp} {x y:PX U p.cells} (hk:fK U p) (h:AY U (OQ ls p x)=AY U (OQ ls' p y)):x=y:=by
 cases p with
 | one c=>
  cases c with
  | v t n ag=>
   cases ag with
   | true=>exact hk.elim
   | false=>
    obtain⟨a,x'⟩:=x
    obtain⟨b,y'⟩:=y
    have hk' : fM U (.v t n false):=hk
    refine Z6b hU (ps:=[.v t n false]) ⟨hk',trivial⟩ (ls:=ls) (ls' :=ls') ?_
    simp only [OQ,Ei,hk'.2,List.append_nil,List.headD_cons] at h
    simp only [Ei,hk'.2,List.append_nil,Aw,h]
  | own e j=>simp_all
  | ptr j=>rfl
  | fn f a b=>rfl
  | no=>rfl
  | und=>rfl
  | XL b=>rfl
 | agg cs=>
  simp only [OQ,AY,V.agg.injEq] at h
  exact Z6b hU hk h
theorem Zl5 {E:Env} (hU:D5 U E) {ls ls' : List Nat}:∀{ps:List Sp} {x y:AX U ps},fQ U ps->Aw U (Qp ls ps x)=Aw U (Qp ls' ps y)->x=y:=by
 intro ps
 induction ps with
 | nil=>intro x y _ _;rfl
 | cons p ps ih=>
  intro x y hk h
  obtain⟨a,x'⟩:=x
  obtain⟨b,y'⟩:=y
  simp only [Qp,Aw,List.cons.injEq] at h
  rw [Z5e hU hk.1 h.1,ih hk.2 h.2]
theorem ZdT {E:Env} (hU:D5 U E) {t:Nat} (ht:t∈U.keys):∀{xs ys:List (U.Ty t)},xs.map (U.enc t)=ys.map (U.enc t)->xs=ys:=by
 intro xs
 induction xs with
 | nil=>intro ys h;cases ys with
  | nil=>rfl
  | cons=>cases h
 | cons x xs ih=>
  intro ys h
  cases ys with
  | nil=>cases h
  | cons y ys=>
   simp only [List.map_cons,List.cons.injEq] at h
   rw [hU.inj t ht x y h.1,ih h.2]
theorem Zl9 {E:Env} (hU:D5 U E) {ls ls' : List Nat}:∀{bs:List Pb} {x y:BX U bs},Tc U bs->BI U (Jb ls bs x)=BI U (Jb ls' bs y)->x=y:=by
 intro bs
 induction bs with
 | nil=>intro x y _ _;rfl
 | cons b bs ih=>
  intro x y hk h
  cases b with
  | var e m p=>
   obtain⟨a,x'⟩:=x
   obtain⟨b,y'⟩:=y
   simp only [Jb,BI,List.map_cons,List.cons.injEq,Ce,DD,Box.mk.injEq,true_and,and_true] at h
   rw [Z5e hU hk.1 h.1,ih hk.2 h.2]
  | row t fresh=>
   obtain⟨a,x'⟩:=x
   obtain⟨b,y'⟩:=y
   simp only [Jb,BI,List.map_cons,List.cons.injEq,Ce,Box.mk.injEq,true_and] at h
   rw [ZdT hU hk.1 h.1.1,ih hk.2 h.2]
  | gone=>
   simp only [Jb,BI,List.map_cons,List.cons.injEq,true_and] at h
   exact ih hk h
theorem Shape.Z6Q {E:Env} (hU:D5 U E) {s:Shape} (hk:s.OK U) {x y:s.X U} (h1:Aw U (s.enc x).1=Aw U (s.enc y).1) (h2:BI U (s.enc x).2=BI U (s.enc y).2):x=y:=by
 obtain⟨a,b⟩:=x
 obtain⟨a',b'⟩:=y
 have e2:=Zl9 hU hk.2 h2
 simp only at e2
 subst e2
 have e1:=Zl5 hU hk.1 h1
 simp only at e1
 rw [e1]
variable (U)
structure HMod where
 fa:List (List Fk)
 fb:List Bf
 DR:Shape
 Ir:Shape
 one:Bool
 ky:Nat
 Lp:U.Ty ky->Ir.X U
 fn:DR.X U->Option (U.Ty ky)
 ok:DR.OK U
variable {U}
def HMod.out (m:HMod U) (y:U.Ty m.ky):SV U.Ty×BF U:=((if m.one then (m.Ir.enc (m.Lp y)).1.headD .und else .BG (m.Ir.enc (m.Lp y)).1),(m.Ir.enc (m.Lp y)).2)
open Classical in
noncomputable def HMod.spec (m:HMod U):Qm where
 fa:=m.fa
 fb:=m.fb
 run:=fun as H0=>if h:∃x:m.DR.X U,Aw U (m.DR.enc x).1=as/\BI U (m.DR.enc x).2=H0 then (m.fn (Classical.choose h)).map fun y=>(AY U (m.out y).1,BI U (m.out y).2) else none
theorem HMod.ZkY {E:Env} (hU:D5 U E) (m:HMod U) (x:m.DR.X U):m.spec.run (Aw U (m.DR.enc x).1) (BI U (m.DR.enc x).2)=(m.fn x).map fun y=>(AY U (m.out y).1,BI U (m.out y).2):=by
 have h:∃y:m.DR.X U,Aw U (m.DR.enc y).1=Aw U (m.DR.enc x).1/\BI U (m.DR.enc y).2=BI U (m.DR.enc x).2:=⟨x,rfl,rfl⟩
 simp only [HMod.spec,dif_pos h]
 rw [Shape.Z6Q hU m.ok (Classical.choose_spec h).1 (Classical.choose_spec h).2]
def uS (m:HMod U) (as:List (SV U.Ty)) (H:BF U):Tr U (SV U.Ty×BF U):=
 (TJ m.fa m.fb 0 as H).andThen fun r=>match m.DR.dec (L8 (r.1.idxOf ·) r.2.1) (TK r.2.2 r.1) with
  | some x=>(match x.2 with
   | []=>.bind m.ky (m.fn x.1) fun y=>.when (r.1.length<=(m.out y).2.length) (.leaf (FP (Iq r.1 r.2.2.length) (m.out y).1,Vx r.2.2 r.1 (m.out y).2))
   | c::cs=>.chk (TB (c::cs)) (.bind m.ky (m.fn x.1) fun y=>.when (r.1.length<=(m.out y).2.length) (.leaf (FP (Iq r.1 r.2.2.length) (m.out y).1,Vx r.2.2 r.1 (m.out y).2))))
  | none=>.fail
theorem Zkj {E:Env} (hU:D5 U E) {m:HMod U} {as:List (SV U.Ty)} {H:BF U} {r:SV U.Ty×BF U} (h:(uS m as H).AZ r):J5 m.spec (Aw U as) (BI U H)=some (AY U r.1,BI U r.2):=by
 simp only [uS,Dy] at h
 obtain⟨p,hp,h⟩:=h
 have hp' :=aS hp
 split at h
 ·rename_i x hx
  have key:(∀b∈x.2,b=true)/\∃y,m.fn x.1=some y/\p.1.length<=(m.out y).2.length/\r=(FP (Iq p.1 p.2.2.length) (m.out y).1,Vx p.2.2 p.1 (m.out y).2):=by
   split at h
   ·rename_i hnil
    simp only [Tr.AZ,EM] at h
    obtain⟨y,h1,h2,h3⟩:=h
    exact⟨by rw [hnil];intro b hb;simp at hb,y,h1,h2,h3.symm⟩
   ·rename_i c cs hcs
    simp only [Tr.AZ,EM] at h
    obtain⟨hc,y,h1,h2,h3⟩:=h
    exact⟨by rw [hcs];exact Z3z hc,y,h1,h2,h3.symm⟩
  obtain⟨hb,y,h1,h2,rfl⟩:=key
  obtain⟨e1,e2⟩:=Shape.dI hU hx hb
  rw [Nk] at e1
  rw [aB] at e2
  unfold J5
  simp only [show m.spec.fa=m.fa from rfl,show m.spec.fb=m.fb from rfl,hp',e1,e2,HMod.ZkY hU,h1,Option.map_some,Oy]
  rw [if_pos h2,Vs,Zdq]
 ·simp [Tr.AZ] at h
end
end Go.Proofs.YtddbklgndkpipaaGreatDoor.Le
namespace Go.Proofs.YtddbklgndkpipaaGreatDoor.Le
open Go.RowKit (Below)
section
variable {U:Cm}
def FZ (U:Cm):List Nat->Type
 | []=>Unit
 | t::ts=>U.Ty t×FZ U ts
def GL:(ts:List Nat)->FZ U ts->List V
 | [],_=>[]
 | t::ts,x=>U.enc t x.1::GL ts x.2
def QZ:(ts:List Nat)->List (SV U.Ty)->Option (FZ U ts)
 | [],[]=>some ()
 | t::ts,v::vs=>match U.Gf t v,QZ ts vs with|some a,some as=>some (a,as)|_,_=>none
 | _,_=>none
structure Az (U:Cm) where
 ts:List Nat
 rt:Nat
 fn:FZ U ts->Option (U.Ty rt)
 ok:∀t∈ts,t∈U.keys
def Wi:SV U.Ty->Bool
 | .ptr _ _ _ _=>true
 | .raw v=>Q7 v
 | _=>false
def uH (H:BF U):SV U.Ty->Tr U (SV U.Ty)
 | .ptr id i off tot=>if i=0/\off=0/\tot=1 then (match H[id]? with
   | some (.var _ n (.agg cs))=>.leaf (.raw (.CY n [.agg ((Aw U cs).map TF)] 0 0))
   | some (.var _ n x)=>(match TY x with|some z=>.leaf (.raw (.CY n [.lit z] 0 0))|none=>.fail)
   | _=>.fail) else .fail
 | .raw _=>.fail
 | v=>Pj H v
def WA (H:BF U):List (SV U.Ty)->Tr U (List (SV U.Ty))
 | []=>.leaf []
 | v::vs=>(uH H v).andThen fun w=>(WA H vs).andThen fun ws=>.leaf (w::ws)
def dH:SV U.Ty->Bool
 | .lit _ | .si _ _ | .sb _ | .ss _=>true
 | _=>false
def TC:SV U.Ty->Bool
 | .lit _ | .si _ _ | .sb _ | .ss _=>true
 | .agg cs=>cs.all dH
 | _=>false
def vY:SV U.Ty->Bool
 | .BG vs=>vs.all TC
 | v=>TC v
theorem ZiX (x:SV U.Ty):Q7 (AY U x)=Wi x:=by
 cases x<;>simp [Wi,Q7,AY]
theorem Z39 (xs:List (SV U.Ty)):(Aw U xs).any Q7=xs.any Wi:=by
 induction xs with
 | nil=>rfl
 | cons x xs ih=>simp only [Aw,List.any_cons,ih,ZiX]
theorem ZiH (x:SV U.Ty) (h:dH x=true):I9 (AY U x)=true:=by
 cases x<;>simp_all [dH,I9,AY]
theorem Z3X (xs:List (SV U.Ty)) (h:xs.all dH=true):(Aw U xs).all I9=true:=by
 induction xs with
 | nil=>rfl
 | cons x xs ih=>
  simp only [List.all_cons,Bool.and_eq_true] at h
  simp only [Aw,List.all_cons,Bool.and_eq_true]
  exact⟨ZiH x h.1,ih h.2⟩
theorem ZjV (x:SV U.Ty) (h:TC x=true):J4 (AY U x)=true:=by
 cases x<;>first|(simp [TC] at h;done)|(simp [J4,AY];done)|skip
 rename_i cs
 simp only [AY,J4]
 exact Z3X cs h
theorem Zir (xs:List (SV U.Ty)) (h:xs.all TC=true):(Aw U xs).all J4=true:=by
 induction xs with
 | nil=>rfl
 | cons x xs ih=>
  simp only [List.all_cons,Bool.and_eq_true] at h
  simp only [Aw,List.all_cons,Bool.and_eq_true]
  exact⟨ZjV x h.1,ih h.2⟩
theorem Zlm (x:SV U.Ty) (h:vY x=true):NP (AY U x)=true:=by
 cases x<;>first|(simp [vY,TC] at h;done)|(simp [NP,J4,AY];done)|skip
 ·rename_i cs
  simp only [AY,NP,J4]
  exact Z3X cs h
 ·rename_i vs
  simp only [AY,NP]
  exact Zir vs h
theorem ZiN {H:BF U} {x y:SV U.Ty} (h:(uH H x).AZ y):NL (BI U H) (AY U x)=some (AY U y):=by
 unfold uH at h
 split at h
 ·rename_i id i off tot
  split at h
  ·rename_i hz
   obtain⟨rfl,rfl,rfl⟩:=hz
   split at h
   ·rename_i e n cs hb
    simp only [Tr.AZ] at h
    subst h
    simp only [AY,NL,and_self,if_true,DY,Jn,hb,Option.map_some,Ce,DD]
    simp
   ·rename_i e n x hb hna
    split at h
    ·rename_i z hz
     simp only [Tr.AZ] at h
     subst h
     have hx:AY U x = .lit z:=by cases x<;>simp_all [TY,AY]
     simp only [AY,NL,and_self,if_true,DY,Jn,hna,Option.map_some,Ce,DD,hx]
     simp
    ·simp [Tr.AZ] at h
   ·simp [Tr.AZ] at h
  ·simp [Tr.AZ] at h
 ·simp [Tr.AZ] at h
 ·rename_i hn1 hn2
  unfold NL
  split
  ·rename_i id i off tot hv
   exfalso
   cases x<;>simp [AY] at hv
   ·exact hn1 _ _ _ _ rfl
   ·exact hn2 _ rfl
  ·exact bQ h
theorem Ze3 {H:BF U}:∀{xs ys:List (SV U.Ty)},(WA H xs).AZ ys->Jm (BI U H) (Aw U xs)=some (Aw U ys):=by
 intro xs
 induction xs with
 | nil=>intro ys h;simp only [WA,Tr.AZ] at h;subst h;rfl
 | cons x xs ih=>
  intro ys h
  simp only [WA,Dy,Tr.AZ] at h
  obtain⟨w,h1,ws,h2,rfl⟩:=h
  simp only [Aw,Jm,ZiN h1,ih h2]
def wF (hmods:FuncId->List FuncId->Option (HMod U)) (g:FuncId):Bool:=match hmods g [] with|some m=>m.fb.all Bf.isRow|none=>false
def NI (mods:FuncId->Option (Az U)) (hmods:FuncId->List FuncId->Option (HMod U)) (mk:FuncId->Option (List (Int×FuncId))):IA U:=fun g as H=>
 match mk g with
 | some l=>(match as with|[x]=>.when ((KX x).isEmpty=true) (.leaf (.N9 (l.flatMap fun q=>[.lit (.int .i64 q.1),.fn q.2 [x] []]),H))|_=>.fail)
 | none=>
 match mods g with
 | some m=>if as.any Wi then (WA H as).andThen fun as' =>(match QZ m.ts as' with
   | some x=>.bind m.rt (m.fn x) fun r=>.when (vY (U.encS m.rt r)=true/\(as.flatMap KX).isEmpty=true) (.leaf (U.encS m.rt r,H))
   | none=>.fail)
  else (Ny H as).andThen fun as' =>(match QZ m.ts as' with
  | some x=>.bind m.rt (m.fn x) fun r=>.leaf (U.encS m.rt r,OY H (as.flatMap KX))
  | none=>.fail)
 | none=>match hmods g (if wF hmods g then [] else TD as) with
  | some m=>uS m as H
  | none=>.fail
noncomputable def TZ (hmods:FuncId->List FuncId->Option (HMod U)):FuncId->List FuncId->Option Qm:=fun g k=>(hmods g k).map HMod.spec
open Classical in
noncomputable def NH (mods:FuncId->Option (Az U)):FuncId->Option (List V->Option V):=fun g=>
 match mods g with
 | some m=>some fun as=>if h:∃x:FZ U m.ts,GL m.ts x=as then (m.fn (Classical.choose h)).map (U.enc m.rt) else none
 | none=>none
theorem Z40 {E:Env} (hU:D5 U E):∀{ts:List Nat} {vs:List (SV U.Ty)} {x:FZ U ts},QZ ts vs=some x->GH E.rows ts (Aw U vs)=GL ts x:=by
 intro ts
 induction ts with
 | nil=>
  intro vs x h
  cases vs with
  | nil=>rfl
  | cons=>simp [QZ] at h
 | cons t ts ih=>
  intro vs x h
  cases vs with
  | nil=>simp [QZ] at h
  | cons v vs=>
   simp only [QZ] at h
   split at h
   ·rename_i a as h1 h2
    cases h
    simp only [Aw,GH,GL,hU.dec _ _ _ h1,ih h2]
   ·cases h
theorem ZfN {E:Env} (hU:D5 U E):∀{ts:List Nat} {x y:FZ U ts},(∀t∈ts,t∈U.keys)->GL ts x=GL ts y->x=y:=by
 intro ts
 induction ts with
 | nil=>intro x y _ _;rfl
 | cons t ts ih=>
  intro x y hk h
  obtain⟨x1,x2⟩:=x
  obtain⟨y1,y2⟩:=y
  simp only [GL,List.cons.injEq] at h
  rw [hU.inj t (hk t (by simp)) _ _ h.1,ih (fun t' ht' =>hk t' (by simp [ht'])) h.2]
theorem rM {E:Env} (hU:D5 U E) {mods:FuncId->Option (Az U)} {g:FuncId} {m:Az U} (hm:mods g=some m) {F:List V->Option V} (hF:NH mods g=some F) (x:FZ U m.ts):F (GL m.ts x)=(m.fn x).map (U.enc m.rt):=by
 unfold NH at hF
 simp only [hm,Option.some.injEq] at hF
 subst hF
 have h:∃y:FZ U m.ts,GL m.ts y=GL m.ts x:=⟨x,rfl⟩
 simp only [dif_pos h]
 rw [ZfN hU m.ok (Classical.choose_spec h)]
theorem ZkD {E:Env} (hU:D5 U E) {mods:FuncId->Option (Az U)} {hmods:FuncId->List FuncId->Option (HMod U)} (henv:E.env=NH mods) (hhm:E.hm=TZ hmods) (hpu:∀g,E.pure g=false) (hpar:∀g m,mods g=some m->E.par g=m.ts)
  (hown:∀g,E.own g=none) (n:Nat):Lc U (NI mods hmods E.maps) (EY E (n+1)):=by
 intro g as H v H' h
 unfold NI at h
 cases hmk:E.maps g with
 | some l=>
  simp only [hmk] at h
  split at h
  ·simp only [EM,Tr.AZ,Prod.mk.injEq] at h
   obtain⟨hi,rfl,rfl⟩:=h
   unfold EY
   simp only [hmk,Aw,rU]
   rw [if_pos hi]
   simp only [AY,E5,mkV,List.map_flatMap,List.map_cons,List.map_nil]
  ·cases h
 | none=>
 simp only [hmk] at h
 cases hm:mods g with
 | none=>
  simp only [hm] at h
  have hne:E.env g=none:=by rw [henv];unfold NH;simp [hm]
  split at h
  ·rename_i m hmm
   have:=Zkj hU h
   unfold EY
   simp only [hmk,hne,hpu g,Bool.false_eq_true,if_false]
   have hfr:NS E g=wF hmods g:=by
    unfold NS wF
    rw [hmk,hne,hpu g,hhm]
    simp only [TZ]
    cases hmods g []<;>rfl
   have hk:E.hm g (if NS E g then [] else KW (Aw U as))=some m.spec:=by rw [hfr,hhm,Zi4];simp only [TZ,hmm,Option.map_some]
   simp only [hk,this]
  ·simp [Tr.AZ] at h
 | some m=>
  simp only [hm] at h
  by_cases hq:as.any Wi=true
  ·rw [if_pos hq] at h
   simp only [Dy] at h
   obtain⟨as',h1,h⟩:=h
   split at h
   ·rename_i x hx
    simp only [Tr.AZ,EM,Prod.mk.injEq] at h
    obtain⟨r,hr,⟨hfl,hids⟩,rfl,rfl⟩:=h
    have hF:∃F,E.env g=some F:=by rw [henv];unfold NH;simp [hm]
    obtain⟨F,hF⟩:=hF
    have hat:=rM hU hm (by rw [<- henv];exact hF) x
    have hfl' :=Zlm _ hfl
    rw [hU.encS] at hfl'
    have hids' : (Aw U as).flatMap Dh=[]:=by rw [pJ];simpa using hids
    unfold EY
    simp only [hmk,hF]
    rw [if_pos (by rw [Z39];exact hq),Ze3 h1]
    simp only [hown g,hpar g m hm,Z40 hU hx,hat,hr,Option.map_some]
    rw [if_pos hfl',hids',hU.encS]
    rfl
   ·simp [Tr.AZ] at h
  rw [if_neg hq] at h
  simp only [Dy] at h
  obtain⟨as',h1,h⟩:=h
  split at h
  ·rename_i x hx
   simp only [Tr.AZ,Prod.mk.injEq] at h
   obtain⟨r,hr,rfl,rfl⟩:=h
   have hF:∃F,E.env g=some F:=by rw [henv];unfold NH;simp [hm]
   obtain⟨F,hF⟩:=hF
   have hat:=rM hU hm (by rw [<- henv];exact hF) x
   unfold EY
   simp only [hmk,hF]
   rw [if_neg (by rw [Z39];exact hq)]
   simp only [nU h1,hown g,hpar g m hm,Z40 hU hx,hat,hr,Option.map_some,pJ,SG H _ (Z1e h1),hU.encS]
  ·simp [Tr.AZ] at h
structure BA (P:Program) (E:Env) (g:FuncId) (m:Az U):Prop where
 entered:JO P g
 pure:∀x a,m.fn x=some a->L9 P E g (GL m.ts x) (U.enc m.rt a)
theorem BA.EP {P:Program} {E E' : Env} (h:E'.EP=E.EP) {g:FuncId} {m:Az U} (hf:BA P E g m):BA P E' g m:=by
 refine⟨hf.entered,fun x a hx fz w vs hc hg hr=>hf.pure x a hx fz w vs hc ?_ hr⟩
 intro g r hh
 exact hg g r (by rw [h];exact hh)
structure E8 (P:Program) (E:Env) (g:FuncId) (m:HMod U):Prop where
 entered:JO P g
 heap:∀x y,m.fn x=some y->Q9 P E g (Aw U (m.DR.enc x).1) (BI U (m.DR.enc x).2) (AY U (m.out y).1) (BI U (m.out y).2)
theorem E8.EP {P:Program} {E E' : Env} (h:E'.EP=E.EP) {g:FuncId} {m:HMod U} (hf:E8 P E g m):E8 P E' g m:=by
 refine⟨hf.entered,fun x y hx B w0 σ w vs hi hg hr=>hf.heap x y hx B w0 σ w vs hi ?_ hr⟩
 intro g r hh
 exact hg g r (by rw [h];exact hh)
theorem qA {P:Program} {E:Env} (hU:D5 U E) {mods:FuncId->Option (Az U)} {hmods:FuncId->List FuncId->Option (HMod U)} (henv:E.env=NH mods) (hhm:E.hm=TZ hmods) (hown:∀g,E.own g=none) (h:∀g m,mods g=some m->BA P E g m)
  (h' : ∀g k m,hmods g k=some m->E8 P E g m) (mk:Me P) (hmk:E.maps=mk.tab):MR P E:=by
 refine⟨?_,fun g k hs hh=>?_,fun g l hl=>(by
  obtain⟨a,b⟩:=mk.ok g l (by rw [<- hmk];exact hl)
  exact⟨a,b E⟩)⟩
 rotate_left
 ·rw [hhm] at hh
  simp only [TZ,Option.map_eq_some_iff] at hh
  obtain⟨m,hm,rfl⟩:=hh
  refine⟨(h' g k m hm).entered,fun as H0 r H1 hrun=>?_⟩
  simp only [HMod.spec] at hrun
  split at hrun
  ·rename_i hx
   obtain⟨x,rfl,rfl⟩:=hx
   simp only [Option.map_eq_some_iff] at hrun
   obtain⟨y,hy,he⟩:=hrun
   simp only [Prod.mk.injEq] at he
   obtain⟨rfl,rfl⟩:=he
   generalize hch:(⟨x,rfl,rfl⟩:∃y:m.DR.X U,Aw U (m.DR.enc y).1=Aw U (m.DR.enc x).1/\BI U (m.DR.enc y).2=BI U (m.DR.enc x).2)=hex at hy
   have hxe:=Shape.Z6Q hU m.ok (Classical.choose_spec hex).1 (Classical.choose_spec hex).2
   rw [hxe] at hy
   exact(h' g k m hm).heap x y hy
  ·cases hrun
 intro g F hF
 have hm:∃m,mods g=some m:=by
  rw [henv] at hF
  unfold NH at hF
  cases hm:mods g with
  | none=>simp [hm] at hF
  | some m=>exact⟨m,rfl⟩
 obtain⟨m,hm⟩:=hm
 refine⟨(h g m hm).entered,fun as r _ hr=>?_⟩
 rw [hown g]
 have hF' :=hF
 rw [henv] at hF
 unfold NH at hF
 simp only [hm,Option.some.injEq] at hF
 subst hF
 simp only at hr
 split at hr
 ·rename_i hx
  obtain⟨x,hx'⟩:=hx
  subst hx'
  have:=rM hU hm (by rw [henv] at hF';exact hF') x
  have hr' : (m.fn x).map (U.enc m.rt)=some r:=by
   rw [<- this]
   simp only [dif_pos (⟨x,rfl⟩:∃y:FZ U m.ts,GL m.ts y=GL m.ts x)]
   exact hr
  cases hfx:m.fn x with
  | none=>simp [hfx] at hr'
  | some a=>
   simp only [hfx,Option.map_some,Option.some.injEq] at hr'
   subst hr'
   exact(h g m hm).pure x a hfx
 ·cases hr
theorem Zdi {P:Program} {E:Env} (hE:Ci E) (hP:E.P=P) (hF:MR P E) {n:Nat} {f:FuncId} {fn:Func} (hfn:E.func f=some fn) {c:Code} (hb:fn.body=some c) {as:List V} {r:V} {H1:Heap}
  (h:DW (EY E n) E f fn 0 (Zp E fn) (.run c) [] ⟨as++List.replicate (fn.ntmps - as.length) Hf,[]⟩ (r,H1)):JO P f/\L9 P E f as r:=by
 obtain⟨hf1,hf2⟩:=hE.func f fn hfn
 rw [hP] at hf1
 refine⟨⟨fn,hf1,by simp [hb],hf2⟩,?_⟩
 intro fz w vs hcells hg hr
 have hI:Inv w.heap.size (Start.of w fz) (bare fz) [] w:=⟨Below.refl _ w,Nat.le_refl _,fun id L hL=>(by cases hL),fun id bx hb=>by simp at hb,fun i j b1 b2 L1 L2 g h1=>by simp at h1,hcells,
  fun b c hc id bx L hb=>by simp at hb,fun id bx hb=>by simp at hb,fun b c hc _=>hc,fun b hb=>hb.elim⟩
 have hslots:AU (bare fz) w (as++List.replicate (fn.ntmps - as.length) Hf) (vs.toArray++Array.replicate (fn.ntmps - vs.toArray.size) undef).toList:=by
  simp only [Array.toList_append,Array.toList_replicate,List.size_toArray]
  rw [<- hr.length]
  exact hr.append (AU.replicate _ (.no .nil))
 have hrel:Ez E w.heap.size (Start.of w fz) (bare fz) ⟨as++List.replicate (fn.ntmps - as.length) Hf,[]⟩ { tmps:=vs.toArray++Array.replicate (fn.ntmps - vs.toArray.size) undef,defers:=[] } w:=⟨hI,hg,hslots,rfl⟩
 have hwp:=tC hE hP (aY hE hP hF n w.heap.size (Start.of w fz)) (Rf n) (F:=Fin P fn w.heap.size (Start.of w fz)) (σ0:=bare fz) (ws:=w)
  (fun st r σ a w' hz hr hx=>ZoX hE hP hr (fun b c hh=>(hx.fz b c hh).1) hz) h (hE.calm f fn c hfn hb) rfl _ _ _ hrel (Ext.refl _ _).k
 refine calls_of_wp hf1 hb ?_
 intro fr k cs
 obtain⟨e,a',w',hq,harr⟩:=hwp fr k cs
 refine⟨e,a',w',?_,harr⟩
 cases e with
 | normal=>
  obtain⟨h0,u,fz',h1,h2,h3,h4,h5,h6,h7⟩:=hq
  exact⟨h0,u,h1,u,fz',rfl,h2,h3,h4,h5,h6,h7⟩
 | ret=>
  obtain⟨h0,u,fz',h1,h2,h3,h4,h5,h6,h7⟩:=hq
  exact⟨h0,u,h1,u,fz',rfl,h2,h3,h4,h5,h6,h7⟩
 | exit id=>exact hq.elim
 | goto l=>exact hq.elim
 | panic c=>exact hq.elim
 | outgrown=>exact hq.elim
theorem ZbP {P:Program} {E:Env} (hE:Ci E) (hP:E.P=P) (hF:MR P E) {n:Nat} {f:FuncId} {fn:Func} (hfn:E.func f=some fn) {c:Code} (hb:fn.body=some c) {as:List V} {H0:Heap} {r:V} {H1:Heap} {fa:List (List Fk)} {fb:List Bf} {k:Nat} (hk:H0.length=k)
  (h:DW (EY E n) E f fn k (Zh E fn fa fb k) (.run c) [] ⟨as++List.replicate (fn.ntmps - as.length) Hf,H0⟩ (r,H1)):JO P f/\Q9 P E f as H0 r H1:=by
 obtain⟨hf1,hf2⟩:=hE.func f fn hfn
 rw [hP] at hf1
 refine⟨⟨fn,hf1,by simp [hb],hf2⟩,?_⟩
 intro B w0 σ w vs hI hg hr
 have hslots:AU σ w (as++List.replicate (fn.ntmps - as.length) Hf) (vs.toArray++Array.replicate (fn.ntmps - vs.toArray.size) undef).toList:=by
  simp only [Array.toList_append,Array.toList_replicate,List.size_toArray]
  rw [<- hr.length]
  exact hr.append (AU.replicate _ (.no .nil))
 have hrel:Ez E B w0 σ ⟨as++List.replicate (fn.ntmps - as.length) Hf,H0⟩ { tmps:=vs.toArray++Array.replicate (fn.ntmps - vs.toArray.size) undef,defers:=[] } w:=⟨hI,hg,hslots,rfl⟩
 have hwp:=tC hE hP (aY hE hP hF n B w0) (Rf n) (F:=FinH P fn B w0 σ w) (σ0:=σ) (ws:=w)
  (fun st r σ' a w' hz hr hx=>Znr hE hP (fun id L hL=>by rw [<- hk];exact hI.dC hL) hr hx hz) h (hE.calm f fn c hfn hb) rfl _ _ _ hrel (Ext.refl _ _).k
 refine calls_of_wp hf1 hb ?_
 intro fr k cs
 obtain⟨e,a',w',hq,harr⟩:=hwp fr k cs
 refine⟨e,a',w',?_,harr⟩
 cases e with
 | normal=>
  obtain⟨h0,u,σ',h1,h2,h3,h4⟩:=hq
  exact⟨h0,u,h1,u,σ',rfl,h2,h3,h4⟩
 | ret=>
  obtain⟨h0,u,σ',h1,h2,h3,h4⟩:=hq
  exact⟨h0,u,h1,u,σ',rfl,h2,h3,h4⟩
 | exit id=>exact hq.elim
 | goto l=>exact hq.elim
 | panic c=>exact hq.elim
 | outgrown=>exact hq.elim
theorem Z5Y {L R:Type} {J:L->Option R}:∀{T:Tr U L} {r:R},T.den J=some r->∃l,T.AZ l/\J l=some r:=by
 intro T
 induction T with
 | leaf l=>intro r h;exact⟨l,rfl,h⟩
 | br c a b iha ihb=>
  intro r h
  cases c with
  | true=>obtain⟨l,h1,h2⟩:=iha h;exact⟨l,.inl ⟨rfl,h1⟩,h2⟩
  | false=>obtain⟨l,h1,h2⟩:=ihb h;exact⟨l,.inr ⟨rfl,h1⟩,h2⟩
 | bind t o k ih=>
  intro r h
  cases o with
  | none=>cases h
  | some a=>obtain⟨l,h1,h2⟩:=ih a h;exact⟨l,⟨a,rfl,h1⟩,h2⟩
 | chk c a ih=>
  intro r h
  cases c with
  | true=>obtain⟨l,h1,h2⟩:=ih h;exact⟨l,⟨rfl,h1⟩,h2⟩
  | false=>cases h
 | fail=>intro r h;cases h
theorem ZkF {L M:Type} {g:L->M}:∀{T:Tr U L} {l:L},T.AZ l->(T.map g).AZ (g l):=by
 intro T
 induction T with
 | leaf l=>intro l h;simp only [Tr.AZ] at h;subst h;rfl
 | br c a b iha ihb=>
  intro l h
  rcases h with ⟨hc,h⟩|⟨hc,h⟩
  ·exact .inl ⟨hc,iha h⟩
  ·exact .inr ⟨hc,ihb h⟩
 | bind t o k ih=>rintro l ⟨a,ha,h⟩;exact⟨a,ha,ih a h⟩
 | chk c a ih=>rintro l ⟨hc,h⟩;exact⟨hc,ih h⟩
 | fail=>intro l h;exact h
def O9:Code->List Nat->List Fr->Code×List Fr
 | .seq a b,0::p,K=>O9 a p (.seq b::K)
 | .seq a b,_::p,K=>O9 b p K
 | .cond _ a b,0::p,K=>O9 a p K
 | .cond _ a b,_::p,K=>O9 b p K
 | .block id b,_::p,K=>O9 b p (.blk id::K)
 | .loop b,_::p,K=>O9 b p (.loop b::K)
 | .scope b,_::p,K=>O9 b p K
 | c,_,K=>(c,K)
def JE (fn:Func):Code:=match fn.body with|some c=>c|none=>.skip
open Classical in
noncomputable def XA {α:Type} (g:Nat->Option α):Option α:=if h:∃n a,g n=some a then g (Classical.choose h) else none
theorem qY {α:Type} {g:Nat->Option α} {a:α} (h:XA g=some a):∃n,g n=some a:=by
 unfold XA at h
 split at h
 ·exact⟨_,h⟩
 ·cases h
def wW {α:Type} (g:Nat->Option α):Prop:=∀n a,g n=some a->g (n+1)=some a
theorem wW.le {α:Type} {g:Nat->Option α} (hg:wW g) {n m:Nat} {a:α} (h:g n=some a) (hle:n<=m):g m=some a:=by
 induction hle with
 | refl=>exact h
 | step _ ih=>exact hg _ _ ih
theorem Zng {α:Type} {g:Nat->Option α} (hg:wW g) {n:Nat} {a:α} (h:g n=some a):XA g=some a:=by
 unfold XA
 have hex:∃n a,g n=some a:=⟨n,a,h⟩
 rw [dif_pos hex]
 obtain⟨b,hb⟩:=Classical.choose_spec hex
 have h1:=hg.le h (Nat.le_max_left n (Classical.choose hex))
 have h2:=hg.le hb (Nat.le_max_right n (Classical.choose hex))
 rw [hb]
 rw [h1] at h2
 exact h2.symm
end
abbrev A7 (x:Int):Int:=IntKind.wrap .i64 x
end Go.Proofs.YtddbklgndkpipaaGreatDoor.Le
namespace Go.Proofs.YtddbklgndkpipaaGreatDoor.Le
structure AO (Ty:Nat->Type) (T:Type) where
 BD:T->List V
 encS:T->List (SV Ty)
 dec:List (SV Ty)->Option (T×List (SV Ty))
section
variable {Ty:Nat->Type}
def AO.int (k:IntKind):AO Ty Int where
 BD:=fun a=>[.lit (.int k a)]
 encS:=fun a=>[.si k a]
 dec:=fun cs=>match cs with
  | .si j a::r=>if j=k then some (a,r) else none
  | .lit (.int j a)::r=>if j=k then some (a,r) else none
  | _=>none
def AO.bool:AO Ty Bool where
 BD:=fun b=>[.lit (.bool b)]
 encS:=fun b=>[.sb b]
 dec:=fun cs=>match cs with
  | .sb b::r=>some (b,r)
  | .lit (.bool b)::r=>some (b,r)
  | _=>none
def AO.str:AO Ty ByteArray where
 BD:=fun b=>[.lit (.string b)]
 encS:=fun b=>[.ss b]
 dec:=fun cs=>match cs with
  | .ss b::r=>some (b,r)
  | .lit (.string b)::r=>some (b,r)
  | _=>none
def AO.list (t n:Nat) (e:Ty t->V):AO Ty (List (Ty t)) where
 BD:=fun xs=>[.sl false n (xs.map e)]
 encS:=fun xs=>[.sl t xs]
 dec:=fun cs=>match cs with
  | .sl t' xs::r=>if h:t' = t then some (h▸xs,r) else none
  | .nil _::r=>some ([],r)
  | _=>none
def AO.unit:AO Ty Unit where
 BD:=fun _=>[]
 encS:=fun _=>[]
 dec:=fun cs=>some ((),cs)
def AO.pair {A B:Type} (a:AO Ty A) (b:AO Ty B):AO Ty (A×B) where
 BD:=fun x=>a.BD x.1++b.BD x.2
 encS:=fun x=>a.encS x.1++b.encS x.2
 dec:=fun cs=>match a.dec cs with
  | some (x,r)=>match b.dec r with|some (y,r')=>some ((x,y),r')|none=>none
  | none=>none
def AO.CV {A B:Type} (f:A->B) (g:B->A) (b:AO Ty B):AO Ty A where
 BD:=fun x=>b.BD (f x)
 encS:=fun x=>b.encS (f x)
 dec:=fun cs=>match b.dec cs with|some (y,r)=>some (g y,r)|none=>none
def AO.agg {T:Type} (c:AO Ty T) (v:SV Ty):Option T:=match v with
 | .agg cs=>match c.dec cs with|some (a,[])=>some a|_=>none
 | _=>none
def AO.one {T:Type} (c:AO Ty T) (v:SV Ty):Option T:=match c.dec [v] with|some (a,[])=>some a|_=>none
def AO.Bc {T:Type} (c:AO Ty T) (a:T):V:=(c.BD a).headD .no
def AO.DZ {T:Type} (c:AO Ty T) (a:T):SV Ty:=(c.encS a).headD .no
end
structure Ac (U:Cm) {T:Type} (c:AO U.Ty T) (rs:List Nat):Prop where
 enc:∀a,Aw U (c.encS a)=c.BD a
 len:∀a,(c.BD a).length=rs.length
 dec:∀cs a rest,c.dec cs=some (a,rest)->∃pre,cs=pre++rest/\pre.length=rs.length/\G5 rs (Aw U pre)=c.BD a
 nr:∀a,CS (c.BD a)=true
 inj:∀a b,c.BD a=c.BD b->a=b
section
variable {U:Cm}
theorem Ac.int (k:IntKind):Ac U (AO.int k:AO U.Ty Int) [0]:=by
 refine⟨fun a=>rfl,fun a=>rfl,?_,fun a=>rfl,fun a b h=>by simpa [AO.int] using h⟩
 intro cs a rest h
 simp only [AO.int] at h
 split at h
 ·rename_i j x r
  split at h
  ·rename_i hj
   simp only [Option.some.injEq,Prod.mk.injEq] at h
   obtain⟨rfl,rfl⟩:=h
   subst hj
   exact⟨[_],rfl,rfl,rfl⟩
  ·cases h
 ·rename_i j x r
  split at h
  ·rename_i hj
   simp only [Option.some.injEq,Prod.mk.injEq] at h
   obtain⟨rfl,rfl⟩:=h
   subst hj
   exact⟨[_],rfl,rfl,rfl⟩
  ·cases h
 ·cases h
theorem Ac.bool:Ac U (AO.bool:AO U.Ty Bool) [0]:=by
 refine⟨fun a=>rfl,fun a=>rfl,?_,fun a=>rfl,fun a b h=>by simpa [AO.bool] using h⟩
 intro cs a rest h
 simp only [AO.bool] at h
 split at h<;>cases h<;>exact⟨[_],rfl,rfl,rfl⟩
theorem Ac.str:Ac U (AO.str:AO U.Ty ByteArray) [0]:=by
 refine⟨fun a=>rfl,fun a=>rfl,?_,fun a=>rfl,fun a b h=>by simpa [AO.str] using h⟩
 intro cs a rest h
 simp only [AO.str] at h
 split at h<;>cases h<;>exact⟨[_],rfl,rfl,rfl⟩
theorem Zmj {α β:Type} {f:α->β} (hf:∀a b,f a=f b->a=b):∀{xs ys:List α},xs.map f=ys.map f->xs=ys:=by
 intro xs
 induction xs with
 | nil=>simp_all
 | cons x xs ih=>intro ys h;cases ys with
  | nil=>simp at h
  | cons y ys=>
   grind
theorem Ac.list {t n:Nat} {e:U.Ty t->V} (he:∀a,U.enc t a=e a) (hn:U.Au t=n) (hnr:∀a,Cf (e a)=true) (hinj:∀a b,e a=e b->a=b):Ac U (AO.list t n e:AO U.Ty (List (U.Ty t))) [n]:=by
 have hmap:∀xs:List (U.Ty t),xs.map (U.enc t)=xs.map e:=fun xs=>List.map_congr_left fun a _=>he a
 refine⟨fun a=>?_,fun a=>rfl,?_,fun a=>?_,fun a b h=>?_⟩
 ·simp [AO.list,Aw,AY,hn,hmap]
 ·intro cs a rest h
  simp only [AO.list] at h
  split at h
  ·rename_i t' xs r
   split at h
   ·rename_i ht
    subst ht
    simp only [Option.some.injEq,Prod.mk.injEq] at h
    obtain⟨rfl,rfl⟩:=h
    exact⟨[_],rfl,rfl,by simp [Aw,AY,G5,Gx,AO.list,hn,hmap]⟩
   ·cases h
  ·cases h
   exact⟨[_],rfl,rfl,by simp [Aw,AY,G5,Gx,AO.list]⟩
  ·cases h
 ·simp only [AO.list,CS,Cf,Bool.and_true]
  rw [KC]
  simp_all
 ·simp only [AO.list,List.cons.injEq,V.sl.injEq,true_and,and_true] at h
  exact Zmj hinj h
theorem Ac.unit:Ac U (AO.unit:AO U.Ty Unit) []:=
 ⟨fun a=>rfl,fun a=>rfl,fun cs a rest h=>by cases h;exact⟨[],rfl,rfl,rfl⟩,fun a=>rfl,fun a b _=>rfl⟩
theorem Zad:∀(r1 r2:List Nat) (x y:List V),x.length=r1.length->G5 (r1++r2) (x++y)=G5 r1 x++G5 r2 y:=by
 intro r1
 induction r1 with
 | nil=>intro r2 x y h;cases x with
  | nil=>simp [G5]
  | cons=>simp at h
 | cons r r1 ih=>intro r2 x y h;cases x with
  | nil=>simp at h
  | cons v x=>simp [G5,ih r2 x y (by simpa using h)]
theorem ZaS (x y:List V):CS (x++y)=(CS x&&CS y):=by
 induction x with
 | nil=>simp [CS]
 | cons a x ih=>simp [CS,ih,Bool.and_assoc]
theorem Ac.pair {A B:Type} {a:AO U.Ty A} {b:AO U.Ty B} {r1 r2:List Nat} (ha:Ac U a r1) (hb:Ac U b r2):Ac U (AO.pair a b) (r1++r2):=by
 refine⟨fun x=>?_,fun x=>?_,?_,fun x=>?_,fun x y h=>?_⟩
 ·simp only [AO.pair,Oq,ha.enc,hb.enc]
 ·simp only [AO.pair,List.length_append,ha.len,hb.len]
 ·intro cs x rest h
  simp only [AO.pair] at h
  split at h
  ·rename_i p r hp
   split at h
   ·rename_i q r' hq
    cases h
    obtain⟨p1,e1,l1,t1⟩:=ha.dec _ _ _ hp
    obtain⟨p2,e2,l2,t2⟩:=hb.dec _ _ _ hq
    refine⟨p1++p2,by simp_all,by simp [l1,l2],?_⟩
    rw [Oq,Zad _ _ _ _ (by rw [Ik];exact l1),t1,t2]
    rfl
   ·cases h
  ·cases h
 ·simp only [AO.pair,ZaS,ha.nr,hb.nr,Bool.and_self]
 ·simp only [AO.pair] at h
  obtain⟨h1,h2⟩:=List.append_inj h (by rw [ha.len,ha.len])
  obtain⟨x1,x2⟩:=x
  obtain⟨y1,y2⟩:=y
  exact Prod.ext (ha.inj _ _ h1) (hb.inj _ _ h2)
theorem Ac.CV {A B:Type} {f:A->B} {g:B->A} {b:AO U.Ty B} {r:List Nat} (hb:Ac U b r) (hfg:∀y,f (g y)=y) (hgf:∀x,g (f x)=x):Ac U (AO.CV f g b) r:=by
 refine⟨fun x=>hb.enc _,fun x=>hb.len _,?_,fun x=>hb.nr _,fun x y h=>?_⟩
 ·intro cs x rest h
  simp only [AO.CV] at h
  split at h
  ·rename_i y r' hy
   cases h
   obtain⟨p,e,l,t⟩:=hb.dec _ _ _ hy
   exact⟨p,e,l,by simp only [AO.CV,hfg];exact t⟩
  ·cases h
 ·have:=hb.inj _ _ h
  grind
theorem Ac.agg {T:Type} {c:AO U.Ty T} {r:List Nat} (h:Ac U c r) {v:SV U.Ty} {a:T} (hd:c.agg v=some a):EC r (AY U v) = .agg (c.BD a):=by
 unfold AO.agg at hd
 split at hd
 ·split at hd
  ·rename_i cs _ hcs
   cases hd
   obtain⟨p,e,l,t⟩:=h.dec _ _ _ hcs
   simp only [List.append_nil] at e
   subst e
   simp only [AY,EC,t]
  ·cases hd
 ·cases hd
theorem Ac.one {T:Type} {c:AO U.Ty T} {n:Nat} (h:Ac U c [n]) {v:SV U.Ty} {a:T} (hd:c.one v=some a) (hv:∀cs,AY U v≠.agg cs):EC [n] (AY U v)=c.Bc a:=by
 unfold AO.one at hd
 split at hd
 ·rename_i hcs
  cases hd
  obtain⟨p,e,l,t⟩:=h.dec _ _ _ hcs
  simp only [List.append_nil] at e
  subst e
  simp only [Aw,G5] at t
  unfold AO.Bc
  rw [<- t]
  unfold EC
  grind
 ·cases hd
theorem PR {k:IntKind} {v:SV U.Ty} {a:Int} (h:(AO.int k:AO U.Ty Int).one v=some a):∀cs,AY U v≠.agg cs:=by
 rintro cs hc
 cases v<;>simp_all [AY,AO.one,AO.int]
theorem Znb {v:SV U.Ty} {a:Bool} (h:(AO.bool:AO U.Ty Bool).one v=some a):∀cs,AY U v≠.agg cs:=by
 rintro cs hc
 cases v<;>simp_all [AY,AO.one,AO.bool]
theorem Zp7 {v:SV U.Ty} {a:ByteArray} (h:(AO.str:AO U.Ty ByteArray).one v=some a):∀cs,AY U v≠.agg cs:=by
 rintro cs hc
 cases v<;>simp_all [AY,AO.one,AO.str]
theorem Jk {t n:Nat} {e:U.Ty t->V} {v:SV U.Ty} {a:List (U.Ty t)} (h:(AO.list t n e:AO U.Ty (List (U.Ty t))).one v=some a):∀cs,AY U v≠.agg cs:=by
 rintro cs hc
 cases v<;>simp_all [AY,AO.one,AO.list]
theorem Ac.Z7a {T:Type} {c:AO U.Ty T} {n:Nat} (h:Ac U c [n]) (a:T):AY U (c.DZ a)=c.Bc a:=by
 unfold AO.DZ AO.Bc
 rw [<- h.enc a]
 have hl:=h.len a
 rw [<- h.enc a,Ik] at hl
 cases hs:c.encS a with
 | nil=>simp_all
 | cons x xs=>rfl
theorem Ac.PU {T:Type} {c:AO U.Ty T} {n:Nat} (h:Ac U c [n]) {a b:T} (he:c.Bc a=c.Bc b):a=b:=by
 refine h.inj a b ?_
 have h1:=h.len a
 have h2:=h.len b
 unfold AO.Bc at he
 cases ha:c.BD a with
 | nil=>simp_all
 | cons x xs=>
  cases hb:c.BD b with
  | nil=>simp_all
  | cons y ys=>
   simp_all
theorem Ac.P8 {T:Type} {c:AO U.Ty T} {n:Nat} (h:Ac U c [n]) (a:T):Cf (c.Bc a)=true:=by
 have:=h.nr a
 unfold AO.Bc
 cases ha:c.BD a with
 | nil=>rfl
 | cons x xs=>rw [ha] at this;simp [CS] at this;exact this.1
end
def AO.skip {Ty:Nat->Type}:AO Ty Unit where
 BD:=fun _=>[.und]
 encS:=fun _=>[.und]
 dec:=fun cs=>match cs with
  | .und::r=>some ((),r)
  | _=>none
theorem Ac.skip {U:Cm}:Ac U (AO.skip:AO U.Ty Unit) [0]:=by
 refine⟨fun a=>rfl,fun a=>rfl,?_,fun a=>rfl,fun a b _=>rfl⟩
 intro cs a rest h
 simp only [AO.skip] at h
 split at h<;>cases h
 exact⟨[_],rfl,rfl,rfl⟩
noncomputable def LD {U:Cm} (P:Program) (gl:Nat->Option (List V)) (f:FuncId) (mods:FuncId->Option (Az U)) (hmods:FuncId->List FuncId->Option (HMod U)) (mk:Me P):Env:=
 { MJ P (fun _=>false) (NH mods) with
  func:=fun g=>if g=f then P.funcs[g]? else none
  EP:=gl
  hm:=TZ hmods
  maps:=mk.tab
  par:=fun g=>match mods g with|some m=>m.ts|none=>[] }
def Zms (E:Env) (P:Program) (f:FuncId):Bool:=match (P.funcs[f]?).bind (·.body) with|some c=>!EO E f c|none=>false
noncomputable def EV {U:Cm} (P:Program) (gl:Nat->Option (List V)) (f:FuncId) (mods:FuncId->Option (Az U)) (hmods:FuncId->List FuncId->Option (HMod U)) (mk:Me P):Env:=
 { LD P gl f mods hmods mk with quiet:=Zms (LD P gl f mods hmods mk) P f }
section
variable {U:Cm} {P:Program} {gl:Nat->Option (List V)} {f:FuncId} {mods:FuncId->Option (Az U)} {hmods:FuncId->List FuncId->Option (HMod U)} {mk:Me P}
theorem vO (hmix:P.follows .mixedOrders=true) {fn:Func} {c:Code} (hfn:P.funcs[f]? = some fn) (hname:(fn.name == "runtime.NumGoroutine")=false) (hb:fn.body=some c) (hcalm:EO (EV P gl f mods hmods mk) f c=true):Ci (EV P gl f mods hmods mk):=by
 refine⟨fun t i h=>h,?_,hmix,?_,?_,?_,?_,fun t ks h=>h,?_⟩
 ·intro g fn' h
  simp only [EV,LD] at h
  split at h
  ·rename_i hg
   subst hg
   rw [hfn] at h
   cases h
   exact⟨hfn,hname⟩
  ·cases h
 ·intro g fn' c' h hb'
  simp only [EV,LD] at h
  simp_all
 ·intro t k h
  simp only [EV,LD,MJ] at h
  split at h
  ·rename_i d hd
   simp only [Option.some.injEq] at h
   subst h
   exact hd
  ·cases h
 ·intro t h
  simp only [EV,LD,MJ] at h
  split at h
  ·rename_i hd;exact hd
  ·cases h
 ·intro t h
  simp only [EV,LD,MJ] at h
  split at h
  ·rename_i hd;exact hd
  ·cases h
 ·intro t h
  simp only [EV,LD,MJ] at h
  split at h
  ·rename_i e he
   split at h
   ·rename_i hd;exact⟨e,he,hd⟩
   ·cases h
  ·cases h
def aU:(ts:List Nat)->FZ U ts->List (SV U.Ty)
 | [],_=>[]
 | t::ts,x=>U.encS t x.1::aU ts x.2
def Wl (ts:List Nat) (x:FZ U ts) (n:Nat):D9 U:=⟨aU ts x++List.replicate (n - ts.length) .no,[]⟩
theorem ZbX {E:Env} (hU:D5 U E):∀{ts:List Nat} (x:FZ U ts),Aw U (aU ts x)=GL ts x:=by
 intro ts
 induction ts with
 | nil=>intro x;rfl
 | cons t ts ih=>intro x;simp only [aU,Aw,GL,hU.encS,ih]
theorem Zd:∀{ts:List Nat} (x:FZ U ts),(GL ts x).length=ts.length:=by
 intro ts
 induction ts with
 | nil=>intro x;rfl
 | cons t ts ih=>intro x;simp [GL,ih]
theorem Zhb {E:Env} (hU:D5 U E) {ts:List Nat} (x:FZ U ts) (n:Nat):C9 U (Wl ts x n)=⟨GL ts x++List.replicate (n - (GL ts x).length) Hf,[]⟩:=by
 simp only [C9,Wl,Oq,ZbX hU,Zd]
 congr 1
 congr 1
 rw [E5,List.map_replicate]
 rfl
theorem fn_ok {E0:Env} (hE0:E0.EP=gl) (hU:D5 U (EV P gl f mods hmods mk)) (hmix:P.follows .mixedOrders=true) {fn:Func} {c:Code} (hok:∀g m,mods g=some m->BA P E0 g m) (hhok:∀g k m,hmods g k=some m->E8 P E0 g m) (hfn:P.funcs[f]? = some fn) (hname:(fn.name == "runtime.NumGoroutine")=false)
  (hb:fn.body=some c) (hcalm:EO (EV P gl f mods hmods mk) f c=true) (m:Az U)
  (h:∀x a,m.fn x=some a->DW (EY (EV P gl f mods hmods mk) 1) (EV P gl f mods hmods mk) f fn 0 (Zp (EV P gl f mods hmods mk) fn) (.run c) [] (C9 U (Wl m.ts x fn.ntmps)) (U.enc m.rt a,[])):BA P E0 f m:=by
 have hE:=vO (gl:=gl) (mods:=mods) hmix hfn hname hb hcalm
 have hF:MR P (EV P gl f mods hmods mk):=qA hU rfl rfl (fun _=>rfl) (fun g m hm=>(hok g m hm).EP (by rw [hE0];rfl)) (fun g k m hm=>(hhok g k m hm).EP (by rw [hE0];rfl)) mk rfl
 have hfn' : (EV P gl f mods hmods mk).func f=some fn:=by simp only [EV,LD,if_true];exact hfn
 have key:∀x a,m.fn x=some a->JO P f/\L9 P (EV P gl f mods hmods mk) f (GL m.ts x) (U.enc m.rt a):=by
  intro x a hx
  have:=h x a hx
  rw [Zhb hU] at this
  exact Zdi hE rfl hF hfn' hb this
 refine⟨⟨fn,hfn,by simp [hb],hname⟩,fun x a hx fz w vs hc hg hr=>(key x a hx).2 fz w vs hc ?_ hr⟩
 intro g r hh
 exact hg g r (by rw [hE0];exact hh)
def TA (e:List (SV U.Ty)×BF U) (n:Nat):D9 U:=⟨e.1++List.replicate (n - e.1.length) .no,e.2⟩
theorem Z3D (e:List (SV U.Ty)×BF U) (n:Nat):C9 U (TA e n)=⟨Aw U e.1++List.replicate (n - (Aw U e.1).length) Hf,BI U e.2⟩:=by
 simp only [C9,TA,Oq,Ik]
 congr 1
 congr 1
 rw [E5,List.map_replicate]
 rfl
theorem ZnU {E0:Env} (hE0:E0.EP=gl) (hU:D5 U (EV P gl f mods hmods mk)) (hmix:P.follows .mixedOrders=true) {fn:Func} {c:Code} (hok:∀g m,mods g=some m->BA P E0 g m) (hhok:∀g k m,hmods g k=some m->E8 P E0 g m) (hfn:P.funcs[f]? = some fn) (hname:(fn.name == "runtime.NumGoroutine")=false)
  (hb:fn.body=some c) (hcalm:EO (EV P gl f mods hmods mk) f c=true) (m:HMod U) {fa:List (List Fk)} {fb:List Bf} {k:Nat} (hk:∀x:m.DR.X U,(m.DR.enc x).2.length=k)
  (h:∀(x:m.DR.X U) (y:U.Ty m.ky),m.fn x=some y->DW (EY (EV P gl f mods hmods mk) 1) (EV P gl f mods hmods mk) f fn k (Zh (EV P gl f mods hmods mk) fn fa fb k) (.run c) [] (C9 U (TA (m.DR.enc x) fn.ntmps)) (AY U (m.out y).1,BI U (m.out y).2)):E8 P E0 f m:=by
 have hE:=vO (gl:=gl) (mods:=mods) (hmods:=hmods) hmix hfn hname hb hcalm
 have hF:MR P (EV P gl f mods hmods mk):=qA hU rfl rfl (fun _=>rfl) (fun g m hm=>(hok g m hm).EP (by rw [hE0];rfl)) (fun g k m hm=>(hhok g k m hm).EP (by rw [hE0];rfl)) mk rfl
 have hfn' : (EV P gl f mods hmods mk).func f=some fn:=by simp only [EV,LD,if_true];exact hfn
 refine⟨⟨fn,hfn,by simp [hb],hname⟩,fun x y hx B w0 σ w vs hi hg hr=>?_⟩
 have h1:=h x y hx
 rw [Z3D] at h1
 exact(ZbP hE rfl hF hfn' hb (by rw [Oy];exact hk x) h1).2 B w0 σ w vs hi (fun g r hh=>hg g r (by rw [hE0];exact hh)) hr
theorem uD (hU:D5 U (EV P gl f mods hmods mk)):Lc U (NI mods hmods mk.tab) (EY (EV P gl f mods hmods mk) 1):=
 ZkD hU rfl rfl (fun _=>rfl) (fun g m h=>by simp only [EV,LD,h]) (fun _=>rfl) 0
end
structure CJ (U:Cm) (E:Env) (t:Nat):Prop where
 encS:∀a,AY U (U.encS t a)=U.enc t a
 dec:∀v a,U.Gf t v=some a->EC (E.rows t) (AY U v)=U.enc t a
 cells:∀a,(U.enc t a).cells=Aw U (cellsS (U.encS t a))
 nr:∀a,Cf (U.enc t a)=true
 inj:∀a b,U.enc t a=U.enc t b->a=b
def WY (U:Cm) (E:Env) {α:Type}:List ((i:Nat)×(α->U.Ty i))->Prop
 | []=>True
 | c::cs=>CJ U E c.1/\WY U E cs
def uK (U:Cm) {α:Type} (x y:α):List ((i:Nat)×(α->U.Ty i))->Prop
 | []=>True
 | c::cs=>c.2 x=c.2 y/\uK U x y cs
theorem Z5t {U:Cm} {E:Env} {α:Type} (x:α):∀{cs:List ((i:Nat)×(α->U.Ty i))},WY U E cs->Aw U (cs.map fun c=>U.encS c.1 (c.2 x))=cs.map fun c=>U.enc c.1 (c.2 x):=by
 intro cs
 induction cs with
 | nil=>intro _;rfl
 | cons c cs ih=>intro h;simp only [List.map_cons,Aw,h.1.encS,ih h.2]
theorem Zmi {U:Cm} {E:Env} {α:Type} (x:α):∀{cs:List ((i:Nat)×(α->U.Ty i))},WY U E cs->CS (cs.map fun c=>U.enc c.1 (c.2 x))=true:=by
 intro cs
 induction cs with
 | nil=>intro _;rfl
 | cons c cs ih=>intro h;simp only [List.map_cons,CS,h.1.nr,ih h.2,Bool.and_self]
theorem Zkt {U:Cm} {E:Env} {α:Type} (x y:α):∀{cs:List ((i:Nat)×(α->U.Ty i))},WY U E cs->(cs.map fun c=>U.enc c.1 (c.2 x))=(cs.map fun c=>U.enc c.1 (c.2 y))->uK U x y cs:=by
 intro cs
 induction cs with
 | nil=>intro _ _;trivial
 | cons c cs ih=>intro h e;simp only [List.map_cons,List.cons.injEq] at e;exact⟨h.1.inj _ _ e.1,ih h.2 e.2⟩
theorem CJ.BG {U:Cm} {E:Env} {t:Nat} (cs:List ((i:Nat)×(U.Ty t->U.Ty i))) (h:WY U E cs) (h1:∀x,U.enc t x = .BG (cs.map fun c=>U.enc c.1 (c.2 x))) (h2:∀x,U.encS t x = .BG (cs.map fun c=>U.encS c.1 (c.2 x))) (h3:∀v,U.Gf t v=none)
  (h4:∀x y,uK U x y cs->x=y):CJ U E t:=by
 refine⟨fun a=>?_,fun v a e=>?_,fun a=>?_,fun a=>?_,fun a b e=>?_⟩
 ·rw [h1,h2,AY,Z5t a h]
 ·rw [h3] at e;cases e
 ·rw [h1,h2]
  show [V.BG _]=[V.BG _]
  rw [Z5t a h]
 ·rw [h1];exact Zmi a h
 ·rw [h1,h1] at e
  exact h4 a b (Zkt a b h (V.BG.inj e))
theorem CJ.FN {U:Cm} {E:Env} {t:Nat} {c:AO U.Ty (U.Ty t)} {rs:List Nat} (hc:Ac U c rs) (hr:E.rows t=rs) (h1:∀a,U.enc t a = .agg (c.BD a)) (h2:∀a,U.encS t a = .agg (c.encS a)) (h3:∀v,U.Gf t v=c.agg v):CJ U E t:=by
 refine⟨fun a=>?_,fun v a h=>?_,fun a=>?_,fun a=>?_,fun a b h=>?_⟩
 ·rw [h1,h2,AY,hc.enc]
 ·rw [hr,h1];exact hc.agg (by rw [<- h3];exact h)
 ·rw [h1,h2];exact(hc.enc a).symm
 ·rw [h1];exact hc.nr a
 ·rw [h1,h1] at h;exact hc.inj _ _ (V.agg.inj h)
theorem CJ.GM {U:Cm} {E:Env} {t n:Nat} {c:AO U.Ty (U.Ty t)} (hc:Ac U c [n]) (hr:E.rows t=[n]) (na:∀{v:SV U.Ty} {a:U.Ty t},c.one v=some a->∀cs,AY U v≠.agg cs) (h1:∀a,U.enc t a=c.Bc a) (h2:∀a,U.encS t a=c.DZ a) (h3:∀v,U.Gf t v=c.one v)
  (h4:∀a,(c.Bc a).cells=[c.Bc a]) (h5:∀a,cellsS (c.DZ a)=[c.DZ a]):CJ U E t:=by
 refine⟨fun a=>?_,fun v a h=>?_,fun a=>?_,fun a=>?_,fun a b h=>?_⟩
 ·rw [h1,h2];exact hc.Z7a a
 ·rw [h3] at h;rw [hr,h1];exact hc.one h (na h)
 ·rw [h1,h2,h4,h5,Aw,Aw,hc.Z7a]
 ·rw [h1];exact hc.P8 a
 ·rw [h1,h1] at h;exact hc.PU h
def XC (p:Nat->Prop):List Nat->Prop
 | []=>True
 | t::ts=>p t/\XC p ts
theorem XC.at {p:Nat->Prop} {t:Nat}:∀{l:List Nat},XC p l->t∈l->p t:=by
 intro l
 induction l with
 | nil=>intro _ m;cases m
 | cons x l ih=>
  intro h m
  rcases List.mem_cons.1 m with rfl|m
  ·exact h.1
  ·exact ih h.2 m
section
variable {U:Cm} {R P:Type}
def Lh {R P:Type} (g:P->Option R):R⊕P->Option R
 | .inl r=>some r
 | .inr q=>g q
def PV (T:P->Tr U (R⊕P)):Nat->P->Option R
 | 0,_=>none
 | n+1,p=>(T p).den (Lh (PV T n))
noncomputable def Ad (T:P->Tr U (R⊕P)) (p:P):Option R:=XA fun n=>PV T n p
theorem Z72 {L:Type} {J K:L->Option R} (h:∀l r,J l=some r->K l=some r):∀{T:Tr U L} {r:R},T.den J=some r->T.den K=some r:=by
 intro T
 induction T with
 | leaf l=>intro r hr;exact h l r hr
 | br c a b iha ihb=>intro r hr;cases c with
  | true=>exact iha hr
  | false=>exact ihb hr
 | bind t o k ih=>intro r hr;cases o with
  | none=>cases hr
  | some a=>exact ih a hr
 | chk c a ih=>intro r hr;cases c with
  | true=>exact ih hr
  | false=>cases hr
 | fail=>intro r hr;cases hr
theorem ZhB (T:P->Tr U (R⊕P)):∀n p r,PV T n p=some r->PV T (n+1) p=some r:=by
 intro n
 induction n with
 | zero=>intro p r h;cases h
 | succ n ih=>
  intro p r h
  refine Z72 ?_ h
  intro l r hl
  cases l with
  | inl a=>exact hl
  | inr q=>exact ih q r hl
theorem Z6C (T:P->Tr U (R⊕P)) {n:Nat} {p:P} {r:R} (h:PV T n p=some r):Ad T p=some r:=
 Zng (fun n a h=>ZhB T n p a h) h
theorem Cc (T:P->Tr U (R⊕P)) (p:P):Ad T p=(T p).den (Lh (Ad T)):=by
 have h1:∀r,Ad T p=some r->(T p).den (Lh (Ad T))=some r:=by
  intro r h
  obtain⟨n,hn⟩:=qY h
  cases n with
  | zero=>cases hn
  | succ n=>
   refine Z72 ?_ hn
   intro l r hl
   cases l with
   | inl a=>exact hl
   | inr q=>exact Z6C T hl
 have h2:∀r,(T p).den (Lh (Ad T))=some r->Ad T p=some r:=by
  intro r h
  obtain⟨l,hl,hr⟩:=Z5Y h
  have key:∃n,(T p).den (Lh (PV T n))=some r:=by
   have hn:∃n,Lh (PV T n) l=some r:=by
    cases l with
    | inl a=>exact⟨0,hr⟩
    | inr q=>obtain⟨n,hn⟩:=qY hr;exact⟨n,hn⟩
   obtain⟨n,hn⟩:=hn
   refine⟨n,?_⟩
   have:∀(X:Tr U (R⊕P)),X.AZ l->X.den (Lh (PV T n))=some r:=by
    intro X
    induction X with
    | leaf x=>intro hx;simp only [Tr.AZ] at hx;subst hx;exact hn
    | br c a b iha ihb=>
     rintro (⟨rfl,hx⟩|⟨rfl,hx⟩)
     ·exact iha hx
     ·exact ihb hx
    | bind t o k ih=>rintro ⟨a,rfl,hx⟩;exact ih a hx
    | chk c a ih=>rintro ⟨rfl,hx⟩;exact ih hx
    | fail=>intro hx;exact hx.elim
   exact this _ hl
  obtain⟨n,hn⟩:=key
  exact Z6C T (n:=n+1) hn
 cases ha:Ad T p with
 | some r=>exact(h1 r ha).symm
 | none=>
  cases hb:(T p).den (Lh (Ad T)) with
  | none=>rfl
  | some r=>simp_all
structure BQ (U:Cm) where
 c:Code
 K:List Fr
 st:D9 U
 sk:Bool
def OG {R:Type} (out:R->SV U.Ty×BF U) (sp:P->BQ U):R⊕P->TT U
 | .inl r=>.done (out r)
 | .inr q=>.jump (sp q).c (sp q).K (sp q).st
end
def wR {U:Cm} (rt:Nat) (r:U.Ty rt):SV U.Ty×BF U:=(U.encS rt r,[])
structure Lay where
 keep:List Nat
 fa:List (List Fk)
 fb:List Bf
 sh:Shape
section
variable {U:Cm}
def dJ {L:Type} (bs:List Bool) (t:Tr U L):Tr U L:=match bs with
 | []=>t
 | c::cs=>.chk (TB (c::cs)) t
theorem lL {L:Type} {bs:List Bool} {t:Tr U L} {l:L} (h:(dJ bs t).AZ l):(∀b∈bs,b=true)/\t.AZ l:=by
 cases bs with
 | nil=>exact⟨by intro b hb;simp at hb,h⟩
 | cons c cs=>exact⟨Z3z h.1,h.2⟩
def wK (kk:Nat) (l:Lay) (st:D9 U):Tr U (D9 U):=
 (TJ l.fa l.fb kk (l.keep.map fun i=>st.s.getD i .und) st.H).andThen fun r=>
  .when (r.1.take kk=List.range kk) (match l.sh.dec (L8 (r.1.idxOf ·) r.2.1) (TK r.2.2 r.1) with
   | some x=>dJ x.2 (.leaf ⟨spread .und st.s.length l.keep (l.sh.enc x.1).1,(l.sh.enc x.1).2⟩)
   | none=>.fail)
theorem ZjR (s:List (SV U.Ty)) (keep:List Nat):Aw U (keep.map fun i=>s.getD i .und)=keep.map fun i=>(Aw U s).getD i .und:=by
 induction keep with
 | nil=>rfl
 | cons i keep ih=>simp only [List.map_cons,Aw,ih,<- Rw]
theorem ZmN {E:Env} (hU:D5 U E) {kk:Nat} {l:Lay} {st st' : D9 U} (h:(wK kk l st).AZ st'):∃ids as H2,pack l.fa l.fb kk (l.keep.map fun i=>(C9 U st).s.getD i .und) (C9 U st).H=some (ids,as,H2)/\ids.take kk=List.range kk /\
  C9 U st' = ⟨spread .und (C9 U st).s.length l.keep (Fg (ids.idxOf ·) as),G8 H2 ids⟩:=by
 simp only [wK,Dy,EM] at h
 obtain⟨p,hp,hk,h⟩:=h
 have hp' :=aS hp
 rw [ZjR] at hp'
 split at h
 ·rename_i x hx
  obtain⟨hb,h⟩:=lL h
  simp only [Tr.AZ] at h
  subst h
  obtain⟨e1,e2⟩:=Shape.dI hU hx hb
  refine⟨_,_,_,hp',hk,?_⟩
  rw [Nk] at e1
  rw [aB] at e2
  simp only [C9]
  rw [e1,e2,Ik]
  congr 1
  rw [E5,Zig,<- E5]
  rfl
 ·simp [Tr.AZ] at h
def Qo (E:Env) (fn:Func) (fa:List (List Fk)) (fb:List Bf) (k:Nat) (sh:Shape) (one:Bool) (st:D9 U):Tr U (SV U.Ty×BF U):=
 (vI E fn fa fb k st).andThen fun r=>match one,r.1 with
  | true,.BG _=>.fail
  | true,v=>(match sh.dec [v] r.2 with
   | some x=>dJ x.2 (.leaf ((sh.enc x.1).1.headD .und,(sh.enc x.1).2))
   | none=>.fail)
  | false,.BG vs=>(match sh.dec vs r.2 with
   | some x=>dJ x.2 (.leaf (.BG (sh.enc x.1).1,(sh.enc x.1).2))
   | none=>.fail)
  | false,_=>.fail
theorem Z6f {E:Env} (hU:D5 U E) {fn:Func} {fa:List (List Fk)} {fb:List Bf} {k:Nat} {sh:Shape} {one:Bool} {st:D9 U} {r:SV U.Ty×BF U} (h:(Qo E fn fa fb k sh one st).AZ r):Zh E fn fa fb k (C9 U st) (AY U r.1,BI U r.2):=by
 simp only [Qo,Dy] at h
 obtain⟨q,hq,h⟩:=h
 have hz:=Zla hU hq
 have key:AY U q.1=AY U r.1/\BI U q.2=BI U r.2:=by
  split at h
  ·simp [Tr.AZ] at h
  ·split at h
   ·rename_i x hx
    obtain⟨hb,h⟩:=lL h
    simp only [Tr.AZ] at h
    subst h
    obtain⟨e1,e2⟩:=Shape.dI hU hx hb
    refine⟨?_,e2⟩
    cases he:(sh.enc x.1).1 with
    | nil=>rw [he] at e1;cases e1
    | cons y ys=>
     rw [he] at e1
     simp only [Aw,List.cons.injEq] at e1
     exact e1.1
   ·simp [Tr.AZ] at h
  ·rename_i vs hvs
   split at h
   ·rename_i x hx
    obtain⟨hb,h⟩:=lL h
    simp only [Tr.AZ] at h
    subst h
    obtain⟨e1,e2⟩:=Shape.dI hU hx hb
    refine⟨?_,e2⟩
    rw [hvs]
    simp only [AY,e1]
   ·simp [Tr.AZ] at h
  ·simp [Tr.AZ] at h
 simp_all
def ED (E:Env) (M:IA U) (A:Nat->Option Lay) (f:FuncId) (fn:Func) (kk:Nat) (D:D9 U->Tr U (SV U.Ty×BF U)):Nat->Ti->List Fr->D9 U->Bool->Tr U (TT U)
 | 0,_,_,_,_=>.fail
 | n+1,.run c,K,st,sk=>
  match c with
  | .skip=>ED E M A f fn kk D n .nxt K st sk
  | .region id ops draw=>
   let go:Tr U (TT U):=if draw then (if E.calm f id then (dV E M ops st).andThen fun st' =>ED E M A f fn kk D n .nxt K st' false else .fail)
    else (opsT E M ops (List.range ops.size) st).andThen fun st' =>ED E M A f fn kk D n .nxt K st' false
   match sk with
   | true=>go
   | false=>match A id with
    | none=>go
    | some l=>(wK kk l st).andThen fun st' =>.leaf (.jump (.region id ops draw) K st')
  | .seq a b=>ED E M A f fn kk D n (.run a) (.seq b::K) st sk
  | .cond c a b=>match DK E st.s c with
   | .lit (.bool true)=>ED E M A f fn kk D n (.run a) K st sk
   | .lit (.bool false)=>ED E M A f fn kk D n (.run b) K st sk
   | .sb t=>.br t (ED E M A f fn kk D n (.run a) K st sk) (ED E M A f fn kk D n (.run b) K st sk)
   | _=>.fail
  | .block id b=>ED E M A f fn kk D n (.run b) (.blk id::K) st sk
  | .loop b=>ED E M A f fn kk D n (.run b) (.loop b::K) st sk
  | .scope b=>ED E M A f fn kk D n (.run b) K st sk
  | .label _=>ED E M A f fn kk D n .nxt K st sk
  | .exit id=>ED E M A f fn kk D n (.exit id) K st sk
  | .ret=>ED E M A f fn kk D n .ret K st sk
  | _=>.fail
 | n+1,.nxt,[],st,_=>(D st).andThen fun v=>.leaf (.done v)
 | n+1,.nxt,.seq c::K,st,sk=>ED E M A f fn kk D n (.run c) K st sk
 | n+1,.nxt,.blk _::K,st,sk=>ED E M A f fn kk D n .nxt K st sk
 | n+1,.nxt,.loop b::K,st,sk=>ED E M A f fn kk D n (.run b) (.loop b::K) st sk
 | n+1,.exit id,.blk i::K,st,sk=>if id=i then ED E M A f fn kk D n .nxt K st sk else ED E M A f fn kk D n (.exit id) K st sk
 | n+1,.exit id,_::K,st,sk=>ED E M A f fn kk D n (.exit id) K st sk
 | n+1,.exit _,[],_,_=>.fail
 | n+1,.ret,[],st,_=>(D st).andThen fun v=>.leaf (.done v)
 | n+1,.ret,_::K,st,sk=>ED E M A f fn kk D n .ret K st sk
theorem Znn {E:Env} {M:IA U} {A:Nat->Option Lay} {call:Df} (hU:D5 U E) (hM:Lc U M call) {f:FuncId} {fn:Func} {kk:Nat} {D:D9 U->Tr U (SV U.Ty×BF U)} {Z:St->V×Heap->Prop} (hD:∀st s,(D st).AZ s->Z (C9 U st) (AY U s.1,BI U s.2)) {r:V×Heap}:∀(n:Nat) (ctl:Ti) (K:List Fr) (st:D9 U) (sk:Bool) (l:TT U),
  (ED E M A f fn kk D n ctl K st sk).AZ l->ZlD call E f fn kk Z l r->DW call E f fn kk Z ctl K (C9 U st) r:=by
 intro n
 induction n with
 | zero=>intro ctl K st sk l h;simp [ED,Tr.AZ] at h
 | succ n ih=>
  intro ctl K st sk l h hl
  cases ctl with
  | run c=>
   cases c with
   | skip=>exact .skip (ih _ _ _ _ _ h hl)
   | region id ops draw=>
    simp only [ED] at h
    have go:(if draw=true then (if E.calm f id=true then (dV E M ops st).andThen fun st' =>ED E M A f fn kk D n .nxt K st' false else .fail)
      else (opsT E M ops (List.range ops.size) st).andThen fun st' =>ED E M A f fn kk D n .nxt K st' false:Tr U (TT U)).AZ l->DW call E f fn kk Z (.run (.region id ops draw)) K (C9 U st) r:=by
     intro hg
     cases draw with
     | true=>
      simp only [if_true] at hg
      by_cases hc:E.calm f id=true
      ·rw [if_pos hc,Dy] at hg
       obtain⟨st1,h1,h2⟩:=hg
       exact .draw hc (Zl1 hU hM h1) (ih _ _ _ _ _ h2 hl)
      ·rw [if_neg hc] at hg
       simp [Tr.AZ] at hg
     | false=>
      simp only [Bool.false_eq_true,if_false] at hg
      rw [Dy] at hg
      obtain⟨st1,h1,h2⟩:=hg
      exact .region (Zm9 hU hM h1) (ih _ _ _ _ _ h2 hl)
    cases sk with
    | true=>exact go h
    | false=>
     simp only at h
     split at h
     ·exact go h
     ·rename_i l' hA
      simp only [Dy,Tr.AZ] at h
      obtain⟨st1,ht,rfl⟩:=h
      obtain⟨ids,as,H2,h1,h2,h3⟩:=ZmN hU ht
      have hl' : DW call E f fn kk Z (.run (.region id ops draw)) K (C9 U st1) r:=hl
      rw [h3] at hl'
      exact .Z7o h1 h2 hl'
   | seq a b=>exact .seq (ih _ _ _ _ _ h hl)
   | cond c a b=>
    simp only [ED] at h
    have hev:ev E (C9 U st).s c=AY U (DK E st.s c):=FU E st.s c
    split at h
    ·rename_i hc
     rw [hc] at hev
     exact .cond (t:=true) hev (ih _ _ _ _ _ h hl)
    ·rename_i hc
     rw [hc] at hev
     exact .cond (t:=false) hev (ih _ _ _ _ _ h hl)
    ·rename_i t hc
     rw [hc] at hev
     simp only [Tr.AZ] at h
     rcases h with ⟨rfl,h⟩|⟨rfl,h⟩
     ·exact .cond (t:=true) hev (ih _ _ _ _ _ h hl)
     ·exact .cond (t:=false) hev (ih _ _ _ _ _ h hl)
    ·simp [Tr.AZ] at h
   | block id b=>exact .block (ih _ _ _ _ _ h hl)
   | loop b=>exact .loop (ih _ _ _ _ _ h hl)
   | scope b=>exact .scope (ih _ _ _ _ _ h hl)
   | label l=>exact .label (ih _ _ _ _ _ h hl)
   | exit id=>exact .exit (ih _ _ _ _ _ h hl)
   | ret=>exact .ret (ih _ _ _ _ _ h hl)
   | _=>simp [ED,Tr.AZ] at h
  | nxt=>
   cases K with
   | nil=>
    simp only [ED,Dy,Tr.AZ] at h
    obtain⟨v,h1,rfl⟩:=h
    have:r=(AY U v.1,BI U v.2):=hl
    rw [this]
    exact .finN (hD _ _ h1)
   | cons x K=>
    cases x with
    | seq c=>exact .nseq (ih _ _ _ _ _ h hl)
    | blk i=>exact .nblk (ih _ _ _ _ _ h hl)
    | loop b=>exact .Z7v (ih _ _ _ _ _ h hl)
  | exit id=>
   cases K with
   | nil=>simp [ED,Tr.AZ] at h
   | cons x K=>
    cases x with
    | seq c=>exact .eseq (ih _ _ _ _ _ h hl)
    | blk i=>
     simp only [ED] at h
     split at h
     ·rename_i hi
      subst hi
      exact .eblk (ih _ _ _ _ _ h hl)
     ·rename_i hi
      exact .Z7s hi (ih _ _ _ _ _ h hl)
    | loop b=>exact .Z7w (ih _ _ _ _ _ h hl)
  | ret=>
   cases K with
   | nil=>
    simp only [ED,Dy,Tr.AZ] at h
    obtain⟨v,h1,rfl⟩:=h
    have:r=(AY U v.1,BI U v.2):=hl
    rw [this]
    exact .finR (hD _ _ h1)
   | cons x K=>exact .rany (ih _ _ _ _ _ h hl)
theorem nZ {R P:Type} {E:Env} {M:IA U} {A:Nat->Option Lay} {call:Df} (hU:D5 U E) (hM:Lc U M call) {f:FuncId} {fn:Func} {kk:Nat} {D:D9 U->Tr U (SV U.Ty×BF U)} {Z:St->V×Heap->Prop} (hD:∀st s,(D st).AZ s->Z (C9 U st) (AY U s.1,BI U s.2))
  {out:R->SV U.Ty×BF U} {N:Nat} (T:P->Tr U (R⊕P)) (sp:P->BQ U)
  (h:∀p,ED E M A f fn kk D N (.run (sp p).c) (sp p).K (sp p).st (sp p).sk=(T p).map (OG out sp)) {p:P} {r:R} (hr:Ad T p=some r) :
  DW call E f fn kk Z (.run (sp p).c) (sp p).K (C9 U (sp p).st) (AY U (out r).1,BI U (out r).2):=by
 obtain⟨n,hn⟩:=qY hr
 clear hr
 induction n generalizing p r with
 | zero=>cases hn
 | succ n ih=>
  obtain⟨l,h1,h2⟩:=Z5Y hn
  have h3:=ZkF (g:=OG out sp) h1
  rw [<- h p] at h3
  refine Znn hU hM hD N _ _ _ _ _ h3 ?_
  cases l with
  | inl a=>
   simp only [Lh,Option.some.injEq] at h2
   subst h2
   rfl
  | inr q=>exact ih h2
end
def spot {U:Cm} (c:Code) (p:List Nat) (n:Nat) (keep:List Nat) (e:List (SV U.Ty)×BF U):BQ U:=⟨(O9 c p []).1,(O9 c p []).2,⟨spread .und n keep e.1,e.2⟩,true⟩
theorem Zl6 {U:Cm} {P:Program} {gl:Nat->Option (List V)} {f:FuncId} {mods:FuncId->Option (Az U)} {hmods:FuncId->List FuncId->Option (HMod U)} {mk:Me P} {E0:Env} (hE0:E0.EP=gl) (hU:D5 U (EV P gl f mods hmods mk)) (hmix:P.follows .mixedOrders=true) {fn:Func} {c:Code}
  (hok:∀g m,mods g=some m->BA P E0 g m) (hhok:∀g k m,hmods g k=some m->E8 P E0 g m) (hfn:P.funcs[f]? = some fn) (hname:(fn.name == "runtime.NumGoroutine")=false) (hb:fn.body=some c) (hcalm:EO (EV P gl f mods hmods mk) f c=true) (m:Az U)
  {Pt:Type} {A:Nat->Option Lay} {N:Nat} (T:Pt->Tr U (U.Ty m.rt⊕Pt)) (sp:Pt->BQ U)
  (h:∀p,ED (EV P gl f mods hmods mk) (NI mods hmods mk.tab) A f fn 0 (dU (EV P gl f mods hmods mk) fn) N (.run (sp p).c) (sp p).K (sp p).st (sp p).sk=(T p).map (OG (wR m.rt) sp))
  (b0:FZ U m.ts->Pt) (hm:∀x,m.fn x=Ad T (b0 x)) (hsp:∀x,sp (b0 x)=⟨c,[],Wl m.ts x fn.ntmps,false⟩):BA P E0 f m:=by
 refine fn_ok hE0 hU hmix hok hhok hfn hname hb hcalm m fun x a hx=>?_
 rw [hm] at hx
 have:=nZ hU (uD hU) (fun st s hs=>ZkN hU hs) T sp h hx
 rw [hsp] at this
 simp only [wR,hU.encS] at this
 exact this
theorem Zj7 {U:Cm} {P:Program} {gl:Nat->Option (List V)} {f:FuncId} {mods:FuncId->Option (Az U)} {hmods:FuncId->List FuncId->Option (HMod U)} {mk:Me P} {E0:Env} (hE0:E0.EP=gl) (hU:D5 U (EV P gl f mods hmods mk)) (hmix:P.follows .mixedOrders=true) {fn:Func} {c:Code}
  (hok:∀g m,mods g=some m->BA P E0 g m) (hhok:∀g k m,hmods g k=some m->E8 P E0 g m) (hfn:P.funcs[f]? = some fn) (hname:(fn.name == "runtime.NumGoroutine")=false) (hb:fn.body=some c) (hcalm:EO (EV P gl f mods hmods mk) f c=true) (m:HMod U)
  {fa:List (List Fk)} {fb:List Bf} {k:Nat} (hk:∀x:m.DR.X U,(m.DR.enc x).2.length=k) {Pt:Type} {A:Nat->Option Lay} {N:Nat} (T:Pt->Tr U (U.Ty m.ky⊕Pt)) (sp:Pt->BQ U)
  (h:∀p,ED (EV P gl f mods hmods mk) (NI mods hmods mk.tab) A f fn k (Qo (EV P gl f mods hmods mk) fn fa fb k m.Ir m.one) N (.run (sp p).c) (sp p).K (sp p).st (sp p).sk=(T p).map (OG m.out sp))
  (b0:m.DR.X U->Pt) (hm:∀x:m.DR.X U,m.fn x=Ad T (b0 x)) (hsp:∀x:m.DR.X U,sp (b0 x)=⟨c,[],TA (m.DR.enc x) fn.ntmps,false⟩):E8 P E0 f m:=by
 refine ZnU hE0 hU hmix hok hhok hfn hname hb hcalm m hk (fa:=fa) (fb:=fb) fun x y hx=>?_
 rw [hm] at hx
 have:=nZ hU (uD hU) (fun st s hs=>Z6f hU hs) T sp h hx
 rw [hsp] at this
 exact this
end Go.Proofs.YtddbklgndkpipaaGreatDoor.Le
namespace Go.Proofs.YtddbklgndkpipaaGreatDoor.Le
open Go.RowKit (Below)
def Hg (P:Program):TypeDesc->Option (List (Nat×TypeId))
 | .struct fs=>some (fs.toList.map fun f=>(f.offset,f.type))
 | .array n e=>some ((List.range n).map fun i=>(i*P.cellsOf e,e))
 | _=>none
def Ip (P:Program) (t:TypeId):Bool:=match P.underlying t with|some d=>d.isRow|none=>false
def Ff (P:Program):Nat->TypeId->List V->Prop
 | 0,_,_=>False
 | d+1,t,cs=>match P.underlying t with
  | some .bool=>∃b,cs=[.lit (.bool b)]
  | some (.int k)=>∃n,cs=[.lit (.int k n)]/\(Lit.int k n).wf=true
  | some .string=>∃s,cs=[.lit (.string s)]/\s.size<=maxLen
  | some (.slice e)=>∃xs,cs=[.sl false (P.cellsOf e) xs]/\xs.length<=maxLen/\∀x∈xs,(if Ip P e then ∃ds,x = .agg ds else x.cells=[x])/\Ff P d e x.cells
  | some dd=>match Hg P dd with
   | some ss=>cs.length=P.cellsOf t/\∀s∈ss,Ff P d s.2 ((cs.drop s.1).take (P.cellsOf s.2))
   | none=>False
  | none=>False
def covers (P:Program):Nat->List (Nat×TypeId)->Nat->Bool
 | off,[],n=>off==n
 | off,s::ss,n=>s.1==off&&covers P (off+P.cellsOf s.2) ss n
def QU (P:Program):Nat->TypeId->Bool
 | 0,_=>false
 | d+1,t=>match P.underlying t with
  | some .bool=>true
  | some (.int _)=>true
  | some .string=>true
  | some (.slice e)=>QU P d e&&decide (0<P.cellsOf e)
  | some dd=>match Hg P dd with
   | some ss=>ss.all (fun s=>QU P d s.2)&&covers P 0 ss (P.cellsOf t)
   | none=>false
  | none=>false
def OW (w:World):Nat->Nat->Prop:=fun b c=>∃u,w.cell? ⟨b,c,none⟩=some u
structure Read (P:Program) (w:World) (d:Nat) (t:TypeId) (cs:List Value) (xs:List V):Prop where
 Dj:AU (bare (OW w)) w xs cs
 ty:Ff P d t xs
 ok:∀x∈xs,Em x=true
 one:∀u∈cs,u.oneCell' = true
theorem Z4J {P:Program}:∀{ss:List (Nat×TypeId)} {off n:Nat},covers P off ss n=true->off<=n/\∀s∈ss,off<=s.1/\s.1+P.cellsOf s.2<=n:=by
 intro ss
 induction ss with
 | nil=>intro off n h;simp only [covers,beq_iff_eq] at h;exact⟨by omega,by simp⟩
 | cons s ss ih=>
  intro off n h
  simp only [covers,Bool.and_eq_true,beq_iff_eq] at h
  grind
theorem Zk1 {P:Program} {w:World} {d:Nat} {cs:List Value}:∀{ss:List (Nat×TypeId)} {off:Nat},covers P off ss cs.length=true->(∀s∈ss,∃xs,Read P w d s.2 ((cs.drop s.1).take (P.cellsOf s.2)) xs) ->
  ∃xs,AU (bare (OW w)) w xs (cs.drop off)/\(∀x∈xs,Em x=true)/\(∀u∈cs.drop off,u.oneCell' = true)/\∀s∈ss,Ff P d s.2 ((xs.drop (s.1 - off)).take (P.cellsOf s.2)):=by
 intro ss
 induction ss with
 | nil=>
  intro off hc _
  simp only [covers,beq_iff_eq] at hc
  refine⟨[],?_,by simp,?_,by simp⟩
  ·rw [hc,List.drop_length];exact .nil
  ·rw [hc,List.drop_length];simp
 | cons s ss ih=>
  intro off hc h
  simp only [covers,Bool.and_eq_true,beq_iff_eq] at hc
  obtain⟨h1,h2⟩:=hc
  obtain⟨x1,r1⟩:=h s (by simp)
  obtain⟨x2,q1,q2,q3,q4⟩:=ih h2 (fun s' hs' =>h s' (by simp [hs']))
  have hle:=(Z4J h2).1
  rw [h1] at r1
  have hlen:x1.length=P.cellsOf s.2:=by
   have:=r1.Dj.length
   rw [List.length_take,List.length_drop] at this
   omega
  have hcut:cs.drop off=(cs.drop off).take (P.cellsOf s.2)++cs.drop (off+P.cellsOf s.2):=by
   rw [<- List.drop_drop,List.take_append_drop]
  refine⟨x1++x2,?_,?_,?_,?_⟩
  ·rw [hcut];exact r1.Dj.append q1
  ·intro x hx
   rcases List.mem_append.1 hx with hx|hx
   ·exact r1.ok x hx
   ·exact q2 x hx
  ·intro u hu
   rw [hcut] at hu
   rcases List.mem_append.1 hu with hu|hu
   ·exact r1.one u hu
   ·exact q3 u hu
  ·intro s' hs'
   rcases List.mem_cons.1 hs' with rfl|hs'
   ·rw [h1,Nat.sub_self,List.drop_zero,List.take_append_of_le_length (by omega),List.take_of_length_le (by omega)]
    exact r1.ty
   ·have hge:=((Z4J h2).2 s' hs').1
    have:s'.1 - off=x1.length+(s'.1 - (off+P.cellsOf s.2)):=by omega
    rw [this,List.drop_append]
    have e1:x1.drop (x1.length+(s'.1 - (off+P.cellsOf s.2)))=[]:=List.drop_eq_nil_of_le (by omega)
    rw [e1,List.nil_append]
    have e2:x1.length+(s'.1 - (off+P.cellsOf s.2)) - x1.length=s'.1 - (off+P.cellsOf s.2):=by omega
    grind
def Kz (P:Program) (t:TypeId) (xs:List V):V:=if Ip P t then .agg xs else xs.headD .no
def Qq (P:Program) (t:TypeId) (cs:List Value):Value:=if Ip P t then .agg cs.toArray else cs.headD undef
theorem Ff.single {P:Program} {d:Nat} {t:TypeId} {xs:List V} (h:Ff P d t xs) (hr:Ip P t=false):∃x,xs=[x]/\x.cells=[x]:=by
 cases d with
 | zero=>exact h.elim
 | succ d=>
  unfold Ff at h
  unfold Ip at hr
  split at h
  ·obtain⟨b,rfl⟩:=h;exact⟨_,rfl,rfl⟩
  ·obtain⟨n,rfl,_⟩:=h;exact⟨_,rfl,rfl⟩
  ·obtain⟨s,rfl,_⟩:=h;exact⟨_,rfl,rfl⟩
  ·obtain⟨ys,rfl,_⟩:=h;exact⟨_,rfl,rfl⟩
  ·rename_i dd _ _ _ _ hd
   rw [hd] at hr
   split at h
   ·rename_i ss hss
    unfold Hg at hss
    grind
   ·exact h.elim
  ·exact h.elim
theorem Read.arg {P:Program} {w:World} {d:Nat} {t:TypeId} {cs:List Value} {xs:List V} (h:Read P w d t cs xs) :
  AU (bare (OW w)) w [Kz P t xs] [Qq P t cs]/\Em (Kz P t xs)=true/\(Qq P t cs).cells.toList=cs/\(Kz P t xs).cells=xs/\(if Ip P t then ∃ds,Kz P t xs = .agg ds else (Kz P t xs).cells=[Kz P t xs]):=by
 unfold Kz Qq
 cases hr:Ip P t with
 | true=>
  simp only [if_true]
  refine⟨?_,?_,by simp [Value.cells],rfl,⟨xs,rfl⟩⟩
  ·have:=AU.agg h.Dj h.one (xs:=[]) (vs:=[]) .nil
   exact this
  ·simp only [Em,okV,Cf,Bool.true_and]
   rw [KC]
   exact fun x hx=>Oz (h.ok x hx)
 | false=>
  simp only [Bool.false_eq_true,if_false]
  obtain⟨x,rfl,hx⟩:=h.ty.single hr
  obtain⟨u,us,rfl,h1,h2⟩:=h.Dj.Dt
  have:us=[]:=h2.FT
  subst this
  refine⟨h1,h.ok x (by simp),?_,hx,hx⟩
  have hone:=h.one u (by simp)
  simp only [List.headD_cons]
  cases u<;>simp_all [Value.cells,Value.oneCell']
section
variable {H:Type} {enc:TypeId×Value->H} {P:Program} {w:World} {base:Nat} {held:Bool}
theorem Zm7:∀(d:Nat) (t:TypeId) (n:Nat) (cs:List Value) (x:DataW H×List MemPlace),QU P d t=true->DataW.trod enc P w base (fun _=>true) held n t cs=some x->∃xs,Read P w d t cs xs:=by
 intro d
 induction d with
 | zero=>intro t n cs x h;simp [QU] at h
 | succ d ih=>
  intro t n cs x hp h
  unfold QU at hp
  split at hp
  ·rename_i ht
   obtain⟨b,rfl,_⟩:=DataW.trod_bool ht h
   exact⟨[.lit (.bool b)],.lit rfl .nil,by unfold Ff;rw [ht];exact⟨b,rfl⟩,by simp [Em,okV,Cf],by simp [Value.oneCell']⟩
  ·rename_i k ht
   obtain⟨m,rfl,_,hw⟩:=DataW.trod_int ht h
   exact⟨[.lit (.int k m)],.lit (by simp [leaf,hw]) .nil,by unfold Ff;rw [ht];exact⟨m,rfl,hw⟩,by simp [Em,okV,Cf],by simp [Value.oneCell']⟩
  ·rename_i ht
   obtain⟨s,rfl,_,hs⟩:=DataW.trod_string ht h
   exact⟨[.lit (.string s)],.lit (by simp [leaf,hs]) .nil,by unfold Ff;rw [ht];exact⟨s,rfl,hs⟩,by simp [Em,okV,Cf],by simp [Value.oneCell']⟩
  ·rename_i e ht
   simp only [Bool.and_eq_true,decide_eq_true_eq] at hp
   obtain⟨hpe,hpos⟩:=hp
   have mk:∀(v:Value) (es:List V),AU (bare (OW w)) w [.sl false (P.cellsOf e) es] [v]->v.oneCell' = true->es.length<=maxLen->(∀y∈es,Em y=true) ->
     (∀y∈es,(if Ip P e then ∃ds,y = .agg ds else y.cells=[y])/\Ff P d e y.cells)->∃xs,Read P w (d+1) t [v] xs:=by
    intro v es h1 h2 h3 h4 h5
    refine⟨_,h1,?_,?_,by simpa using h2⟩
    ·unfold Ff;rw [ht];exact⟨es,rfl,h3,h5⟩
    ·intro y hy
     simp only [List.mem_singleton] at hy
     subst hy
     simp only [Em,okV,Cf,Bool.true_and]
     rw [KC]
     exact fun z hz=>Oz (h4 z hz)
   rcases DataW.trod_slice ht h with ⟨rfl,_⟩|⟨a,len,cap,elems,rest,m,rfl,rfl,_,hb,hlc,hcm,hel,helem,hrest,_⟩
   ·exact mk _ [] (.Es .nil) rfl (by simp) (by simp) (by simp)
   ·obtain⟨hrl,hrest⟩:=hrest rfl
    by_cases hc0:cap=0
    ·subst hc0
     have:len=0:=by omega
     subst this
     exact mk _ [] (.F7 a .nil) rfl (by simp) (by simp) (by simp)
    ·
     have hspot:a.spot=none:=by
      have hfirst:∃c0,w.cells? base (a.add 0) (P.cellsOf e)=some c0:=by
       by_cases hl0:0<len
       ·have:=helem 0 hl0
        rw [Nat.zero_mul] at this
        have hlt:0<elems.length:=by omega
        rw [List.getElem?_eq_getElem hlt] at this
        cases hq:w.cells? base (a.add 0) (P.cellsOf e) with
        | none=>simp [hq] at this
        | some c0=>exact⟨c0,rfl⟩
       ·have hl0:len=0:=by omega
        subst hl0
        have:=hrest 0 (by omega)
        simp only [Nat.zero_add,Nat.zero_mul] at this
        have hlt:0<rest.length:=by omega
        rw [List.getElem?_eq_getElem hlt] at this
        cases hq:w.cells? base (a.add 0) (P.cellsOf e) with
        | none=>simp [hq] at this
        | some c0=>exact⟨c0,rfl⟩
      obtain⟨c0,hc0'⟩:=hfirst
      obtain⟨_,e2,e3⟩:=World.cells?_some hc0'
      have:=e3 0 hpos
      have hlt:0<c0.length:=by omega
      rw [List.getElem?_eq_getElem hlt] at this
      simp only [Addr.add,if_true] at this
      unfold World.cell? at this
      split at this
      ·simp_all
      ·cases this
     obtain⟨ab,ao,as⟩:=a
     simp only at hspot
     subst hspot
     have each:∀i,i<len->∃ci xi,w.cells? base (Addr.add ⟨ab,ao,none⟩ (i*P.cellsOf e)) (P.cellsOf e)=some ci/\Read P w d e ci xi:=by
      intro i hi
      have:=helem i hi
      have hlt:i<elems.length:=by omega
      rw [List.getElem?_eq_getElem hlt] at this
      cases hq:w.cells? base (Addr.add ⟨ab,ao,none⟩ (i*P.cellsOf e)) (P.cellsOf e) with
      | none=>simp [hq] at this
      | some ci=>
       grind
     have list:∀k,k<=len->∃(es:List V) (us:List Value),es.length=k/\AU (bare (OW w)) w es us/\(∀y∈es,Em y=true)/\(∀u∈us,u.cells.size=P.cellsOf e)/\(∀u∈flat us,u.oneCell' = true) /\
       (∀y∈es,(if Ip P e then ∃ds,y = .agg ds else y.cells=[y])/\Ff P d e y.cells)/\(∀j u,(flat us)[j]? = some u->w.cell? ⟨ab,ao+j,none⟩=some u):=by
      intro k
      induction k with
      | zero=>intro _;exact⟨[],[],rfl,.nil,by simp,by simp,by simp [flat],by simp,by simp [flat]⟩
      | succ k ihk=>
       intro hk
       obtain⟨es,us,l1,l2,l3,l4,l5,l6,l7⟩:=ihk (by omega)
       obtain⟨ci,xi,hci,hr⟩:=each k (by omega)
       obtain⟨a1,a2,a3,a4,a5⟩:=hr.arg
       obtain⟨_,c2,c3⟩:=World.cells?_some hci
       have hsz:(Qq P e ci).cells.size=P.cellsOf e:=by
        have:=congrArg List.length a3
        simpa [c2] using this
       refine⟨es++[Kz P e xi],us++[Qq P e ci],by simp [l1],l2.append a1,?_,?_,?_,?_,?_⟩
       ·grind
       ·grind
       ·intro u hu
        rw [Lt] at hu
        rcases List.mem_append.1 hu with hu|hu
        ·exact l5 u hu
        ·rw [LQ,a3] at hu
         exact hr.one u hu
       ·intro y hy
        rcases List.mem_append.1 hy with hy|hy
        ·exact l6 y hy
        ·rw [List.mem_singleton.1 hy];exact⟨a5,by rw [a4];exact hr.ty⟩
       ·intro j u hj
        rw [Lt,LQ,a3] at hj
        have hfl:(flat us).length=k*P.cellsOf e:=by rw [flat_length l4,<- l2.length,l1]
        by_cases hlt:j<(flat us).length
        ·grind
        ·rw [List.getElem?_append_right (by omega)] at hj
         have hjl:j - (flat us).length<P.cellsOf e:=by
          have:=(List.getElem?_eq_some_iff.1 hj).1
          omega
         have:=c3 _ hjl
         rw [hj] at this
         rw [<- this]
         congr 1
         have hadd:Addr.add (Addr.add ⟨ab,ao,none⟩ (k*P.cellsOf e)) (j - (flat us).length)=⟨ab,ao+j,none⟩:=by
          simp only [Addr.add]
          split<;>split<;>simp<;>omega
         rw [hadd]
     obtain⟨es,us,l1,l2,l3,l4,l5,l6,l7⟩:=list len (Nat.le_refl _)
     subst l1
     refine mk _ es ?_ rfl (by omega) l3 l6
     exact .sl ab ao cap (P.cellsOf e) l2 l3 l4 l5 hlc hcm (fun j u hj=>⟨⟨u,l7 j u hj⟩,l7 j u hj⟩) .nil
  ·rename_i dd _ _ _ _ ht
   split at hp
   ·rename_i ss hss
    simp only [Bool.and_eq_true,List.all_eq_true] at hp
    obtain⟨hall,hcov⟩:=hp
    have parts:cs.length=P.cellsOf t/\∀s∈ss,∃xs,Read P w d s.2 ((cs.drop s.1).take (P.cellsOf s.2)) xs:=by
     cases dd with
     | struct fs=>
      simp only [Hg,Option.some.injEq] at hss
      obtain⟨xs,m,_,_,hlen,hxl,hf⟩:=DataW.trod_struct ht h
      refine⟨hlen,fun s hs=>?_⟩
      have hs' :=hs
      rw [<- hss] at hs
      obtain⟨f,hfm,rfl⟩:=List.mem_map.1 hs
      obtain⟨i,hi,hfi⟩:=List.getElem_of_mem hfm
      have hfi' : fs[i]? = some f:=by simp at hi;rw [Array.getElem?_eq_getElem hi];simp at hfi;rw [hfi]
      grind
     | array n' e=>
      simp only [Hg,Option.some.injEq] at hss
      obtain⟨xs,m,_,_,hlen,hxl,hf⟩:=DataW.trod_array ht h
      grind
     | _=>simp [Hg] at hss
    obtain⟨hlen,hparts⟩:=parts
    obtain⟨xs,h1,h2,h3,h4⟩:=Zk1 (by rw [hlen];exact hcov) hparts
    rw [List.drop_zero] at h1 h3
    refine⟨xs,h1,?_,h2,h3⟩
    unfold Ff
    rw [ht]
    simp only [Nat.sub_zero] at h4
    split<;>first|(rename_i hq;simp only [Option.some.injEq] at hq;subst hq;simp [Hg] at hss;done)|skip
    ·rename_i hq
     simp only [Option.some.injEq] at hq
     subst hq
     rw [hss]
     exact⟨by rw [h1.length];exact hlen,h4⟩
    ·rename_i hq;cases hq
   ·cases hp
  ·cases hp
inductive Vt (P:Program) (d:Nat):List TypeId->List V->Prop where
 | nil:Vt P d [] []
 | cons {t ts xs as}:Ff P d t xs->Vt P d ts as->Vt P d (t::ts) (Kz P t xs::as)
theorem Zgp {r:Reach} {b0:Nat} {d:Nat} {t:TypeId} {v:Value} {xs:List V} (hv:Value.okWide P w r b0 t v) (h:Read P w d t v.cells.toList xs):Qq P t v.cells.toList=v:=by
 unfold Qq
 cases hr:Ip P t with
 | true=>
  simp only [if_true]
  unfold Ip at hr
  split at hr
  ·rename_i dd hd
   unfold Value.okWide at hv
   rw [hd] at hv
   cases dd<;>simp [TypeDesc.isRow] at hr
   ·obtain⟨cs,rfl,_⟩:=hv;simp [Value.cells]
   ·obtain⟨cs,rfl,_⟩:=hv;simp [Value.cells]
  ·cases hr
 | false=>
  simp only [Bool.false_eq_true,if_false]
  obtain⟨x,rfl,_⟩:=h.ty.single hr
  have hne:∀cs,v≠.agg cs:=by
   rintro cs rfl
   unfold Ip at hr
   unfold Value.okWide at hv
   split at hv
   ·rename_i hd;rw [hd] at hr;simp [TypeDesc.isRow] at hr
   ·rename_i hd;rw [hd] at hr;simp [TypeDesc.isRow] at hr
   ·unfold Cell.okWide at hv
    split at hv<;>simp_all [Cell.ok]
  cases v<;>first|rfl|exact absurd rfl (hne _)
theorem ZmY {d:Nat}:∀{ts:List TypeId} {vs:List Value} {ds:List (DataW H)} {ps:List MemPlace},DataW.TrodAll enc P w base (fun _=>true) held ts vs ds ps->(∀t∈ts,QU P d t=true) ->
  (∀(j:Nat) t v,ts[j]? = some t->vs[j]? = some v->∃r b0,Value.okWide P w r b0 t v)->∃as,AU (bare (OW w)) w as vs/\Vt P d ts as:=by
 intro ts
 induction ts with
 | nil=>
  intro vs ds ps h _ _
  cases vs with
  | nil=>exact⟨[],.nil,.nil⟩
  | cons v vs=>cases ds<;>exact h.elim
 | cons t ts ih=>
  intro vs ds ps h hp hv
  cases vs with
  | nil=>exact h.elim
  | cons v vs=>
   cases ds with
   | nil=>exact h.elim
   | cons d0 ds=>
    obtain⟨p,q,⟨fuel,h1⟩,h2,_⟩:=h
    obtain⟨as,r1,r2⟩:=ih h2 (fun t' ht' =>hp t' (by simp [ht'])) (fun j t' v' hj hj' =>hv (j+1) t' v' (by simpa using hj) (by simpa using hj'))
    obtain⟨xs,hx⟩:=Zm7 d t fuel _ _ (hp t (by simp)) h1
    obtain⟨r,b0,hok⟩:=hv 0 t v rfl rfl
    have ha:=hx.arg.1
    rw [Zgp hok hx] at ha
    exact⟨_,AU.Ew.2 ⟨ha,r1⟩,.cons hx.ty r2⟩
end
end Go.Proofs.YtddbklgndkpipaaGreatDoor.Le
