/-
  A part of the proof.
-/
import Derived.Test.YtjodhcdmhobmoaaGreatDoorL4
import Derived.OpenShut
set_option linter.unusedVariables false
set_option linter.unusedSimpArgs false
namespace Go.Proofs.YtjodhcdmhobmoaaGreatDoor.Le
section
variable {U:Z3Q}
mutual
def Z33:SV U.Ty->List Nat
 | .all id _=>[id]
 | .lsl id _ _ _=>[id]
 | .ptr id _ _ _=>[id]
 | .agg cs=>Z9p cs
 | .tup cs=>Z9p cs
 | .mps cs=>Z9p cs
 | .fn _ a b=>Z9p a++Z9p b
 | .raw v=>Z2c v
 | _=>[]
def Z9p:List (SV U.Ty)->List Nat
 | []=>[]
 | x::xs=>Z33 x++Z9p xs
end
mutual
def Z4W (ρ:Nat->Nat):SV U.Ty->SV U.Ty
 | .all id n=>.all (ρ id) n
 | .lsl id off len tot=>.lsl (ρ id) off len tot
 | .ptr id i off tot=>.ptr (ρ id) i off tot
 | .agg cs=>.agg (ZaN ρ cs)
 | .tup cs=>.tup (ZaN ρ cs)
 | .mps cs=>.mps (ZaN ρ cs)
 | .fn f a b=>.fn f (ZaN ρ a) (ZaN ρ b)
 | .raw v=>.raw (Zhw ρ v)
 | v=>v
def ZaN (ρ:Nat->Nat):List (SV U.Ty)->List (SV U.Ty)
 | []=>[]
 | x::xs=>Z4W ρ x::ZaN ρ xs
end
mutual
theorem ZsC:∀x:SV U.Ty,Z2c (toV U x)=Z33 x
 | .all _ _=>by simp only [toV,Z2c,Z33]
 | .lsl _ _ _ _=>by simp only [toV,Z2c,Z33]
 | .ptr _ _ _ _=>by simp only [toV,Z2c,Z33]
 | .agg cs=>by simp only [toV,Z2c,Z33];exact Z44 cs
 | .tup cs=>by simp only [toV,Z2c,Z33];exact Z44 cs
 | .mps cs=>by simp only [toV,Z2c,Z33];exact Z44 cs
 | .fn _ a b=>by simp only [toV,Z2c,Z33];rw [Z44 a,Z44 b]
 | .raw v=>by simp only [toV,Z33]
 | .lit _=>by simp only [toV,Z2c,Z33]
 | .si _ _=>by simp only [toV,Z2c,Z33]
 | .sb _=>by simp only [toV,Z2c,Z33]
 | .ss _=>by simp only [toV,Z2c,Z33]
 | .nil _=>by simp only [toV,Z2c,Z33]
 | .sl _ _=>by simp only [toV,Z2c,Z33]
 | .slt _ _=>by simp only [toV,Z2c,Z33]
 | .ept _ _ _ _=>by simp only [toV,Z2c,Z33]
 | .no=>by simp only [toV,Z2c,Z33]
 | .und=>by simp only [toV,Z2c,Z33]
theorem Z44:∀xs:List (SV U.Ty),Z0h (ZU U xs)=Z9p xs
 | []=>rfl
 | x::xs=>by simp only [ZU,Z0h,Z9p];rw [ZsC x,Z44 xs]
end
mutual
theorem ZkS (ρ:Nat->Nat):∀x:SV U.Ty,toV U (Z4W ρ x)=Zhw ρ (toV U x)
 | .all _ _=>by simp only [toV,Zhw,Z4W]
 | .lsl _ _ _ _=>by simp only [toV,Zhw,Z4W]
 | .ptr _ _ _ _=>by simp only [toV,Zhw,Z4W]
 | .agg cs=>by simp only [toV,Zhw,Z4W];rw [Z3C ρ cs]
 | .tup cs=>by simp only [toV,Zhw,Z4W];rw [Z3C ρ cs]
 | .mps cs=>by simp only [toV,Zhw,Z4W];rw [Z3C ρ cs]
 | .fn _ a b=>by simp only [toV,Zhw,Z4W];rw [Z3C ρ a,Z3C ρ b]
 | .raw v=>by simp only [toV,Z4W]
 | .lit _=>by simp only [toV,Zhw,Z4W]
 | .si _ _=>by simp only [toV,Zhw,Z4W]
 | .sb _=>by simp only [toV,Zhw,Z4W]
 | .ss _=>by simp only [toV,Zhw,Z4W]
 | .nil _=>by simp only [toV,Zhw,Z4W]
 | .sl _ _=>by simp only [toV,Zhw,Z4W]
 | .slt _ _=>by simp only [toV,Zhw,Z4W]
 | .ept _ _ _ _=>by simp only [toV,Zhw,Z4W]
 | .no=>by simp only [toV,Zhw,Z4W]
 | .und=>by simp only [toV,Zhw,Z4W]
theorem Z3C (ρ:Nat->Nat):∀xs:List (SV U.Ty),ZU U (ZaN ρ xs)=Z6s ρ (ZU U xs)
 | []=>rfl
 | x::xs=>by simp only [ZU,Z6s,ZaN];rw [ZkS ρ x,Z3C ρ xs]
end
def retS (e sz:Nat) (H:ZF U):SV U.Ty->Tr U (SV U.Ty×ZF U)
 | .nil _=>.when (U.esz e=sz) (.leaf (.sl e [],H))
 | y=>.leaf (y,H)
def Zpc:Fk->ZF U->SV U.Ty->Tr U (SV U.Ty×ZF U)
 | .s e sz,H,x=>(ZnB H x).andThen fun y=>retS e sz (Zqz H (Zor x)) y
 | .own e sz,H,x=>(match x with
  | .nil _=>.when (U.esz e=sz) (.leaf (.all H.length 0,H++[.row e [] none]))
  | .all id n=>.leaf (.all id n,H)
  | _=>.fail)
 | .keep,H,x=>.leaf (x,H)
def ZmO:List Fk->ZF U->List (SV U.Ty)->Tr U (List (SV U.Ty)×ZF U)
 | [],H,[]=>.leaf ([],H)
 | f::fs,H,x::xs=>(Zpc f H x).andThen fun r=>(ZmO fs r.2 xs).andThen fun q=>.leaf (r.1::q.1,q.2)
 | _,_,_=>.fail
def ZAD (fl:List Fk) (H:ZF U) (x:SV U.Ty):Tr U (SV U.Ty×ZF U):=
 match x with
 | .agg cs=>(ZmO fl H cs).andThen fun r=>.leaf (.agg r.1,r.2)
 | .raw _=>.fail
 | x=>match fl with
  | [f]=>Zpc f H x
  | _=>.fail
def Zmj:List (List Fk)->ZF U->List (SV U.Ty)->Tr U (List (SV U.Ty)×ZF U)
 | [],H,[]=>.leaf ([],H)
 | f::fs,H,x::xs=>(ZAD f H x).andThen fun r=>(Zmj fs r.2 xs).andThen fun q=>.leaf (r.1::q.1,q.2)
 | _,_,_=>.fail
def Zgx:Nat->List Bf->ZF U->List Nat->List Nat->Tr U (ZF U×List Nat)
 | 0,_,_,_,_=>.fail
 | _+1,_,H,[],seen=>.leaf (H,seen)
 | n+1,fb,H,id::todo,seen=>
  if seen.contains id then Zgx n fb H todo seen else
  match H[id]?,fb with
  | some (.row _ _ none),.row true::fb' =>Zgx n fb' H todo (seen++[id])
  | some (.row _ _ _),.row false::fb' =>Zgx n fb' (Zqz H [id]) todo (seen++[id])
  | some (.var _ _ x),.var fl::fb' =>(ZAD fl H x).andThen fun r=>(match r.2[id]? with
    | some (.var e m _)=>.when (okS r.1=true) (Zgx n fb' (r.2.set id (.var e m r.1)) (todo++Z33 r.1) (seen++[id]))
    | _=>.fail)
  | _,_=>.fail
def Zsj (ρ:Nat->Nat):ZDY U.Ty->ZDY U.Ty
 | .var e n x=>.var e n (Z4W ρ x)
 | .fvar e n x=>.fvar e n (Z4W ρ x)
 | b=>b
def ZCw (H:ZF U) (ids:List Nat):ZF U:=ids.map fun id=>Zsj (ids.idxOf ·) ((H[id]?).getD .dead)
def ZCJ (fa:List (List Fk)) (fb:List Bf) (k:Nat) (args:List (SV U.Ty)) (H:ZF U):Tr U (List Nat×List (SV U.Ty)×ZF U):=
 (Zmj fa H args).andThen fun r=>(Zgx 1000 fb r.2 (List.range k++Z9p r.1) []).andThen fun q=>.leaf (q.2,r.1,q.1)
def ZG7:ZF U->List Nat->ZF U->ZF U
 | H,[],bs=>H++bs
 | H,id::ids,b::bs=>ZG7 (H.set id b) ids bs
 | H,_::_,[]=>H
def Zfe (H:ZF U) (ids:List Nat) (H3:ZF U):ZF U:=ZG7 H ids (H3.map (Zsj (Zdn ids H.length)))
theorem ZKp {e sz:Nat} {H:ZF U} {y:SV U.Ty} {r:SV U.Ty×ZF U} (h:(retS e sz H y).Zz r) (hy:∀v,y≠.raw v):toV U r.1=Z1p sz (toV U y)/\r.2=H:=by
 unfold retS at h
 split at h
 ·simp only [ZY,Tr.Zz] at h
  obtain⟨he,rfl⟩:=h
  simp [toV,Z1p,he]
 ·simp only [Tr.Zz] at h
  subst h
  refine⟨?_,rfl⟩
  cases y with
  | nil e' =>rename_i hne;exact absurd rfl (hne e')
  | raw v=>exact absurd rfl (hy v)
  | _=>simp [toV,Z1p]
theorem ZGm {H:ZF U} {x y:SV U.Ty} (h:(ZnB H x).Zz y):∀v,y≠.raw v:=by
 intro v hv
 subst hv
 unfold ZnB at h
 split at h<;>(try (simp [Tr.Zz] at h;done))
 ·obtain⟨t,xs,fl,h1,h2,h3,h4⟩:=Z0k h;simp [Tr.Zz] at h3
 ·obtain⟨t,xs,fl,h1,h2,h3,h4⟩:=Z0k h;simp [Tr.Zz] at h3
theorem Zvw {f:Fk} {H:ZF U} {x:SV U.Ty} {r:SV U.Ty×ZF U} (h:(Zpc f H x).Zz r):Z9N f (toH U H) (toV U x)=some (toV U r.1,toH U r.2):=by
 cases f with
 | s e sz=>
  simp only [Zpc,ZA] at h
  obtain⟨y,h1,h2⟩:=h
  obtain⟨e1,e2⟩:=ZKp h2 (ZGm h1)
  simp only [Z9N,Zs8 h1,Option.map_some,e1,e2]
  rw [ZA5,ZbX H _ (ZiN h1)]
 | own e sz=>
  simp only [Zpc] at h
  split at h
  ·simp only [ZY,Tr.Zz] at h
   obtain⟨he,rfl⟩:=h
   simp [Z9N,ZGJ,toV,toH,Z0w,ZN,he]
  ·simp only [Tr.Zz] at h
   subst h
   simp [Z9N,ZGJ,toV]
  ·simp [Tr.Zz] at h
 | keep=>
  simp only [Zpc,Tr.Zz] at h
  subst h
  rfl
theorem ZGe:∀{fl:List Fk} {H:ZF U} {xs:List (SV U.Ty)} {r:List (SV U.Ty)×ZF U},(ZmO fl H xs).Zz r->Z8L fl (toH U H) (ZU U xs)=some (ZU U r.1,toH U r.2):=by
 intro fl
 induction fl with
 | nil=>
  intro H xs r h
  cases xs with
  | nil=>simp only [ZmO,Tr.Zz] at h;subst h;rfl
  | cons=>simp [ZmO,Tr.Zz] at h
 | cons f fl ih=>
  intro H xs r h
  cases xs with
  | nil=>simp [ZmO,Tr.Zz] at h
  | cons x xs=>
   simp only [ZmO,ZA,Tr.Zz] at h
   obtain⟨p,h1,q,h2,rfl⟩:=h
   simp only [ZU,Z8L,Zvw h1,ih h2]
theorem Zvf {fl:List Fk} {H:ZF U} {x:SV U.Ty} {r:SV U.Ty×ZF U} (h:(ZAD fl H x).Zz r):Zhm fl (toH U H) (toV U x)=some (toV U r.1,toH U r.2):=by
 unfold ZAD at h
 split at h
 ·rename_i cs
  simp only [ZA,Tr.Zz] at h
  obtain⟨p,h1,rfl⟩:=h
  simp only [toV,Zhm,ZGe h1,Option.map_some]
 ·simp [Tr.Zz] at h
 ·rename_i hn1 hn2
  split at h
  ·rename_i f
   have h1:=Zvw h
   unfold Zhm
   split
   ·rename_i cs hcs
    exfalso
    cases x<;>simp_all [toV]
   ·exact h1
  ·simp [Tr.Zz] at h
theorem ZF5:∀{fl:List (List Fk)} {H:ZF U} {xs:List (SV U.Ty)} {r:List (SV U.Ty)×ZF U},(Zmj fl H xs).Zz r->Z9x fl (toH U H) (ZU U xs)=some (ZU U r.1,toH U r.2):=by
 intro fl
 induction fl with
 | nil=>
  intro H xs r h
  cases xs with
  | nil=>simp only [Zmj,Tr.Zz] at h;subst h;rfl
  | cons=>simp [Zmj,Tr.Zz] at h
 | cons f fl ih=>
  intro H xs r h
  cases xs with
  | nil=>simp [Zmj,Tr.Zz] at h
  | cons x xs=>
   simp only [Zmj,ZA,Tr.Zz] at h
   obtain⟨p,h1,q,h2,rfl⟩:=h
   simp only [ZU,Z9x,Zvf h1,ih h2]
theorem ZGI:∀{n:Nat} {fb:List Bf} {H:ZF U} {todo seen:List Nat} {r:ZF U×List Nat},(Zgx n fb H todo seen).Zz r->Zg8 n fb (toH U H) todo seen=some (toH U r.1,r.2):=by
 intro n
 induction n with
 | zero=>intro fb H todo seen r h;simp [Zgx,Tr.Zz] at h
 | succ n ih=>
  intro fb H todo seen r h
  cases todo with
  | nil=>simp only [Zgx,Tr.Zz] at h;subst h;rfl
  | cons id todo=>
   unfold Zgx at h
   unfold Zg8
   by_cases hin:seen.contains id=true
   ·rw [if_pos hin] at h ⊢
    exact ih h
   ·rw [if_neg hin] at h ⊢
    rw [Z5X]
    split at h
    ·rename_i t xs fb' hb
     rw [hb]
     simp only [Option.map_some,Z0w,Bool.and_self,if_true]
     exact ih h
    ·rename_i t xs fl fb' hb
     rw [hb]
     simp only [Option.map_some,Z0w,Bool.and_self,if_true,Bool.false_eq_true,if_false]
     rw [<- ZbX H [id] (fun i hi=>by simp at hi;subst hi;exact⟨t,xs,fl,hb⟩)]
     exact ih h
    ·rename_i e m x fl fb' hb
     rw [hb]
     simp only [ZA] at h
     obtain⟨p,h1,h2⟩:=h
     simp only [Option.map_some,Z0w,ZN,Bool.not_false,Bool.and_self,if_true,Zvf h1,Z5X]
     split at h2
     ·rename_i e' m' x' hb'
      simp only [ZY] at h2
      obtain⟨hok,h2⟩:=h2
      rw [hb']
      simp only [Option.map_some,Z0w,ZN,Z91 hok,if_true]
      have:=ih h2
      rw [Z9a] at this
      simp only [Z0w,ZN] at this
      rw [ZsC]
      exact this
     ·simp [Tr.Zz] at h2
    ·simp [Tr.Zz] at h
theorem ZkO {fa:List (List Fk)} {fb:List Bf} {k:Nat} {args:List (SV U.Ty)} {H:ZF U} {r:List Nat×List (SV U.Ty)×ZF U} (h:(ZCJ fa fb k args H).Zz r):pack fa fb k (ZU U args) (toH U H)=some (r.1,ZU U r.2.1,toH U r.2.2):=by
 simp only [ZCJ,ZA,Tr.Zz] at h
 obtain⟨p,h1,q,h2,rfl⟩:=h
 simp only [pack,ZF5 h1,Z44,ZGI h2]
theorem ZfS (ρ:Nat->Nat) (b:ZDY U.Ty):Z0w U (Zsj ρ b)=Z2e ρ (Z0w U b):=by
 cases b<;>simp [Zsj,Z0w,Z2e,ZN,Zb3,Z6s,ZkS]
theorem Zf1 (H:ZF U) (ids:List Nat):toH U (ZCw H ids)=Zsy (toH U H) ids:=by
 simp only [toH,ZCw,Zsy,List.map_map]
 apply List.map_congr_left
 intro id _
 simp only [Function.comp,ZfS]
 congr 1
 rw [List.getElem?_map]
 cases H[id]?<;>rfl
theorem ZH0:∀(H:ZF U) (ids:List Nat) (bs:ZF U),toH U (ZG7 H ids bs)=ZHz (toH U H) ids (toH U bs):=by
 intro H ids
 induction ids generalizing H with
 | nil=>intro bs;simp [ZG7,ZHz,toH]
 | cons id ids ih=>
  intro bs
  cases bs with
  | nil=>rfl
  | cons b bs=>
   simp only [ZG7,ih,Z9a]
   rfl
theorem ZuW (H:ZF U) (ids:List Nat) (H3:ZF U):toH U (Zfe H ids H3)=Z7J (toH U H) ids (toH U H3):=by
 simp only [Zfe,Z7J,ZH0]
 congr 1
 simp only [toH,List.map_map]
 apply List.map_congr_left
 intro b _
 simp [Function.comp,ZfS]
def ZoW:List (SV U.Ty)->List FuncId
 | []=>[]
 | .fn f _ _::vs=>f::ZoW vs
 | .raw v::vs=>Zku [v]++ZoW vs
 | _::vs=>ZoW vs
theorem ZCP (v:V) (vs:List V):Zku (v::vs)=Zku [v]++Zku vs:=by
 cases v<;>simp [Zku]
theorem ZCp:∀(vs:List (SV U.Ty)),Zku (ZU U vs)=ZoW vs:=by
 intro vs
 induction vs with
 | nil=>rfl
 | cons v vs ih=>
  simp only [ZU]
  rw [ZCP,ih]
  cases v<;>simp [toV,Zku,ZoW]
end
end Go.Proofs.YtjodhcdmhobmoaaGreatDoor.Le
namespace Go.Proofs.YtjodhcdmhobmoaaGreatDoor.Le
open Go.RowKit (Below)
structure ZLQ (k:Nat) (ids:List Nat) (st st' : St):Prop where
 nodup:ids.Nodup
 pre:ids.take k=List.range k
 len:st'.H.length=ids.length
 heap:∀(j id:Nat),ids[j]? = some id->∃b b',st.H[id]? = some b/\b.live=true/\st'.H[j]? = some b' /\ b'.live=true/\b'.row=b.row/\(b'.Z9Q=true->b.Z9Q=true)/\b'.elem=b.elem/\b'.esz=b.esz /\
  (b.floor<=b'.floor\/b'.floor=b'.xs.length)/\b'.floor<=b'.xs.length/\(b.row=true->b'.xs=b.xs)/\(b.row=false->b'.xs=Z6s (ids.idxOf ·) b.xs/\∀r∈Z0h b.xs,r∈ids)
 slen:st'.s.length=st.s.length
 slots:∀(i:Nat) (v' : V),st'.s[i]? = some v' -> v' = .und\/∃v,st.s[i]? = some v/\v' = Zhw (ids.idxOf ·) v/\∀r∈Z2c v,r∈ids
theorem Zpn {σ:Sg} {w:World}:∀{xs:List V} {vs:List Value},xs.length=vs.length->(∀(i:Nat) (x:V) (v:Value),xs[i]? = some x->vs[i]? = some v->Zw σ w [x] [v])->Zw σ w xs vs:=by
 intro xs
 induction xs with
 | nil=>intro vs hl _;cases vs with|nil=>exact .nil|cons=>simp at hl
 | cons x xs ih=>
  intro vs hl h
  cases vs with
  | nil=>simp at hl
  | cons v vs=>exact Zw.Z0j.2 ⟨h 0 x v rfl rfl,ih (by simpa using hl) (fun i y u h1 h2=>h (i+1) y u (by simpa using h1) (by simpa using h2))⟩
theorem ZJH {E:Env} {B:Nat} {w0:Start} {σ:Sg} {st st' : St} {a:Act} {w:World} {k:Nat} {ids:List Nat} (ht:ZLQ k ids st st') (h:Rel E B w0 σ st a w):Rel E B w0 (σ.ren ids) st' a w:=by
 have hbox:∀{j:Nat} {L:Loc},(σ.ren ids).box j=some L->∃id,ids[j]? = some id/\σ.box id=some L:=by
  intro j L hL
  simp only [Sg.ren] at hL
  cases hj:ids[j]? with
  | none=>simp [hj] at hL
  | some id=>simp only [hj,Option.bind_some] at hL;exact⟨id,rfl,hL⟩
 have hsome:∀{j:Nat} {b' : Box},st'.H[j]? = some b' -> ∃id,ids[j]? = some id:=by
  intro j b' hb
  have hlt:=(List.getElem?_eq_some_iff.1 hb).1
  rw [ht.len] at hlt
  exact⟨ids[j],List.getElem?_eq_getElem hlt⟩
 refine⟨⟨h.inv.below,h.inv.size,?_,?_,?_,h.inv.cells,?_,?_,h.inv.old,fun b hb=>?_⟩,h.Z9Y.bare (fun b c hh=>⟨hh,rfl⟩) (Z9v.refl _),?_,h.calm⟩
 ·intro j L hL
  obtain⟨id,h1,h2⟩:=hbox hL
  obtain⟨b,b',_,_,q1,q2,_⟩:=ht.heap j id h1
  exact⟨b',q1,q2⟩
 ·intro j b' hb hl
  obtain⟨id,hid⟩:=hsome hb
  obtain⟨b,b2,p1,p2,p3,p4,p5,p6,p7,p8,p9,p10,p11,p12⟩:=ht.heap j id hid
  rw [hb] at p3
  cases p3
  obtain⟨L,hL,hok⟩:=h.inv.boxes id b p1 p2
  obtain⟨us,r1,r2,r3,r4⟩:=hok.Z5G
  refine⟨L,by simp [Sg.ren,hid,hL],?_⟩
  have hlen:b'.xs.length=b.xs.length:=by
   cases hr:b.row with
   | true=>rw [p11 hr]
   | false=>rw [(p12 hr).1,Zbg]
  have hreps:Zw (σ.ren ids) w b'.xs us:=by
   cases hr:b.row with
   | true=>rw [p11 hr];exact r1.bare (fun b c hh=>⟨hh,rfl⟩) (Z9v.refl _) ((Z1d _).2 (hok.fzs hr))
   | false=>rw [(p12 hr).1];exact Zgu r1 (p12 hr).2
  refine⟨by rw [hlen];exact hok.tot,⟨us,hreps,r2,r3,by rw [p7,hlen];exact r4⟩,fun hn=>hok.Z9Q (p6 hn),by rw [p8];exact hok.esz,?_,?_⟩
  ·intro x hx
   cases hr:b.row with
   | true=>rw [p11 hr] at hx;exact hok.oks x hx
   | false=>
    rw [(p12 hr).1,Zn3] at hx
    obtain⟨y,hy,rfl⟩:=List.mem_map.1 hx
    rw [ZEX]
    exact hok.oks y hy
  ·intro hr x hx
   rw [p5] at hr
   rw [p11 hr] at hx
   exact hok.fzs hr x hx
 ·intro j j' b1 b2 L1 L2 g h1 h2 l1 l2 s1 s2 g1 g2
  obtain⟨i1,e1,t1⟩:=hbox s1
  obtain⟨i2,e2,t2⟩:=hbox s2
  obtain⟨c1,_,p1,p2,_⟩:=ht.heap j i1 e1
  obtain⟨c2,_,q1,q2,_⟩:=ht.heap j' i2 e2
  have:=h.inv.apart i1 i2 c1 c2 L1 L2 g p1 q1 p2 q2 t1 t2 g1 g2
  subst this
  exact Zmp ht.nodup e1 e2
 ·intro b c hc j b' L hb hl hL hg
  obtain⟨id,hid,hL'⟩:=hbox hL
  obtain⟨b0,b2,p1,p2,p3,p4,p5,p6,p7,p8,p9,p10,p11,p12⟩:=ht.heap j id hid
  rw [hb] at p3
  cases p3
  have:=h.inv.floor b c hc id b0 L p1 p2 hL' hg
  have hlen:b'.xs.length=b0.xs.length:=by
   cases hr:b0.row with
   | true=>rw [p11 hr]
   | false=>rw [(p12 hr).1,Zbg]
  have hle:b0.floor<=b'.floor:=by
   rcases p9 with p9|p9
   ·exact p9
   ·rw [p9,hlen];exact h.inv.low id b0 p1 p2
  exact Nat.lt_of_lt_of_le this (Nat.mul_le_mul_right _ hle)
 ·intro j b' hb hl
  obtain⟨id,hid⟩:=hsome hb
  obtain⟨b0,b2,p1,p2,p3,p4,p5,p6,p7,p8,p9,p10,p11,p12⟩:=ht.heap j id hid
  rw [hb] at p3
  cases p3
  exact p10
 ·obtain⟨k1,k2,k3,k4⟩:=h.inv.kept b hb
  refine⟨k1,k2,fun j L hL hg=>?_,k4⟩
  obtain⟨id,hid,hL'⟩:=hbox hL
  exact k3 id L hL' hg
 ·refine Zpn (by rw [ht.slen];exact h.slots.length) (fun i x v hx hv=>?_)
  rcases ht.slots i x hx with rfl|⟨y,hy,rfl,hc⟩
  ·exact .und _ .nil
  ·obtain⟨u,hu,hr⟩:=h.slots.get hy
   rw [hv] at hu
   cases hu
   exact Zgu hr (by simpa [Z0h] using hc)
def spread {α:Type} (u:α) (n:Nat):List Nat->List α->List α
 | k::ks,v::vs=>(spread u n ks vs).set k v
 | _,_=>List.replicate n u
theorem Zqe {α:Type} (u:α) (n:Nat):∀(ks:List Nat) (vs:List α),(spread u n ks vs).length=n:=by
 intro ks
 induction ks with
 | nil=>intro vs;simp [spread]
 | cons k ks ih=>intro vs;cases vs<;>simp [spread,ih]
theorem ZD2 {α:Type} (u:α) (n:Nat):∀(ks:List Nat) (vs:List α) (i:Nat) (x:α),(spread u n ks vs)[i]? = some x->x=u\/∃j:Nat,ks[j]? = some i/\vs[j]? = some x:=by
 intro ks
 induction ks with
 | nil=>
  intro vs i x h
  simp only [spread,List.getElem?_replicate] at h
  split at h
  ·exact .inl (Option.some.inj h).symm
  ·cases h
 | cons k ks ih=>
  intro vs i x h
  cases vs with
  | nil=>
   simp only [spread,List.getElem?_replicate] at h
   split at h
   ·exact .inl (Option.some.inj h).symm
   ·cases h
  | cons v vs=>
   simp only [spread,List.getElem?_set] at h
   split at h
   ·rename_i hk
    subst hk
    split at h
    ·exact .inr ⟨0,rfl,h⟩
    ·cases h
   ·rcases ih vs i x h with h|⟨j,h1,h2⟩
    ·exact .inl h
    ·exact .inr ⟨j+1,h1,h2⟩
theorem ZC2 {α β:Type} (g:α->β) (u:α) (n:Nat):∀(ks:List Nat) (vs:List α),(spread u n ks vs).map g=spread (g u) n ks (vs.map g):=by
 intro ks
 induction ks with
 | nil=>intro vs;simp [spread]
 | cons k ks ih=>intro vs;cases vs<;>simp [spread,List.map_set,ih]
theorem ZFd {σ:Sg} {w:World} {xs:List V} {vs:List Value} (h:Zw σ w xs vs):∀keep:List Nat,Zw σ w (keep.map fun i=>xs.getD i .und) (keep.map fun i=>vs.getD i undef):=by
 intro keep
 induction keep with
 | nil=>exact .nil
 | cons i keep ih=>
  simp only [List.map_cons]
  refine Zw.Z0j.2 ⟨?_,ih⟩
  cases hx:xs[i]? with
  | none=>simp only [List.getD,hx,Option.getD_none];exact .und _ .nil
  | some x=>
   obtain⟨v,hv,hr⟩:=h.get hx
   simp only [List.getD,hx,hv,Option.getD_some]
   exact hr
theorem ZHy {E:Env} {B:Nat} {w0:Start} {σ:Sg} {st:St} {a:Act} {w:World} {k:Nat} {fa:List (List Fk)} {fb:List Bf} {keep ids:List Nat} {as:List V} {H2:Heap} (hp:pack fa fb k (keep.map fun i=>st.s.getD i .und) st.H=some (ids,as,H2))
  (h:Rel E B w0 σ st a w):∃σ1,Ext σ w σ1 w/\Rel E B w0 (σ1.ren ids) ⟨spread .und st.s.length keep (Z6s (ids.idxOf ·) as),Zsy H2 ids⟩ a w:=by
 obtain⟨hs,hm,_,σ1,hI1,hE1,hr1⟩:=Zy8 h.inv (ZFd h.slots keep) hp
 have hsub:=ZFR hI1 hs w0 hI1.below hI1.old (fun b hb=>by
  obtain⟨k1,k2,k3,k4⟩:=hI1.kept b hb
  exact⟨k1,k2,fun id _ L hL=>k3 id L hL,k4⟩)
 refine⟨σ1,hE1,hsub,(h.Z9Y.ext hE1).bare (fun b c hh=>⟨hh,rfl⟩) (Z9v.refl _),?_,h.calm⟩
 refine Zpn (by rw [Zqe];exact h.slots.length) (fun i x v hx hv=>?_)
 rcases ZD2 _ _ _ _ i x hx with rfl|⟨j,h1,h2⟩
 ·exact .und _ .nil
 ·obtain⟨u,hu,hr⟩:=(Zgu hr1 hm).get h2
  simp only [List.getElem?_map,h1,Option.map_some,List.getD,hv,Option.getD_some,Option.some.injEq] at hu
  subst hu
  exact hr
inductive Ctl where
 | run (c:Code)|nxt|exit (id:Nat)|ret
inductive Fr where
 | seq (c:Code)|blk (id:Nat)|loop (b:Code)
def Z4m:List (List Nat)->List V->List V
 | es::rs,v::vs=>Z0E es v::Z4m rs vs
 | [],vs=>vs
 | _,[]=>[]
def Zaz (rs:List (List Nat)):V->V
 | .tup vs=>.tup (Z4m rs vs)
 | v=>Z0E (rs.headD []) v
inductive Z0S (call:Z1f) (E:Env) (f:FuncId) (fn:Func) (k:Nat) (Z:St->V×Heap->Prop):Ctl->List Fr->St->V×Heap->Prop where
 | skip {K st r}:Z0S call E f fn k Z .nxt K st r->Z0S call E f fn k Z (.run .skip) K st r
 | region {id ops K st st' r}:ZDU call E ops (List.range ops.size) st=some st' -> Z0S call E f fn k Z .nxt K st' r->Z0S call E f fn k Z (.run (.region id ops false)) K st r
 | draw {id ops K st st' r}:E.calm f id=true->ZyJ call E ops st=some st' -> Z0S call E f fn k Z .nxt K st' r->Z0S call E f fn k Z (.run (.region id ops true)) K st r
 | seq {a b K st r}:Z0S call E f fn k Z (.run a) (.seq b::K) st r->Z0S call E f fn k Z (.run (.seq a b)) K st r
 | cond {c a b t K st r}:ev E st.s c = .lit (.bool t)->Z0S call E f fn k Z (.run (if t then a else b)) K st r->Z0S call E f fn k Z (.run (.cond c a b)) K st r
 | block {id b K st r}:Z0S call E f fn k Z (.run b) (.blk id::K) st r->Z0S call E f fn k Z (.run (.block id b)) K st r
 | loop {b K st r}:Z0S call E f fn k Z (.run b) (.loop b::K) st r->Z0S call E f fn k Z (.run (.loop b)) K st r
 | scope {b K st r}:Z0S call E f fn k Z (.run b) K st r->Z0S call E f fn k Z (.run (.scope b)) K st r
 | label {l K st r}:Z0S call E f fn k Z .nxt K st r->Z0S call E f fn k Z (.run (.label l)) K st r
 | exit {id K st r}:Z0S call E f fn k Z (.exit id) K st r->Z0S call E f fn k Z (.run (.exit id)) K st r
 | ret {K st r}:Z0S call E f fn k Z .ret K st r->Z0S call E f fn k Z (.run .ret) K st r
 | nseq {c K st r}:Z0S call E f fn k Z (.run c) K st r->Z0S call E f fn k Z .nxt (.seq c::K) st r
 | nblk {id K st r}:Z0S call E f fn k Z .nxt K st r->Z0S call E f fn k Z .nxt (.blk id::K) st r
 | ZLJ {b K st r}:Z0S call E f fn k Z (.run b) (.loop b::K) st r->Z0S call E f fn k Z .nxt (.loop b::K) st r
 | eseq {id c K st r}:Z0S call E f fn k Z (.exit id) K st r->Z0S call E f fn k Z (.exit id) (.seq c::K) st r
 | ZLx {id b K st r}:Z0S call E f fn k Z (.exit id) K st r->Z0S call E f fn k Z (.exit id) (.loop b::K) st r
 | eblk {id K st r}:Z0S call E f fn k Z .nxt K st r->Z0S call E f fn k Z (.exit id) (.blk id::K) st r
 | ZL2 {id i K st r}:id≠i->Z0S call E f fn k Z (.exit id) K st r->Z0S call E f fn k Z (.exit id) (.blk i::K) st r
 | rany {x K st r}:Z0S call E f fn k Z .ret K st r->Z0S call E f fn k Z .ret (x::K) st r
 | finN {st r}:Z st r->Z0S call E f fn k Z .nxt [] st r
 | finR {st r}:Z st r->Z0S call E f fn k Z .ret [] st r
 | tidy {ctl K ids st st' r}:ZLQ k ids st st' -> Z0S call E f fn k Z ctl K st' r->Z0S call E f fn k Z ctl K st r
 | ZLY {ctl K fa fb keep ids as H2 st r}:pack fa fb k (keep.map fun i=>st.s.getD i .und) st.H=some (ids,as,H2)->ids.take k=List.range k->Z0S call E f fn k Z ctl K ⟨spread .und st.s.length keep (Z6s (ids.idxOf ·) as),Zsy H2 ids⟩ r->Z0S call E f fn k Z ctl K st r
def LoopIn (P:Program) (b:Code) (Q:Exit->Act->World->Prop) (a:Act) (w:World):Prop:=
 ∀fr k cs,∃e a' w',Q e a' w' /\ Arrives P (lone (fr.at a (.code b :: .inLoop b::k)) cs w) fr k cs e a' w'
theorem LoopIn.of {P:Program} {b:Code} {Q:Exit->Act->World->Prop} {a:Act} {w:World} (h:b.wp P (Exit.then (LoopIn P b Q) Q) a w):LoopIn P b Q a w:=by
 intro fr k cs
 obtain⟨e,a₁,w₁,hq,harr⟩:=h fr (.inLoop b::k) cs
 cases e with
 | normal=>
  obtain⟨e₂,a₂,w₂,hq₂,harr₂⟩:=hq fr k cs
  exact⟨e₂,a₂,w₂,hq₂,.of_steps (Steps.trans harr (.one step_inLoop)) harr₂⟩
 | exit id=>exact⟨_,a₁,w₁,hq,.pass (x:=.inLoop b) rfl (fun _ _=>.inl (by simp)) harr⟩
 | goto l=>exact⟨_,a₁,w₁,hq,.pass (x:=.inLoop b) rfl (fun _ _=>.inl (by simp)) harr⟩
 | ret=>exact⟨_,a₁,w₁,hq,.pass (x:=.inLoop b) rfl (fun _ _=>.inl (by simp)) harr⟩
 | panic ch=>exact⟨_,a₁,w₁,hq,.pass (x:=.inLoop b) rfl (fun _ _=>.inl (by simp)) harr⟩
 | outgrown=>exact⟨_,a₁,w₁,hq,.pass (x:=.inLoop b) rfl (fun _ _=>.inl (by simp)) harr⟩
theorem LoopIn.wp {P:Program} {b:Code} {Q:Exit->Act->World->Prop} {a:Act} {w:World} (h:LoopIn P b Q a w):(Code.loop b).wp P Q a w:=by
 intro fr k cs
 obtain⟨e,a',w',hq,harr⟩:=h fr k cs
 exact⟨e,a',w',hq,.of_steps (.one step_loop) harr⟩
def QK (P:Program) (Z:Act->World->Prop):List Fr->Exit->Act->World->Prop
 | [],.normal,a,w=>Z a w
 | [],.ret,a,w=>Z a w
 | [],_,_,_=>False
 | .seq c::K,e,a,w=>Exit.then (c.wp P (QK P Z K)) (QK P Z K) e a w
 | .blk id::K,e,a,w=>Exit.inBlock id (QK P Z K) e a w
 | .loop b::K,e,a,w=>Exit.then (LoopIn P b (QK P Z K)) (QK P Z K) e a w
theorem Zqp {P:Program} {Z:Act->World->Prop} {l:Nat} {a:Act} {w:World}:∀K:List Fr,QK P Z K (.goto l) a w->False
 | [],h=>h
 | .seq _::K,h=>Zqp K h
 | .blk _::K,h=>Zqp K h
 | .loop _::K,h=>Zqp K h
def ZJW (P:Program) (Z:Act->World->Prop) (K:List Fr) (a:Act) (w:World):Ctl->Prop
 | .run c=>c.wp P (QK P Z K) a w
 | .nxt=>QK P Z K .normal a w
 | .exit id=>QK P Z K (.exit id) a w
 | .ret=>QK P Z K .ret a w
def Zmq (E:Env) (f:FuncId):Ctl->Bool
 | .run c=>Z36 E f c
 | _=>true
def Zkn (E:Env) (f:FuncId):List Fr->Bool
 | []=>true
 | .seq c::K=>Z36 E f c&&Zkn E f K
 | .loop c::K=>Z36 E f c&&Zkn E f K
 | .blk _::K=>Zkn E f K
theorem ZqW {σ w}:∀(rs:List (List Nat)) {xs:List V} {vs:List Value},Zw σ w xs vs->Zw σ w (Z4m rs xs) vs:=by
 intro rs
 induction rs with
 | nil=>intro xs vs h;simpa [Z4m] using h
 | cons r rs ih=>
  intro xs vs h
  cases xs with
  | nil=>simpa [Z4m] using h
  | cons x xs=>
   obtain⟨v,vs',rfl,h1,h2⟩:=h.ZR
   exact Zw.Z0j.2 ⟨Z37 _ h1,ih h2⟩
theorem Zt4 {σ w x v} (rs:List (List Nat)) (h:Zw σ w [x] [v]):Zw σ w [Zaz rs x] [v]:=by
 unfold Zaz
 split
 ·cases h with
  | tup h1 _=>exact .tup (ZqW rs h1) .nil
 ·exact Z37 _ h
theorem Zoc:∀(rs:List (List Nat)) (xs:List V),ZB (Z4m rs xs)=ZB xs:=by
 intro rs
 induction rs with
 | nil=>intro xs;simp [Z4m]
 | cons r rs ih=>intro xs;cases xs<;>simp [Z4m,ZB,Z2x,ih]
theorem ZgU (rs:List (List Nat)) (x:V) (h:ZV x=true):ZV (Zaz rs x)=true:=by
 unfold Zaz
 split
 ·simpa [ZV,Zoc] using h
 ·rw [Z2x];exact h
def Zp (E:Env) (fn:Func) (st:St) (r:V×Heap):Prop:=∃r0 r1,Z2K E st.H st.s fn.results.toList=some r0/\Zzx st.H r0=some r1/\r=(Zaz (fn.resultTypes.toList.map E.rows) r1,[])
def Zh (E:Env) (fn:Func) (fa:List (List Fk)) (fb:List Bf) (k:Nat) (st:St) (r:V×Heap):Prop:=∃r0,Z2K E st.H st.s fn.results.toList=some r0/\ZHo fa fb k r0 st.H=some r
def Fin (P:Program) (fn:Func) (B:Nat) (w0:Start) (r:V×Heap) (a:Act) (w:World):Prop:=
 a.defers=[]/\∃u fz',(results fn a.tmps).run P w = .ok u w/\Below B w0.w w/\(∀b c,w0.fz b c->fz' b c)/\(∀b c,fz' b c->b<B->w0.fz b c)/\(∀b c,fz' b c->∃u,w.cell? ⟨b,c,none⟩=some u)/\Zw (bare fz') w [r.1] [u]/\ZV r.1=true
def FinH (P:Program) (fn:Func) (B:Nat) (w0:Start) (σ0:Sg) (ws:World) (r:V×Heap) (a:Act) (w:World):Prop:=
 a.defers=[]/\∃u σ',(results fn a.tmps).run P w = .ok u w/\Inv B w0 σ' r.2 w/\Ext σ0 ws σ' w/\Zw σ' w [r.1] [u]
structure ZHb (k:Nat) (σ:Sg) (w:World) (σ' : Sg) (w' : World):Prop where
 box:∀id L,id<k->σ.box id=some L->∃L',σ'.box id=some L' /\ L'.esz=L.esz/\(L' = L\/L.tot<L'.tot)
 fz:∀b c,σ.fz b c->σ'.fz b c/\w'.cell? ⟨b,c,none⟩=w.cell? ⟨b,c,none⟩
 mp:Z9v w w'
theorem Ext.k {k:Nat} {σ w σ' w'} (h:Ext σ w σ' w'):ZHb k σ w σ' w' :=⟨fun id L _ hL=>h.box id L hL,h.fz,h.mp⟩
theorem ZHb.trans {k:Nat} {σ w σ' w' σ'' w''} (h:ZHb k σ w σ' w') (g:Ext σ' w' σ'' w''):ZHb k σ w σ'' w'' :=by
 refine⟨fun id L hk hL=>?_,fun b c hc=>?_,h.mp.trans g.mp⟩
 ·obtain⟨L',h1,h2,h3⟩:=h.box id L hk hL
  obtain⟨L'',k1,k2,k3⟩:=g.box id L' h1
  refine⟨L'',k1,k2.trans h2,?_⟩
  rcases h3 with rfl|h3
  ·exact k3
  ·rcases k3 with rfl|k3
   ·exact .inr h3
   ·exact .inr (Nat.lt_trans h3 k3)
 ·obtain⟨a1,a2⟩:=h.fz b c hc
  obtain⟨b1,b2⟩:=g.fz b c a1
  exact⟨b1,b2.trans a2⟩
theorem ZCu {ids:List Nat} {k j:Nat} (h:ids.take k=List.range k) (hj:j<k):ids[j]? = some j:=by
 have:(ids.take k)[j]? = some j:=by rw [h];simp [hj]
 rw [List.getElem?_take] at this
 simpa [hj] using this
theorem ZHb.ren {k:Nat} {σ w σ' w'} {ids:List Nat} (h:ZHb k σ w σ' w') (hp:ids.take k=List.range k):ZHb k σ w (σ'.ren ids) w' :=by
 refine⟨fun id L hk hL=>?_,h.fz,h.mp⟩
 obtain⟨L',h1,h2⟩:=h.box id L hk hL
 exact⟨L',by simp only [Sg.ren,ZCu hp hk,Option.bind_some];exact h1,h2⟩
section
variable {P:Program} {E:Env} {B:Nat} {w0:Start} {call:Z1f} {f:FuncId} {fn:Func}
theorem ZLP (hE:Z0A E) (hP:E.P=P) {σ:Sg} {st:St} {a:Act} {w:World} {r:V×Heap} (h:Rel E B w0 σ st a w) (hfz:∀b c,w0.fz b c->σ.fz b c) (hz:Zp E fn st r):Fin P fn B w0 r a w:=by
 obtain⟨r0,r1,hr,hf,rfl⟩:=hz
 obtain⟨u,hu,hur⟩:=Zc2 (P:=P) hE hP h.inv h.slots hr
 obtain⟨hI,hEx⟩:=h.inv.freeze (ZHc r0)
 have hr2:=Zlk h.inv hur hf (ZHc r0) (fun i hi=>hi)
 have hn:=ZiA h.inv hur hf
 refine⟨h.calm,u,(σ.freeze st.H (ZHc r0)).fz,hu,hI.below,fun b c hh=>(hEx.fz b c (hfz b c hh)).1,fun b c hh hlt=>hI.old b c hh hlt,hI.cells,?_,ZgU _ _ hn⟩
 exact Zw.bare (Zt4 _ hr2) (fun b c hh=>⟨hh,rfl⟩) (Z9v.refl _) (by simp [ZB,ZgU _ _ hn])
theorem ZKx (hE:Z0A E) (hP:E.P=P) {fa:List (List Fk)} {fb:List Bf} {k:Nat} {σ0:Sg} {ws:World} (h0:∀id L,σ0.box id=some L->id<k) {σ:Sg} {st:St} {a:Act} {w:World} {r:V×Heap} (h:Rel E B w0 σ st a w) (hx:ZHb k σ0 ws σ w)
  (hz:Zh E fn fa fb k st r):FinH P fn B w0 σ0 ws r a w:=by
 obtain⟨r0,hr,he⟩:=hz
 obtain⟨u,hu,hur⟩:=Zc2 (P:=P) hE hP h.inv h.slots hr
 have key:∀{args as:List V} {vs:List Value} {ids:List Nat} {H2:Heap},Zw σ w args vs->pack fa fb k args st.H=some (ids,as,H2)->ids.take k=List.range k ->
   ∃σ',Inv B w0 σ' (Zsy H2 ids) w/\Ext σ0 ws σ' w/\Zw σ' w (Z6s (ids.idxOf ·) as) vs:=by
  intro args as vs ids H2 hra hp hk
  obtain⟨hs,hm,_,σ1,hI1,hE1,hr1⟩:=Zy8 h.inv hra hp
  have hsub:=ZFR hI1 hs w0 hI1.below hI1.old (fun b hb=>by
   obtain⟨k1,k2,k3,k4⟩:=hI1.kept b hb
   exact⟨k1,k2,fun id _ L hL=>k3 id L hL,k4⟩)
  refine⟨_,hsub,?_,Zgu hr1 hm⟩
  have:=(hx.trans hE1).ren hk
  exact⟨fun id L hL=>this.box id L (h0 id L hL) hL,this.fz,this.mp⟩
 refine⟨h.calm,u,?_⟩
 unfold ZHo at he
 split at he
 ·rename_i vs
  split at he
  ·rename_i ids as H2 hp
   split at he
   ·rename_i hk
    simp only [Option.some.injEq] at he
    subst he
    cases hur with
    | tup h1 _=>
     obtain⟨σ',i1,i2,i3⟩:=key h1 hp hk
     exact⟨σ',hu,i1,i2,.tup i3 .nil⟩
   ·cases he
  ·cases he
 ·split at he
  ·rename_i ids x H2 hp
   split at he
   ·rename_i hk
    simp only [Option.some.injEq] at he
    subst he
    obtain⟨σ',i1,i2,i3⟩:=key hur hp hk
    exact⟨σ',hu,i1,i2,i3⟩
   ·cases he
  ·cases he
theorem ZGb (hE:Z0A E) (hP:E.P=P) (hcall:Z64 P E B w0 call) (hpure:Z7L E call) {k:Nat} {Z:St->V×Heap->Prop} {F:V×Heap->Act->World->Prop} {σ0:Sg} {ws:World}
  (hZ:∀st r σ a w,Z st r->Rel E B w0 σ st a w->ZHb k σ0 ws σ w->F r a w) {ctl:Ctl} {K:List Fr} {st:St} {r:V×Heap} (h:Z0S call E f fn k Z ctl K st r) :
  Zmq E f ctl=true->Zkn E f K=true->∀(σ:Sg) (a:Act) (w:World),Rel E B w0 σ st a w->ZHb k σ0 ws σ w->ZJW P (F r) K a w ctl:=by
 induction h with
 | skip h ih=>intro hc hk σ a w hr hf;exact wp_skip (ih rfl hk σ a w hr hf)
 | region hs h ih=>
  intro hc hk σ a w hr hf
  exact wp_region (ZE7 hE hP hcall _ _ σ a w hr hs (fun a' w' σ' hr' he' =>ih rfl hk σ' a' w' hr' (hf.trans he')))
 | draw hcalm hs h ih=>
  intro hc hk σ a w hr hf
  refine ZEJ hE hP (by rw [<- hP];exact hE.mix) hcall hpure ?_ hr hs (fun a' w' σ' hr' he' =>ih rfl hk σ' a' w' hr' (hf.trans he'))
  simpa [Zmq,Z36,hcalm] using hc
 | seq h ih=>
  intro hc hk σ a w hr hf
  simp only [Zmq,Z36,Bool.and_eq_true] at hc
  exact wp_seq (ih hc.1 (by simp [Zkn,hc.2,hk]) σ a w hr hf)
 | cond ht h ih=>
  rename_i c x y t K st r
  intro hc hk σ a w hr hf
  simp only [Zmq,Z36,Bool.and_eq_true] at hc
  have hv:=Z0m (a:=a) hr.Z9Y hr.slots c
  rw [ht] at hv
  have hb:a.eval c = .bool t:=by generalize a.eval c=v at hv;cases hv;rfl
  refine wp_cond hb ?_
  refine ih ?_ hk σ a w hr hf
  cases t
  ·exact hc.2
  ·exact hc.1
 | block h ih=>
  intro hc hk σ a w hr hf
  exact wp_block (ih hc hk σ a w hr hf)
 | loop h ih=>
  intro hc hk σ a w hr hf
  simp only [Zmq,Z36] at hc
  exact(LoopIn.of (ih hc (by simp [Zkn,hc,hk]) σ a w hr hf)).wp
 | scope h ih=>
  intro hc hk σ a w hr hf
  have h1:=ih hc hk σ a w hr hf
  refine wp_scope_straight (wp_mono h1 fun e a' w' hq=>?_)
  cases e with
  | goto l=>exact(Zqp _ hq).elim
  | _=>exact hq
 | label h ih=>intro hc hk σ a w hr hf;exact wp_label (ih rfl hk σ a w hr hf)
 | exit h ih=>intro hc hk σ a w hr hf;exact wp_exit (ih rfl hk σ a w hr hf)
 | ret h ih=>intro hc hk σ a w hr hf;exact wp_ret (ih rfl hk σ a w hr hf)
 | nseq h ih=>
  intro hc hk σ a w hr hf
  simp only [Zkn,Bool.and_eq_true] at hk
  exact ih hk.1 hk.2 σ a w hr hf
 | nblk h ih=>intro hc hk σ a w hr hf;exact ih rfl hk σ a w hr hf
 | ZLJ h ih=>
  intro hc hk σ a w hr hf
  have hk' :=hk
  simp only [Zkn,Bool.and_eq_true] at hk'
  exact LoopIn.of (ih hk'.1 hk σ a w hr hf)
 | eseq h ih=>
  intro hc hk σ a w hr hf
  simp only [Zkn,Bool.and_eq_true] at hk
  exact ih rfl hk.2 σ a w hr hf
 | ZLx h ih=>
  intro hc hk σ a w hr hf
  simp only [Zkn,Bool.and_eq_true] at hk
  exact ih rfl hk.2 σ a w hr hf
 | eblk h ih=>
  intro hc hk σ a w hr hf
  have:=ih rfl hk σ a w hr hf
  simp only [ZJW,QK,Exit.inBlock,if_true]
  exact this
 | ZL2 hne h ih=>
  intro hc hk σ a w hr hf
  have:=ih rfl hk σ a w hr hf
  simp only [ZJW,QK,Exit.inBlock,hne,if_false]
  exact this
 | rany h ih=>
  rename_i x K st r
  intro hc hk σ a w hr hf
  have:Zkn E f K=true:=by cases x<;>simp_all [Zkn]
  have:=ih rfl this σ a w hr hf
  cases x<;>exact this
 | finN hz=>intro hc hk σ a w hr hf;exact hZ _ _ σ a w hz hr hf
 | finR hz=>intro hc hk σ a w hr hf;exact hZ _ _ σ a w hz hr hf
 | tidy ht h ih=>intro hc hk σ a w hr hf;exact ih hc hk _ a w (ZJH ht hr) (hf.ren ht.pre)
 | ZLY hp hpre h ih=>
  intro hc hk σ a w hr hf
  obtain⟨σ1,h1,h2⟩:=ZHy hp hr
  exact ih hc hk _ a w h2 ((hf.trans h1).ren hpre)
end
end Go.Proofs.YtjodhcdmhobmoaaGreatDoor.Le
namespace Go.Proofs.YtjodhcdmhobmoaaGreatDoor.Le
open Go.RowKit (Below)
section
variable {U:Z3Q}
def Zpg:List Bool->Bool
 | []=>true
 | [b]=>b
 | b::bs=>b&&Zpg bs
theorem Zp9:∀{l:List Bool},Zpg l=true->∀b∈l,b=true:=by
 intro l
 induction l with
 | nil=>intro _ b hb;simp at hb
 | cons x xs ih=>
  intro h b hb
  cases xs with
  | nil=>simp only [Zpg] at h;simp only [List.mem_singleton] at hb;rw [hb];exact h
  | cons y ys=>
   simp only [Zpg,Bool.and_eq_true] at h
   rcases List.mem_cons.1 hb with hb|hb
   ·rw [hb];exact h.1
   ·exact ih h.2 b hb
def resT (E:Env) (H:ZF U) (s:List (SV U.Ty)):ResultVar->Tr U (SV U.Ty)
 | .tmp t=>.leaf (s.getD t .und)
 | .cell a t=>loadT E H t (s.getD a .und)
def ZBs (E:Env) (H:ZF U) (s:List (SV U.Ty)):List ResultVar->Tr U (List (SV U.Ty))
 | []=>.leaf []
 | r::rs=>(resT E H s r).andThen fun v=>(ZBs E H s rs).andThen fun vs=>.leaf (v::vs)
def Zl7:List Nat->List (SV U.Ty)->Option (List (SV U.Ty))
 | [],[]=>some []
 | t::ts,w::ws=>match U.Zsr t w,Zl7 ts ws with|some a,some r=>some (U.encS t a::r)|_,_=>none
 | _,_=>none
def ZJJ (E:Env) (fn:Func) (st:SSt U):Tr U (SV U.Ty):=
 (ZBs E st.H st.s fn.results.toList).andThen fun vs=>
  match vs,fn.resultTypes.toList with
  | [v],[t]=>(ZJ5 st.H v).andThen fun w=>(match U.Zsr t w with|some a=>.leaf (U.encS t a)|none=>.fail)
  | vs,ts=>.when (vs.length≠1) ((Z9e st.H vs).andThen fun ws=>(match Zl7 ts ws with|some es=>.leaf (.tup es)|none=>.fail))
theorem ZAF {E:Env} (hU:Z0l U E) {st:SSt U}:∀{rs:List ResultVar} {vs:List (SV U.Ty)},(ZBs E st.H st.s rs).Zz vs->rs.mapM (resD E (Z2L U st).H (Z2L U st).s)=some (ZU U vs):=by
 intro rs
 induction rs with
 | nil=>intro vs h;simp only [ZBs,Tr.Zz] at h;subst h;rfl
 | cons r rs ih=>
  intro vs h
  simp only [ZBs,ZA,Tr.Zz] at h
  obtain⟨v,h1,ws,h2,rfl⟩:=h
  have hr:resD E (Z2L U st).H (Z2L U st).s r=some (toV U v):=by
   cases r with
   | tmp t=>
    simp only [resT,Tr.Zz] at h1
    subst h1
    exact congrArg some (ZaD st.s t)
   | cell a t=>
    simp only [resD]
    rw [show (Z2L U st).s.getD a .und=toV U (st.s.getD a .und) from ZaD st.s a]
    exact ZAl hU h1
  rw [List.mapM_cons,hr,ih h2]
  rfl
theorem ZET {E:Env} (hU:Z0l U E):∀{ts:List Nat} {ws es:List (SV U.Ty)},Zl7 ts ws=some es->Z4m (ts.map E.rows) (ZU U ws)=ZU U es:=by
 intro ts
 induction ts with
 | nil=>
  intro ws es h
  cases ws with
  | nil=>simp only [Zl7,Option.some.injEq] at h;subst h;rfl
  | cons=>simp [Zl7] at h
 | cons t ts ih=>
  intro ws es h
  cases ws with
  | nil=>simp [Zl7] at h
  | cons w ws=>
   simp only [Zl7] at h
   split at h
   ·rename_i a r h1 h2
    simp only [Option.some.injEq] at h
    subst h
    simp only [List.map_cons,ZU,Z4m,hU.dec _ _ _ h1,hU.encS,ih h2]
   ·cases h
theorem ZK9 {H:Heap} {x y:V} (h:frz H x=some y):∀vs,y≠.tup vs:=by
 intro vs hy
 subst hy
 unfold frz at h
 split at h
 ·rename_i cs
  cases hl:Zwn H cs<;>simp [hl] at h
 ·unfold ZpL at h
  split at h<;>(try (cases h;done))<;>(try (split at h<;>(try (split at h))<;>cases h))
theorem ZIx {E:Env} (hU:Z0l U E) {fn:Func} {st:SSt U} {v:SV U.Ty} (h:(ZJJ E fn st).Zz v) :
  ∃r0 r1,Z2K E (Z2L U st).H (Z2L U st).s fn.results.toList=some r0/\Zzx (Z2L U st).H r0=some r1/\Zaz (fn.resultTypes.toList.map E.rows) r1=toV U v:=by
 unfold ZJJ at h
 simp only [ZA] at h
 obtain⟨vs,h1,h⟩:=h
 have hm:=ZAF hU h1
 split at h
 ·rename_i v0 t hts
  simp only [ZA] at h
  obtain⟨w,h2,h⟩:=h
  split at h
  ·rename_i a ha
   simp only [Tr.Zz] at h
   subst h
   have hf:frz (Z2L U st).H (toV U v0)=some (toV U w):=Zsb h2
   refine⟨toV U v0,toV U w,by simp only [Z2K,hm,ZU],?_,?_⟩
   ·unfold Zzx
    split
    ·rename_i us hus
     rw [hus] at hf
     simp [frz,ZpL] at hf
    ·exact hf
   ·rw [hts]
    unfold Zaz
    split
    ·rename_i us hus
     exact absurd hus (ZK9 hf us)
    ·simp only [List.map_cons,List.headD_cons,hU.dec _ _ _ ha,hU.encS]
  ·simp [Tr.Zz] at h
 ·rename_i va vs ts hneg
  simp only [ZY,ZA] at h
  obtain⟨hl,ws,h2,h⟩:=h
  split at h
  ·rename_i es hes
   simp only [Tr.Zz] at h
   subst h
   refine⟨.tup (ZU U va),.tup (ZU U ws),?_,?_,?_⟩
   ·simp only [Z2K,hm]
    split
    ·rename_i x hx
     simp only [Option.some.injEq] at hx
     exfalso
     apply hl
     have:=congrArg List.length hx
     rw [Z0o] at this
     simpa using this
    ·rename_i hx
     simp only [Option.some.injEq] at hx
     rw [<- hx]
    ·rename_i hx;cases hx
   ·simp only [Zzx,Z2L,Zio h2,Option.map_some]
   ·simp only [Zaz,ZET hU hes,toV]
  ·simp [Tr.Zz] at h
def ZHP (E:Env) (fn:Func) (st:SSt U):Tr U (SV U.Ty×ZF U):=(ZJJ E fn st).andThen fun v=>.leaf (v,[])
def ZJA (E:Env) (fn:Func) (fa:List (List Fk)) (fb:List Bf) (k:Nat) (st:SSt U):Tr U (SV U.Ty×ZF U):=
 (ZBs E st.H st.s fn.results.toList).andThen fun vs=>
  match vs with
  | [.tup _]=>.fail
  | [.raw _]=>.fail
  | [v]=>(ZCJ fa fb k [v] st.H).andThen fun r=>(match r.2.1 with
   | [a]=>.when (r.1.take k=List.range k) (.leaf (Z4W (r.1.idxOf ·) a,ZCw r.2.2 r.1))
   | _=>.fail)
  | vs=>.when (vs.length≠1) ((ZCJ fa fb k vs st.H).andThen fun r=>.when (r.1.take k=List.range k) (.leaf (.tup (ZaN (r.1.idxOf ·) r.2.1),ZCw r.2.2 r.1)))
theorem ZHS {E:Env} (hU:Z0l U E) {fn:Func} {st:SSt U} {r:SV U.Ty×ZF U} (h:(ZHP E fn st).Zz r):Zp E fn (Z2L U st) (toV U r.1,toH U r.2):=by
 simp only [ZHP,ZA,Tr.Zz] at h
 obtain⟨v,h1,rfl⟩:=h
 obtain⟨r0,r1,e1,e2,e3⟩:=ZIx hU h1
 exact⟨r0,r1,e1,e2,by rw [e3];rfl⟩
theorem ZHe {E:Env} (hU:Z0l U E) {fn:Func} {fa:List (List Fk)} {fb:List Bf} {k:Nat} {st:SSt U} {r:SV U.Ty×ZF U} (h:(ZJA E fn fa fb k st).Zz r):Zh E fn fa fb k (Z2L U st) (toV U r.1,toH U r.2):=by
 simp only [ZJA,ZA] at h
 obtain⟨vs,h1,h⟩:=h
 have hm:=ZAF hU h1
 split at h
 ·simp [Tr.Zz] at h
 ·simp [Tr.Zz] at h
 ·rename_i v hn1 hn2
  simp only [ZA] at h
  obtain⟨p,hp,h⟩:=h
  split at h
  ·rename_i a ha
   simp only [ZY,Tr.Zz] at h
   obtain⟨hk,rfl⟩:=h
   have hp' :=ZkO hp
   rw [ha] at hp'
   refine⟨toV U v,by simp only [Z2K,hm,ZU],?_⟩
   have hnt:∀cs,toV U v≠.tup cs:=by
    intro cs hcs
    cases v with
    | tup vs=>exact hn1 vs rfl
    | raw x=>exact hn2 x rfl
    | _=>simp [toV] at hcs
   unfold ZHo
   split
   ·rename_i cs hcs;exact absurd hcs (hnt cs)
   ·simp only [ZU] at hp'
    simp only [Z2L,hp']
    rw [if_pos hk,ZkS,Zf1]
  ·simp [Tr.Zz] at h
 ·rename_i hneg
  simp only [ZY,ZA,Tr.Zz] at h
  obtain⟨hl,p,hp,hk,rfl⟩:=h
  have hp' :=ZkO hp
  refine⟨.tup (ZU U vs),?_,?_⟩
  ·simp only [Z2K,hm]
   split
   ·rename_i x hx
    simp only [Option.some.injEq] at hx
    exfalso
    apply hl
    have:=congrArg List.length hx
    rw [Z0o] at this
    simpa using this
   ·rename_i hx
    simp only [Option.some.injEq] at hx
    rw [<- hx]
   ·rename_i hx;cases hx
  ·simp only [ZHo,Z2L,hp']
   rw [if_pos hk,Zf1]
   simp only [toV,Z3C]
inductive ZKC (U:Z3Q) where
 | done (v:SV U.Ty×ZF U)
 | jump (c:Code) (K:List Fr) (st:SSt U)
def ZIn (call:Z1f) (E:Env) (f:FuncId) (fn:Func) (kk:Nat) (Z:St->V×Heap->Prop):ZKC U->V×Heap->Prop
 | .done s,v=>v=(toV U s.1,toH U s.2)
 | .jump c K st,v=>Z0S call E f fn kk Z (.run c) K (Z2L U st) v
end
end Go.Proofs.YtjodhcdmhobmoaaGreatDoor.Le
namespace Go.Proofs.YtjodhcdmhobmoaaGreatDoor.Le
inductive Pc where
 | v (t n:Nat) (agg:Bool)
 | own (e j:Nat)
 | ptr (j:Nat)
 | fn (f:FuncId) (a b:List Nat)
 | no
 | nul (ptr:Bool)
inductive Sp where
 | one (c:Pc)
 | agg (cs:List Pc)
inductive Pb where
 | var (e m:Nat) (p:Sp)
 | row (t:Nat) (fresh:Bool)
structure Shape where
 args:List Sp
 boxes:List Pb
abbrev Sp.cells:Sp->List Pc
 | .one c=>[c]
 | .agg cs=>cs
section
variable (U:Z3Q)
@[reducible] def PX:List Pc->Type
 | []=>Unit
 | .v t _ _::ps=>U.Ty t×PX ps
 | _::ps=>PX ps
@[reducible] def AX:List Sp->Type
 | []=>Unit
 | p::ps=>PX U p.cells×AX ps
@[reducible] def BX:List Pb->Type
 | []=>Unit
 | .var _ _ p::bs=>PX U p.cells×BX bs
 | .row t _::bs=>List (U.Ty t)×BX bs
@[reducible] def Shape.X (s:Shape):Type:=AX U s.args×BX U s.boxes
variable {U}
def Zcf:(bs:List Pb)->BX U bs->List Nat
 | [],_=>[]
 | .var _ _ _::bs,x=>1::Zcf bs x.2
 | .row _ _::bs,x=>x.1.length::Zcf bs x.2
def ZKV (j:Nat):SV U.Ty:=.ptr j 0 0 1
def nulS:Bool->SV U.Ty
 | true=>.lit (.pointer none)
 | false=>.lit .nilFunc
def ZJB:Bool->SV U.Ty->Bool
 | true,.lit (.pointer none)=>true
 | false,.lit .nilFunc=>true
 | _,_=>false
theorem ZHg {b:Bool} {c:SV U.Ty} (h:ZJB b c=true):c=nulS b:=by
 unfold ZJB at h
 split at h<;>first|rfl|cases h
def Z9d (ls:List Nat):(ps:List Pc)->PX U ps->List (SV U.Ty)
 | [],_=>[]
 | .v t _ _::ps,x=>cellsS (U.encS t x.1)++Z9d ls ps x.2
 | .own _ j::ps,x=>.all j (ls.getD j 0)::Z9d ls ps x
 | .ptr j::ps,x=>ZKV j::Z9d ls ps x
 | .fn f a b::ps,x=>.fn f (a.map ZKV) (b.map ZKV)::Z9d ls ps x
 | .no::ps,x=>.no::Z9d ls ps x
 | .nul b::ps,x=>nulS b::Z9d ls ps x
def Z9P (ls:List Nat):(p:Sp)->PX U p.cells->SV U.Ty
 | .one c,x=>(Z9d ls [c] x).headD .und
 | .agg cs,x=>.agg (Z9d ls cs x)
def ZzS (ls:List Nat):(ps:List Sp)->AX U ps->List (SV U.Ty)
 | [],_=>[]
 | p::ps,x=>Z9P ls p x.1::ZzS ls ps x.2
def Zs6 (ls:List Nat):(bs:List Pb)->BX U bs->ZF U
 | [],_=>[]
 | .var e m p::bs,x=>.var e m (Z9P ls p x.1)::Zs6 ls bs x.2
 | .row t fresh::bs,x=>.row t x.1 (if fresh then none else some x.1.length)::Zs6 ls bs x.2
def Shape.enc (s:Shape) (x:s.X U):List (SV U.Ty)×ZF U:=(ZzS (Zcf s.boxes x.2) s.args x.1,Zs6 (Zcf s.boxes x.2) s.boxes x.2)
def Zh9:SV U.Ty->Bool
 | .nil _ | .raw _ | .agg _ | .tup _ | .mps _=>false
 | _=>true
def ZlV:List Nat->List (SV U.Ty)->Bool
 | [],[]=>true
 | j::js,.ptr i a b c::xs=>decide (i=j/\a=0/\b=0/\c=1)&&ZlV js xs
 | _,_=>false
def ZCT (H:ZF U):List Nat:=H.map fun b=>match b with | .row _ xs _=>xs.length|_=>1
def ZkT (ls:List Nat):(ps:List Pc)->List (SV U.Ty)->Option (PX U ps×List Bool)
 | [],cs=>if cs.isEmpty then some ((),[]) else none
 | .v t n true::ps,cs=>if (cs.take n).length=n/\(cs.take n).all Zh9=true then
   (match U.Zsr t (.agg (cs.take n)),ZkT ls ps (cs.drop n) with
    | some a,some r=>some ((a,r.1),r.2)
    | _,_=>none) else none
 | .v t _ false::ps,c::cs=>if Zh9 c then
   (match U.Zsr t c,ZkT ls ps cs with
    | some a,some r=>some ((a,r.1),r.2)
    | _,_=>none) else none
 | .own _ j::ps,.all i n::cs=>if i=j then (ZkT ls ps cs).map fun r=>(r.1,(ls.getD j 0==n)::r.2) else none
 | .ptr j::ps,.ptr i a b c::cs=>if i=j/\a=0/\b=0/\c=1 then ZkT ls ps cs else none
 | .fn f a b::ps,.fn g a' b' :: cs=>if g=f/\ZlV a a' = true/\ZlV b b' = true then ZkT ls ps cs else none
 | .no::ps,.no::cs=>ZkT ls ps cs
 | .nul b::ps,c::cs=>if ZJB b c=true then ZkT ls ps cs else none
 | _::_,_=>none
def ZIe (ls:List Nat):(p:Sp)->SV U.Ty->Option (PX U p.cells×List Bool)
 | .one c,x=>ZkT ls [c] [x]
 | .agg cs,.agg xs=>ZkT ls cs xs
 | _,_=>none
def ZKB (ls:List Nat):(ps:List Sp)->List (SV U.Ty)->Option (AX U ps×List Bool)
 | [],[]=>some ((),[])
 | p::ps,x::xs=>(match ZIe ls p x,ZKB ls ps xs with
  | some a,some r=>some ((a.1,r.1),a.2++r.2)
  | _,_=>none)
 | _,_=>none
def ZII (ls:List Nat):(bs:List Pb)->ZF U->Option (BX U bs×List Bool)
 | [],[]=>some ((),[])
 | .var e m p::bs,.var e' m' x::H=>if e' = e/\m' = m then
   (match ZIe ls p x,ZII ls bs H with
    | some a,some r=>some ((a.1,r.1),a.2++r.2)
    | _,_=>none) else none
 | .row t fresh::bs,.row t' xs fl::H=>if h:t' = t then
   (match fresh,fl,ZII ls bs H with
    | true,none,some r=>some ((h▸xs,r.1),r.2)
    | false,some n,some r=>some ((h▸xs,r.1),(n==xs.length)::r.2)
    | _,_,_=>none) else none
 | _,_=>none
def Shape.dec (s:Shape) (as:List (SV U.Ty)) (H:ZF U):Option (s.X U×List Bool):=
 match ZKB (ZCT H) s.args as,ZII (ZCT H) s.boxes H with
 | some a,some b=>some ((a.1,b.1),a.2++b.2)
 | _,_=>none
theorem Zhl {x:SV U.Ty} (h:Zh9 x=true) (e:Nat):Z1p e (toV U x)=toV U x:=by
 cases x<;>simp_all [Zh9,toV,Z1p]
theorem Zu5 {x:SV U.Ty} (h:Zh9 x=true):(toV U x).cells=[toV U x]:=by
 cases x<;>first|rfl|(simp [Zh9] at h)
theorem ZDg {x:SV U.Ty} (h:Zh9 x=true):∀cs,toV U x≠.agg cs:=by
 intro cs hc
 cases x<;>first|(cases hc;done)|(simp [Zh9] at h)
theorem Zvx:∀{xs:List (SV U.Ty)},xs.all Zh9=true->∀es,Z1a es (ZU U xs)=ZU U xs:=by
 intro xs
 induction xs with
 | nil=>intro _ es;cases es<;>rfl
 | cons x xs ih=>
  intro h es
  simp only [List.all_cons,Bool.and_eq_true] at h
  cases es with
  | nil=>rfl
  | cons e es=>simp only [ZU,Z1a,Zhl h.1,ih h.2]
theorem Z2B (xs ys:List (SV U.Ty)):ZU U (xs++ys)=ZU U xs++ZU U ys:=by simp [Z0x]
theorem ZvC:∀{js:List Nat} {xs:List (SV U.Ty)},ZlV js xs=true->xs=js.map ZKV:=by
 intro js
 induction js with
 | nil=>intro xs h;cases xs with
  | nil=>rfl
  | cons=>simp [ZlV] at h
 | cons j js ih=>
  intro xs h
  cases xs with
  | nil=>simp [ZlV] at h
  | cons x xs=>
   cases x<;>simp [ZlV] at h
   obtain⟨⟨rfl,rfl,rfl,rfl⟩,h2⟩:=h
   rw [ih h2]
   rfl
theorem ZGB {E:Env} (hU:Z0l U E) (ls:List Nat):∀(ps:List Pc) {cs:List (SV U.Ty)} {r:PX U ps×List Bool},ZkT ls ps cs=some r->(∀b∈r.2,b=true)->ZU U cs=ZU U (Z9d ls ps r.1):=by
 intro ps
 induction ps with
 | nil=>
  intro cs r h _
  simp only [ZkT] at h
  split at h
  ·rename_i hc;cases cs with
   | nil=>rfl
   | cons=>simp at hc
  ·cases h
 | cons p ps ih=>
  intro cs r h hb
  cases p with
  | v t n ag=>
   cases ag with
   | true=>
    simp only [ZkT] at h
    split at h
    ·rename_i hc
     split at h
     ·rename_i a r' h1 h2
      simp only [Option.some.injEq] at h
      subst h
      have e:=hU.dec t _ a h1
      simp only [toV,Z0E] at e
      rw [Zvx hc.2] at e
      have ec:=hU.cells t a
      rw [<- e] at ec
      simp only [V.cells] at ec
      simp only [Z9d,Z2B,<- ec,<- ih h2 hb]
      rw [<- Z2B,List.take_append_drop]
     ·cases h
    ·cases h
   | false=>
    cases cs with
    | nil=>simp [ZkT] at h
    | cons c cs=>
     simp only [ZkT] at h
     split at h
     ·rename_i hc
      split at h
      ·rename_i a r' h1 h2
       simp only [Option.some.injEq] at h
       subst h
       have e:=hU.dec t _ a h1
       have hr:∀es,Z0E es (toV U c)=toV U c:=by
        intro es
        unfold Z0E
        split
        ·rename_i cs' hcs
         exact absurd hcs (ZDg hc cs')
        ·exact Zhl hc _
       rw [hr] at e
       have ec:=hU.cells t a
       rw [<- e] at ec
       rw [Zu5 hc] at ec
       simp only [Z9d,Z2B,<- ec,<- ih h2 hb]
       rfl
      ·cases h
     ·cases h
  | own e j=>
   cases cs with
   | nil=>simp [ZkT] at h
   | cons c cs=>
    cases c<;>simp only [ZkT] at h<;>try (cases h;done)
    split at h
    ·rename_i hij
     subst hij
     simp only [Option.map_eq_some_iff] at h
     obtain⟨r',h2,rfl⟩:=h
     have hn:=hb _ (List.mem_cons_self ..)
     simp only [beq_iff_eq] at hn
     simp only [Z9d,ZU,toV,hn,ih h2 (fun b hh=>hb b (by simp [hh]))]
    ·cases h
  | ptr j=>
   cases cs with
   | nil=>simp [ZkT] at h
   | cons c cs=>
    cases c<;>simp only [ZkT] at h<;>try (cases h;done)
    split at h
    ·rename_i hij
     obtain⟨rfl,rfl,rfl,rfl⟩:=hij
     simp only [Z9d,ZU,ZKV,ih h hb]
    ·cases h
  | fn f a b=>
   cases cs with
   | nil=>simp [ZkT] at h
   | cons c cs=>
    cases c<;>simp only [ZkT] at h<;>try (cases h;done)
    split at h
    ·rename_i hij
     obtain⟨rfl,h1,h2⟩:=hij
     rw [ZvC h1,ZvC h2]
     simp only [Z9d,ZU,ih h hb]
    ·cases h
  | no=>
   cases cs with
   | nil=>simp [ZkT] at h
   | cons c cs=>
    cases c<;>simp only [ZkT] at h<;>try (cases h;done)
    simp only [Z9d,ZU,ih h hb]
  | nul b=>
   cases cs with
   | nil=>simp [ZkT] at h
   | cons c cs=>
    simp only [ZkT] at h
    split at h
    ·rename_i hn
     rw [ZHg hn]
     simp only [Z9d,ZU,ih h hb]
    ·cases h
theorem ZAn {E:Env} (hU:Z0l U E) (ls:List Nat) {p:Sp} {x:SV U.Ty} {r:PX U p.cells×List Bool} (h:ZIe ls p x=some r) (hb:∀b∈r.2,b=true):toV U x=toV U (Z9P ls p r.1):=by
 cases p with
 | one c=>
  have:=ZGB hU ls [c] h hb
  simp only [ZU] at this
  cases hp:Z9d ls [c] r.1 with
  | nil=>rw [hp] at this;cases this
  | cons y ys=>
   rw [hp] at this
   simp only [ZU,List.cons.injEq] at this
   simp only [Z9P]
   rw [hp]
   exact this.1
 | agg cs=>
  cases x<;>simp only [ZIe] at h<;>try (cases h;done)
  have:=ZGB hU ls cs h hb
  simp only [Z9P,toV,this]
theorem ZJS {E:Env} (hU:Z0l U E) (ls:List Nat):∀(ps:List Sp) {cs:List (SV U.Ty)} {r:AX U ps×List Bool},ZKB ls ps cs=some r->(∀b∈r.2,b=true)->ZU U cs=ZU U (ZzS ls ps r.1):=by
 intro ps
 induction ps with
 | nil=>
  intro cs r h _
  cases cs with
  | nil=>rfl
  | cons=>simp [ZKB] at h
 | cons p ps ih=>
  intro cs r h hb
  cases cs with
  | nil=>simp [ZKB] at h
  | cons c cs=>
   simp only [ZKB] at h
   split at h
   ·rename_i a r' h1 h2
    simp only [Option.some.injEq] at h
    subst h
    simp only [ZzS,ZU,ZAn hU ls h1 (fun b hh=>hb b (by simp [hh])),ih h2 (fun b hh=>hb b (by simp [hh]))]
   ·cases h
theorem ZKz {E:Env} (hU:Z0l U E) (ls:List Nat):∀(bs:List Pb) {H:ZF U} {r:BX U bs×List Bool},ZII ls bs H=some r->(∀b∈r.2,b=true)->toH U H=toH U (Zs6 ls bs r.1)/\Zcf bs r.1=ZCT H:=by
 intro bs
 induction bs with
 | nil=>
  intro H r h _
  cases H with
  | nil=>exact⟨rfl,rfl⟩
  | cons=>simp [ZII] at h
 | cons b bs ih=>
  intro H r h hb
  cases H with
  | nil=>cases b<;>simp [ZII] at h
  | cons x H=>
   cases b with
   | var e m p=>
    cases x<;>simp only [ZII] at h<;>try (cases h;done)
    split at h
    ·rename_i he
     obtain⟨rfl,rfl⟩:=he
     split at h
     ·rename_i a r' h1 h2
      simp only [Option.some.injEq] at h
      subst h
      obtain⟨e1,e2⟩:=ih h2 (fun b hh=>hb b (by simp [hh]))
      have e3:=ZAn hU ls h1 (fun b hh=>hb b (by simp [hh]))
      refine⟨?_,?_⟩
      ·simp only [toH,Zs6,List.map_cons,Z0w,e3]
       exact congrArg _ e1
      ·simp only [Zcf,ZCT,List.map_cons,e2]
     ·cases h
    ·cases h
   | row t fresh=>
    cases x<;>simp only [ZII] at h<;>try (cases h;done)
    rename_i t' xs fl
    split at h
    ·rename_i ht
     subst ht
     split at h
     ·rename_i r' h2
      simp only [Option.some.injEq] at h
      subst h
      obtain⟨e1,e2⟩:=ih h2 hb
      refine⟨?_,?_⟩
      ·simp only [toH,Zs6,List.map_cons,if_true]
       exact congrArg _ e1
      ·simp only [Zcf,ZCT,List.map_cons,e2]
     ·rename_i n r' h2
      simp only [Option.some.injEq] at h
      subst h
      obtain⟨e1,e2⟩:=ih h2 (fun b hh=>hb b (by simp [hh]))
      have hn:=hb _ (List.mem_cons_self ..)
      simp only [beq_iff_eq] at hn
      refine⟨?_,?_⟩
      ·simp only [toH,Zs6,List.map_cons,Bool.false_eq_true,if_false,Z0w,hn]
       exact congrArg _ e1
      ·simp only [Zcf,ZCT,List.map_cons,e2]
     ·cases h
    ·cases h
theorem Shape.ZAs {E:Env} (hU:Z0l U E) {s:Shape} {as:List (SV U.Ty)} {H:ZF U} {r:s.X U×List Bool} (h:s.dec as H=some r) (hb:∀b∈r.2,b=true):ZU U as=ZU U (s.enc r.1).1/\toH U H=toH U (s.enc r.1).2:=by
 unfold Shape.dec at h
 split at h
 ·rename_i a b h1 h2
  simp only [Option.some.injEq] at h
  subst h
  obtain⟨e1,e2⟩:=ZKz hU _ _ h2 (fun b hh=>hb b (by simp [hh]))
  have e3:=ZJS hU _ _ h1 (fun b hh=>hb b (by simp [hh]))
  simp only [Shape.enc,e2]
  exact⟨e3,e1⟩
 ·cases h
variable (U)
def PcOK:Pc->Prop
 | .v t n true=>t∈U.keys/\∀a,∃cs,U.encS t a = .agg cs/\cs.length=n
 | .v t n false=>t∈U.keys/\∀a,cellsS (U.encS t a)=[U.encS t a]
 | _=>True
def PsOK:List Pc->Prop
 | []=>True
 | p::ps=>PcOK U p/\PsOK ps
def SpOK:Sp->Prop
 | .one (.v _ _ true)=>False
 | .one c=>PcOK U c
 | .agg cs=>PsOK U cs
def AsOK:List Sp->Prop
 | []=>True
 | p::ps=>SpOK U p/\AsOK ps
def ZMo:List Pb->Prop
 | []=>True
 | .var _ _ p::bs=>SpOK U p/\ZMo bs
 | .row t _::bs=>t∈U.keys/\ZMo bs
def Shape.OK (s:Shape):Prop:=AsOK U s.args/\ZMo U s.boxes
variable {U}
theorem Zqd {E:Env} (hU:Z0l U E) {ls ls' : List Nat}:∀{ps:List Pc} {x y:PX U ps},PsOK U ps->ZU U (Z9d ls ps x)=ZU U (Z9d ls' ps y)->x=y:=by
 intro ps
 induction ps with
 | nil=>intro x y _ _;rfl
 | cons p ps ih=>
  intro x y hk h
  obtain⟨hp,hk⟩:=hk
  cases p with
  | v t n ag=>
   obtain⟨a,x'⟩:=x
   obtain⟨b,y'⟩:=y
   simp only [Z9d,Z2B] at h
   have key:ZU U (cellsS (U.encS t a))=ZU U (cellsS (U.encS t b))/\ZU U (Z9d ls ps x')=ZU U (Z9d ls' ps y')/\U.enc t a=U.enc t b/\t∈U.keys:=by
    cases ag with
    | true=>
     obtain⟨hm,hl⟩:=hp
     obtain⟨ca,ea,la⟩:=hl a
     obtain⟨cb,eb,lb⟩:=hl b
     have:=List.append_inj h (by rw [Z0o,Z0o,ea,eb];simp only [cellsS,la,lb])
     refine⟨this.1,this.2,?_,hm⟩
     rw [<- hU.encS,<- hU.encS,ea,eb]
     have h1:=this.1
     rw [ea,eb] at h1
     simp only [cellsS] at h1
     simp only [toV,h1]
    | false=>
     obtain⟨hm,hl⟩:=hp
     have:=List.append_inj h (by rw [Z0o,Z0o,hl a,hl b];rfl)
     refine⟨this.1,this.2,?_,hm⟩
     have h1:=this.1
     rw [hl a,hl b] at h1
     simp only [ZU,List.cons.injEq,and_true,hU.encS] at h1
     exact h1
   obtain⟨_,h2,h3,hm⟩:=key
   have ha:=hU.inj t hm a b h3
   subst ha
   rw [ih hk h2]
  | own e j=>
   simp only [Z9d,ZU,List.cons.injEq] at h
   exact ih hk h.2
  | ptr j=>
   simp only [Z9d,ZU,List.cons.injEq] at h
   exact ih hk h.2
  | fn f a b=>
   simp only [Z9d,ZU,List.cons.injEq] at h
   exact ih hk h.2
  | no=>
   simp only [Z9d,ZU,List.cons.injEq] at h
   exact ih hk h.2
  | nul b=>
   simp only [Z9d,ZU,List.cons.injEq] at h
   exact ih hk h.2
theorem ZsS {E:Env} (hU:Z0l U E) {ls ls' : List Nat} {p:Sp} {x y:PX U p.cells} (hk:SpOK U p) (h:toV U (Z9P ls p x)=toV U (Z9P ls' p y)):x=y:=by
 cases p with
 | one c=>
  cases c with
  | v t n ag=>
   cases ag with
   | true=>exact hk.elim
   | false=>
    obtain⟨a,x'⟩:=x
    obtain⟨b,y'⟩:=y
    have hk' : PcOK U (.v t n false):=hk
    refine Zqd hU (ps:=[.v t n false]) ⟨hk',trivial⟩ (ls:=ls) (ls' :=ls') ?_
    simp only [Z9P,Z9d,hk'.2,List.append_nil,List.headD_cons] at h
    simp only [Z9d,hk'.2,List.append_nil,ZU,h]
  | own e j=>exact Zqd hU (ps:=[.own e j]) ⟨trivial,trivial⟩ (ls:=ls) (ls' :=ls') (by simp only [Z9P,Z9d,List.headD_cons] at h;simp only [Z9d,ZU,h])
  | ptr j=>rfl
  | fn f a b=>rfl
  | no=>rfl
  | nul b=>rfl
 | agg cs=>
  simp only [Z9P,toV,V.agg.injEq] at h
  exact Zqd hU hk h
theorem ZHj {E:Env} (hU:Z0l U E) {ls ls' : List Nat}:∀{ps:List Sp} {x y:AX U ps},AsOK U ps->ZU U (ZzS ls ps x)=ZU U (ZzS ls' ps y)->x=y:=by
 intro ps
 induction ps with
 | nil=>intro x y _ _;rfl
 | cons p ps ih=>
  intro x y hk h
  obtain⟨a,x'⟩:=x
  obtain⟨b,y'⟩:=y
  simp only [ZzS,ZU,List.cons.injEq] at h
  rw [ZsS hU hk.1 h.1,ih hk.2 h.2]
theorem Zzp {E:Env} (hU:Z0l U E) {t:Nat} (ht:t∈U.keys):∀{xs ys:List (U.Ty t)},xs.map (U.enc t)=ys.map (U.enc t)->xs=ys:=by
 intro xs
 induction xs with
 | nil=>intro ys h;cases ys with
  | nil=>rfl
  | cons=>cases h
 | cons x xs ih=>
  intro ys h
  cases ys with
  | nil=>cases h
  | cons y ys=>
   simp only [List.map_cons,List.cons.injEq] at h
   rw [hU.inj t ht x y h.1,ih h.2]
theorem ZI8 {E:Env} (hU:Z0l U E) {ls ls' : List Nat}:∀{bs:List Pb} {x y:BX U bs},ZMo U bs->toH U (Zs6 ls bs x)=toH U (Zs6 ls' bs y)->x=y:=by
 intro bs
 induction bs with
 | nil=>intro x y _ _;rfl
 | cons b bs ih=>
  intro x y hk h
  cases b with
  | var e m p=>
   obtain⟨a,x'⟩:=x
   obtain⟨b,y'⟩:=y
   simp only [Zs6,toH,List.map_cons,List.cons.injEq,Z0w,ZN,Box.mk.injEq,true_and,and_true] at h
   rw [ZsS hU hk.1 h.1,ih hk.2 h.2]
  | row t fresh=>
   obtain⟨a,x'⟩:=x
   obtain⟨b,y'⟩:=y
   simp only [Zs6,toH,List.map_cons,List.cons.injEq,Z0w,Box.mk.injEq,true_and] at h
   rw [Zzp hU hk.1 h.1.1,ih hk.2 h.2]
theorem Shape.ZFT {E:Env} (hU:Z0l U E) {s:Shape} (hk:s.OK U) {x y:s.X U} (h1:ZU U (s.enc x).1=ZU U (s.enc y).1) (h2:toH U (s.enc x).2=toH U (s.enc y).2):x=y:=by
 obtain⟨a,b⟩:=x
 obtain⟨a',b'⟩:=y
 have e2:=ZI8 hU hk.2 h2
 simp only at e2
 subst e2
 have e1:=ZHj hU hk.1 h1
 simp only at e1
 rw [e1]
variable (U)
structure HMod where
 fa:List (List Fk)
 fb:List Bf
 sin:Shape
 ZH9:Shape
 one:Bool
 ky:Nat
 toX:U.Ty ky->ZH9.X U
 fn:sin.X U->Option (U.Ty ky)
 ok:sin.OK U
variable {U}
def HMod.out (m:HMod U) (y:U.Ty m.ky):SV U.Ty×ZF U:=((if m.one then (m.ZH9.enc (m.toX y)).1.headD .und else .tup (m.ZH9.enc (m.toX y)).1),(m.ZH9.enc (m.toX y)).2)
open Classical in
noncomputable def HMod.spec (m:HMod U):ZD8 where
 fa:=m.fa
 fb:=m.fb
 run:=fun as H0=>if h:∃x:m.sin.X U,ZU U (m.sin.enc x).1=as/\toH U (m.sin.enc x).2=H0 then (m.fn (Classical.choose h)).map fun y=>(toV U (m.out y).1,toH U (m.out y).2) else none
theorem HMod.ZI9 {E:Env} (hU:Z0l U E) (m:HMod U) (x:m.sin.X U):m.spec.run (ZU U (m.sin.enc x).1) (toH U (m.sin.enc x).2)=(m.fn x).map fun y=>(toV U (m.out y).1,toH U (m.out y).2):=by
 have h:∃y:m.sin.X U,ZU U (m.sin.enc y).1=ZU U (m.sin.enc x).1/\toH U (m.sin.enc y).2=toH U (m.sin.enc x).2:=⟨x,rfl,rfl⟩
 simp only [HMod.spec,dif_pos h]
 rw [Shape.ZFT hU m.ok (Classical.choose_spec h).1 (Classical.choose_spec h).2]
def ZG3 (m:HMod U) (as:List (SV U.Ty)) (H:ZF U):Tr U (SV U.Ty×ZF U):=
 (ZCJ m.fa m.fb 0 as H).andThen fun r=>match m.sin.dec (ZaN (r.1.idxOf ·) r.2.1) (ZCw r.2.2 r.1) with
  | some x=>(match x.2 with
   | []=>.bind m.ky (m.fn x.1) fun y=>.when (r.1.length<=(m.out y).2.length) (.leaf (Z4W (Zdn r.1 r.2.2.length) (m.out y).1,Zfe r.2.2 r.1 (m.out y).2))
   | c::cs=>.chk (Zpg (c::cs)) (.bind m.ky (m.fn x.1) fun y=>.when (r.1.length<=(m.out y).2.length) (.leaf (Z4W (Zdn r.1 r.2.2.length) (m.out y).1,Zfe r.2.2 r.1 (m.out y).2))))
  | none=>.fail
theorem ZEI {E:Env} (hU:Z0l U E) {m:HMod U} {as:List (SV U.Ty)} {H:ZF U} {r:SV U.Ty×ZF U} (h:(ZG3 m as H).Zz r):Zo0 m.spec (ZU U as) (toH U H)=some (toV U r.1,toH U r.2):=by
 simp only [ZG3,ZA] at h
 obtain⟨p,hp,h⟩:=h
 have hp' :=ZkO hp
 split at h
 ·rename_i x hx
  have key:(∀b∈x.2,b=true)/\∃y,m.fn x.1=some y/\p.1.length<=(m.out y).2.length/\r=(Z4W (Zdn p.1 p.2.2.length) (m.out y).1,Zfe p.2.2 p.1 (m.out y).2):=by
   split at h
   ·rename_i hnil
    simp only [Tr.Zz,ZY] at h
    obtain⟨y,h1,h2,h3⟩:=h
    exact⟨by rw [hnil];intro b hb;simp at hb,y,h1,h2,h3.symm⟩
   ·rename_i c cs hcs
    simp only [Tr.Zz,ZY] at h
    obtain⟨hc,y,h1,h2,h3⟩:=h
    exact⟨by rw [hcs];exact Zp9 hc,y,h1,h2,h3.symm⟩
  obtain⟨hb,y,h1,h2,rfl⟩:=key
  obtain⟨e1,e2⟩:=Shape.ZAs hU hx hb
  rw [Z3C] at e1
  rw [Zf1] at e2
  unfold Zo0
  simp only [show m.spec.fa=m.fa from rfl,show m.spec.fb=m.fb from rfl,hp',e1,e2,HMod.ZI9 hU,h1,Option.map_some,Z45]
  rw [if_pos h2,ZkS,ZuW]
 ·simp [Tr.Zz] at h
end
end Go.Proofs.YtjodhcdmhobmoaaGreatDoor.Le
namespace Go.Proofs.YtjodhcdmhobmoaaGreatDoor.Le
open Go.RowKit (Below)
section
variable {U:Z3Q}
def ZkP (U:Z3Q):List Nat->Type
 | []=>Unit
 | t::ts=>U.Ty t×ZkP U ts
def Z1i:(ts:List Nat)->ZkP U ts->List V
 | [],_=>[]
 | t::ts,x=>U.enc t x.1::Z1i ts x.2
def ZdQ:(ts:List Nat)->List (SV U.Ty)->Option (ZkP U ts)
 | [],[]=>some ()
 | t::ts,v::vs=>match U.Zsr t v,ZdQ ts vs with|some a,some as=>some (a,as)|_,_=>none
 | _,_=>none
structure Mod (U:Z3Q) where
 ts:List Nat
 rt:Nat
 fn:ZkP U ts->Option (U.Ty rt)
 ok:∀t∈ts,t∈U.keys
def Ztr:SV U.Ty->Bool
 | .ptr _ _ _ _=>true
 | .raw v=>Zl4 v
 | _=>false
def ZFt (H:ZF U):SV U.Ty->Tr U (SV U.Ty)
 | .ptr id i off tot=>if i=0/\off=0/\tot=1 then (match H[id]? with
   | some (.var _ n (.agg cs))=>.leaf (.raw (.ept n [.agg ((ZU U cs).map ZBm)] 0 0))
   | _=>.fail) else .fail
 | .raw _=>.fail
 | v=>ZJ5 H v
def Zgi (H:ZF U):List (SV U.Ty)->Tr U (List (SV U.Ty))
 | []=>.leaf []
 | v::vs=>(ZFt H v).andThen fun w=>(Zgi H vs).andThen fun ws=>.leaf (w::ws)
def ZAq:SV U.Ty->Bool
 | .lit _ | .si _ _ | .sb _ | .ss _=>true
 | _=>false
def Zpw:SV U.Ty->Bool
 | .lit _ | .si _ _ | .sb _ | .ss _=>true
 | .agg cs=>cs.all ZAq
 | _=>false
def ZJC:SV U.Ty->Bool
 | .tup vs=>vs.all Zpw
 | v=>Zpw v
theorem ZGk (x:SV U.Ty):Zl4 (toV U x)=Ztr x:=by
 cases x<;>simp [Ztr,Zl4,toV]
theorem Zpq (xs:List (SV U.Ty)):(ZU U xs).any Zl4=xs.any Ztr:=by
 induction xs with
 | nil=>rfl
 | cons x xs ih=>simp only [ZU,List.any_cons,ih,ZGk]
theorem ZEL (x:SV U.Ty) (h:ZAq x=true):Z8p (toV U x)=true:=by
 cases x<;>simp_all [ZAq,Z8p,toV]
theorem ZpB (xs:List (SV U.Ty)) (h:xs.all ZAq=true):(ZU U xs).all Z8p=true:=by
 induction xs with
 | nil=>rfl
 | cons x xs ih=>
  simp only [List.all_cons,Bool.and_eq_true] at h
  simp only [ZU,List.all_cons,Bool.and_eq_true]
  exact⟨ZEL x h.1,ih h.2⟩
theorem ZF2 (x:SV U.Ty) (h:Zpw x=true):Zh2 (toV U x)=true:=by
 cases x<;>first|(simp [Zpw] at h;done)|(simp [Zh2,toV];done)|skip
 rename_i cs
 simp only [toV,Zh2]
 exact ZpB cs h
theorem ZD3 (xs:List (SV U.Ty)) (h:xs.all Zpw=true):(ZU U xs).all Zh2=true:=by
 induction xs with
 | nil=>rfl
 | cons x xs ih=>
  simp only [List.all_cons,Bool.and_eq_true] at h
  simp only [ZU,List.all_cons,Bool.and_eq_true]
  exact⟨ZF2 x h.1,ih h.2⟩
theorem ZHA (x:SV U.Ty) (h:ZJC x=true):ZoJ (toV U x)=true:=by
 cases x<;>first|(simp [ZJC,Zpw] at h;done)|(simp [ZoJ,Zh2,toV];done)|skip
 ·rename_i cs
  simp only [toV,ZoJ,Zh2]
  exact ZpB cs h
 ·rename_i vs
  simp only [toV,ZoJ]
  exact ZD3 vs h
theorem ZFy {H:ZF U} {x y:SV U.Ty} (h:(ZFt H x).Zz y):ZqM (toH U H) (toV U x)=some (toV U y):=by
 unfold ZFt at h
 split at h
 ·rename_i id i off tot
  split at h
  ·rename_i hz
   obtain⟨rfl,rfl,rfl⟩:=hz
   split at h
   ·rename_i e n cs hb
    simp only [Tr.Zz] at h
    subst h
    simp only [toV,ZqM,and_self,if_true,Z10,Z5X,hb,Option.map_some,Z0w,ZN]
    simp
   ·simp [Tr.Zz] at h
  ·simp [Tr.Zz] at h
 ·simp [Tr.Zz] at h
 ·rename_i hn1 hn2
  unfold ZqM
  split
  ·rename_i id i off tot hv
   exfalso
   cases x<;>simp [toV] at hv
   ·exact hn1 _ _ _ _ rfl
   ·exact hn2 _ rfl
  ·exact Zsb h
theorem ZxS {H:ZF U}:∀{xs ys:List (SV U.Ty)},(Zgi H xs).Zz ys->Z3W (toH U H) (ZU U xs)=some (ZU U ys):=by
 intro xs
 induction xs with
 | nil=>intro ys h;simp only [Zgi,Tr.Zz] at h;subst h;rfl
 | cons x xs ih=>
  intro ys h
  simp only [Zgi,ZA,Tr.Zz] at h
  obtain⟨w,h1,ws,h2,rfl⟩:=h
  simp only [ZU,Z3W,ZFy h1,ih h2]
def ZKv (hmods:FuncId->List FuncId->Option (HMod U)) (g:FuncId):Bool:=match hmods g [] with|some m=>m.fb.isEmpty|none=>false
def ZwT (mods:FuncId->Option (Mod U)) (hmods:FuncId->List FuncId->Option (HMod U)):Mdl U:=fun g as H=>
 match mods g with
 | some m=>if as.any Ztr then (Zgi H as).andThen fun as' =>(match ZdQ m.ts as' with
   | some x=>.bind m.rt (m.fn x) fun r=>.when (ZJC (U.encS m.rt r)=true/\(as.flatMap Zno).isEmpty=true) (.leaf (U.encS m.rt r,H))
   | none=>.fail)
  else (Z9e H as).andThen fun as' =>(match ZdQ m.ts as' with
  | some x=>.bind m.rt (m.fn x) fun r=>.leaf (U.encS m.rt r,Zqz H (as.flatMap Zno))
  | none=>.fail)
 | none=>match hmods g (if ZKv hmods g then [] else ZoW as) with
  | some m=>ZG3 m as H
  | none=>.fail
noncomputable def ZKE (hmods:FuncId->List FuncId->Option (HMod U)):FuncId->List FuncId->Option ZD8:=fun g k=>(hmods g k).map HMod.spec
open Classical in
noncomputable def ZnR (mods:FuncId->Option (Mod U)):FuncId->Option (List V->Option V):=fun g=>
 match mods g with
 | some m=>some fun as=>if h:∃x:ZkP U m.ts,Z1i m.ts x=as then (m.fn (Classical.choose h)).map (U.enc m.rt) else none
 | none=>none
theorem Zpk {E:Env} (hU:Z0l U E):∀{ts:List Nat} {vs:List (SV U.Ty)} {x:ZkP U ts},ZdQ ts vs=some x->Z0p E.rows ts (ZU U vs)=Z1i ts x:=by
 intro ts
 induction ts with
 | nil=>
  intro vs x h
  cases vs with
  | nil=>rfl
  | cons=>simp [ZdQ] at h
 | cons t ts ih=>
  intro vs x h
  cases vs with
  | nil=>simp [ZdQ] at h
  | cons v vs=>
   simp only [ZdQ] at h
   split at h
   ·rename_i a as h1 h2
    cases h
    simp only [ZU,Z0p,Z1i,hU.dec _ _ _ h1,ih h2]
   ·cases h
theorem Zyd {E:Env} (hU:Z0l U E):∀{ts:List Nat} {x y:ZkP U ts},(∀t∈ts,t∈U.keys)->Z1i ts x=Z1i ts y->x=y:=by
 intro ts
 induction ts with
 | nil=>intro x y _ _;rfl
 | cons t ts ih=>
  intro x y hk h
  obtain⟨x1,x2⟩:=x
  obtain⟨y1,y2⟩:=y
  simp only [Z1i,List.cons.injEq] at h
  rw [hU.inj t (hk t (by simp)) _ _ h.1,ih (fun t' ht' =>hk t' (by simp [ht'])) h.2]
theorem Zs1 {E:Env} (hU:Z0l U E) {mods:FuncId->Option (Mod U)} {g:FuncId} {m:Mod U} (hm:mods g=some m) {F:List V->Option V} (hF:ZnR mods g=some F) (x:ZkP U m.ts):F (Z1i m.ts x)=(m.fn x).map (U.enc m.rt):=by
 unfold ZnR at hF
 simp only [hm,Option.some.injEq] at hF
 subst hF
 have h:∃y:ZkP U m.ts,Z1i m.ts y=Z1i m.ts x:=⟨x,rfl⟩
 simp only [dif_pos h]
 rw [Zyd hU m.ok (Classical.choose_spec h)]
theorem ZIA {E:Env} (hU:Z0l U E) {mods:FuncId->Option (Mod U)} {hmods:FuncId->List FuncId->Option (HMod U)} (henv:E.env=ZnR mods) (hhm:E.hm=ZKE hmods) (hpu:∀g,E.pure g=false) (hpar:∀g m,mods g=some m->E.par g=m.ts)
  (hown:∀g,E.own g=none) (n:Nat):Znf U (ZwT mods hmods) (Z2D E (n+1)):=by
 intro g as H v H' h
 unfold ZwT at h
 cases hm:mods g with
 | none=>
  simp only [hm] at h
  have hne:E.env g=none:=by rw [henv];unfold ZnR;simp [hm]
  split at h
  ·rename_i m hmm
   have:=ZEI hU h
   unfold Z2D
   simp only [hne,hpu g,Bool.false_eq_true,if_false]
   have hfr:ZqO E g=ZKv hmods g:=by
    unfold ZqO ZKv
    rw [hne,hpu g,hhm]
    simp only [ZKE]
    cases hmods g []<;>rfl
   have hk:E.hm g (if ZqO E g then [] else Zku (ZU U as))=some m.spec:=by rw [hfr,hhm,ZCp];simp only [ZKE,hmm,Option.map_some]
   simp only [hk,this]
  ·simp [Tr.Zz] at h
 | some m=>
  simp only [hm] at h
  by_cases hq:as.any Ztr=true
  ·rw [if_pos hq] at h
   simp only [ZA] at h
   obtain⟨as',h1,h⟩:=h
   split at h
   ·rename_i x hx
    simp only [Tr.Zz,ZY,Prod.mk.injEq] at h
    obtain⟨r,hr,⟨hfl,hids⟩,rfl,rfl⟩:=h
    have hF:∃F,E.env g=some F:=by rw [henv];unfold ZnR;simp [hm]
    obtain⟨F,hF⟩:=hF
    have hat:=Zs1 hU hm (by rw [<- henv];exact hF) x
    have hfl' :=ZHA _ hfl
    rw [hU.encS] at hfl'
    have hids' : (ZU U as).flatMap Z6N=[]:=by rw [Zlw];simpa using hids
    unfold Z2D
    simp only [hF]
    rw [if_pos (by rw [Zpq];exact hq),ZxS h1]
    simp only [hown g,hpar g m hm,Zpk hU hx,hat,hr,Option.map_some]
    rw [if_pos hfl',hids',hU.encS]
    rfl
   ·simp [Tr.Zz] at h
  rw [if_neg hq] at h
  simp only [ZA] at h
  obtain⟨as',h1,h⟩:=h
  split at h
  ·rename_i x hx
   simp only [Tr.Zz,Prod.mk.injEq] at h
   obtain⟨r,hr,rfl,rfl⟩:=h
   have hF:∃F,E.env g=some F:=by rw [henv];unfold ZnR;simp [hm]
   obtain⟨F,hF⟩:=hF
   have hat:=Zs1 hU hm (by rw [<- henv];exact hF) x
   unfold Z2D
   simp only [hF]
   rw [if_neg (by rw [Zpq];exact hq)]
   simp only [Zio h1,hown g,hpar g m hm,Zpk hU hx,hat,hr,Option.map_some,Zlw,ZbX H _ (Zjx h1),hU.encS]
  ·simp [Tr.Zz] at h
structure Z04 (P:Program) (E:Env) (g:FuncId) (m:Mod U):Prop where
 entered:Z7U P g
 pure:∀x a,m.fn x=some a->Zdb P E g (Z1i m.ts x) (U.enc m.rt a)
theorem Z04.Z9Y {P:Program} {E E' : Env} (h:E'.Z9Y=E.Z9Y) {g:FuncId} {m:Mod U} (hf:Z04 P E g m):Z04 P E' g m:=by
 refine⟨hf.entered,fun x a hx fz w vs hc hg hr=>hf.pure x a hx fz w vs hc ?_ hr⟩
 intro g r hh
 exact hg g r (by rw [h];exact hh)
structure Z5J (P:Program) (E:Env) (g:FuncId) (m:HMod U):Prop where
 entered:Z7U P g
 heap:∀x y,m.fn x=some y->ZAz P E g (ZU U (m.sin.enc x).1) (toH U (m.sin.enc x).2) (toV U (m.out y).1) (toH U (m.out y).2)
theorem Z5J.Z9Y {P:Program} {E E' : Env} (h:E'.Z9Y=E.Z9Y) {g:FuncId} {m:HMod U} (hf:Z5J P E g m):Z5J P E' g m:=by
 refine⟨hf.entered,fun x y hx B w0 σ w vs hi hg hr=>hf.heap x y hx B w0 σ w vs hi ?_ hr⟩
 intro g r hh
 exact hg g r (by rw [h];exact hh)
theorem Zuk {P:Program} {E:Env} (hU:Z0l U E) {mods:FuncId->Option (Mod U)} {hmods:FuncId->List FuncId->Option (HMod U)} (henv:E.env=ZnR mods) (hhm:E.hm=ZKE hmods) (hown:∀g,E.own g=none) (h:∀g m,mods g=some m->Z04 P E g m)
  (h' : ∀g k m,hmods g k=some m->Z5J P E g m):Zjb P E:=by
 refine⟨?_,fun g k hs hh=>?_⟩
 rotate_left
 ·rw [hhm] at hh
  simp only [ZKE,Option.map_eq_some_iff] at hh
  obtain⟨m,hm,rfl⟩:=hh
  refine⟨(h' g k m hm).entered,fun as H0 r H1 hrun=>?_⟩
  simp only [HMod.spec] at hrun
  split at hrun
  ·rename_i hx
   obtain⟨x,rfl,rfl⟩:=hx
   simp only [Option.map_eq_some_iff] at hrun
   obtain⟨y,hy,he⟩:=hrun
   simp only [Prod.mk.injEq] at he
   obtain⟨rfl,rfl⟩:=he
   generalize hch:(⟨x,rfl,rfl⟩:∃y:m.sin.X U,ZU U (m.sin.enc y).1=ZU U (m.sin.enc x).1/\toH U (m.sin.enc y).2=toH U (m.sin.enc x).2)=hex at hy
   have hxe:=Shape.ZFT hU m.ok (Classical.choose_spec hex).1 (Classical.choose_spec hex).2
   rw [hxe] at hy
   exact(h' g k m hm).heap x y hy
  ·cases hrun
 intro g F hF
 have hm:∃m,mods g=some m:=by
  rw [henv] at hF
  unfold ZnR at hF
  cases hm:mods g with
  | none=>simp [hm] at hF
  | some m=>exact⟨m,rfl⟩
 obtain⟨m,hm⟩:=hm
 refine⟨(h g m hm).entered,fun as r _ hr=>?_⟩
 rw [hown g]
 have hF' :=hF
 rw [henv] at hF
 unfold ZnR at hF
 simp only [hm,Option.some.injEq] at hF
 subst hF
 simp only at hr
 split at hr
 ·rename_i hx
  obtain⟨x,hx'⟩:=hx
  subst hx'
  have:=Zs1 hU hm (by rw [henv] at hF';exact hF') x
  have hr' : (m.fn x).map (U.enc m.rt)=some r:=by
   rw [<- this]
   simp only [dif_pos (⟨x,rfl⟩:∃y:ZkP U m.ts,Z1i m.ts y=Z1i m.ts x)]
   exact hr
  cases hfx:m.fn x with
  | none=>simp [hfx] at hr'
  | some a=>
   simp only [hfx,Option.map_some,Option.some.injEq] at hr'
   subst hr'
   exact(h g m hm).pure x a hfx
 ·cases hr
theorem Zsw {P:Program} {E:Env} (hE:Z0A E) (hP:E.P=P) (hF:Zjb P E) {n:Nat} {f:FuncId} {fn:Func} (hfn:E.func f=some fn) {c:Code} (hb:fn.body=some c) {as:List V} {r:V} {H1:Heap}
  (h:Z0S (Z2D E n) E f fn 0 (Zp E fn) (.run c) [] ⟨as++List.replicate (fn.ntmps - as.length) Z0F,[]⟩ (r,H1)):Z7U P f/\Zdb P E f as r:=by
 obtain⟨hf1,hf2⟩:=hE.func f fn hfn
 rw [hP] at hf1
 refine⟨⟨fn,hf1,by simp [hb],hf2⟩,?_⟩
 intro fz w vs hcells hg hr
 have hI:Inv w.heap.size (Start.of w fz) (bare fz) [] w:=⟨Below.refl _ w,Nat.le_refl _,fun id L hL=>(by cases hL),fun id bx hb=>by simp at hb,fun i j b1 b2 L1 L2 g h1=>by simp at h1,hcells,
  fun b c hc id bx L hb=>by simp at hb,fun id bx hb=>by simp at hb,fun b c hc _=>hc,fun b hb=>hb.elim⟩
 have hslots:Zw (bare fz) w (as++List.replicate (fn.ntmps - as.length) Z0F) (vs.toArray++Array.replicate (fn.ntmps - vs.toArray.size) undef).toList:=by
  simp only [Array.toList_append,Array.toList_replicate,List.size_toArray]
  rw [<- hr.length]
  exact hr.append (Zw.replicate _ (.no .nil))
 have hrel:Rel E w.heap.size (Start.of w fz) (bare fz) ⟨as++List.replicate (fn.ntmps - as.length) Z0F,[]⟩ { tmps:=vs.toArray++Array.replicate (fn.ntmps - vs.toArray.size) undef,defers:=[] } w:=⟨hI,hg,hslots,rfl⟩
 have hwp:=ZGb hE hP (ZpZ hE hP hF n w.heap.size (Start.of w fz)) (Z4d n) (F:=Fin P fn w.heap.size (Start.of w fz)) (σ0:=bare fz) (ws:=w)
  (fun st r σ a w' hz hr hx=>ZLP hE hP hr (fun b c hh=>(hx.fz b c hh).1) hz) h (hE.calm f fn c hfn hb) rfl _ _ _ hrel (Ext.refl _ _).k
 refine calls_of_wp hf1 hb ?_
 intro fr k cs
 obtain⟨e,a',w',hq,harr⟩:=hwp fr k cs
 refine⟨e,a',w',?_,harr⟩
 cases e with
 | normal=>
  obtain⟨h0,u,fz',h1,h2,h3,h4,h5,h6,h7⟩:=hq
  exact⟨h0,u,h1,u,fz',rfl,h2,h3,h4,h5,h6,h7⟩
 | ret=>
  obtain⟨h0,u,fz',h1,h2,h3,h4,h5,h6,h7⟩:=hq
  exact⟨h0,u,h1,u,fz',rfl,h2,h3,h4,h5,h6,h7⟩
 | exit id=>exact hq.elim
 | goto l=>exact hq.elim
 | panic c=>exact hq.elim
 | outgrown=>exact hq.elim
theorem ZuS {P:Program} {E:Env} (hE:Z0A E) (hP:E.P=P) (hF:Zjb P E) {n:Nat} {f:FuncId} {fn:Func} (hfn:E.func f=some fn) {c:Code} (hb:fn.body=some c) {as:List V} {H0:Heap} {r:V} {H1:Heap} {fa:List (List Fk)} {fb:List Bf} {k:Nat} (hk:H0.length=k)
  (h:Z0S (Z2D E n) E f fn k (Zh E fn fa fb k) (.run c) [] ⟨as++List.replicate (fn.ntmps - as.length) Z0F,H0⟩ (r,H1)):Z7U P f/\ZAz P E f as H0 r H1:=by
 obtain⟨hf1,hf2⟩:=hE.func f fn hfn
 rw [hP] at hf1
 refine⟨⟨fn,hf1,by simp [hb],hf2⟩,?_⟩
 intro B w0 σ w vs hI hg hr
 have hslots:Zw σ w (as++List.replicate (fn.ntmps - as.length) Z0F) (vs.toArray++Array.replicate (fn.ntmps - vs.toArray.size) undef).toList:=by
  simp only [Array.toList_append,Array.toList_replicate,List.size_toArray]
  rw [<- hr.length]
  exact hr.append (Zw.replicate _ (.no .nil))
 have hrel:Rel E B w0 σ ⟨as++List.replicate (fn.ntmps - as.length) Z0F,H0⟩ { tmps:=vs.toArray++Array.replicate (fn.ntmps - vs.toArray.size) undef,defers:=[] } w:=⟨hI,hg,hslots,rfl⟩
 have hwp:=ZGb hE hP (ZpZ hE hP hF n B w0) (Z4d n) (F:=FinH P fn B w0 σ w) (σ0:=σ) (ws:=w)
  (fun st r σ' a w' hz hr hx=>ZKx hE hP (fun id L hL=>by rw [<- hk];exact hI.ZEp hL) hr hx hz) h (hE.calm f fn c hfn hb) rfl _ _ _ hrel (Ext.refl _ _).k
 refine calls_of_wp hf1 hb ?_
 intro fr k cs
 obtain⟨e,a',w',hq,harr⟩:=hwp fr k cs
 refine⟨e,a',w',?_,harr⟩
 cases e with
 | normal=>
  obtain⟨h0,u,σ',h1,h2,h3,h4⟩:=hq
  exact⟨h0,u,h1,u,σ',rfl,h2,h3,h4⟩
 | ret=>
  obtain⟨h0,u,σ',h1,h2,h3,h4⟩:=hq
  exact⟨h0,u,h1,u,σ',rfl,h2,h3,h4⟩
 | exit id=>exact hq.elim
 | goto l=>exact hq.elim
 | panic c=>exact hq.elim
 | outgrown=>exact hq.elim
theorem ZAO {L R:Type} {J:L->Option R}:∀{T:Tr U L} {r:R},T.den J=some r->∃l,T.Zz l/\J l=some r:=by
 intro T
 induction T with
 | leaf l=>intro r h;exact⟨l,rfl,h⟩
 | br c a b iha ihb=>
  intro r h
  cases c with
  | true=>obtain⟨l,h1,h2⟩:=iha h;exact⟨l,.inl ⟨rfl,h1⟩,h2⟩
  | false=>obtain⟨l,h1,h2⟩:=ihb h;exact⟨l,.inr ⟨rfl,h1⟩,h2⟩
 | bind t o k ih=>
  intro r h
  cases o with
  | none=>cases h
  | some a=>obtain⟨l,h1,h2⟩:=ih a h;exact⟨l,⟨a,rfl,h1⟩,h2⟩
 | chk c a ih=>
  intro r h
  cases c with
  | true=>obtain⟨l,h1,h2⟩:=ih h;exact⟨l,⟨rfl,h1⟩,h2⟩
  | false=>cases h
 | fail=>intro r h;cases h
theorem ZHY {L M:Type} {g:L->M}:∀{T:Tr U L} {l:L},T.Zz l->(T.map g).Zz (g l):=by
 intro T
 induction T with
 | leaf l=>intro l h;simp only [Tr.Zz] at h;subst h;rfl
 | br c a b iha ihb=>
  intro l h
  rcases h with ⟨hc,h⟩|⟨hc,h⟩
  ·exact .inl ⟨hc,iha h⟩
  ·exact .inr ⟨hc,ihb h⟩
 | bind t o k ih=>rintro l ⟨a,ha,h⟩;exact⟨a,ha,ih a h⟩
 | chk c a ih=>rintro l ⟨hc,h⟩;exact⟨hc,ih h⟩
 | fail=>intro l h;exact h
def nav:Code->List Nat->List Fr->Code×List Fr
 | .seq a b,0::p,K=>nav a p (.seq b::K)
 | .seq a b,_::p,K=>nav b p K
 | .cond _ a b,0::p,K=>nav a p K
 | .cond _ a b,_::p,K=>nav b p K
 | .block id b,_::p,K=>nav b p (.blk id::K)
 | .loop b,_::p,K=>nav b p (.loop b::K)
 | .scope b,_::p,K=>nav b p K
 | c,_,K=>(c,K)
def Zmv (fn:Func):Code:=match fn.body with|some c=>c|none=>.skip
open Classical in
noncomputable def ZKQ {α:Type} (g:Nat->Option α):Option α:=if h:∃n a,g n=some a then g (Classical.choose h) else none
theorem ZmU {α:Type} {g:Nat->Option α} {a:α} (h:ZKQ g=some a):∃n,g n=some a:=by
 unfold ZKQ at h
 split at h
 ·exact⟨_,h⟩
 ·cases h
def Mono {α:Type} (g:Nat->Option α):Prop:=∀n a,g n=some a->g (n+1)=some a
theorem Mono.le {α:Type} {g:Nat->Option α} (hg:Mono g) {n m:Nat} {a:α} (h:g n=some a) (hle:n<=m):g m=some a:=by
 induction hle with
 | refl=>exact h
 | step _ ih=>exact hg _ _ ih
theorem ZKq {α:Type} {g:Nat->Option α} (hg:Mono g) {n:Nat} {a:α} (h:g n=some a):ZKQ g=some a:=by
 unfold ZKQ
 have hex:∃n a,g n=some a:=⟨n,a,h⟩
 rw [dif_pos hex]
 obtain⟨b,hb⟩:=Classical.choose_spec hex
 have h1:=hg.le h (Nat.le_max_left n (Classical.choose hex))
 have h2:=hg.le hb (Nat.le_max_right n (Classical.choose hex))
 rw [hb]
 rw [h1] at h2
 exact h2.symm
end
abbrev w64 (x:Int):Int:=IntKind.wrap .i64 x
end Go.Proofs.YtjodhcdmhobmoaaGreatDoor.Le
namespace Go.Proofs.YtjodhcdmhobmoaaGreatDoor.Le
structure Za (Ty:Nat->Type) (T:Type) where
 ZC:T->List V
 encS:T->List (SV Ty)
 dec:List (SV Ty)->Option (T×List (SV Ty))
section
variable {Ty:Nat->Type}
def Za.int (k:IntKind):Za Ty Int where
 ZC:=fun a=>[.lit (.int k a)]
 encS:=fun a=>[.si k a]
 dec:=fun cs=>match cs with
  | .si j a::r=>if j=k then some (a,r) else none
  | .lit (.int j a)::r=>if j=k then some (a,r) else none
  | _=>none
def Za.bool:Za Ty Bool where
 ZC:=fun b=>[.lit (.bool b)]
 encS:=fun b=>[.sb b]
 dec:=fun cs=>match cs with
  | .sb b::r=>some (b,r)
  | .lit (.bool b)::r=>some (b,r)
  | _=>none
def Za.str:Za Ty ByteArray where
 ZC:=fun b=>[.lit (.string b)]
 encS:=fun b=>[.ss b]
 dec:=fun cs=>match cs with
  | .ss b::r=>some (b,r)
  | .lit (.string b)::r=>some (b,r)
  | _=>none
def Za.list (t n:Nat) (e:Ty t->V):Za Ty (List (Ty t)) where
 ZC:=fun xs=>[.sl false n (xs.map e)]
 encS:=fun xs=>[.sl t xs]
 dec:=fun cs=>match cs with
  | .sl t' xs::r=>if h:t' = t then some (h▸xs,r) else none
  | .nil _::r=>some ([],r)
  | _=>none
def Za.unit:Za Ty Unit where
 ZC:=fun _=>[]
 encS:=fun _=>[]
 dec:=fun cs=>some ((),cs)
def Za.pair {A B:Type} (a:Za Ty A) (b:Za Ty B):Za Ty (A×B) where
 ZC:=fun x=>a.ZC x.1++b.ZC x.2
 encS:=fun x=>a.encS x.1++b.encS x.2
 dec:=fun cs=>match a.dec cs with
  | some (x,r)=>match b.dec r with|some (y,r')=>some ((x,y),r')|none=>none
  | none=>none
def Za.iso {A B:Type} (f:A->B) (g:B->A) (b:Za Ty B):Za Ty A where
 ZC:=fun x=>b.ZC (f x)
 encS:=fun x=>b.encS (f x)
 dec:=fun cs=>match b.dec cs with|some (y,r)=>some (g y,r)|none=>none
def Za.agg {T:Type} (c:Za Ty T) (v:SV Ty):Option T:=match v with
 | .agg cs=>match c.dec cs with|some (a,[])=>some a|_=>none
 | _=>none
def Za.one {T:Type} (c:Za Ty T) (v:SV Ty):Option T:=match c.dec [v] with|some (a,[])=>some a|_=>none
def Za.ZK {T:Type} (c:Za Ty T) (a:T):V:=(c.ZC a).headD .no
def Za.Z0W {T:Type} (c:Za Ty T) (a:T):SV Ty:=(c.encS a).headD .no
end
structure Zc (U:Z3Q) {T:Type} (c:Za U.Ty T) (rs:List Nat):Prop where
 enc:∀a,ZU U (c.encS a)=c.ZC a
 len:∀a,(c.ZC a).length=rs.length
 dec:∀cs a rest,c.dec cs=some (a,rest)->∃pre,cs=pre++rest/\pre.length=rs.length/\Z1a rs (ZU U pre)=c.ZC a
 nr:∀a,ZB (c.ZC a)=true
 inj:∀a b,c.ZC a=c.ZC b->a=b
section
variable {U:Z3Q}
theorem Zc.int (k:IntKind):Zc U (Za.int k:Za U.Ty Int) [0]:=by
 refine⟨fun a=>rfl,fun a=>rfl,?_,fun a=>rfl,fun a b h=>by simpa [Za.int] using h⟩
 intro cs a rest h
 simp only [Za.int] at h
 split at h
 ·rename_i j x r
  split at h
  ·rename_i hj
   simp only [Option.some.injEq,Prod.mk.injEq] at h
   obtain⟨rfl,rfl⟩:=h
   subst hj
   exact⟨[_],rfl,rfl,rfl⟩
  ·cases h
 ·rename_i j x r
  split at h
  ·rename_i hj
   simp only [Option.some.injEq,Prod.mk.injEq] at h
   obtain⟨rfl,rfl⟩:=h
   subst hj
   exact⟨[_],rfl,rfl,rfl⟩
  ·cases h
 ·cases h
theorem Zc.bool:Zc U (Za.bool:Za U.Ty Bool) [0]:=by
 refine⟨fun a=>rfl,fun a=>rfl,?_,fun a=>rfl,fun a b h=>by simpa [Za.bool] using h⟩
 intro cs a rest h
 simp only [Za.bool] at h
 split at h<;>cases h<;>exact⟨[_],rfl,rfl,rfl⟩
theorem Zc.str:Zc U (Za.str:Za U.Ty ByteArray) [0]:=by
 refine⟨fun a=>rfl,fun a=>rfl,?_,fun a=>rfl,fun a b h=>by simpa [Za.str] using h⟩
 intro cs a rest h
 simp only [Za.str] at h
 split at h<;>cases h<;>exact⟨[_],rfl,rfl,rfl⟩
theorem ZJI {α β:Type} {f:α->β} (hf:∀a b,f a=f b->a=b):∀{xs ys:List α},xs.map f=ys.map f->xs=ys:=by
 intro xs
 induction xs with
 | nil=>intro ys h;cases ys with
  | nil=>rfl
  | cons=>simp at h
 | cons x xs ih=>intro ys h;cases ys with
  | nil=>simp at h
  | cons y ys=>
   simp only [List.map_cons,List.cons.injEq] at h
   rw [hf _ _ h.1,ih h.2]
theorem Zc.list {t n:Nat} {e:U.Ty t->V} (he:∀a,U.enc t a=e a) (hn:U.esz t=n) (hnr:∀a,ZV (e a)=true) (hinj:∀a b,e a=e b->a=b):Zc U (Za.list t n e:Za U.Ty (List (U.Ty t))) [n]:=by
 have hmap:∀xs:List (U.Ty t),xs.map (U.enc t)=xs.map e:=fun xs=>List.map_congr_left fun a _=>he a
 refine⟨fun a=>?_,fun a=>rfl,?_,fun a=>?_,fun a b h=>?_⟩
 ·simp [Za.list,ZU,toV,hn,hmap]
 ·intro cs a rest h
  simp only [Za.list] at h
  split at h
  ·rename_i t' xs r
   split at h
   ·rename_i ht
    subst ht
    simp only [Option.some.injEq,Prod.mk.injEq] at h
    obtain⟨rfl,rfl⟩:=h
    exact⟨[_],rfl,rfl,by simp [ZU,toV,Z1a,Z1p,Za.list,hn,hmap]⟩
   ·cases h
  ·cases h
   exact⟨[_],rfl,rfl,by simp [ZU,toV,Z1a,Z1p,Za.list]⟩
  ·cases h
 ·simp only [Za.list,ZB,ZV,Bool.and_true]
  rw [Z1d]
  intro x hx
  obtain⟨y,_,rfl⟩:=List.mem_map.1 hx
  exact hnr y
 ·simp only [Za.list,List.cons.injEq,V.sl.injEq,true_and,and_true] at h
  exact ZJI hinj h
theorem Zc.unit:Zc U (Za.unit:Za U.Ty Unit) []:=
 ⟨fun a=>rfl,fun a=>rfl,fun cs a rest h=>by cases h;exact⟨[],rfl,rfl,rfl⟩,fun a=>rfl,fun a b _=>rfl⟩
theorem ZnV:∀(r1 r2:List Nat) (x y:List V),x.length=r1.length->Z1a (r1++r2) (x++y)=Z1a r1 x++Z1a r2 y:=by
 intro r1
 induction r1 with
 | nil=>intro r2 x y h;cases x with
  | nil=>simp [Z1a]
  | cons=>simp at h
 | cons r r1 ih=>intro r2 x y h;cases x with
  | nil=>simp at h
  | cons v x=>simp [Z1a,ih r2 x y (by simpa using h)]
theorem Zsl (x y:List V):ZB (x++y)=(ZB x&&ZB y):=by
 induction x with
 | nil=>simp [ZB]
 | cons a x ih=>simp [ZB,ih,Bool.and_assoc]
theorem Zc.pair {A B:Type} {a:Za U.Ty A} {b:Za U.Ty B} {r1 r2:List Nat} (ha:Zc U a r1) (hb:Zc U b r2):Zc U (Za.pair a b) (r1++r2):=by
 refine⟨fun x=>?_,fun x=>?_,?_,fun x=>?_,fun x y h=>?_⟩
 ·simp only [Za.pair,Z2B,ha.enc,hb.enc]
 ·simp only [Za.pair,List.length_append,ha.len,hb.len]
 ·intro cs x rest h
  simp only [Za.pair] at h
  split at h
  ·rename_i p r hp
   split at h
   ·rename_i q r' hq
    cases h
    obtain⟨p1,e1,l1,t1⟩:=ha.dec _ _ _ hp
    obtain⟨p2,e2,l2,t2⟩:=hb.dec _ _ _ hq
    refine⟨p1++p2,by rw [e1,e2,List.append_assoc],by simp [l1,l2],?_⟩
    rw [Z2B,ZnV _ _ _ _ (by rw [Z0o];exact l1),t1,t2]
    rfl
   ·cases h
  ·cases h
 ·simp only [Za.pair,Zsl,ha.nr,hb.nr,Bool.and_self]
 ·simp only [Za.pair] at h
  obtain⟨h1,h2⟩:=List.append_inj h (by rw [ha.len,ha.len])
  obtain⟨x1,x2⟩:=x
  obtain⟨y1,y2⟩:=y
  exact Prod.ext (ha.inj _ _ h1) (hb.inj _ _ h2)
theorem Zc.iso {A B:Type} {f:A->B} {g:B->A} {b:Za U.Ty B} {r:List Nat} (hb:Zc U b r) (hfg:∀y,f (g y)=y) (hgf:∀x,g (f x)=x):Zc U (Za.iso f g b) r:=by
 refine⟨fun x=>hb.enc _,fun x=>hb.len _,?_,fun x=>hb.nr _,fun x y h=>?_⟩
 ·intro cs x rest h
  simp only [Za.iso] at h
  split at h
  ·rename_i y r' hy
   cases h
   obtain⟨p,e,l,t⟩:=hb.dec _ _ _ hy
   exact⟨p,e,l,by simp only [Za.iso,hfg];exact t⟩
  ·cases h
 ·have:=hb.inj _ _ h
  rw [<- hgf x,this,hgf]
theorem Zc.agg {T:Type} {c:Za U.Ty T} {r:List Nat} (h:Zc U c r) {v:SV U.Ty} {a:T} (hd:c.agg v=some a):Z0E r (toV U v) = .agg (c.ZC a):=by
 unfold Za.agg at hd
 split at hd
 ·split at hd
  ·rename_i cs _ hcs
   cases hd
   obtain⟨p,e,l,t⟩:=h.dec _ _ _ hcs
   simp only [List.append_nil] at e
   subst e
   simp only [toV,Z0E,t]
  ·cases hd
 ·cases hd
theorem Zc.one {T:Type} {c:Za U.Ty T} {n:Nat} (h:Zc U c [n]) {v:SV U.Ty} {a:T} (hd:c.one v=some a) (hv:∀cs,toV U v≠.agg cs):Z0E [n] (toV U v)=c.ZK a:=by
 unfold Za.one at hd
 split at hd
 ·rename_i hcs
  cases hd
  obtain⟨p,e,l,t⟩:=h.dec _ _ _ hcs
  simp only [List.append_nil] at e
  subst e
  simp only [ZU,Z1a] at t
  unfold Za.ZK
  rw [<- t]
  unfold Z0E
  split
  ·rename_i cs hcs';exact absurd hcs' (hv cs)
  ·rfl
 ·cases hd
theorem Zk2 {k:IntKind} {v:SV U.Ty} {a:Int} (h:(Za.int k:Za U.Ty Int).one v=some a):∀cs,toV U v≠.agg cs:=by
 rintro cs hc
 cases v<;>simp_all [toV,Za.one,Za.int]
theorem ZKg {v:SV U.Ty} {a:Bool} (h:(Za.bool:Za U.Ty Bool).one v=some a):∀cs,toV U v≠.agg cs:=by
 rintro cs hc
 cases v<;>simp_all [toV,Za.one,Za.bool]
theorem ZLc {v:SV U.Ty} {a:ByteArray} (h:(Za.str:Za U.Ty ByteArray).one v=some a):∀cs,toV U v≠.agg cs:=by
 rintro cs hc
 cases v<;>simp_all [toV,Za.one,Za.str]
theorem Zbi {t n:Nat} {e:U.Ty t->V} {v:SV U.Ty} {a:List (U.Ty t)} (h:(Za.list t n e:Za U.Ty (List (U.Ty t))).one v=some a):∀cs,toV U v≠.agg cs:=by
 rintro cs hc
 cases v<;>simp_all [toV,Za.one,Za.list]
theorem Zc.Z0R {T:Type} {c:Za U.Ty T} {n:Nat} (h:Zc U c [n]) (a:T):toV U (c.Z0W a)=c.ZK a:=by
 unfold Za.Z0W Za.ZK
 rw [<- h.enc a]
 have hl:=h.len a
 rw [<- h.enc a,Z0o] at hl
 cases hs:c.encS a with
 | nil=>rw [hs] at hl;simp at hl
 | cons x xs=>rfl
theorem Zc.Z2P {T:Type} {c:Za U.Ty T} {n:Nat} (h:Zc U c [n]) {a b:T} (he:c.ZK a=c.ZK b):a=b:=by
 refine h.inj a b ?_
 have h1:=h.len a
 have h2:=h.len b
 unfold Za.ZK at he
 cases ha:c.ZC a with
 | nil=>rw [ha] at h1;simp at h1
 | cons x xs=>
  cases hb:c.ZC b with
  | nil=>rw [hb] at h2;simp at h2
  | cons y ys=>
   rw [ha,hb] at he
   rw [ha] at h1
   rw [hb] at h2
   simp only [List.headD_cons] at he
   have hx:xs=[]:=by simpa using h1
   have hy:ys=[]:=by simpa using h2
   rw [he,hx,hy]
theorem Zc.Z7d {T:Type} {c:Za U.Ty T} {n:Nat} (h:Zc U c [n]) (a:T):ZV (c.ZK a)=true:=by
 have:=h.nr a
 unfold Za.ZK
 cases ha:c.ZC a with
 | nil=>rfl
 | cons x xs=>rw [ha] at this;simp [ZB] at this;exact this.1
end
def Za.skip {Ty:Nat->Type}:Za Ty Unit where
 ZC:=fun _=>[.und]
 encS:=fun _=>[.und]
 dec:=fun cs=>match cs with
  | .und::r=>some ((),r)
  | _=>none
theorem Zc.skip {U:Z3Q}:Zc U (Za.skip:Za U.Ty Unit) [0]:=by
 refine⟨fun a=>rfl,fun a=>rfl,?_,fun a=>rfl,fun a b _=>rfl⟩
 intro cs a rest h
 simp only [Za.skip] at h
 split at h<;>cases h
 exact⟨[_],rfl,rfl,rfl⟩
def rawS {Ty:Nat->Type}:V->SV Ty
 | .lit v=>.lit v
 | .und=>.und
 | _=>.no
def ZEr:V->Bool
 | .lit _=>true
 | .und=>true
 | _=>false
def Za.ZHu {Ty:Nat->Type} {T:Type} (c:Za Ty T) (n:Nat) (a:T):V:=.ept n [.agg (c.ZC a)] 0 0
def Za.ptrD {Ty:Nat->Type} {T:Type} (c:Za Ty T) (n:Nat) (v:SV Ty):Option T:=match v with
 | .raw (.ept m [.agg cs] 0 0)=>if m=n/\cs.all ZEr=true then c.agg (.agg (cs.map rawS)) else none
 | _=>none
theorem ZHd {U:Z3Q}:∀{cs:List V},cs.all ZEr=true->ZU U (cs.map rawS)=cs:=by
 intro cs
 induction cs with
 | nil=>intro _;rfl
 | cons c cs ih=>
  intro h
  simp only [List.all_cons,Bool.and_eq_true] at h
  simp only [List.map_cons,ZU,ih h.2]
  cases c<;>simp_all [ZEr,rawS,toV]
theorem ZAW:∀{cs:List V},cs.all ZEr=true->∀rs,Z1a rs cs=cs:=by
 intro cs
 induction cs with
 | nil=>intro _ rs;cases rs<;>rfl
 | cons c cs ih=>
  intro h rs
  simp only [List.all_cons,Bool.and_eq_true] at h
  cases rs with
  | nil=>rfl
  | cons r rs=>
   simp only [Z1a,ih h.2]
   cases c<;>simp_all [ZEr,Z1p]
theorem Zc.ZJQ {U:Z3Q} {T:Type} {c:Za U.Ty T} {r:List Nat} (h:Zc U c r) {n:Nat} {v:SV U.Ty} {a:T} (hd:c.ptrD n v=some a) (rs:List Nat):Z0E rs (toV U v)=c.ZHu n a:=by
 unfold Za.ptrD at hd
 split at hd
 ·rename_i m cs
  split at hd
  ·rename_i hc
   obtain⟨rfl,hall⟩:=hc
   have:=h.agg hd
   simp only [toV,Z0E,ZHd hall,V.agg.injEq] at this
   rw [ZAW hall] at this
   simp only [toV,Z0E,Z1p,Za.ZHu,this]
  ·cases hd
 ·cases hd
theorem Zc.ZLD {U:Z3Q} {T:Type} {c:Za U.Ty T} {r:List Nat} (h:Zc U c r) (n:Nat) (a:T):ZV (c.ZHu n a)=true:=by
 simp [Za.ZHu,ZV,ZB,h.nr]
theorem Zc.ZKh {U:Z3Q} {T:Type} {c:Za U.Ty T} {r:List Nat} (h:Zc U c r) {n:Nat} {a b:T} (he:c.ZHu n a=c.ZHu n b):a=b:=by
 simp only [Za.ZHu,V.ept.injEq,List.cons.injEq,V.agg.injEq,and_true,true_and] at he
 exact h.inj _ _ he
end Go.Proofs.YtjodhcdmhobmoaaGreatDoor.Le
namespace Go.Proofs.YtjodhcdmhobmoaaGreatDoor.Le
noncomputable def EV {U:Z3Q} (P:Program) (gl:Nat->Option (List V)) (f:FuncId) (mods:FuncId->Option (Mod U)) (hmods:FuncId->List FuncId->Option (HMod U)):Env:=
 { Z4o P (fun _=>false) (ZnR mods) with
  func:=fun g=>if g=f then P.funcs[g]? else none
  Z9Y:=gl
  hm:=ZKE hmods
  par:=fun g=>match mods g with|some m=>m.ts|none=>[] }
section
variable {U:Z3Q} {P:Program} {gl:Nat->Option (List V)} {f:FuncId} {mods:FuncId->Option (Mod U)} {hmods:FuncId->List FuncId->Option (HMod U)}
theorem ZM3 (hmix:P.follows .mixedOrders=true) {fn:Func} {c:Code} (hfn:P.funcs[f]? = some fn) (hname:(fn.name == "runtime.NumGoroutine")=false) (hb:fn.body=some c) (hcalm:Z36 (EV P gl f mods hmods) f c=true):Z0A (EV P gl f mods hmods):=by
 refine⟨fun t i h=>h,?_,hmix,?_,?_,?_,?_,fun t ks h=>h,?_⟩
 ·intro g fn' h
  simp only [EV] at h
  split at h
  ·rename_i hg
   subst hg
   rw [hfn] at h
   cases h
   exact⟨hfn,hname⟩
  ·cases h
 ·intro g fn' c' h hb'
  simp only [EV] at h
  split at h
  ·rename_i hg
   subst hg
   rw [hfn] at h
   cases h
   rw [hb] at hb'
   cases hb'
   exact hcalm
  ·cases h
 ·intro t k h
  simp only [EV,Z4o] at h
  split at h
  ·rename_i d hd
   simp only [Option.some.injEq] at h
   subst h
   exact hd
  ·cases h
 ·intro t h
  simp only [EV,Z4o] at h
  split at h
  ·rename_i hd;exact hd
  ·cases h
 ·intro t h
  simp only [EV,Z4o] at h
  split at h
  ·rename_i hd;exact hd
  ·cases h
 ·intro t h
  simp only [EV,Z4o] at h
  split at h
  ·rename_i e he
   split at h
   ·rename_i hd;exact⟨e,he,hd⟩
   ·cases h
  ·cases h
def ZkR:(ts:List Nat)->ZkP U ts->List (SV U.Ty)
 | [],_=>[]
 | t::ts,x=>U.encS t x.1::ZkR ts x.2
def ZvP (ts:List Nat) (x:ZkP U ts) (n:Nat):SSt U:=⟨ZkR ts x++List.replicate (n - ts.length) .no,[]⟩
theorem Zsv {E:Env} (hU:Z0l U E):∀{ts:List Nat} (x:ZkP U ts),ZU U (ZkR ts x)=Z1i ts x:=by
 intro ts
 induction ts with
 | nil=>intro x;rfl
 | cons t ts ih=>intro x;simp only [ZkR,ZU,Z1i,hU.encS,ih]
theorem Zdg:∀{ts:List Nat} (x:ZkP U ts),(Z1i ts x).length=ts.length:=by
 intro ts
 induction ts with
 | nil=>intro x;rfl
 | cons t ts ih=>intro x;simp [Z1i,ih]
theorem ZCE {E:Env} (hU:Z0l U E) {ts:List Nat} (x:ZkP U ts) (n:Nat):Z2L U (ZvP ts x n)=⟨Z1i ts x++List.replicate (n - (Z1i ts x).length) Z0F,[]⟩:=by
 simp only [Z2L,ZvP,Z2B,Zsv hU,Zdg]
 congr 1
 congr 1
 rw [Z0x,List.map_replicate]
 rfl
theorem fn_ok {E0:Env} (hE0:E0.Z9Y=gl) (hU:Z0l U (EV P gl f mods hmods)) (hmix:P.follows .mixedOrders=true) {fn:Func} {c:Code} (hok:∀g m,mods g=some m->Z04 P E0 g m) (hhok:∀g k m,hmods g k=some m->Z5J P E0 g m) (hfn:P.funcs[f]? = some fn) (hname:(fn.name == "runtime.NumGoroutine")=false)
  (hb:fn.body=some c) (hcalm:Z36 (EV P gl f mods hmods) f c=true) (m:Mod U)
  (h:∀x a,m.fn x=some a->Z0S (Z2D (EV P gl f mods hmods) 1) (EV P gl f mods hmods) f fn 0 (Zp (EV P gl f mods hmods) fn) (.run c) [] (Z2L U (ZvP m.ts x fn.ntmps)) (U.enc m.rt a,[])):Z04 P E0 f m:=by
 have hE:=ZM3 (gl:=gl) (mods:=mods) hmix hfn hname hb hcalm
 have hF:Zjb P (EV P gl f mods hmods):=Zuk hU rfl rfl (fun _=>rfl) (fun g m hm=>(hok g m hm).Z9Y (by rw [hE0];rfl)) (fun g k m hm=>(hhok g k m hm).Z9Y (by rw [hE0];rfl))
 have hfn' : (EV P gl f mods hmods).func f=some fn:=by simp only [EV,if_true];exact hfn
 have key:∀x a,m.fn x=some a->Z7U P f/\Zdb P (EV P gl f mods hmods) f (Z1i m.ts x) (U.enc m.rt a):=by
  intro x a hx
  have:=h x a hx
  rw [ZCE hU] at this
  exact Zsw hE rfl hF hfn' hb this
 refine⟨⟨fn,hfn,by simp [hb],hname⟩,fun x a hx fz w vs hc hg hr=>(key x a hx).2 fz w vs hc ?_ hr⟩
 intro g r hh
 exact hg g r (by rw [hE0];exact hh)
def ZuC (e:List (SV U.Ty)×ZF U) (n:Nat):SSt U:=⟨e.1++List.replicate (n - e.1.length) .no,e.2⟩
theorem ZDl (e:List (SV U.Ty)×ZF U) (n:Nat):Z2L U (ZuC e n)=⟨ZU U e.1++List.replicate (n - (ZU U e.1).length) Z0F,toH U e.2⟩:=by
 simp only [Z2L,ZuC,Z2B,Z0o]
 congr 1
 congr 1
 rw [Z0x,List.map_replicate]
 rfl
theorem ZLN {E0:Env} (hE0:E0.Z9Y=gl) (hU:Z0l U (EV P gl f mods hmods)) (hmix:P.follows .mixedOrders=true) {fn:Func} {c:Code} (hok:∀g m,mods g=some m->Z04 P E0 g m) (hhok:∀g k m,hmods g k=some m->Z5J P E0 g m) (hfn:P.funcs[f]? = some fn) (hname:(fn.name == "runtime.NumGoroutine")=false)
  (hb:fn.body=some c) (hcalm:Z36 (EV P gl f mods hmods) f c=true) (m:HMod U) {fa:List (List Fk)} {fb:List Bf} {k:Nat} (hk:∀x:m.sin.X U,(m.sin.enc x).2.length=k)
  (h:∀(x:m.sin.X U) (y:U.Ty m.ky),m.fn x=some y->Z0S (Z2D (EV P gl f mods hmods) 1) (EV P gl f mods hmods) f fn k (Zh (EV P gl f mods hmods) fn fa fb k) (.run c) [] (Z2L U (ZuC (m.sin.enc x) fn.ntmps)) (toV U (m.out y).1,toH U (m.out y).2)):Z5J P E0 f m:=by
 have hE:=ZM3 (gl:=gl) (mods:=mods) (hmods:=hmods) hmix hfn hname hb hcalm
 have hF:Zjb P (EV P gl f mods hmods):=Zuk hU rfl rfl (fun _=>rfl) (fun g m hm=>(hok g m hm).Z9Y (by rw [hE0];rfl)) (fun g k m hm=>(hhok g k m hm).Z9Y (by rw [hE0];rfl))
 have hfn' : (EV P gl f mods hmods).func f=some fn:=by simp only [EV,if_true];exact hfn
 refine⟨⟨fn,hfn,by simp [hb],hname⟩,fun x y hx B w0 σ w vs hi hg hr=>?_⟩
 have h1:=h x y hx
 rw [ZDl] at h1
 exact(ZuS hE rfl hF hfn' hb (by rw [Z45];exact hk x) h1).2 B w0 σ w vs hi (fun g r hh=>hg g r (by rw [hE0];exact hh)) hr
theorem ZIX (hU:Z0l U (EV P gl f mods hmods)):Znf U (ZwT mods hmods) (Z2D (EV P gl f mods hmods) 1):=
 ZIA hU rfl rfl (fun _=>rfl) (fun g m h=>by simp only [EV,h]) (fun _=>rfl) 0
end
structure Z0L (U:Z3Q) (E:Env) (t:Nat):Prop where
 encS:∀a,toV U (U.encS t a)=U.enc t a
 dec:∀v a,U.Zsr t v=some a->Z0E (E.rows t) (toV U v)=U.enc t a
 cells:∀a,(U.enc t a).cells=ZU U (cellsS (U.encS t a))
 nr:∀a,ZV (U.enc t a)=true
 inj:∀a b,U.enc t a=U.enc t b->a=b
end Go.Proofs.YtjodhcdmhobmoaaGreatDoor.Le
namespace Go.Proofs.YtjodhcdmhobmoaaGreatDoor.Le
section
variable {U:Z3Q} {R P:Type}
def Z5e {R P:Type} (g:P->Option R):R⊕P->Option R
 | .inl r=>some r
 | .inr q=>g q
def Zu2 (T:P->Tr U (R⊕P)):Nat->P->Option R
 | 0,_=>none
 | n+1,p=>(T p).den (Z5e (Zu2 T n))
noncomputable def Z05 (T:P->Tr U (R⊕P)) (p:P):Option R:=ZKQ fun n=>Zu2 T n p
theorem ZJ1 {L:Type} {J K:L->Option R} (h:∀l r,J l=some r->K l=some r):∀{T:Tr U L} {r:R},T.den J=some r->T.den K=some r:=by
 intro T
 induction T with
 | leaf l=>intro r hr;exact h l r hr
 | br c a b iha ihb=>intro r hr;cases c with
  | true=>exact iha hr
  | false=>exact ihb hr
 | bind t o k ih=>intro r hr;cases o with
  | none=>cases hr
  | some a=>exact ih a hr
 | chk c a ih=>intro r hr;cases c with
  | true=>exact ih hr
  | false=>cases hr
 | fail=>intro r hr;cases hr
theorem ZBO (T:P->Tr U (R⊕P)):∀n p r,Zu2 T n p=some r->Zu2 T (n+1) p=some r:=by
 intro n
 induction n with
 | zero=>intro p r h;cases h
 | succ n ih=>
  intro p r h
  refine ZJ1 ?_ h
  intro l r hl
  cases l with
  | inl a=>exact hl
  | inr q=>exact ih q r hl
theorem ZEz (T:P->Tr U (R⊕P)) {n:Nat} {p:P} {r:R} (h:Zu2 T n p=some r):Z05 T p=some r:=
 ZKq (fun n a h=>ZBO T n p a h) h
theorem Z2k (T:P->Tr U (R⊕P)) (p:P):Z05 T p=(T p).den (Z5e (Z05 T)):=by
 have h1:∀r,Z05 T p=some r->(T p).den (Z5e (Z05 T))=some r:=by
  intro r h
  obtain⟨n,hn⟩:=ZmU h
  cases n with
  | zero=>cases hn
  | succ n=>
   refine ZJ1 ?_ hn
   intro l r hl
   cases l with
   | inl a=>exact hl
   | inr q=>exact ZEz T hl
 have h2:∀r,(T p).den (Z5e (Z05 T))=some r->Z05 T p=some r:=by
  intro r h
  obtain⟨l,hl,hr⟩:=ZAO h
  have key:∃n,(T p).den (Z5e (Zu2 T n))=some r:=by
   have hn:∃n,Z5e (Zu2 T n) l=some r:=by
    cases l with
    | inl a=>exact⟨0,hr⟩
    | inr q=>obtain⟨n,hn⟩:=ZmU hr;exact⟨n,hn⟩
   obtain⟨n,hn⟩:=hn
   refine⟨n,?_⟩
   have:∀(X:Tr U (R⊕P)),X.Zz l->X.den (Z5e (Zu2 T n))=some r:=by
    intro X
    induction X with
    | leaf x=>intro hx;simp only [Tr.Zz] at hx;subst hx;exact hn
    | br c a b iha ihb=>
     rintro (⟨rfl,hx⟩|⟨rfl,hx⟩)
     ·exact iha hx
     ·exact ihb hx
    | bind t o k ih=>rintro ⟨a,rfl,hx⟩;exact ih a hx
    | chk c a ih=>rintro ⟨rfl,hx⟩;exact ih hx
    | fail=>intro hx;exact hx.elim
   exact this _ hl
  obtain⟨n,hn⟩:=key
  exact ZEz T (n:=n+1) hn
 cases ha:Z05 T p with
 | some r=>exact(h1 r ha).symm
 | none=>
  cases hb:(T p).den (Z5e (Z05 T)) with
  | none=>rfl
  | some r=>rw [h2 r hb] at ha;cases ha
structure Z08 (U:Z3Q) where
 c:Code
 K:List Fr
 st:SSt U
 sk:Bool
def Zp5 {R:Type} (out:R->SV U.Ty×ZF U) (sp:P->Z08 U):R⊕P->ZKC U
 | .inl r=>.done (out r)
 | .inr q=>.jump (sp q).c (sp q).K (sp q).st
end
def outP {U:Z3Q} (rt:Nat) (r:U.Ty rt):SV U.Ty×ZF U:=(U.encS rt r,[])
end Go.Proofs.YtjodhcdmhobmoaaGreatDoor.Le
namespace Go.Proofs.YtjodhcdmhobmoaaGreatDoor.Le
structure Lay where
 keep:List Nat
 fa:List (List Fk)
 fb:List Bf
 sh:Shape
section
variable {U:Z3Q}
def ZAL {L:Type} (bs:List Bool) (t:Tr U L):Tr U L:=match bs with
 | []=>t
 | c::cs=>.chk (Zpg (c::cs)) t
theorem ZdR {L:Type} {bs:List Bool} {t:Tr U L} {l:L} (h:(ZAL bs t).Zz l):(∀b∈bs,b=true)/\t.Zz l:=by
 cases bs with
 | nil=>exact⟨by intro b hb;simp at hb,h⟩
 | cons c cs=>exact⟨Zp9 h.1,h.2⟩
def layT (kk:Nat) (l:Lay) (st:SSt U):Tr U (SSt U):=
 (ZCJ l.fa l.fb kk (l.keep.map fun i=>st.s.getD i .und) st.H).andThen fun r=>
  .when (r.1.take kk=List.range kk) (match l.sh.dec (ZaN (r.1.idxOf ·) r.2.1) (ZCw r.2.2 r.1) with
   | some x=>ZAL x.2 (.leaf ⟨spread .und st.s.length l.keep (l.sh.enc x.1).1,(l.sh.enc x.1).2⟩)
   | none=>.fail)
theorem ZFS (s:List (SV U.Ty)) (keep:List Nat):ZU U (keep.map fun i=>s.getD i .und)=keep.map fun i=>(ZU U s).getD i .und:=by
 induction keep with
 | nil=>rfl
 | cons i keep ih=>simp only [List.map_cons,ZU,ih,<- ZaD]
theorem ZK3 {E:Env} (hU:Z0l U E) {kk:Nat} {l:Lay} {st st' : SSt U} (h:(layT kk l st).Zz st'):∃ids as H2,pack l.fa l.fb kk (l.keep.map fun i=>(Z2L U st).s.getD i .und) (Z2L U st).H=some (ids,as,H2)/\ids.take kk=List.range kk /\
  Z2L U st' = ⟨spread .und (Z2L U st).s.length l.keep (Z6s (ids.idxOf ·) as),Zsy H2 ids⟩:=by
 simp only [layT,ZA,ZY] at h
 obtain⟨p,hp,hk,h⟩:=h
 have hp' :=ZkO hp
 rw [ZFS] at hp'
 split at h
 ·rename_i x hx
  obtain⟨hb,h⟩:=ZdR h
  simp only [Tr.Zz] at h
  subst h
  obtain⟨e1,e2⟩:=Shape.ZAs hU hx hb
  refine⟨_,_,_,hp',hk,?_⟩
  rw [Z3C] at e1
  rw [Zf1] at e2
  simp only [Z2L]
  rw [e1,e2,Z0o]
  congr 1
  rw [Z0x,ZC2,<- Z0x]
  rfl
 ·simp [Tr.Zz] at h
def ZHB (E:Env) (fn:Func) (fa:List (List Fk)) (fb:List Bf) (k:Nat) (sh:Shape) (one:Bool) (st:SSt U):Tr U (SV U.Ty×ZF U):=
 (ZJA E fn fa fb k st).andThen fun r=>match one,r.1 with
  | true,.tup _=>.fail
  | true,v=>(match sh.dec [v] r.2 with
   | some x=>ZAL x.2 (.leaf ((sh.enc x.1).1.headD .und,(sh.enc x.1).2))
   | none=>.fail)
  | false,.tup vs=>(match sh.dec vs r.2 with
   | some x=>ZAL x.2 (.leaf (.tup (sh.enc x.1).1,(sh.enc x.1).2))
   | none=>.fail)
  | false,_=>.fail
theorem ZIi {E:Env} (hU:Z0l U E) {fn:Func} {fa:List (List Fk)} {fb:List Bf} {k:Nat} {sh:Shape} {one:Bool} {st:SSt U} {r:SV U.Ty×ZF U} (h:(ZHB E fn fa fb k sh one st).Zz r):Zh E fn fa fb k (Z2L U st) (toV U r.1,toH U r.2):=by
 simp only [ZHB,ZA] at h
 obtain⟨q,hq,h⟩:=h
 have hz:=ZHe hU hq
 have key:toV U q.1=toV U r.1/\toH U q.2=toH U r.2:=by
  split at h
  ·simp [Tr.Zz] at h
  ·split at h
   ·rename_i x hx
    obtain⟨hb,h⟩:=ZdR h
    simp only [Tr.Zz] at h
    subst h
    obtain⟨e1,e2⟩:=Shape.ZAs hU hx hb
    refine⟨?_,e2⟩
    cases he:(sh.enc x.1).1 with
    | nil=>rw [he] at e1;cases e1
    | cons y ys=>
     rw [he] at e1
     simp only [ZU,List.cons.injEq] at e1
     exact e1.1
   ·simp [Tr.Zz] at h
  ·rename_i vs hvs
   split at h
   ·rename_i x hx
    obtain⟨hb,h⟩:=ZdR h
    simp only [Tr.Zz] at h
    subst h
    obtain⟨e1,e2⟩:=Shape.ZAs hU hx hb
    refine⟨?_,e2⟩
    rw [hvs]
    simp only [toV,e1]
   ·simp [Tr.Zz] at h
  ·simp [Tr.Zz] at h
 rw [<- key.1,<- key.2]
 exact hz
def Z9S (E:Env) (M:Mdl U) (A:Nat->Option Lay) (f:FuncId) (fn:Func) (kk:Nat) (D:SSt U->Tr U (SV U.Ty×ZF U)):Nat->Ctl->List Fr->SSt U->Bool->Tr U (ZKC U)
 | 0,_,_,_,_=>.fail
 | n+1,.run c,K,st,sk=>
  match c with
  | .skip=>Z9S E M A f fn kk D n .nxt K st sk
  | .region id ops draw=>
   let go:Tr U (ZKC U):=if draw then (if E.calm f id then (ZI4 E M ops st).andThen fun st' =>Z9S E M A f fn kk D n .nxt K st' false else .fail)
    else (opsT E M ops (List.range ops.size) st).andThen fun st' =>Z9S E M A f fn kk D n .nxt K st' false
   match sk with
   | true=>go
   | false=>match A id with
    | none=>go
    | some l=>(layT kk l st).andThen fun st' =>.leaf (.jump (.region id ops draw) K st')
  | .seq a b=>Z9S E M A f fn kk D n (.run a) (.seq b::K) st sk
  | .cond c a b=>match evS E st.s c with
   | .lit (.bool true)=>Z9S E M A f fn kk D n (.run a) K st sk
   | .lit (.bool false)=>Z9S E M A f fn kk D n (.run b) K st sk
   | .sb t=>.br t (Z9S E M A f fn kk D n (.run a) K st sk) (Z9S E M A f fn kk D n (.run b) K st sk)
   | _=>.fail
  | .block id b=>Z9S E M A f fn kk D n (.run b) (.blk id::K) st sk
  | .loop b=>Z9S E M A f fn kk D n (.run b) (.loop b::K) st sk
  | .scope b=>Z9S E M A f fn kk D n (.run b) K st sk
  | .label _=>Z9S E M A f fn kk D n .nxt K st sk
  | .exit id=>Z9S E M A f fn kk D n (.exit id) K st sk
  | .ret=>Z9S E M A f fn kk D n .ret K st sk
  | _=>.fail
 | n+1,.nxt,[],st,_=>(D st).andThen fun v=>.leaf (.done v)
 | n+1,.nxt,.seq c::K,st,sk=>Z9S E M A f fn kk D n (.run c) K st sk
 | n+1,.nxt,.blk _::K,st,sk=>Z9S E M A f fn kk D n .nxt K st sk
 | n+1,.nxt,.loop b::K,st,sk=>Z9S E M A f fn kk D n (.run b) (.loop b::K) st sk
 | n+1,.exit id,.blk i::K,st,sk=>if id=i then Z9S E M A f fn kk D n .nxt K st sk else Z9S E M A f fn kk D n (.exit id) K st sk
 | n+1,.exit id,_::K,st,sk=>Z9S E M A f fn kk D n (.exit id) K st sk
 | n+1,.exit _,[],_,_=>.fail
 | n+1,.ret,[],st,_=>(D st).andThen fun v=>.leaf (.done v)
 | n+1,.ret,_::K,st,sk=>Z9S E M A f fn kk D n .ret K st sk
theorem ZJU {E:Env} {M:Mdl U} {A:Nat->Option Lay} {call:Z1f} (hU:Z0l U E) (hM:Znf U M call) {f:FuncId} {fn:Func} {kk:Nat} {D:SSt U->Tr U (SV U.Ty×ZF U)} {Z:St->V×Heap->Prop} (hD:∀st s,(D st).Zz s->Z (Z2L U st) (toV U s.1,toH U s.2)) {r:V×Heap}:∀(n:Nat) (ctl:Ctl) (K:List Fr) (st:SSt U) (sk:Bool) (l:ZKC U),
  (Z9S E M A f fn kk D n ctl K st sk).Zz l->ZIn call E f fn kk Z l r->Z0S call E f fn kk Z ctl K (Z2L U st) r:=by
 intro n
 induction n with
 | zero=>intro ctl K st sk l h;simp [Z9S,Tr.Zz] at h
 | succ n ih=>
  intro ctl K st sk l h hl
  cases ctl with
  | run c=>
   cases c with
   | skip=>exact .skip (ih _ _ _ _ _ h hl)
   | region id ops draw=>
    simp only [Z9S] at h
    have go:(if draw=true then (if E.calm f id=true then (ZI4 E M ops st).andThen fun st' =>Z9S E M A f fn kk D n .nxt K st' false else .fail)
      else (opsT E M ops (List.range ops.size) st).andThen fun st' =>Z9S E M A f fn kk D n .nxt K st' false:Tr U (ZKC U)).Zz l->Z0S call E f fn kk Z (.run (.region id ops draw)) K (Z2L U st) r:=by
     intro hg
     cases draw with
     | true=>
      simp only [if_true] at hg
      by_cases hc:E.calm f id=true
      ·rw [if_pos hc,ZA] at hg
       obtain⟨st1,h1,h2⟩:=hg
       exact .draw hc (ZHs hU hM h1) (ih _ _ _ _ _ h2 hl)
      ·rw [if_neg hc] at hg
       simp [Tr.Zz] at hg
     | false=>
      simp only [Bool.false_eq_true,if_false] at hg
      rw [ZA] at hg
      obtain⟨st1,h1,h2⟩:=hg
      exact .region (ZK2 hU hM h1) (ih _ _ _ _ _ h2 hl)
    cases sk with
    | true=>exact go h
    | false=>
     simp only at h
     split at h
     ·exact go h
     ·rename_i l' hA
      simp only [ZA,Tr.Zz] at h
      obtain⟨st1,ht,rfl⟩:=h
      obtain⟨ids,as,H2,h1,h2,h3⟩:=ZK3 hU ht
      have hl' : Z0S call E f fn kk Z (.run (.region id ops draw)) K (Z2L U st1) r:=hl
      rw [h3] at hl'
      exact .ZLY h1 h2 hl'
   | seq a b=>exact .seq (ih _ _ _ _ _ h hl)
   | cond c a b=>
    simp only [Z9S] at h
    have hev:ev E (Z2L U st).s c=toV U (evS E st.s c):=Z1Y E st.s c
    split at h
    ·rename_i hc
     rw [hc] at hev
     exact .cond (t:=true) hev (ih _ _ _ _ _ h hl)
    ·rename_i hc
     rw [hc] at hev
     exact .cond (t:=false) hev (ih _ _ _ _ _ h hl)
    ·rename_i t hc
     rw [hc] at hev
     simp only [Tr.Zz] at h
     rcases h with ⟨rfl,h⟩|⟨rfl,h⟩
     ·exact .cond (t:=true) hev (ih _ _ _ _ _ h hl)
     ·exact .cond (t:=false) hev (ih _ _ _ _ _ h hl)
    ·simp [Tr.Zz] at h
   | block id b=>exact .block (ih _ _ _ _ _ h hl)
   | loop b=>exact .loop (ih _ _ _ _ _ h hl)
   | scope b=>exact .scope (ih _ _ _ _ _ h hl)
   | label l=>exact .label (ih _ _ _ _ _ h hl)
   | exit id=>exact .exit (ih _ _ _ _ _ h hl)
   | ret=>exact .ret (ih _ _ _ _ _ h hl)
   | _=>simp [Z9S,Tr.Zz] at h
  | nxt=>
   cases K with
   | nil=>
    simp only [Z9S,ZA,Tr.Zz] at h
    obtain⟨v,h1,rfl⟩:=h
    have:r=(toV U v.1,toH U v.2):=hl
    rw [this]
    exact .finN (hD _ _ h1)
   | cons x K=>
    cases x with
    | seq c=>exact .nseq (ih _ _ _ _ _ h hl)
    | blk i=>exact .nblk (ih _ _ _ _ _ h hl)
    | loop b=>exact .ZLJ (ih _ _ _ _ _ h hl)
  | exit id=>
   cases K with
   | nil=>simp [Z9S,Tr.Zz] at h
   | cons x K=>
    cases x with
    | seq c=>exact .eseq (ih _ _ _ _ _ h hl)
    | blk i=>
     simp only [Z9S] at h
     split at h
     ·rename_i hi
      subst hi
      exact .eblk (ih _ _ _ _ _ h hl)
     ·rename_i hi
      exact .ZL2 hi (ih _ _ _ _ _ h hl)
    | loop b=>exact .ZLx (ih _ _ _ _ _ h hl)
  | ret=>
   cases K with
   | nil=>
    simp only [Z9S,ZA,Tr.Zz] at h
    obtain⟨v,h1,rfl⟩:=h
    have:r=(toV U v.1,toH U v.2):=hl
    rw [this]
    exact .finR (hD _ _ h1)
   | cons x K=>exact .rany (ih _ _ _ _ _ h hl)
theorem Zpm {R P:Type} {E:Env} {M:Mdl U} {A:Nat->Option Lay} {call:Z1f} (hU:Z0l U E) (hM:Znf U M call) {f:FuncId} {fn:Func} {kk:Nat} {D:SSt U->Tr U (SV U.Ty×ZF U)} {Z:St->V×Heap->Prop} (hD:∀st s,(D st).Zz s->Z (Z2L U st) (toV U s.1,toH U s.2))
  {out:R->SV U.Ty×ZF U} {N:Nat} (T:P->Tr U (R⊕P)) (sp:P->Z08 U)
  (h:∀p,Z9S E M A f fn kk D N (.run (sp p).c) (sp p).K (sp p).st (sp p).sk=(T p).map (Zp5 out sp)) {p:P} {r:R} (hr:Z05 T p=some r) :
  Z0S call E f fn kk Z (.run (sp p).c) (sp p).K (Z2L U (sp p).st) (toV U (out r).1,toH U (out r).2):=by
 obtain⟨n,hn⟩:=ZmU hr
 clear hr
 induction n generalizing p r with
 | zero=>cases hn
 | succ n ih=>
  obtain⟨l,h1,h2⟩:=ZAO hn
  have h3:=ZHY (g:=Zp5 out sp) h1
  rw [<- h p] at h3
  refine ZJU hU hM hD N _ _ _ _ _ h3 ?_
  cases l with
  | inl a=>
   simp only [Z5e,Option.some.injEq] at h2
   subst h2
   rfl
  | inr q=>exact ih h2
end
def spot {U:Z3Q} (c:Code) (p:List Nat) (n:Nat) (keep:List Nat) (e:List (SV U.Ty)×ZF U):Z08 U:=⟨(nav c p []).1,(nav c p []).2,⟨spread .und n keep e.1,e.2⟩,true⟩
theorem ZIp {U:Z3Q} {P:Program} {gl:Nat->Option (List V)} {f:FuncId} {mods:FuncId->Option (Mod U)} {hmods:FuncId->List FuncId->Option (HMod U)} {E0:Env} (hE0:E0.Z9Y=gl) (hU:Z0l U (EV P gl f mods hmods)) (hmix:P.follows .mixedOrders=true) {fn:Func} {c:Code}
  (hok:∀g m,mods g=some m->Z04 P E0 g m) (hhok:∀g k m,hmods g k=some m->Z5J P E0 g m) (hfn:P.funcs[f]? = some fn) (hname:(fn.name == "runtime.NumGoroutine")=false) (hb:fn.body=some c) (hcalm:Z36 (EV P gl f mods hmods) f c=true) (m:Mod U)
  {Pt:Type} {A:Nat->Option Lay} {N:Nat} (T:Pt->Tr U (U.Ty m.rt⊕Pt)) (sp:Pt->Z08 U)
  (h:∀p,Z9S (EV P gl f mods hmods) (ZwT mods hmods) A f fn 0 (ZHP (EV P gl f mods hmods) fn) N (.run (sp p).c) (sp p).K (sp p).st (sp p).sk=(T p).map (Zp5 (outP m.rt) sp))
  (b0:ZkP U m.ts->Pt) (hm:∀x,m.fn x=Z05 T (b0 x)) (hsp:∀x,sp (b0 x)=⟨c,[],ZvP m.ts x fn.ntmps,false⟩):Z04 P E0 f m:=by
 refine fn_ok hE0 hU hmix hok hhok hfn hname hb hcalm m fun x a hx=>?_
 rw [hm] at hx
 have:=Zpm hU (ZIX hU) (fun st s hs=>ZHS hU hs) T sp h hx
 rw [hsp] at this
 simp only [outP,hU.encS] at this
 exact this
theorem ZEZ {U:Z3Q} {P:Program} {gl:Nat->Option (List V)} {f:FuncId} {mods:FuncId->Option (Mod U)} {hmods:FuncId->List FuncId->Option (HMod U)} {E0:Env} (hE0:E0.Z9Y=gl) (hU:Z0l U (EV P gl f mods hmods)) (hmix:P.follows .mixedOrders=true) {fn:Func} {c:Code}
  (hok:∀g m,mods g=some m->Z04 P E0 g m) (hhok:∀g k m,hmods g k=some m->Z5J P E0 g m) (hfn:P.funcs[f]? = some fn) (hname:(fn.name == "runtime.NumGoroutine")=false) (hb:fn.body=some c) (hcalm:Z36 (EV P gl f mods hmods) f c=true) (m:HMod U)
  {fa:List (List Fk)} {fb:List Bf} {k:Nat} (hk:∀x:m.sin.X U,(m.sin.enc x).2.length=k) {Pt:Type} {A:Nat->Option Lay} {N:Nat} (T:Pt->Tr U (U.Ty m.ky⊕Pt)) (sp:Pt->Z08 U)
  (h:∀p,Z9S (EV P gl f mods hmods) (ZwT mods hmods) A f fn k (ZHB (EV P gl f mods hmods) fn fa fb k m.ZH9 m.one) N (.run (sp p).c) (sp p).K (sp p).st (sp p).sk=(T p).map (Zp5 m.out sp))
  (b0:m.sin.X U->Pt) (hm:∀x:m.sin.X U,m.fn x=Z05 T (b0 x)) (hsp:∀x:m.sin.X U,sp (b0 x)=⟨c,[],ZuC (m.sin.enc x) fn.ntmps,false⟩):Z5J P E0 f m:=by
 refine ZLN hE0 hU hmix hok hhok hfn hname hb hcalm m hk (fa:=fa) (fb:=fb) fun x y hx=>?_
 rw [hm] at hx
 have:=Zpm hU (ZIX hU) (fun st s hs=>ZIi hU hs) T sp h hx
 rw [hsp] at this
 exact this
end Go.Proofs.YtjodhcdmhobmoaaGreatDoor.Le
namespace Go.Proofs.YtjodhcdmhobmoaaGreatDoor.Le
open Go.RowKit (Below)
def Z5C (P:Program):TypeDesc->Option (List (Nat×TypeId))
 | .struct fs=>some (fs.toList.map fun f=>(f.offset,f.type))
 | .array n e=>some ((List.range n).map fun i=>(i*P.cellsOf e,e))
 | _=>none
def Z5w (P:Program) (t:TypeId):Bool:=match P.underlying t with|some d=>d.isRow|none=>false
def Z5i (P:Program):Nat->TypeId->List V->Prop
 | 0,_,_=>False
 | d+1,t,cs=>match P.underlying t with
  | some .bool=>∃b,cs=[.lit (.bool b)]
  | some (.int k)=>∃n,cs=[.lit (.int k n)]/\(Lit.int k n).wf=true
  | some .string=>∃s,cs=[.lit (.string s)]/\s.size<=maxLen
  | some (.slice e)=>∃xs,cs=[.sl false (P.cellsOf e) xs]/\xs.length<=maxLen/\∀x∈xs,(if Z5w P e then ∃ds,x = .agg ds else x.cells=[x])/\Z5i P d e x.cells
  | some dd=>match Z5C P dd with
   | some ss=>cs.length=P.cellsOf t/\∀s∈ss,Z5i P d s.2 ((cs.drop s.1).take (P.cellsOf s.2))
   | none=>False
  | none=>False
def covers (P:Program):Nat->List (Nat×TypeId)->Nat->Bool
 | off,[],n=>off==n
 | off,s::ss,n=>s.1==off&&covers P (off+P.cellsOf s.2) ss n
def ZeV (P:Program):Nat->TypeId->Bool
 | 0,_=>false
 | d+1,t=>match P.underlying t with
  | some .bool=>true
  | some (.int _)=>true
  | some .string=>true
  | some (.slice e)=>ZeV P d e&&decide (0<P.cellsOf e)
  | some dd=>match Z5C P dd with
   | some ss=>ss.all (fun s=>ZeV P d s.2)&&covers P 0 ss (P.cellsOf t)
   | none=>false
  | none=>false
def Zkz (w:World):Nat->Nat->Prop:=fun b c=>∃u,w.cell? ⟨b,c,none⟩=some u
structure Read (P:Program) (w:World) (d:Nat) (t:TypeId) (cs:List Value) (xs:List V):Prop where
 Z5G:Zw (bare (Zkz w)) w xs cs
 ty:Z5i P d t xs
 ok:∀x∈xs,fzV x=true
 one:∀u∈cs,u.oneCell' = true
theorem Zsz {P:Program}:∀{ss:List (Nat×TypeId)} {off n:Nat},covers P off ss n=true->off<=n/\∀s∈ss,off<=s.1/\s.1+P.cellsOf s.2<=n:=by
 intro ss
 induction ss with
 | nil=>intro off n h;simp only [covers,beq_iff_eq] at h;exact⟨by omega,by simp⟩
 | cons s ss ih=>
  intro off n h
  simp only [covers,Bool.and_eq_true,beq_iff_eq] at h
  obtain⟨h1,h2⟩:=h
  obtain⟨h3,h4⟩:=ih h2
  refine⟨by omega,fun x hx=>?_⟩
  rcases List.mem_cons.1 hx with rfl|hx
  ·omega
  ·have:=h4 x hx;omega
theorem ZFh {P:Program} {w:World} {d:Nat} {cs:List Value}:∀{ss:List (Nat×TypeId)} {off:Nat},covers P off ss cs.length=true->(∀s∈ss,∃xs,Read P w d s.2 ((cs.drop s.1).take (P.cellsOf s.2)) xs) ->
  ∃xs,Zw (bare (Zkz w)) w xs (cs.drop off)/\(∀x∈xs,fzV x=true)/\(∀u∈cs.drop off,u.oneCell' = true)/\∀s∈ss,Z5i P d s.2 ((xs.drop (s.1 - off)).take (P.cellsOf s.2)):=by
 intro ss
 induction ss with
 | nil=>
  intro off hc _
  simp only [covers,beq_iff_eq] at hc
  refine⟨[],?_,by simp,?_,by simp⟩
  ·rw [hc,List.drop_length];exact .nil
  ·rw [hc,List.drop_length];simp
 | cons s ss ih=>
  intro off hc h
  simp only [covers,Bool.and_eq_true,beq_iff_eq] at hc
  obtain⟨h1,h2⟩:=hc
  obtain⟨x1,r1⟩:=h s (by simp)
  obtain⟨x2,q1,q2,q3,q4⟩:=ih h2 (fun s' hs' =>h s' (by simp [hs']))
  have hle:=(Zsz h2).1
  rw [h1] at r1
  have hlen:x1.length=P.cellsOf s.2:=by
   have:=r1.Z5G.length
   rw [List.length_take,List.length_drop] at this
   omega
  have hcut:cs.drop off=(cs.drop off).take (P.cellsOf s.2)++cs.drop (off+P.cellsOf s.2):=by
   rw [<- List.drop_drop,List.take_append_drop]
  refine⟨x1++x2,?_,?_,?_,?_⟩
  ·rw [hcut];exact r1.Z5G.append q1
  ·intro x hx
   rcases List.mem_append.1 hx with hx|hx
   ·exact r1.ok x hx
   ·exact q2 x hx
  ·intro u hu
   rw [hcut] at hu
   rcases List.mem_append.1 hu with hu|hu
   ·exact r1.one u hu
   ·exact q3 u hu
  ·intro s' hs'
   rcases List.mem_cons.1 hs' with rfl|hs'
   ·rw [h1,Nat.sub_self,List.drop_zero,List.take_append_of_le_length (by omega),List.take_of_length_le (by omega)]
    exact r1.ty
   ·have hge:=((Zsz h2).2 s' hs').1
    have:s'.1 - off=x1.length+(s'.1 - (off+P.cellsOf s.2)):=by omega
    rw [this,List.drop_append]
    have e1:x1.drop (x1.length+(s'.1 - (off+P.cellsOf s.2)))=[]:=List.drop_eq_nil_of_le (by omega)
    rw [e1,List.nil_append]
    have e2:x1.length+(s'.1 - (off+P.cellsOf s.2)) - x1.length=s'.1 - (off+P.cellsOf s.2):=by omega
    rw [e2]
    exact q4 s' hs'
def ZDV (P:Program) (t:TypeId) (xs:List V):V:=if Z5w P t then .agg xs else xs.headD .no
def ZJZ (P:Program) (t:TypeId) (cs:List Value):Value:=if Z5w P t then .agg cs.toArray else cs.headD undef
theorem Z5i.single {P:Program} {d:Nat} {t:TypeId} {xs:List V} (h:Z5i P d t xs) (hr:Z5w P t=false):∃x,xs=[x]/\x.cells=[x]:=by
 cases d with
 | zero=>exact h.elim
 | succ d=>
  unfold Z5i at h
  unfold Z5w at hr
  split at h
  ·obtain⟨b,rfl⟩:=h;exact⟨_,rfl,rfl⟩
  ·obtain⟨n,rfl,_⟩:=h;exact⟨_,rfl,rfl⟩
  ·obtain⟨s,rfl,_⟩:=h;exact⟨_,rfl,rfl⟩
  ·obtain⟨ys,rfl,_⟩:=h;exact⟨_,rfl,rfl⟩
  ·rename_i dd _ _ _ _ hd
   rw [hd] at hr
   split at h
   ·rename_i ss hss
    unfold Z5C at hss
    split at hss
    ·simp [TypeDesc.isRow] at hr
    ·simp [TypeDesc.isRow] at hr
    ·cases hss
   ·exact h.elim
  ·exact h.elim
theorem Read.arg {P:Program} {w:World} {d:Nat} {t:TypeId} {cs:List Value} {xs:List V} (h:Read P w d t cs xs) :
  Zw (bare (Zkz w)) w [ZDV P t xs] [ZJZ P t cs]/\fzV (ZDV P t xs)=true/\(ZJZ P t cs).cells.toList=cs/\(ZDV P t xs).cells=xs/\(if Z5w P t then ∃ds,ZDV P t xs = .agg ds else (ZDV P t xs).cells=[ZDV P t xs]):=by
 unfold ZDV ZJZ
 cases hr:Z5w P t with
 | true=>
  simp only [if_true]
  refine⟨?_,?_,by simp [Value.cells],rfl,⟨xs,rfl⟩⟩
  ·have:=Zw.agg h.Z5G h.one (xs:=[]) (vs:=[]) .nil
   exact this
  ·simp only [fzV,okV,ZV,Bool.true_and]
   rw [Z1d]
   exact fun x hx=>Z4Q (h.ok x hx)
 | false=>
  simp only [Bool.false_eq_true,if_false]
  obtain⟨x,rfl,hx⟩:=h.ty.single hr
  obtain⟨u,us,rfl,h1,h2⟩:=h.Z5G.ZR
  have:us=[]:=h2.Z0y
  subst this
  refine⟨h1,h.ok x (by simp),?_,hx,hx⟩
  have hone:=h.one u (by simp)
  simp only [List.headD_cons]
  cases u<;>simp_all [Value.cells,Value.oneCell']
section
variable {H:Type} {enc:TypeId×Value->H} {P:Program} {w:World} {base:Nat} {held:Bool}
theorem ZKa:∀(d:Nat) (t:TypeId) (n:Nat) (cs:List Value) (x:DataW H×List MemPlace),ZeV P d t=true->DataW.trod enc P w base (fun _=>true) held n t cs=some x->∃xs,Read P w d t cs xs:=by
 intro d
 induction d with
 | zero=>intro t n cs x h;simp [ZeV] at h
 | succ d ih=>
  intro t n cs x hp h
  unfold ZeV at hp
  split at hp
  ·rename_i ht
   obtain⟨b,rfl,_⟩:=DataW.trod_bool ht h
   exact⟨[.lit (.bool b)],.lit rfl .nil,by unfold Z5i;rw [ht];exact⟨b,rfl⟩,by simp [fzV,okV,ZV],by simp [Value.oneCell']⟩
  ·rename_i k ht
   obtain⟨m,rfl,_,hw⟩:=DataW.trod_int ht h
   exact⟨[.lit (.int k m)],.lit (by simp [leaf,hw]) .nil,by unfold Z5i;rw [ht];exact⟨m,rfl,hw⟩,by simp [fzV,okV,ZV],by simp [Value.oneCell']⟩
  ·rename_i ht
   obtain⟨s,rfl,_,hs⟩:=DataW.trod_string ht h
   exact⟨[.lit (.string s)],.lit (by simp [leaf,hs]) .nil,by unfold Z5i;rw [ht];exact⟨s,rfl,hs⟩,by simp [fzV,okV,ZV],by simp [Value.oneCell']⟩
  ·rename_i e ht
   simp only [Bool.and_eq_true,decide_eq_true_eq] at hp
   obtain⟨hpe,hpos⟩:=hp
   have mk:∀(v:Value) (es:List V),Zw (bare (Zkz w)) w [.sl false (P.cellsOf e) es] [v]->v.oneCell' = true->es.length<=maxLen->(∀y∈es,fzV y=true) ->
     (∀y∈es,(if Z5w P e then ∃ds,y = .agg ds else y.cells=[y])/\Z5i P d e y.cells)->∃xs,Read P w (d+1) t [v] xs:=by
    intro v es h1 h2 h3 h4 h5
    refine⟨_,h1,?_,?_,by simpa using h2⟩
    ·unfold Z5i;rw [ht];exact⟨es,rfl,h3,h5⟩
    ·intro y hy
     simp only [List.mem_singleton] at hy
     subst hy
     simp only [fzV,okV,ZV,Bool.true_and]
     rw [Z1d]
     exact fun z hz=>Z4Q (h4 z hz)
   rcases DataW.trod_slice ht h with ⟨rfl,_⟩|⟨a,len,cap,elems,rest,m,rfl,rfl,_,hb,hlc,hcm,hel,helem,hrest,_⟩
   ·exact mk _ [] (.Z32 .nil) rfl (by simp) (by simp) (by simp)
   ·obtain⟨hrl,hrest⟩:=hrest rfl
    by_cases hc0:cap=0
    ·subst hc0
     have:len=0:=by omega
     subst this
     exact mk _ [] (.Z4f a .nil) rfl (by simp) (by simp) (by simp)
    ·
     have hspot:a.spot=none:=by
      have hfirst:∃c0,w.cells? base (a.add 0) (P.cellsOf e)=some c0:=by
       by_cases hl0:0<len
       ·have:=helem 0 hl0
        rw [Nat.zero_mul] at this
        have hlt:0<elems.length:=by omega
        rw [List.getElem?_eq_getElem hlt] at this
        cases hq:w.cells? base (a.add 0) (P.cellsOf e) with
        | none=>simp [hq] at this
        | some c0=>exact⟨c0,rfl⟩
       ·have hl0:len=0:=by omega
        subst hl0
        have:=hrest 0 (by omega)
        simp only [Nat.zero_add,Nat.zero_mul] at this
        have hlt:0<rest.length:=by omega
        rw [List.getElem?_eq_getElem hlt] at this
        cases hq:w.cells? base (a.add 0) (P.cellsOf e) with
        | none=>simp [hq] at this
        | some c0=>exact⟨c0,rfl⟩
      obtain⟨c0,hc0'⟩:=hfirst
      obtain⟨_,e2,e3⟩:=World.cells?_some hc0'
      have:=e3 0 hpos
      have hlt:0<c0.length:=by omega
      rw [List.getElem?_eq_getElem hlt] at this
      simp only [Addr.add,if_true] at this
      unfold World.cell? at this
      split at this
      ·cases hs:a.spot with
       | none=>rfl
       | some s=>simp [hs] at this
      ·cases this
     obtain⟨ab,ao,as⟩:=a
     simp only at hspot
     subst hspot
     have each:∀i,i<len->∃ci xi,w.cells? base (Addr.add ⟨ab,ao,none⟩ (i*P.cellsOf e)) (P.cellsOf e)=some ci/\Read P w d e ci xi:=by
      intro i hi
      have:=helem i hi
      have hlt:i<elems.length:=by omega
      rw [List.getElem?_eq_getElem hlt] at this
      cases hq:w.cells? base (Addr.add ⟨ab,ao,none⟩ (i*P.cellsOf e)) (P.cellsOf e) with
      | none=>simp [hq] at this
      | some ci=>
       simp only [hq,Option.bind_some] at this
       obtain⟨xi,hxi⟩:=ih e m ci _ hpe this
       exact⟨ci,xi,rfl,hxi⟩
     have list:∀k,k<=len->∃(es:List V) (us:List Value),es.length=k/\Zw (bare (Zkz w)) w es us/\(∀y∈es,fzV y=true)/\(∀u∈us,u.cells.size=P.cellsOf e)/\(∀u∈flat us,u.oneCell' = true) /\
       (∀y∈es,(if Z5w P e then ∃ds,y = .agg ds else y.cells=[y])/\Z5i P d e y.cells)/\(∀j u,(flat us)[j]? = some u->w.cell? ⟨ab,ao+j,none⟩=some u):=by
      intro k
      induction k with
      | zero=>intro _;exact⟨[],[],rfl,.nil,by simp,by simp,by simp [flat],by simp,by simp [flat]⟩
      | succ k ihk=>
       intro hk
       obtain⟨es,us,l1,l2,l3,l4,l5,l6,l7⟩:=ihk (by omega)
       obtain⟨ci,xi,hci,hr⟩:=each k (by omega)
       obtain⟨a1,a2,a3,a4,a5⟩:=hr.arg
       obtain⟨_,c2,c3⟩:=World.cells?_some hci
       have hsz:(ZJZ P e ci).cells.size=P.cellsOf e:=by
        have:=congrArg List.length a3
        simpa [c2] using this
       refine⟨es++[ZDV P e xi],us++[ZJZ P e ci],by simp [l1],l2.append a1,?_,?_,?_,?_,?_⟩
       ·intro y hy
        rcases List.mem_append.1 hy with hy|hy
        ·exact l3 y hy
        ·rw [List.mem_singleton.1 hy];exact a2
       ·intro u hu
        rcases List.mem_append.1 hu with hu|hu
        ·exact l4 u hu
        ·rw [List.mem_singleton.1 hu];exact hsz
       ·intro u hu
        rw [Z1I] at hu
        rcases List.mem_append.1 hu with hu|hu
        ·exact l5 u hu
        ·rw [Z1j,a3] at hu
         exact hr.one u hu
       ·intro y hy
        rcases List.mem_append.1 hy with hy|hy
        ·exact l6 y hy
        ·rw [List.mem_singleton.1 hy];exact⟨a5,by rw [a4];exact hr.ty⟩
       ·intro j u hj
        rw [Z1I,Z1j,a3] at hj
        have hfl:(flat us).length=k*P.cellsOf e:=by rw [flat_length l4,<- l2.length,l1]
        by_cases hlt:j<(flat us).length
        ·rw [List.getElem?_append_left hlt] at hj
         exact l7 j u hj
        ·rw [List.getElem?_append_right (by omega)] at hj
         have hjl:j - (flat us).length<P.cellsOf e:=by
          have:=(List.getElem?_eq_some_iff.1 hj).1
          omega
         have:=c3 _ hjl
         rw [hj] at this
         rw [<- this]
         congr 1
         have hadd:Addr.add (Addr.add ⟨ab,ao,none⟩ (k*P.cellsOf e)) (j - (flat us).length)=⟨ab,ao+j,none⟩:=by
          simp only [Addr.add]
          split<;>split<;>simp<;>omega
         rw [hadd]
     obtain⟨es,us,l1,l2,l3,l4,l5,l6,l7⟩:=list len (Nat.le_refl _)
     subst l1
     refine mk _ es ?_ rfl (by omega) l3 l6
     exact .sl ab ao cap (P.cellsOf e) l2 l3 l4 l5 hlc hcm (fun j u hj=>⟨⟨u,l7 j u hj⟩,l7 j u hj⟩) .nil
  ·rename_i dd _ _ _ _ ht
   split at hp
   ·rename_i ss hss
    simp only [Bool.and_eq_true,List.all_eq_true] at hp
    obtain⟨hall,hcov⟩:=hp
    have parts:cs.length=P.cellsOf t/\∀s∈ss,∃xs,Read P w d s.2 ((cs.drop s.1).take (P.cellsOf s.2)) xs:=by
     cases dd with
     | struct fs=>
      simp only [Z5C,Option.some.injEq] at hss
      obtain⟨xs,m,_,_,hlen,hxl,hf⟩:=DataW.trod_struct ht h
      refine⟨hlen,fun s hs=>?_⟩
      have hs' :=hs
      rw [<- hss] at hs
      obtain⟨f,hfm,rfl⟩:=List.mem_map.1 hs
      obtain⟨i,hi,hfi⟩:=List.getElem_of_mem hfm
      have hfi' : fs[i]? = some f:=by simp at hi;rw [Array.getElem?_eq_getElem hi];simp at hfi;rw [hfi]
      have:=hf i f hfi'
      have hlt:i<xs.length:=by simp at hi;omega
      rw [List.getElem?_eq_getElem hlt] at this
      exact ih f.type m _ _ (hall _ hs') this
     | array n' e=>
      simp only [Z5C,Option.some.injEq] at hss
      obtain⟨xs,m,_,_,hlen,hxl,hf⟩:=DataW.trod_array ht h
      refine⟨hlen,fun s hs=>?_⟩
      have hs' :=hs
      rw [<- hss] at hs
      obtain⟨i,hi,rfl⟩:=List.mem_map.1 hs
      have hin:i<n' :=by simpa using hi
      have:=hf i hin
      have hlt:i<xs.length:=by omega
      rw [List.getElem?_eq_getElem hlt] at this
      exact ih e m _ _ (hall _ hs') this
     | _=>simp [Z5C] at hss
    obtain⟨hlen,hparts⟩:=parts
    obtain⟨xs,h1,h2,h3,h4⟩:=ZFh (by rw [hlen];exact hcov) hparts
    rw [List.drop_zero] at h1 h3
    refine⟨xs,h1,?_,h2,h3⟩
    unfold Z5i
    rw [ht]
    simp only [Nat.sub_zero] at h4
    split<;>first|(rename_i hq;simp only [Option.some.injEq] at hq;subst hq;simp [Z5C] at hss;done)|skip
    ·rename_i hq
     simp only [Option.some.injEq] at hq
     subst hq
     rw [hss]
     exact⟨by rw [h1.length];exact hlen,h4⟩
    ·rename_i hq;cases hq
   ·cases hp
  ·cases hp
inductive ZfP (P:Program) (d:Nat):List TypeId->List V->Prop where
 | nil:ZfP P d [] []
 | cons {t ts xs as}:Z5i P d t xs->ZfP P d ts as->ZfP P d (t::ts) (ZDV P t xs::as)
theorem ZDQ {r:Reach} {b0:Nat} {d:Nat} {t:TypeId} {v:Value} {xs:List V} (hv:Value.okWide P w r b0 t v) (h:Read P w d t v.cells.toList xs):ZJZ P t v.cells.toList=v:=by
 unfold ZJZ
 cases hr:Z5w P t with
 | true=>
  simp only [if_true]
  unfold Z5w at hr
  split at hr
  ·rename_i dd hd
   unfold Value.okWide at hv
   rw [hd] at hv
   cases dd<;>simp [TypeDesc.isRow] at hr
   ·obtain⟨cs,rfl,_⟩:=hv;simp [Value.cells]
   ·obtain⟨cs,rfl,_⟩:=hv;simp [Value.cells]
  ·cases hr
 | false=>
  simp only [Bool.false_eq_true,if_false]
  obtain⟨x,rfl,_⟩:=h.ty.single hr
  have hne:∀cs,v≠.agg cs:=by
   rintro cs rfl
   unfold Z5w at hr
   unfold Value.okWide at hv
   split at hv
   ·rename_i hd;rw [hd] at hr;simp [TypeDesc.isRow] at hr
   ·rename_i hd;rw [hd] at hr;simp [TypeDesc.isRow] at hr
   ·unfold Cell.okWide at hv
    split at hv<;>simp_all [Cell.ok]
  cases v<;>first|rfl|exact absurd rfl (hne _)
theorem ZK0 {d:Nat}:∀{ts:List TypeId} {vs:List Value} {ds:List (DataW H)} {ps:List MemPlace},DataW.TrodAll enc P w base (fun _=>true) held ts vs ds ps->(∀t∈ts,ZeV P d t=true) ->
  (∀(j:Nat) t v,ts[j]? = some t->vs[j]? = some v->∃r b0,Value.okWide P w r b0 t v)->∃as,Zw (bare (Zkz w)) w as vs/\ZfP P d ts as:=by
 intro ts
 induction ts with
 | nil=>
  intro vs ds ps h _ _
  cases vs with
  | nil=>exact⟨[],.nil,.nil⟩
  | cons v vs=>cases ds<;>exact h.elim
 | cons t ts ih=>
  intro vs ds ps h hp hv
  cases vs with
  | nil=>exact h.elim
  | cons v vs=>
   cases ds with
   | nil=>exact h.elim
   | cons d0 ds=>
    obtain⟨p,q,⟨fuel,h1⟩,h2,_⟩:=h
    obtain⟨as,r1,r2⟩:=ih h2 (fun t' ht' =>hp t' (by simp [ht'])) (fun j t' v' hj hj' =>hv (j+1) t' v' (by simpa using hj) (by simpa using hj'))
    obtain⟨xs,hx⟩:=ZKa d t fuel _ _ (hp t (by simp)) h1
    obtain⟨r,b0,hok⟩:=hv 0 t v rfl rfl
    have ha:=hx.arg.1
    rw [ZDQ hok hx] at ha
    exact⟨_,Zw.Z0j.2 ⟨ha,r1⟩,.cons hx.ty r2⟩
end
end Go.Proofs.YtjodhcdmhobmoaaGreatDoor.Le
