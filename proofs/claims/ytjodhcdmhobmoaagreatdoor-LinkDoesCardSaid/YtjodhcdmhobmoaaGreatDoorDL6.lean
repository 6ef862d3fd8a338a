/- A part of it. -/
import Derived.Test.YtjodhcdmhobmoaaGreatDoorDL5
import Derived.OpenShut
import Derived.Carry
import Derived.ProofKit
import Derived.LaidMore
import Derived.MakeChecks
import Derived.FnData
set_option linter.unusedVariables false
set_option linter.unusedSimpArgs false
namespace Go.Proofs.YtjodhcdmhobmoaaGreatDoor.Le
open Go.RowKit (Below)
def Ir (P:Program):TypeDesc->Option (List (Nat×TypeId))
 | .struct fs=>some (fs.toList.map fun f=>(f.offset,f.type))
 | .array n e=>some ((List.range n).map fun i=>(i*P.cellsOf e,e))
 | _=>none
def Iq (P:Program) (t:TypeId):Bool:=match P.underlying t with|some d=>d.isRow|none=>false
def GH (P:Program):Nat->TypeId->List V->Prop
 | 0,_,_=>False
 | d+1,t,cs=>match P.underlying t with
  | some .bool=>∃b,cs=[.lit (.bool b)]
  | some (.int k)=>∃n,cs=[.lit (.int k n)]/\(Lit.int k n).wf=true
  | some .string=>∃s,cs=[.lit (.string s)]/\s.size<=maxLen
  | some (.slice e)=>∃xs,cs=[.sl false (P.cellsOf e) xs]/\xs.length<=maxLen/\∀x∈xs,(if Iq P e then ∃z,x = .agg z else x.cells=[x])/\GH P d e x.cells
  | some q=>match Ir P q with
   | some ss=>cs.length=P.cellsOf t/\∀s∈ss,GH P d s.2 ((cs.drop s.1).take (P.cellsOf s.2))
   | none=>False
  | none=>False
def covers (P:Program):Nat->List (Nat×TypeId)->Nat->Bool
 | off,[],n=>off==n
 | off,s::ss,n=>s.1==off&&covers P (off+P.cellsOf s.2) ss n
def Sr (P:Program):Nat->TypeId->Bool
 | 0,_=>false
 | d+1,t=>match P.underlying t with
  | some .bool=>true
  | some (.int _)=>true
  | some .string=>true
  | some (.slice e)=>Sr P d e&&decide (0<P.cellsOf e)
  | some q=>match Ir P q with
   | some ss=>ss.all (fun s=>Sr P d s.2)&&covers P 0 ss (P.cellsOf t)
   | none=>false
  | none=>false
def MB (w:World):Nat->Nat->Prop:=fun b c=>∃u,w.cell? ⟨b,c,none⟩=some u
structure Read (P:Program) (w:World) (d:Nat) (t:TypeId) (cs:List Value) (xs:List V):Prop where
 Dh:AQ (bare (MB w)) w xs cs
 ty:GH P d t xs
 ok:∀x∈xs,Ep x=true
 one:∀u∈cs,u.oneCell' = true
theorem Zci {P:Program}:∀{ss:List (Nat×TypeId)} {off n:Nat},covers P off ss n=true->off<=n/\∀s∈ss,off<=s.1/\s.1+P.cellsOf s.2<=n:=by
 intro ss;induction ss with
 | nil=>intro off n h;simp only[covers,beq_iff_eq]at h;exact⟨by omega,by simp⟩
 | cons s ss A=>
  intro off n h;simp only[covers,Bool.and_eq_true,beq_iff_eq]at h;obtain⟨C,q⟩:=h;obtain⟨D,z⟩:=A q;refine⟨by omega,fun x hx=>?_⟩;rcases List.mem_cons.1 hx with rfl|hx
  ·omega
  ·have:=z x hx;omega
theorem Zy6 {P:Program} {w:World} {d:Nat} {cs:List Value}:∀{ss:List (Nat×TypeId)} {off:Nat},covers P off ss cs.length=true->(∀s∈ss,∃xs,Read P w d s.2 ((cs.drop s.1).take (P.cellsOf s.2)) xs) ->
  ∃xs,AQ (bare (MB w)) w xs (cs.drop off)/\(∀x∈xs,Ep x=true)/\(∀u∈cs.drop off,u.oneCell' = true)/\∀s∈ss,GH P d s.2 ((xs.drop (s.1 - off)).take (P.cellsOf s.2)):=by
 intro ss;induction ss with
 | nil=>
  intro off hc _;simp only[covers,beq_iff_eq]at hc;refine⟨[],?_,by simp,?_,by simp⟩
  ·rw[hc,List.drop_length];exact .nil
  ·rw[hc,List.drop_length];simp
 | cons s ss N=>
  intro off hc h;simp only[covers,Bool.and_eq_true,beq_iff_eq]at hc;obtain⟨D,C⟩:=hc;obtain⟨x1,A⟩:=h s (by simp);obtain⟨O,q1,q2,q3,q4⟩:=N C (fun q hs' =>h q (by simp[hs']));have M:=(Zci C).1;rw[D]at A;have F:x1.length=P.cellsOf s.2:=by
   have:=A.Dh.length;rw[List.length_take,List.length_drop]at this;omega
  have z:cs.drop off=(cs.drop off).take (P.cellsOf s.2)++cs.drop (off+P.cellsOf s.2):=by
   rw[<- List.drop_drop,List.take_append_drop]
  refine⟨x1++O,?_,?_,?_,?_⟩
  ·rw[z];exact A.Dh.append q1
  ·intro x hx;rcases List.mem_append.1 hx with hx|hx
   ·exact A.ok x hx
   ·exact q2 x hx
  ·intro u hu;rw[z]at hu;rcases List.mem_append.1 hu with hu|hu
   ·exact A.one u hu
   ·exact q3 u hu
  ·intro q hs';rcases List.mem_cons.1 hs' with rfl|hs'
   ·rw[D,Nat.sub_self,List.drop_zero,List.take_append_of_le_length (by omega),List.take_of_length_le (by omega)];exact A.ty
   ·have J:=((Zci C).2 q hs').1;have:q.1 - off=x1.length+(q.1 - (off+P.cellsOf s.2)):=by omega
    rw[this,List.drop_append];have G:x1.drop (x1.length+(q.1 - (off+P.cellsOf s.2)))=[]:=List.drop_eq_nil_of_le (by omega);rw[G,List.nil_append];have I:x1.length+(q.1 - (off+P.cellsOf s.2)) - x1.length=q.1 - (off+P.cellsOf s.2):=by omega
    rw[I];exact q4 q hs'
def MM (P:Program) (t:TypeId) (xs:List V):V:=if Iq P t then .agg xs else xs.headD .no
def TN (P:Program) (t:TypeId) (cs:List Value):Value:=if Iq P t then .agg cs.toArray else cs.headD undef
theorem GH.single {P:Program} {d:Nat} {t:TypeId} {xs:List V} (h:GH P d t xs) (z:Iq P t=false):∃x,xs=[x]/\x.cells=[x]:=by
 cases d with
 | zero=>exact h.elim
 | succ d=>
  unfold GH at h;unfold Iq at z;split at h
  ·obtain⟨b,rfl⟩:=h;exact⟨_,rfl,rfl⟩
  ·obtain⟨n,rfl,_⟩:=h;exact⟨_,rfl,rfl⟩
  ·obtain⟨s,rfl,_⟩:=h;exact⟨_,rfl,rfl⟩
  ·obtain⟨ys,rfl,_⟩:=h;exact⟨_,rfl,rfl⟩
  ·rename_i C _ _ _ _ A;rw[A]at z;split at h
   ·rename_i ss q;unfold Ir at q;split at q
    ·simp[TypeDesc.isRow]at z
    ·simp[TypeDesc.isRow]at z
    ·cases q
   ·exact h.elim
  ·exact h.elim
theorem Read.arg {P:Program} {w:World} {d:Nat} {t:TypeId} {cs:List Value} {xs:List V} (h:Read P w d t cs xs) :
  AQ (bare (MB w)) w [MM P t xs] [TN P t cs]/\Ep (MM P t xs)=true/\(TN P t cs).cells.toList=cs/\(MM P t xs).cells=xs/\(if Iq P t then ∃A,MM P t xs = .agg A else (MM P t xs).cells=[MM P t xs]):=by
 unfold MM TN;cases F:Iq P t with
 | true=>
  simp only[if_true];refine⟨?_,?_,by simp[Value.cells],rfl,⟨xs,rfl⟩⟩
  ·have:=AQ.agg h.Dh h.one (xs:=[]) (vs:=[]) .nil;exact this
  ·simp only[Ep,okV,CW,Bool.true_and];rw[J6];exact fun x q=>QZ (h.ok x q)
 | false=>
  simp only[Bool.false_eq_true,if_false];obtain⟨x,rfl,q⟩:=h.ty.single F;obtain⟨u,us,rfl,C,D⟩:=h.Dh.Dw;have:us=[]:=D.FH;subst this;refine⟨C,h.ok x (by simp),?_,q,q⟩;have z:=h.one u (by simp);simp only[List.headD_cons];cases u<;>simp_all [Value.cells,Value.oneCell']
section
variable {H:Type} {enc:TypeId×Value->H} {P:Program} {w:World} {base:Nat} {held:Bool}
theorem ZCe:∀(d:Nat) (t:TypeId) (n:Nat) (cs:List Value) (x:DataW H×List MemPlace),Sr P d t=true->DataW.trod enc P w base (fun _=>true) held n t cs=some x->∃xs,Read P w d t cs xs:=by
 intro d;induction d with
 | zero=>intro t n cs x h;simp[Sr]at h
 | succ d ih=>
  intro t n cs x S h;unfold Sr at S;split at S
  ·rename_i F;obtain⟨b,rfl,_⟩:=DataW.trod_bool F h;exact⟨[.lit (.bool b)],.lit rfl .nil,by unfold GH;rw[F];exact⟨b,rfl⟩,by simp[Ep,okV,CW],by simp[Value.oneCell']⟩
  ·rename_i k F;obtain⟨m,rfl,_,hw⟩:=DataW.trod_int F h;exact⟨[.lit (.int k m)],.lit (by simp[leaf,hw]) .nil,by unfold GH;rw[F];exact⟨m,rfl,hw⟩,by simp[Ep,okV,CW],by simp[Value.oneCell']⟩
  ·rename_i F;obtain⟨s,rfl,_,I⟩:=DataW.trod_string F h;exact⟨[.lit (.string s)],.lit (by simp[leaf,I]) .nil,by unfold GH;rw[F];exact⟨s,rfl,I⟩,by simp[Ep,okV,CW],by simp[Value.oneCell']⟩
  ·rename_i e F;simp only[Bool.and_eq_true,decide_eq_true_eq]at S;obtain⟨hpe,hpos⟩:=S;have mk:∀(v:Value) (es:List V),AQ (bare (MB w)) w [.sl false (P.cellsOf e) es] [v]->v.oneCell' = true->es.length<=maxLen->(∀y∈es,Ep y=true) ->
     (∀y∈es,(if Iq P e then ∃ds,y = .agg ds else y.cells=[y])/\GH P d e y.cells)->∃xs,Read P w (d+1) t [v] xs:=by
    intro v es h1 h2 h3 h4 h5;refine⟨_,h1,?_,?_,by simpa using h2⟩
    ·unfold GH;rw[F];exact⟨es,rfl,h3,h5⟩
    ·intro y hy;simp only[List.mem_singleton]at hy;subst hy;simp only[Ep,okV,CW,Bool.true_and];rw[J6];exact fun z hz=>QZ (h4 z hz)
   rcases DataW.trod_slice F h with ⟨rfl,_⟩|⟨a,len,cap,J,rest,m,rfl,rfl,_,hb,hlc,hcm,hel,M,C,_⟩
   ·exact mk _ [] (.ET .nil) rfl (by simp) (by simp) (by simp)
   ·obtain⟨hrl,C⟩:=C rfl
    by_cases hc0:cap=0
    ·subst hc0;have:len=0:=by omega
     subst this;exact mk _ [] (.FU a .nil) rfl (by simp) (by simp) (by simp)
    ·
     have N:a.spot=none:=by
      have O:∃c0,w.cells? base (a.add 0) (P.cellsOf e)=some c0:=by
       by_cases hl0:0<len
       ·have:=M 0 hl0;rw[Nat.zero_mul]at this;have q:0<J.length:=by omega
        rw[List.getElem?_eq_getElem q]at this;cases G:w.cells? base (a.add 0) (P.cellsOf e) with
        | none=>simp[G]at this
        | some c0=>exact⟨c0,rfl⟩
       ·have hl0:len=0:=by omega
        subst hl0;have:=C 0 (by omega);simp only[Nat.zero_add,Nat.zero_mul]at this;have q:0<rest.length:=by omega
        rw[List.getElem?_eq_getElem q]at this;cases G:w.cells? base (a.add 0) (P.cellsOf e) with
        | none=>simp[G]at this
        | some c0=>exact⟨c0,rfl⟩
      obtain⟨c0,hc0'⟩:=O;obtain⟨_,e2,e3⟩:=World.cells?_some hc0';have:=e3 0 hpos;have q:0<c0.length:=by omega
      rw[List.getElem?_eq_getElem q]at this;simp only[Addr.add,if_true]at this;unfold World.cell? at this;split at this
      ·cases I:a.spot with
       | none=>rfl
       | some s=>simp[I]at this
      ·cases this
     obtain⟨ab,ao,as⟩:=a;simp only at N;subst N;have each:∀i,i<len->∃ci xi,w.cells? base (Addr.add ⟨ab,ao,none⟩ (i*P.cellsOf e)) (P.cellsOf e)=some ci/\Read P w d e ci xi:=by
      intro i hi;have:=M i hi;have q:i<J.length:=by omega
      rw[List.getElem?_eq_getElem q]at this;cases G:w.cells? base (Addr.add ⟨ab,ao,none⟩ (i*P.cellsOf e)) (P.cellsOf e) with
      | none=>simp[G]at this
      | some ci=>
       simp only[G,Option.bind_some]at this;obtain⟨xi,hxi⟩:=ih e m ci _ hpe this;exact⟨ci,xi,rfl,hxi⟩
     have list:∀k,k<=len->∃(es:List V) (us:List Value),es.length=k/\AQ (bare (MB w)) w es us/\(∀y∈es,Ep y=true)/\(∀u∈us,u.cells.size=P.cellsOf e)/\(∀u∈flat us,u.oneCell' = true) /\
       (∀y∈es,(if Iq P e then ∃ds,y = .agg ds else y.cells=[y])/\GH P d e y.cells)/\(∀j u,(flat us)[j]? = some u->w.cell? ⟨ab,ao+j,none⟩=some u):=by
      intro k;induction k with
      | zero=>intro _;exact⟨[],[],rfl,.nil,by simp,by simp,by simp[flat],by simp,by simp[flat]⟩
      | succ k ihk=>
       intro hk;obtain⟨es,us,l1,l2,l3,l4,l5,l6,l7⟩:=ihk (by omega);obtain⟨ci,xi,hci,hr⟩:=each k (by omega);obtain⟨a1,a2,a3,a4,a5⟩:=hr.arg;obtain⟨_,c2,c3⟩:=World.cells?_some hci;have hsz:(TN P e ci).cells.size=P.cellsOf e:=by
        have:=congrArg List.length a3;simpa[c2]using this
       refine⟨es++[MM P e xi],us++[TN P e ci],by simp[l1],l2.append a1,?_,?_,?_,?_,?_⟩
       ·intro y hy;rcases List.mem_append.1 hy with hy|hy
        ·exact l3 y hy
        ·rw[List.mem_singleton.1 hy];exact a2
       ·intro u hu;rcases List.mem_append.1 hu with hu|hu
        ·exact l4 u hu
        ·rw[List.mem_singleton.1 hu];exact hsz
       ·intro u hu;rw[Nq]at hu;rcases List.mem_append.1 hu with hu|hu
        ·exact l5 u hu
        ·rw[NF,a3]at hu;exact hr.one u hu
       ·intro y hy;rcases List.mem_append.1 hy with hy|hy
        ·exact l6 y hy
        ·rw[List.mem_singleton.1 hy];exact⟨a5,by rw[a4];exact hr.ty⟩
       ·intro j u Q;rw[Nq,NF,a3]at Q;have hfl:(flat us).length=k*P.cellsOf e:=by rw[flat_length l4,<- l2.length,l1]
        by_cases q:j<(flat us).length
        ·rw[List.getElem?_append_left q]at Q;exact l7 j u Q
        ·rw[List.getElem?_append_right (by omega)]at Q;have hjl:j - (flat us).length<P.cellsOf e:=by
          have:=(List.getElem?_eq_some_iff.1 Q).1;omega
         have:=c3 _ hjl;rw[Q]at this;rw[<- this];congr 1;have hadd:Addr.add (Addr.add ⟨ab,ao,none⟩ (k*P.cellsOf e)) (j - (flat us).length)=⟨ab,ao+j,none⟩:=by
          simp only[Addr.add];split<;>split<;>simp<;>omega
         rw[hadd]
     obtain⟨es,us,l1,l2,l3,l4,l5,l6,l7⟩:=list len (Nat.le_refl _);subst l1;refine mk _ es ?_ rfl (by omega) l3 l6;exact .sl ab ao cap (P.cellsOf e) l2 l3 l4 l5 hlc hcm (fun j u Q=>⟨⟨u,l7 j u Q⟩,l7 j u Q⟩) .nil
  ·rename_i dd _ _ _ _ F;split at S
   ·rename_i ss D;simp only[Bool.and_eq_true,List.all_eq_true]at S;obtain⟨hall,hcov⟩:=S;have parts:cs.length=P.cellsOf t/\∀s∈ss,∃xs,Read P w d s.2 ((cs.drop s.1).take (P.cellsOf s.2)) xs:=by
     cases dd with
     | struct fs=>
      simp only[Ir,Option.some.injEq]at D;obtain⟨xs,m,_,_,A,hxl,hf⟩:=DataW.trod_struct F h;refine⟨A,fun s I=>?_⟩;have hs' :=I;rw[<- D]at I;obtain⟨f,hfm,rfl⟩:=List.mem_map.1 I;obtain⟨i,hi,hfi⟩:=List.getElem_of_mem hfm;have hfi' : fs[i]? = some f:=by simp at hi;rw[Array.getElem?_eq_getElem hi];simp at hfi;rw[hfi]
      have:=hf i f hfi';have q:i<xs.length:=by simp at hi;omega
      rw[List.getElem?_eq_getElem q]at this;exact ih f.type m _ _ (hall _ hs') this
     | array n' e=>
      simp only[Ir,Option.some.injEq]at D;obtain⟨xs,m,_,_,A,hxl,hf⟩:=DataW.trod_array F h;refine⟨A,fun s I=>?_⟩;have hs' :=I;rw[<- D]at I;obtain⟨i,hi,rfl⟩:=List.mem_map.1 I;have hin:i<n' :=by simpa using hi
      have:=hf i hin;have q:i<xs.length:=by omega
      rw[List.getElem?_eq_getElem q]at this;exact ih e m _ _ (hall _ hs') this
     | _=>simp[Ir]at D
    obtain⟨A,Y⟩:=parts;obtain⟨xs,h1,h2,h3,h4⟩:=Zy6 (by rw[A];exact hcov) Y;rw[List.drop_zero]at h1 h3;refine⟨xs,h1,?_,h2,h3⟩;unfold GH;rw[F];simp only[Nat.sub_zero]at h4;split<;>first|(rename_i G;simp only[Option.some.injEq]at G;subst G;simp[Ir]at D;done)|skip
    ·rename_i G;simp only[Option.some.injEq]at G;subst G;rw[D];exact⟨by rw[h1.length];exact A,h4⟩
    ·rename_i G;cases G
   ·cases S
  ·cases S
inductive dQ (P:Program) (d:Nat):List TypeId->List V->Prop where
 | nil:dQ P d [] []
 | cons {t ts xs as}:GH P d t xs->dQ P d ts as->dQ P d (t::ts) (MM P t xs::as)
theorem Zwr {r:Reach} {b0:Nat} {d:Nat} {t:TypeId} {v:Value} {xs:List V} (z:Value.okWide P w r b0 t v) (h:Read P w d t v.cells.toList xs):TN P t v.cells.toList=v:=by
 unfold TN;cases q:Iq P t with
 | true=>
  simp only[if_true];unfold Iq at q;split at q
  ·rename_i D A;unfold Value.okWide at z;rw[A]at z;cases D<;>simp[TypeDesc.isRow]at q
   ·obtain⟨cs,rfl,_⟩:=z;simp[Value.cells]
   ·obtain⟨cs,rfl,_⟩:=z;simp[Value.cells]
  ·cases q
 | false=>
  simp only[Bool.false_eq_true,if_false];obtain⟨x,rfl,_⟩:=h.ty.single q;have C:∀cs,v≠.agg cs:=by
   rintro cs rfl
   unfold Iq at q;unfold Value.okWide at z;split at z
   ·rename_i A;rw[A]at q;simp[TypeDesc.isRow]at q
   ·rename_i A;rw[A]at q;simp[TypeDesc.isRow]at q
   ·unfold Cell.okWide at z;split at z<;>simp_all [Cell.ok]
  cases v<;>first|rfl|exact absurd rfl (C _)
theorem ZAY {d:Nat}:∀{ts:List TypeId} {vs:List Value} {z:List (DataW H)} {ps:List MemPlace},DataW.TrodAll enc P w base (fun _=>true) held ts vs z ps->(∀t∈ts,Sr P d t=true) ->
  (∀(j:Nat) t v,ts[j]? = some t->vs[j]? = some v->∃r b0,Value.okWide P w r b0 t v)->∃as,AQ (bare (MB w)) w as vs/\dQ P d ts as:=by
 intro ts;induction ts with
 | nil=>
  intro vs z ps h _ _;cases vs with
  | nil=>exact⟨[],.nil,.nil⟩
  | cons v vs=>cases z<;>exact h.elim
 | cons t ts S=>
  intro vs z ps h J M;cases vs with
  | nil=>exact h.elim
  | cons v vs=>
   cases z with
   | nil=>exact h.elim
   | cons d0 z=>
    obtain⟨p,q,⟨fuel,N⟩,O,_⟩:=h;obtain⟨as,Y,r2⟩:=S O (fun G D =>J G (by simp[D])) (fun j G v' Q A =>M (j+1) G v' (by simpa using Q) (by simpa using A));obtain⟨xs,F⟩:=ZCe d t fuel _ _ (J t (by simp)) N;obtain⟨r,b0,C⟩:=M 0 t v rfl rfl;have I:=F.arg.1;rw[Zwr C F]at I;exact⟨_,AQ.FC.2 ⟨I,Y⟩,.cons F.ty r2⟩
end
end Go.Proofs.YtjodhcdmhobmoaaGreatDoor.Le
namespace Go.Proofs.YtjodhcdmhobmoaaGreatDoor.Le
open Go.RowKit (Below)
open Go.ChangeShapes
structure DI (P:Program) {Ty:Nat->Type} {T:Type} (c:AO Ty T) (t:TypeId) (wf:T->Prop):Prop where
 rd:∀(d:Nat) (xs:List V),GH P d t xs->∃a,c.BJ a=xs/\wf a
structure D6 (P:Program) {Ty:Nat->Type} {T:Type} (c:AO Ty T) (ss:List (Nat×TypeId)) (off n:Nat) (wf:T->Prop):Prop where
 rd:∀(d:Nat) (xs:List V),xs.length=n->(∀s∈ss,GH P d s.2 ((xs.drop s.1).take (P.cellsOf s.2)))->∃a,c.BJ a=xs.drop off/\wf a
def WI (k:IntKind) (a:Int):Prop:=(Lit.int k a).wf=true
def WB (_:Bool):Prop:=True
def WS (s:ByteArray):Prop:=s.size<=maxLen
def WL {α:Type} (p:α->Prop) (xs:List α):Prop:=xs.length<=maxLen/\∀x∈xs,p x
def WU (_:Unit):Prop:=True
section
variable {P:Program} {Ty:Nat->Type} {T:Type}
theorem DI.int {k:IntKind} {t:TypeId} (q:P.underlying t=some (.int k)):DI P (AO.int k:AO Ty Int) t (WI k):=by
 refine⟨fun d xs h=>?_⟩;cases d with
 | zero=>exact h.elim
 | succ d=>
  unfold GH at h;rw[q]at h;obtain⟨n,rfl,z⟩:=h;exact⟨n,rfl,z⟩
theorem DI.bool {t:TypeId} (q:P.underlying t=some .bool):DI P (AO.bool:AO Ty Bool) t WB:=by
 refine⟨fun d xs h=>?_⟩;cases d with
 | zero=>exact h.elim
 | succ d=>
  unfold GH at h;rw[q]at h;obtain⟨n,rfl⟩:=h;exact⟨n,rfl,trivial⟩
theorem DI.str {t:TypeId} (q:P.underlying t=some .string):DI P (AO.str:AO Ty ByteArray) t WS:=by
 refine⟨fun d xs h=>?_⟩;cases d with
 | zero=>exact h.elim
 | succ d=>
  unfold GH at h;rw[q]at h;obtain⟨n,rfl,z⟩:=h;exact⟨n,rfl,z⟩
theorem Zdg {α:Type} {p:α->Prop} {e:α->V}:∀{xs:List V},(∀x∈xs,∃a,e a=x/\p a)->∃as:List α,as.map e=xs/\∀a∈as,p a:=by
 intro xs;induction xs with
 | nil=>intro _;exact⟨[],rfl,by simp⟩
 | cons x xs D=>
  intro h;obtain⟨a,z,A⟩:=h x (by simp);obtain⟨as,has,q⟩:=D (fun y C=>h y (by simp[C]));refine⟨a::as,by simp[z,has],fun b hb=>?_⟩;rcases List.mem_cons.1 hb with rfl|hb
  ·exact A
  ·exact q b hb
theorem DI.rows {t e n:Nat} {c:AO Ty (Ty e)} {wf:Ty e->Prop} (J:P.underlying t=some (.slice e)) (F:P.cellsOf e=n) (I:Iq P e=true) (hc:DI P c e wf) :
  DI P (AO.list e n (fun a=>.agg (c.BJ a)):AO Ty (List (Ty e))) t (WL wf):=by
 refine⟨fun d xs h=>?_⟩;cases d with
 | zero=>exact h.elim
 | succ d=>
  unfold GH at h;rw[J]at h;obtain⟨ys,rfl,D,N⟩:=h;obtain⟨as,has,G⟩:=Zdg (p:=wf) (e:=fun a=>V.agg (c.BJ a)) (xs:=ys) (fun y q =>by
   obtain⟨z,A⟩:=N y q;rw[if_pos I]at z;obtain⟨O,rfl⟩:=z;obtain⟨a,C,M⟩:=hc.rd d _ A;exact⟨a,by rw[C];rfl,M⟩)
  subst F;exact⟨as,by simp only[AO.list,has],by rw[<- List.length_map (f:=fun a=>V.agg (c.BJ a)),has];exact D,G⟩
theorem DI.ones {t e n:Nat} {c:AO Ty (Ty e)} {wf:Ty e->Prop} (J:P.underlying t=some (.slice e)) (F:P.cellsOf e=n) (I:Iq P e=false) (hc:DI P c e wf) :
  DI P (AO.list e n (fun a=>c.BV a):AO Ty (List (Ty e))) t (WL wf):=by
 refine⟨fun d xs h=>?_⟩;cases d with
 | zero=>exact h.elim
 | succ d=>
  unfold GH at h;rw[J]at h;obtain⟨ys,rfl,D,N⟩:=h;obtain⟨as,has,G⟩:=Zdg (p:=wf) (e:=fun a=>c.BV a) (xs:=ys) (fun y q =>by
   obtain⟨z,A⟩:=N y q;rw[if_neg (by simp[I])]at z;obtain⟨a,C,M⟩:=hc.rd d _ A;exact⟨a,by simp only[AO.BV,C,z];rfl,M⟩)
  subst F;exact⟨as,by simp only[AO.list,has],by rw[<- List.length_map (f:=fun a=>c.BV a),has];exact D,G⟩
theorem D6.unit {off n:Nat} (h:off=n):D6 P (AO.unit:AO Ty Unit) [] off n WU:=by
 refine⟨fun d xs q _=>⟨(),?_,trivial⟩⟩;subst h;rw[<- q,List.drop_length];rfl
theorem D6.pair {A B:Type} {a:AO Ty A} {b:AO Ty B} {t off n k:Nat} {ss:List (Nat×TypeId)} {C:A->Prop} {D:B->Prop} (F:DI P a t C) (G:P.cellsOf t=k) (hb:D6 P b ss (off+k) n D) :
  D6 P (AO.pair a b) ((off,t)::ss) off n (fun x=>C x.1/\D x.2):=by
 refine⟨fun d xs I h=>?_⟩;obtain⟨x,M,q⟩:=F.rd d _ (h (off,t) (by simp));obtain⟨y,N,z⟩:=hb.rd d xs I (fun s J=>h s (by simp[J]));refine⟨(x,y),?_,q,z⟩;simp only[AO.pair,M,N];rw[G,<- List.drop_drop,List.take_append_drop]
theorem DI.row {c:AO Ty T} {t n:Nat} {A:TypeDesc} {ss:List (Nat×TypeId)} {wf:T->Prop} (F:P.underlying t=some A) (z:Ir P A=some ss) (D:P.cellsOf t=n) (h:D6 P c ss 0 n wf):DI P c t wf:=by
 refine⟨fun d xs q=>?_⟩;cases d with
 | zero=>exact q.elim
 | succ d=>
  unfold GH at q;rw[F]at q;have key:xs.length=P.cellsOf t/\∀s∈ss,GH P d s.2 ((xs.drop s.1).take (P.cellsOf s.2)):=by
   cases A with
   | struct fs=>simp only at q;rw[z]at q;exact q
   | array m e=>simp only at q;rw[z]at q;exact q
   | _=>simp[Ir]at z
  obtain⟨a,C,G⟩:=h.rd d xs (key.1.trans D) key.2;exact⟨a,by simpa using C,G⟩
theorem DI.CY {A B:Type} {f:A->B} {g:B->A} {b:AO Ty B} {t:TypeId} {wf:B->Prop} (hb:DI P b t wf) (q:∀y,f (g y)=y):DI P (AO.CY f g b) t (fun x=>wf (f x)):=by
 refine⟨fun d xs h=>?_⟩;obtain⟨y,C,z⟩:=hb.rd d xs h;exact⟨g y,by simp only[AO.CY,q];exact C,by rw[q];exact z⟩
end
structure TS (P:Program) (U:Cc) (t:TypeId) (wf:U.Ty t->Prop):Prop where
 rd:∀d xs,GH P d t xs->∃a,U.enc t a=MM P t xs/\wf a
theorem TS.rows {P:Program} {U:Cc} {t:TypeId} {c:AO U.Ty (U.Ty t)} {wf:U.Ty t->Prop} (A:Iq P t=true) (hc:DI P c t wf) (z:∀a,U.enc t a = .agg (c.BJ a)):TS P U t wf:=by
 refine⟨fun d xs h=>?_⟩;obtain⟨a,q,C⟩:=hc.rd d xs h;exact⟨a,by rw[z,q];simp[MM,A],C⟩
theorem TS.ones {P:Program} {U:Cc} {t:TypeId} {c:AO U.Ty (U.Ty t)} {wf:U.Ty t->Prop} (A:Iq P t=false) (hc:DI P c t wf) (z:∀a,U.enc t a=c.BV a):TS P U t wf:=by
 refine⟨fun d xs h=>?_⟩;obtain⟨a,q,C⟩:=hc.rd d xs h;exact⟨a,by rw[z];simp[MM,A,AO.BV,q],C⟩
inductive Qr (P:Program) (U:Cc):(ts:List Nat)->(F9 U ts->Prop)->Prop where
 | nil:Qr P U [] (fun _=>True)
 | cons {t ts wf W}:TS P U t wf->Qr P U ts W->Qr P U (t::ts) (fun x=>wf x.1/\W x.2)
theorem Zza {P:Program} {U:Cc} {ts:List Nat} {W:F9 U ts->Prop} (h:Qr P U ts W):∀{d:Nat} {as:List V},dQ P d ts as->∃x:F9 U ts,Gf ts x=as/\W x:=by
 induction h with
 | nil=>intro d as q;cases q;exact⟨(),rfl,trivial⟩
 | cons D _ I=>
  intro d as q;cases q with
  | cons z A=>
   obtain⟨a,q,F⟩:=D.rd _ _ z;obtain⟨x,G,C⟩:=I A;exact⟨(a,x),by simp[Gf,q,G],F,C⟩
section
variable {H:Type} {enc:TypeId×Value->H} {P:Program}
theorem Z7N {W I : World} {M:Nat->Bool} (J:laidOutB P=true):∀{ts:List TypeId} {vs:List Value} {D:List (DataW H)} {ps:List MemPlace},(∀t∈ts,P.readableRec t=true/\t<P.types.size) ->
  DataW.TrodAll enc P W 0 (fun _=>true) true ts vs D ps->Below W.heap.size W I -> (∀p∈ps,p.block<W.heap.size)->(∀p∈ps,M p.block=true)->DataW.TrodAll enc P I 0 M true ts vs D ps
 | [],[],[],_,_,h,_,_,_=>h
 | t::ts,v::vs,d::D,_,F,⟨p,q,N,O,e⟩,hb,A,C=>
  ⟨p,q,WideElems.Trod_stays J (F t (by simp)).1 (F t (by simp)).2 N (fun x z=>hb.same (A x (by rw[e];exact List.mem_append_left _ z))) (fun x z=>C x (by rw[e];exact List.mem_append_left _ z)),
   Z7N J (fun t G =>F t (by simp[G])) O hb (fun x z=>A x (by rw[e];exact List.mem_append_right _ z)) (fun x z=>C x (by rw[e];exact List.mem_append_right _ z)),e⟩
theorem ZzH {f:Func} {s:ChangeSpec} {apart fresh D N:Bool} {W W' : World} {args:Array Value} {G C:List (DataW H)} {before:List MemPlace} {tb:TypeId} (hl:laidOutB P=true) (hts:∀t∈f.params.toList,P.readableRec t=true/\t<P.types.size)
  (hW:DataW.Whole enc P f.params.toList s.vars apart W args.toList G C before) (hb:Below W.heap.size W W') (hr:f.resultTypes = #[tb]) (htb:P.underlying tb=some .bool)
  (h1:(s.fn H (G++C)).results=[.lit (.bool true)]) (h2:(s.fn H (G++C)).args=G) (h3:(s.fn H (G++C)).vars=C)
  (Q:∀(pv:List MemPlace),DataW.TrodVars enc P W (fun _=>true) s.vars C pv->(∀p∈pv,p.block<W.heap.size)->∀z:Nat->Bool,(∀p∈pv,z p.block=true)->DataW.TrodVars enc P W' z s.vars C pv) :
  s.post enc P f apart fresh D N W args (.bool true) W' :=by
 have I:=hW.lt;have hW0:=hW;obtain⟨pa,pv,hA,hV,A,hz,hn⟩:=hW;have J:∀p∈before,(fun b=>decide (b<W.heap.size)) p.block=true:=fun p q=>by simpa using I p q
 have S:∀p∈pa,p∈before:=fun p q=>by rw[A];exact List.mem_append_left _ q
 have Y:∀p∈pv,p∈before:=fun p q=>by rw[A];exact List.mem_append_right _ q
 have F:∀z:Nat->Bool,(∀p∈before,z p.block=true)->DataW.TrodAll enc P W' 0 z true f.params.toList args.toList (s.fn H (G++C)).args pa:=fun z O=>by
  rw[h2];exact Z7N hl hts hA hb (fun p q=>I p (S p q)) (fun p q=>O p (S p q))
 have hvs:∀z:Nat->Bool,(∀p∈before,z p.block=true)->DataW.TrodVars enc P W' z s.vars (s.fn H (G++C)).vars pv:=fun z O=>by
  rw[h3];exact Q pv hV (fun p q=>I p (Y p q)) z (fun p q=>O p (Y p q))
 have M:∀(b:Nat) (z:Nat->Bool) (hd:Bool),DataW.TrodAll enc P W' b z hd f.resultTypes.toList ((Value.bool true).resultList f.resultTypes.size) (s.fn H (G++C)).results []:=fun b z hd=>by
  rw[h1,hr];exact trodAll_cons_mk (p:=[]) (p' :=[]) (RowKit.shut_bool htb _) trodAll_mk0
 refine⟨G,C,before,[],pa,pv,hW0,M _ _ _,F _ J,hvs _ J,World.keptBut_mono (fun p q=>⟨q,?_⟩) (hb.frame (·∈before)),fun _=>?_⟩
 ·rw[A,List.mem_append]at q;exact Or.inr q
 ·refine⟨RowKit.ok_one hr rfl (RowKit.okWide_bool_mk htb _),_,_,([]++pa)++pv,⟨[]++pa,pv,trodAll_append (F _ (fun _ _=>rfl)) (M _ _ _),hvs _ (fun _ _=>rfl),rfl,?_,?_⟩,?_⟩
  ·intro b off q;have hm:MemPlace.cell b off∈before:=by rw[A];simpa using q
   rw[hb.frozen (p:=⟨b,off,none⟩) (I _ hm)];exact hz b off hm
  ·intro ha;have:=hn ha;rw[A]at this;simpa using this
  ·intro p q _;rw[A];simpa using q
theorem ZDi {U:Cc} {E0:Env} {f:FuncId} {fn:Func} {m:Aj U} {s:ChangeSpec} {apart fresh z F:Bool} {tb:TypeId} (hok:Ai P E0 f m) {Wf:F9 U m.ts->Prop} (hrd:Qr P U m.ts Wf) (A:fn.params.toList=m.ts) {d:Nat} (hpl:∀t∈m.ts,Sr P d t=true)
  (hl:laidOutB P=true) (hts:∀t∈m.ts,P.readableRec t=true/\t<P.types.size) (hr:fn.resultTypes = #[tb]) (htb:P.underlying tb=some .bool) {tt:U.Ty m.rt} (htt:U.enc m.rt tt = .lit (.bool true)) (N:∀x,Wf x->m.fn x=some tt)
  (M:∀(D q:List (DataW H)),D.length=m.ts.length->q.length=s.vars.length->(s.fn H (D++q)).results=[.lit (.bool true)]/\(s.fn H (D++q)).args=D/\(s.fn H (D++q)).vars=q)
  {W:World} {args:Array Value} {D q:List (DataW H)} {C:List MemPlace} (S:∀(j:Nat) t v,fn.params[j]? = some t->args[j]? = some v->∃r b0,Value.okWide P W r b0 t v)
  (hW:DataW.Whole enc P fn.params.toList s.vars apart W args.toList D q C) (hg:Di E0 (bare (MB W)) W)
  (O:∀(W' : World),Below W.heap.size W W' -> ∀(Y:List MemPlace),DataW.TrodVars enc P W (fun _=>true) s.vars q Y->(∀p∈Y,p.block<W.heap.size)->∀sp:Nat->Bool,(∀p∈Y,sp p.block=true)->DataW.TrodVars enc P W' sp s.vars q Y)
  (hdl:D.length=m.ts.length) (hgl:q.length=s.vars.length) :
  Calls P f args W fun e W' =>∃v,e = .returned v/\s.post enc P fn apart fresh z F W args v W' :=by
 have hW0:=hW;obtain⟨pa,Y,hA,hV,hps,hz,hn⟩:=hW;rw[A]at hA;obtain⟨as,J,I⟩:=ZAY hA hpl (fun j t v hj hv=>S j t v (by rw[<- Array.getElem?_toList,A];exact hj) (by rw[<- Array.getElem?_toList];exact hv));obtain⟨x,hx,hwf⟩:=Zza hrd I;have G:=hok.pure x tt (N x hwf) (MB W) W args.toList (fun b c hh=>hh) hg (by rw[hx];exact J);refine G.mono ?_
 rintro e W' ⟨u,fz',rfl,hb,_,_,_,Q,_⟩
 rw[htt]at Q;cases Q with
 | lit _ _=>
  obtain⟨s1,s2,s3⟩:=M D q hdl hgl;exact⟨_,rfl,ZzH hl (by rw[A];exact hts) hW0 hb hr htb s1 s2 s3 (O W' hb)⟩
end
end Go.Proofs.YtjodhcdmhobmoaaGreatDoor.Le
namespace Go.Proofs.YtjodhcdmhobmoaaGreatDoor.Le
def ZdZ (n by' : Nat):List V->Option V
 | [.sl false e xs]=>if e=n/\xs.length*by' <= lim/\xs.length<=maxLen then some (.sl false e xs) else none
 | _=>none
def uM (cl:List (Nat×Nat×Nat×Nat)):FuncId->Option (List V->Option V):=fun g=>(cl.find? fun p=>p.1==g).map fun p=>ZdZ p.2.1 p.2.2.1
def Z49 (cl:List (Nat×Nat×Nat×Nat)):FuncId->Option TypeId:=fun g=>(cl.find? fun p=>p.1==g).map fun p=>p.2.2.2
structure Q8 (P:Program) (f n by' e:Nat):Prop where
 entered:OG P f
 pure:∀(E:Env) (xs:List V),xs.length*by' <= lim->xs.length<=maxLen->OT P E f [.sl false n xs] (.sl false n xs)
 own:∀(E:Env) (xs:List V),xs.length*by' <= lim->xs.length<=maxLen->rO P E f [.sl false n xs] e n xs
theorem ZwU {P:Program} {E:Env} {cl:List (Nat×Nat×Nat×Nat)} (I:E.env=uM cl) (M:E.own=Z49 cl) (D:∀f k,E.hm f k=none) (h:∀p∈cl,Q8 P p.1 p.2.1 p.2.2.1 p.2.2.2):Qg P E:=by
 refine⟨?_,fun f key N h=>by rw[D]at h;cases h⟩;intro f F z;rw[I]at z;unfold uM at z;cases C:cl.find? (fun p=>p.1==f) with
 | none=>simp[C]at z
 | some p=>
  simp only[C,Option.map_some,Option.some.injEq]at z;subst z;have hm:=h p (List.mem_of_find?_eq_some C);have J:p.1=f:=by simpa using List.find?_some C
  rw[J]at hm;have A:E.own f=some p.2.2.2:=by rw[M];unfold Z49;rw[C];rfl
  refine⟨hm.entered,fun as r _ q=>?_⟩;rw[A];intro sz xs G;subst G;unfold ZdZ at q;split at q
  ·split at q
   ·rename_i hc;simp only[Option.some.injEq,V.sl.injEq]at q;obtain⟨_,rfl,rfl⟩:=q;rw[hc.1];exact hm.own E _ hc.2.1 hc.2.2
   ·cases q
  ·cases q
noncomputable def EC (P:Program) (gl:Nat->Option (List V)) (fs:List FuncId) (pu:FuncId->Bool) (bad:List (Nat×Nat):=[]) (cl:List (Nat×Nat×Nat×Nat):=[]):Env:=
 { OB P pu (uM cl) with
  func:=fun g=>if fs.contains g then P.funcs[g]? else none
  Ef:=gl
  own:=Z49 cl
  calm:=fun f id=>!(bad.any fun p=>p.1==f&&p.2==id) }
noncomputable def rQ (P:Program) (gl:Nat->Option (List V)) (fs:List FuncId) (pu:FuncId->Bool) (bad:List (Nat×Nat):=[]) (cl:List (Nat×Nat×Nat×Nat):=[]):Bool:=
 fs.all fun g=>match P.funcs[g]? with
  | some fn=>!(fn.name == "runtime.NumGoroutine")&&(match fn.body with|some c=>Ed (EC P gl fs pu bad cl) g c|none=>true)
  | none=>true
theorem Zeu {P:Program} {gl:Nat->Option (List V)} {fs:List FuncId} {pu:FuncId->Bool} {bad:List (Nat×Nat)} {cl:List (Nat×Nat×Nat×Nat)} (A:P.follows .mixedOrders=true) (q:rQ P gl fs pu bad cl=true):Cf (EC P gl fs pu bad cl):=by
 have q:=List.all_eq_true.1 q;refine⟨fun t i h=>h,?_,A,?_,?_,?_,?_,fun t ks h=>h,?_⟩
 ·intro g fn h;simp only[EC]at h;split at h
  ·rename_i C;have:=q g (by simpa using C);rw[h]at this;simp only[Bool.and_eq_true,Bool.not_eq_true']at this;exact⟨h,this.1⟩
  ·cases h
 ·intro g fn c h hb;simp only[EC]at h;split at h
  ·rename_i C;have:=q g (by simpa using C);rw[h]at this;simp only[hb,Bool.and_eq_true]at this;exact this.2
  ·cases h
 ·intro t k h;simp only[EC,OB]at h;split at h
  ·rename_i d z;simp only[Option.some.injEq]at h;subst h;exact z
  ·cases h
 ·intro t h;simp only[EC,OB]at h;split at h
  ·rename_i z;exact z
  ·cases h
 ·intro t h;simp only[EC,OB]at h;split at h
  ·rename_i z;exact z
  ·cases h
 ·intro t h;simp only[EC,OB]at h;split at h
  ·rename_i e D;split at h
   ·rename_i z;exact⟨e,D,z⟩
   ·cases h
  ·cases h
theorem Z9J {H:Type} {enc:TypeId×Value->H} {P:Program} {w:World} {base:Nat} {q:Nat->Bool} {held:Bool}:∀{ts:List TypeId} {vs:List Value} {z:List (DataW H)} {ps:List MemPlace},DataW.TrodAll enc P w base q held ts vs z ps->z.length=ts.length
 | [],[],[],_,_=>rfl
 | _::_,_::_,_::_,_,⟨_,_,_,h,_⟩=>congrArg (· + 1) (Z9J h)
theorem ZwG {U:Cc} {P:Program} {gl:Nat->Option (List V)} {fs:List FuncId} {pu:FuncId->Bool} {bad:List (Nat×Nat)} {cl:List (Nat×Nat×Nat×Nat)} {E0:Env} (D:E0.Ef=gl) (C:P.follows .mixedOrders=true) (F:rQ P gl fs pu bad cl=true) (G:∀p∈cl,Q8 P p.1 p.2.1 p.2.2.1 p.2.2.2) {f:FuncId} (I:uM cl f=none) (S:fs.contains f=true) (hp:pu f=true) {fn:Func} (A:P.funcs[f]? = some fn)
  (hb:fn.body.isNone=false) {n:Nat} {m:Aj U} (M:m.ts=[]) {a:U.Ty m.rt} (hm:∀x,m.fn x=some a) (h:(En (EC P gl fs pu bad cl) (n+1) f [] []).map (·.1)=some (U.enc m.rt a)):Ai P E0 f m:=by
 have N:=Zeu C F;have z:(fn.name == "runtime.NumGoroutine")=false:=(N.func f fn (by simp only[EC,S,if_true];exact A)).2;refine⟨⟨fn,A,hb,z⟩,fun x a' O=>?_⟩;rw[hm x]at O;cases O;cases hc:En (EC P gl fs pu bad cl) (n+1) f [] [] with
 | none=>simp[hc]at h
 | some rr=>
  obtain⟨r,H'⟩:=rr;simp only[hc,Option.map_some,Option.some.injEq]at h;subst h;have J:=ZyW N rfl (ZwU rfl rfl (fun _ _=>rfl) G) hp I rfl hc;have Q:Gf m.ts x=[]:=by
   have hl:=Z7t x;exact List.eq_nil_of_length_eq_zero (by rw[hl,congrArg List.length M];rfl)
  rw[Q];intro fz w vs q Y hr;exact J fz w vs q (fun g r hh=>Y g r (by rw[D];exact hh)) hr
end Go.Proofs.YtjodhcdmhobmoaaGreatDoor.Le
namespace Go.Proofs.YtjodhcdmhobmoaaGreatDoor.Le
open Go.RowKit (Below)
def Pn:Operand:=.const (.slice none 0 0)
def Z43 (t:TypeId):Code:=.seq (.region 2 #[.mk (some 2) (.assign Pn) t "slices.go:358" #[] none] false) .ret
def tK (t:TypeId):Code:=.seq (.region 3 #[.mk (some 5) (.buildSlice t 0 #[]) t "slices.go:362" #[] none,.mk (some 6) (.move (.tmp 0)) t "slices.go:362" #[] none,
 .mk (some 7) (.call (.mk (.builtin .append) #[.tmp 5,.tmp 6] #[t,t])) t "slices.go:362" #[.mk 0 .data,.mk 1 .data] none,
 .mk (some 2) (.assign (.tmp 7)) t "slices.go:362" #[.mk 2 .data,.mk 2 .chain,.mk 0 .phase,.mk 1 .phase,.mk 2 .phase] none] false) .ret
def dZ (t tb:TypeId):Array Oper:=#[.mk (some 3) (.move (.tmp 0)) t "slices.go:357" #[] none,.mk (some 4) (.binOp .eql t (.tmp 3) Pn t) tb "slices.go:357" #[.mk 0 .data] none]
def sQ (t tb:TypeId):Code:=
 .seq (.region 0 #[.mk (some 2) (.assign Pn) t "slices.go:355" #[] none] false) (.seq (.seq (.region 1 (dZ t tb) false) (.cond (.tmp 4) (Z43 t) .skip)) (tK t))
section
variable {P:Program} {E:Env} {B:Nat} {w0:Start} {call:Dn}
theorem ZoD (w:World) (d:Nat) (t e:TypeId) (a:Option Addr) (l c:Nat) (h:P.underlying t=some (.slice e)):(Op.equalIn (d+1) t (.slice a l c) (.slice none 0 0)).run P w = .ok a.isNone w:=by
 cases a<;>simp[Op.equalIn,run_underlying h]
theorem Zur (w:World) (t e:TypeId) (a:Option Addr) (l c:Nat) (h:P.underlying t=some (.slice e)):(Op.equal t (.slice a l c) (.slice none 0 0)).run P w = .ok a.isNone w:=ZoD w 9999 t e a l c h
theorem Zxp {t e:TypeId} {y z:Operand} {v:Value} {w:World} (A:P.underlying t=some (.slice e)) (C:∃a n c,v = .slice a n c/\(a=none->n=0)) :
  ∃b,(do eqGuard .eql t y z v (.slice none 0 0);binOp .eql t v (.slice none 0 0)).run P w = .ok (.bool b) w/\(b=true->∃c,v = .slice none 0 c):=by
 obtain⟨a,n,c,rfl,q⟩:=C;refine⟨a.isNone,?_,fun h=>?_⟩
 ·simp only[Sem.run_bind];rw[Rn _ _ _ _ _ _ (by simp) (by simp)];simp[binOp,Zur w t e a n c A]
 ·cases a with
  | none=>exact⟨c,by rw[q rfl]⟩
  | some a=>cases h
theorem Zzm (hE:Cf E) (hP:E.P=P) (I:JH P E B w0 call) {id:Nat} {t tb e n:TypeId} (ht:P.underlying t=some (.slice e)) {st:St} {σ:Sg} {a:Act} {w:World} (A:Ew E B w0 σ st a w)
  {xs:List V} (hx:ev E st.s (.tmp 0) = .sl false n xs) (h3:3<st.s.length) {Q:Exit->Act->World->Prop}
  (hq:∀b Y,Ew E B w0 σ ⟨setSlot (setSlot st.s (some 3) (.sl false n xs)) (some 4) (.lit (.bool b)),st.H⟩ Y w->(b=true->xs=[])->Q .normal Y w) :
  (Code.region id (dZ t tb) false).wp P Q a w:=by
 refine wp_region ?_;show wpOps P (dZ t tb) Q [0,1] a w;have N:∃v,a.eval (.tmp 0)=v/\AQ σ w [.sl false n xs] [v]:=by
  have:=EY (a:=a) A.Ef A.slots (.tmp 0);rw[hx]at this;exact⟨_,rfl,this⟩
 obtain⟨v,N,C⟩:=N;rw[wpOps_cons];unfold wpOp;have h0:(dZ t tb)[0]? = some (.mk (some 3) (.move (.tmp 0)) t "slices.go:357" #[] none):=rfl;have h1:(dZ t tb)[1]? = some (.mk (some 4) (.binOp .eql t (.tmp 3) Pn t) tb "slices.go:357" #[.mk 0 .data] none):=rfl;simp only[h0];rw[if_pos (show Region.wanted _ _=true from rfl)];refine .inl (Ib (s:=pure v) (u:=v) (w' :=w) (by unfold execOp;simp[N]) (by simp[Sem.run_pure]) ?_);rw[wpOps_cons];unfold wpOp;simp only[h1];rw[if_pos (show Region.wanted _ _=true from rfl)];have q:Ew E B w0 σ ⟨setSlot st.s (some 3) (.sl false n xs),st.H⟩ (a.put (some 3) v) w:=⟨A.inv,A.Ef,qH A.slots C (some 3),qX A.calm _ _⟩;have J:(a.put (some 3) v).eval (.tmp 3)=v:=by
  have:3<a.tmps.size:=by
   have:=A.slots.length;simp only[Array.length_toList]at this;omega
  simp[Act.put,Act.eval,this]
 have M:∃a n c,v = .slice a n c/\(a=none->n=0)/\(a=none->xs=[]):=by
  cases C with
  | ET _=>exact⟨none,0,0,rfl,fun _=>rfl,fun _=>rfl⟩
  | FU a _=>exact⟨some a,0,0,rfl,fun h=>(by cases h),fun h=>(by cases h)⟩
  | sl b o c e' h1 h2 h3 h4 h5 h6 h7 _=>exact⟨some _,_,_,rfl,fun h=>(by cases h),fun h=>(by cases h)⟩
 obtain⟨va,vn,vc,D,O,S⟩:=M;obtain⟨b,F,G⟩:=Zxp (P:=P) (t:=t) (e:=e) (y:=.tmp 3) (z:=Pn) (w:=w) ht ⟨va,vn,vc,D,O⟩;refine .inl (Ib (s:=do eqGuard .eql t (.tmp 3) Pn v (.slice none 0 0);binOp .eql t v (.slice none 0 0)) (u:=.bool b) ?_ F ?_)
 ·unfold execOp;simp only[J];rfl
 ·show Q .normal _ _;refine hq b _ ⟨q.inv,q.Ef,qH q.slots (.lit rfl .nil) (some 4),qX q.calm _ _⟩ (fun h=>?_);obtain⟨c,hc⟩:=G h;rw[D]at hc;cases hc;exact S rfl
theorem Zc0 (hmix:P.follows .mixedOrders=true) {f:FuncId} {fn:Func} {t tb e:TypeId} {i1 i2:Nat} {iz:Option V} {ei:TI} {z:V} (hfn:P.funcs[f]? = some fn) (Q:fn.body=some (sQ t tb)) (hnt:fn.ntmps=8) (M:fn.results = #[.tmp 2])
  (hti:Jn P t=some ⟨.slice e,i1,i2,iz⟩) (htu:P.underlying t=some (.slice e)) (hei:Jn P e=some ei) (hez:ei.zero=some z) (hpos:0<ei.size) (hzl:z.cells.length=ei.size) (hzo:okV z=true)
  {xs:List V} (h1:xs.length*ei.bytes<=lim) (h2:xs.length<=maxLen) (fz:Nat->Nat->Prop) (w:World) (vs:List Value) (D:∀b c,fz b c->∃u,w.cell? ⟨b,c,none⟩=some u) (hr:AQ (bare fz) w [.sl false ei.size xs] vs) :
  Calls P f vs.toArray w fun e' w' =>∃u σ',e' = .returned u/\Inv w.heap.size (Start.of w fz) σ' [Bg true false e ei.size [],Bg true false e ei.size xs] w' /\ Ext (bare fz) w σ' w' /\ AQ σ' w' [.Bc 1 0 xs.length xs.length] [u]:=by
 have hck:rQ P (fun _=>none) [] (fun _=>false) []=true:=rfl;have O:=Zeu (P:=P) (gl:=fun _=>none) (fs:=[]) (pu:=fun _=>false) (bad:=[]) hmix hck;generalize C:EC P (fun _=>none) [] (fun _=>false) []=E0 at O;have hP:E0.P=P:=by rw[<- C];rfl
 have t1:E0.ti t=some ⟨.slice e,i1,i2,iz⟩:=by rw[<- C];exact hti
 have t2:E0.ti e=some ei:=by rw[<- C];exact hei
 have hcm:∀g id,E0.calm g id=true:=fun g id=>by rw[<- C];rfl
 have hI:Inv w.heap.size (Start.of w fz) (bare fz) [] w:=⟨Below.refl _ w,Nat.le_refl _,fun id L hL=>(by cases hL),fun id bx hb=>by simp at hb,fun i j b1 b2 L1 L2 g h1=>by simp at h1,D,
  fun b c hc id bx L hb=>by simp at hb,fun id bx hb=>by simp at hb,fun b c hc _=>hc,fun b hb=>hb.elim⟩
 have hg0:Di E0 (bare fz) w:=fun g r hh=>by rw[<- C]at hh;cases hh
 have q:JH P E0 w.heap.size (Start.of w fz) (En E0 0):=fun f args H x H' σ w vs h=>by cases h
 have A:OC E0 (En E0 0):=Uc 0;have Y:=Z3v (f:=f) O hP q A 0
 ·refine calls_of_wp hfn Q ?_;have I:AQ (bare fz) w ([.sl false ei.size xs]++List.replicate 7 EH) (vs.toArray++Array.replicate (fn.ntmps - vs.toArray.size) undef).toList:=by
   simp only[Array.toList_append,Array.toList_replicate,List.size_toArray];rw[<- hr.length,hnt];exact hr.append (AQ.replicate _ (.no .nil))
  have hrel:Ew E0 w.heap.size (Start.of w fz) (bare fz) ⟨[.sl false ei.size xs]++List.replicate 7 EH,[]⟩ { tmps:=vs.toArray++Array.replicate (fn.ntmps - vs.toArray.size) undef,defers:=[] } w:=⟨hI,hg0,I,rfl⟩;have J:∀(s:List V),KU E0 [Bg true false e ei.size [],Bg true false e ei.size xs] s fn.results.toList=some (.Bc 1 0 xs.length xs.length)->∀a' w' σ',Ew E0 w.heap.size (Start.of w fz) σ' ⟨s,[Bg true false e ei.size [],Bg true false e ei.size xs]⟩ a' w' -> Ext (bare fz) w σ' w' ->
    a'.defers=[]/\∃v,(results fn a'.tmps).run P w' = .ok v w' /\ (fun e' w' =>∃u σ',e' = Ending.returned u/\Inv w.heap.size (Start.of w fz) σ' [Bg true false e ei.size [],Bg true false e ei.size xs] w' /\ Ext (bare fz) w σ' w' /\ AQ σ' w' [.Bc 1 0 xs.length xs.length] [u]) (.returned v) w' :=by
   intro s hx a' w' σ' F he';obtain⟨u,hu,hur⟩:=pI (P:=P) O hP F.inv F.slots hx;exact⟨F.calm,u,hu,u,σ',rfl,F.inv,he',hur⟩
  have c0:∀N,GG (En E0 0) N E0 f (.region 0 #[.mk (some 2) (.assign Pn) t "slices.go:355" #[] none] false) ⟨[.sl false ei.size xs]++List.replicate 7 EH,[]⟩ =
    some (.normal,⟨[.sl false ei.size xs,EH,.Bc 0 0 0 0,EH,EH,EH,EH,EH],[Bg true false e ei.size []]⟩):=by
   intro N;simp[GG,MN,stepD,Je,F6,BP,Pn,t1,Env.size,t2,place,setSlot,List.range,List.range.loop,List.replicate]
  refine wp_seq (SX O hP q A Y _ _ .normal _ rfl (c0 _) _ _ _ _ hrel (fun a1 w1 σ1 hr1 he1=>?_));show (Code.seq _ _).wp P _ a1 w1;refine wp_seq (wp_seq (Zzm O hP q htu hr1 (xs:=xs) (n:=ei.size) rfl (by simp) (fun b a2 G hb=>?_)));show (Code.cond _ _ _).wp P _ a2 w1;refine wp_cond (t:=b) ?_ ?_
  ·have:=EY (a:=a2) G.Ef G.slots (.tmp 4);generalize a2.eval (.tmp 4)=v4 at this ⊢;simp only[ev,setSlot]at this;cases this with
   | lit _ _=>rfl
  ·cases b with
   | true=>
    have hx:=hb rfl;subst hx;have cA:∀N,GG (En E0 0) N E0 f (Z43 t) ⟨setSlot (setSlot [.sl false ei.size [],EH,.Bc 0 0 0 0,EH,EH,EH,EH,EH] (some 3) (.sl false ei.size [])) (some 4) (.lit (.bool true)),[Bg true false e ei.size []]⟩ =
      some (.ret,⟨[.sl false ei.size [],EH,.Bc 1 0 0 0,.sl false ei.size [],.lit (.bool true),EH,EH,EH],[Bg true false e ei.size [],Bg true false e ei.size []]⟩):=by
     intro N;simp[Z43,GG,MN,stepD,Je,F6,BP,Pn,t1,Env.size,t2,place,setSlot,List.range,List.range.loop]
    refine SX O hP q A Y _ _ .ret _ rfl (cA _) _ _ _ _ G (fun a3 w3 σ3 hr3 S=>?_);exact J _ (by rw[M];rfl) a3 w3 σ3 hr3 (he1.trans S)
   | false=>
    refine wp_skip ?_;show (tK t).wp P _ a2 w1;have cB:∀N,GG (En E0 0) N E0 f (tK t) ⟨setSlot (setSlot [.sl false ei.size xs,EH,.Bc 0 0 0 0,EH,EH,EH,EH,EH] (some 3) (.sl false ei.size xs)) (some 4) (.lit (.bool false)),[Bg true false e ei.size []]⟩ =
      some (.ret,⟨[.sl false ei.size xs,EH,.Bc 1 0 xs.length xs.length,.sl false ei.size xs,.lit (.bool false),.Bc 1 0 0 0,.sl false ei.size xs,.Bc 1 0 xs.length xs.length],[Bg true false e ei.size [],Bg true false e ei.size xs]⟩):=by
     intro N;have hzk:ei.Ti=true:=by simp[TI.Ti,hez,hzl,hzo]
     simp[tK,GG,MN,stepD,Je,F6,BP,t1,t2,place,setSlot,List.range,List.range.loop,Oo,hez,FI,hpos,hzl,hzo,MC,bump,ev,evs,PI,Lp,elemsOf,Eb,DZ,Bg,h1,h2,hzk]
    refine SX O hP q A Y _ _ .ret _ rfl (cB _) _ _ _ _ G (fun a3 w3 σ3 hr3 S=>?_);exact J _ (by rw[M];rfl) a3 w3 σ3 hr3 (he1.trans S)
theorem ZvL (M:P.follows .mixedOrders=true) {f:FuncId} {fn:Func} {t tb e:TypeId} {i1 i2:Nat} {iz:Option V} {q:TI} {z:V} (hfn:P.funcs[f]? = some fn) (F:fn.body=some (sQ t tb)) (hnt:fn.ntmps=8) (Q:fn.results = #[.tmp 2])
  (hti:Jn P t=some ⟨.slice e,i1,i2,iz⟩) (htu:P.underlying t=some (.slice e)) (S:Jn P e=some q) (Y:q.zero=some z) (N:0<q.size) (hzl:z.cells.length=q.size) (hzo:okV z=true)
  {xs:List V} (h1:xs.length*q.bytes<=lim) (h2:xs.length<=maxLen):OT P E f [.sl false q.size xs] (.sl false q.size xs):=by
 intro fz w vs A hg hr;refine(Zc0 M hfn F hnt Q hti htu S Y N hzl hzo h1 h2 fz w vs A hr).mono ?_
 rintro e' w' ⟨u,σ',rfl,C,G,O⟩
 have J:JL [Bg true false e q.size [],Bg true false e q.size xs] (.Bc 1 0 xs.length xs.length)=some (.sl false q.size xs):=by simp[JL,Hz,Hu,DZ,Bg]
 obtain⟨D,I⟩:=C.freeze (O9 (.Bc 1 0 xs.length xs.length));have hr2:=Z2H C O J (O9 (.Bc 1 0 xs.length xs.length)) (fun i hi=>hi);have hn:=Z27 C O J;refine⟨u,_,rfl,D.below,fun b c h=>(I.fz b c (G.fz b c h).1).1,fun b c h hlt=>D.old b c h hlt,D.cells,?_,hn⟩;exact hr2.bare (fun b c h=>⟨h,rfl⟩) (EP.refl _) (by simp[Bz,hn])
theorem ZxV (M:P.follows .mixedOrders=true) {f:FuncId} {fn:Func} {t tb e:TypeId} {i1 i2:Nat} {iz:Option V} {C:TI} {z:V} (hfn:P.funcs[f]? = some fn) (G:fn.body=some (sQ t tb)) (hnt:fn.ntmps=8) (O:fn.results = #[.tmp 2])
  (hti:Jn P t=some ⟨.slice e,i1,i2,iz⟩) (htu:P.underlying t=some (.slice e)) (Y:Jn P e=some C) (hez:C.zero=some z) (N:0<C.size) (hzl:z.cells.length=C.size) (hzo:okV z=true)
  {xs:List V} (h1:xs.length*C.bytes<=lim) (h2:xs.length<=maxLen):rO P E f [.sl false C.size xs] e C.size xs:=by
 intro fz w vs A hg hr;have F:∀x∈xs,Ep x=true:=by
  cases hr with
  | ET _=>simp
  | FU a _=>simp
  | sl b o c e' k1 k2 k3 k4 k5 k6 k7 _=>exact k2
 refine(Zc0 M hfn G hnt O hti htu Y hez N hzl hzo h1 h2 fz w vs A hr).mono ?_
 rintro e' w' ⟨u,σ',rfl,q,J,hr'⟩
 obtain⟨L,hL,I⟩:=q.boxes 1 _ rfl rfl;obtain⟨us,k1,k2,k3,k4⟩:=I.Dh;have Q:L.tot=xs.length:=I.tot;have D:L.Ar=C.size:=I.Ar.symm;have hu:u=L.v:=by
  cases hr' with
  | Bc q1 q2 q3 q4 _=>
   rw[hL]at q1;cases q1;obtain⟨_,a,n,c,k,r1,r2,r3,r4,_⟩:=q3 Q;have hk0:k=0:=by omega
   subst hk0;rw[r2,r1];rcases k4.2 with ⟨S,hn⟩|⟨g,cap,cur,tg,S,_⟩
   ·rw[r1]at S;cases S;have:xs.length=0:=hn;simp[this]
   ·rw[r1]at S;cases S;simp[Addr.add,Bg]
 subst hu;refine⟨L.v,us,σ'.fz,rfl,q.below,fun b c h=>(J.fz b c h).1,fun b c h hlt=>q.old b c h hlt,q.cells,k1.bare (fun b c h=>⟨h,rfl⟩) (EP.refl _) (Oq F),F,fun x hx=>by rw[k2 x hx,D],k3,by rw[<- D];exact k4,fun g c hg' hfz=>?_⟩;have:=q.floor g c hfz 1 _ L rfl rfl hL hg';simp[Bg]at this
theorem rC (D:P.follows .mixedOrders=true) {f:FuncId} {fn:Func} {t tb e:TypeId} (J:P.funcs[f]? = some fn) (q:fn.body=some (sQ t tb)) (N:fn.ntmps=8) (G:fn.results = #[.tmp 2]) (M:(fn.name == "runtime.NumGoroutine")=false)
  (A:(Jn P t).map TI.ty=some (.slice e)) (O:P.underlying t=some (.slice e)) {n by' : Nat} (C:(Jn P e).map (fun i=>(i.size,i.bytes,i.Ti))=some (n,by',true)) (F:0<n):Q8 P f n by' e:=by
 cases S:Jn P t with
 | none=>rw[S]at A;cases A
 | some ti=>
  cases Y:Jn P e with
  | none=>rw[Y]at C;cases C
  | some ei=>
   rw[S]at A;rw[Y]at C;simp only[Option.map_some,Option.some.injEq,Prod.mk.injEq]at A C;obtain⟨ty,i1,i2,iz⟩:=ti;simp only at A;subst A;obtain⟨rfl,rfl,I⟩:=C;unfold TI.Ti at I;split at I
   ·rename_i z Q;simp only[Bool.and_eq_true,beq_iff_eq]at I;exact⟨⟨fn,J,by rw[q];rfl,M⟩,fun E xs h3 h4=>ZvL D J q N G S O Y Q F I.2 I.1 h3 h4,fun E xs h3 h4=>ZxV D J q N G S O Y Q F I.2 I.1 h3 h4⟩
   ·cases I
theorem pU {U:Cc} {E0:Env} {f n by' e:Nat} (h:Q8 P f n by' e) {m:HMod U}
  (hm:∀(x:m.D7.X U) (y:U.Ty m.ky),m.fn x=some y->∃xs,Au U (m.D7.enc x).1=[.sl false n xs]/\BO U (m.D7.enc x).2=[]/\AU U (m.out y).1 = .Bc 0 0 xs.length xs.length/\BO U (m.out y).2=[Bg true false e n xs]/\xs.length*by' <= lim/\xs.length<=maxLen):DU P E0 f m:=by
 refine⟨h.entered,fun x y M=>?_⟩;obtain⟨xs,q,z,A,C,D,F⟩:=hm x y M;rw[q,z,A,C];intro B w0 σ w vs G I J;have:=ZbL (P:=P) (E:=E0) (f:=f) (e:=e) (sz:=n) (xs:=xs) (as:=[.sl false n xs]) [] (by simpa[GM]using h.own E0 xs D F) rfl G I J;exact this
end
end Go.Proofs.YtjodhcdmhobmoaaGreatDoor.Le
namespace Go.Proofs.YtjodhcdmhobmoaaGreatDoor.Le
open Go.ChangeShapes Go.WideShapes Go.ChangeAt
theorem ZcD {σ:Sg} {w:World} {ik:IntKind}:∀(ks:List Int),(∀k∈ks,(Lit.int ik k).wf=true)->AQ σ w (ks.map fun n=>V.lit (.int ik n)) (ks.map fun n=>Value.int ik n)
 | [],_=>.nil
 | k::ks,h=>.lit (by simp[leaf,h k (by simp)]) (ZcD ks fun j q=>h j (by simp[q]))
theorem Zym {P:Program} {W:World} {name:String} {g tA e:Nat} {ik:IntKind} {ks:List Int} (hg:P.globalNamed name=some g) (ht:(P.globals[g]?).map (·.type)=some tA) (hA:P.underlying tA=some (.array ks.length e)) (he:P.underlying e=some (.int ik)) (hc:P.cellsOf e=1) (Y:P.cellsOf tA=ks.length)
  (hm:laidMetH P [(name,.agg (ks.map fun n=>.lit (.int ik n)))] W):AQ (bare (MB W)) W [.CG ks.length [.agg (ks.map fun n=>V.lit (.int ik n))] 0 0] [.pointer (some ⟨g,0,none⟩)]:=by
 rw[MakeChecks.laidMetH_plain _ _ _ (by rfl)]at hm;obtain⟨ps,⟨g0,t0,F,f0,p0,q0,hg0,ht0,hv0,hd0,_,_⟩,_,_⟩:=hm;obtain rfl:=Option.some.inj (hg.symm.trans hg0);obtain rfl:=Option.some.inj (ht.symm.trans ht0);obtain⟨xs,m1,rfl,Q,I,hn,hel⟩:=DataW.trod_array hA hd0;simp only[Prod.mk.injEq,DataW.agg.injEq]at Q;rw[Y]at I;have q:∀i,i<ks.length->∃k,ks[i]? = some k/\F[i]? = some (.int ik k)/\(Lit.int ik k).wf=true:=by
  intro i C;have z:=hel i C;rw[hc,Nat.mul_one]at z;have J:i<xs.length:=by omega
  rw[List.getElem?_eq_getElem J]at z;obtain⟨k,S,e2,e3⟩:=DataW.trod_int he z;refine⟨k,?_,?_,e3⟩
  ·have M:=congrArg (·[i]?) Q.1;simp only[List.getElem?_map,List.getElem?_eq_getElem J,List.getElem?_eq_getElem C,Option.map_some,e2,Option.some.injEq,DataW.lit.injEq,Lit.int.injEq,true_and]at M;rw[List.getElem?_eq_getElem C,M]
  ·have N:i<F.toList.length:=by omega
   rw[List.drop_eq_getElem_cons N]at S;simp only[List.take_succ_cons,List.take_zero,List.cons.injEq,and_true]at S;rw[<- Array.getElem?_toList,List.getElem?_eq_getElem N,S]
 have hwf:∀k∈ks,(Lit.int ik k).wf=true:=by
  intro k D;obtain⟨i,C,rfl⟩:=List.mem_iff_getElem.1 D;obtain⟨k',z,_,N⟩:=q i C;rw[List.getElem?_eq_getElem C]at z;obtain rfl:=Option.some.inj z;exact N
 have A:∀u∈ks.map (fun n=>Value.int ik n),u.oneCell' = true:=by
  intro u hu;obtain⟨k,_,rfl⟩:=List.mem_map.1 hu;rfl
 have hr:=AQ.agg (ZcD (σ:=bare (MB W)) (w:=W) ks hwf) A (xs:=[]) (vs:=[]) .nil;have G:flat [Value.agg (ks.map fun n=>Value.int ik n).toArray]=ks.map fun n=>Value.int ik n:=by simp[flat,Value.cells]
 have:=AQ.CG (σ:=bare (MB W)) (w:=W) (es:=[.agg (ks.map fun n=>V.lit (.int ik n))]) g 0 ks.length 0 0 hr ?_ ?_ ?_ ?_ (xs:=[]) (vs:=[]) .nil
 ·simpa using this
 ·intro x Q;obtain rfl:x=V.agg (ks.map fun n=>V.lit (.int ik n)):=by simpa using Q
  simp only[Ep,okV,CW,Bool.true_and];rw[J6];intro y hy;obtain⟨k,_,rfl⟩:=List.mem_map.1 hy;rfl
 ·intro u hu;obtain rfl:u=Value.agg (ks.map fun n=>Value.int ik n).toArray:=by simpa using hu
  simp[Value.cells]
 ·rw[G];exact A
 ·intro j u O;rw[G,List.getElem?_map]at O;cases D:ks[j]? with
  | none=>simp[D]at O
  | some k=>
   simp only[D,Option.map_some,Option.some.injEq]at O;subst O;obtain⟨k',z,M,_⟩:=q j (List.getElem?_eq_some_iff.1 D).1;obtain rfl:=Option.some.inj (D.symm.trans z);have:=(World.var?_cell hg hv0 j).trans M;rw[Nat.zero_add];exact⟨⟨_,this⟩,this⟩
end Go.Proofs.YtjodhcdmhobmoaaGreatDoor.Le
