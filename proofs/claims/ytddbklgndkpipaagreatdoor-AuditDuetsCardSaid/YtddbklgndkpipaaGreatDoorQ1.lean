/- A part of it. -/
import Derived.Test.YtddbklgndkpipaaGreatDoorYUn
import Derived.Laws.BitsAllLaws
import Derived.Test.YtddbklgndkpipaaGreatDoorF3
set_option linter.unusedVariables false
set_option linter.unusedSimpArgs false
namespace Go.Proofs.YtddbklgndkpipaaGreatDoor
open Go Go.Proofs.YtddbklgndkpipaaGreatDoor.Le
def Tot {U:Cm} {L:Type}:Tr U L->(L->Prop)->Prop
 | .leaf l,Q=>Q l
 | .br c a b,Q=>(c=true->Tot a Q)/\(c=false->Tot b Q)
 | .bind _ o k,Q=>∃x,o=some x/\Tot (k x) Q
 | .chk c a,Q=>c=true/\Tot a Q
 | .fail,_=>False
theorem Z6o {U:Cm} {L R:Type} {J:L->Option R} {post:R->Prop}:∀{t:Tr U L},Tot t (fun l=>∃r,J l=some r/\post r)->∃r,t.den J=some r/\post r:=by
 intro t
 induction t with
 | leaf l=>intro h;exact h
 | br c a b iha ihb=>
  intro h
  cases c with
  | true=>exact iha (h.1 rfl)
  | false=>exact ihb (h.2 rfl)
 | bind t o k ih=>
  intro h
  obtain⟨x,hx,h⟩:=h
  obtain⟨r,h1,h2⟩:=ih x h
  exact⟨r,by rw [Tr.den,hx];exact h1,h2⟩
 | chk c a ih=>
  intro h
  obtain⟨r,h1,h2⟩:=ih h.2
  exact⟨r,by rw [Tr.den,h.1];exact h1,h2⟩
 | fail=>intro h;exact h.elim
theorem Tot.mono {U:Cm} {L:Type} {Q Q' : L->Prop} (hq:∀l,Q l->Q' l):∀{t:Tr U L},Tot t Q->Tot t Q' :=by
 intro t
 induction t with
 | leaf l=>exact hq l
 | br c a b iha ihb=>exact fun h=>⟨fun e=>iha (h.1 e),fun e=>ihb (h.2 e)⟩
 | bind t o k ih=>exact fun⟨x,hx,h⟩=>⟨x,hx,ih x h⟩
 | chk c a ih=>exact fun h=>⟨h.1,ih h.2⟩
 | fail=>exact fun h=>h
def Lt3 (a b:Nat×Nat×Nat):Prop:=a.1<b.1\/(a.1=b.1/\(a.2.1<b.2.1\/(a.2.1=b.2.1/\a.2.2<b.2.2)))
theorem lt3_wf:WellFounded Lt3:=by
 have key:∀x y z,Acc Lt3 (x,y,z):=by
  intro x
  induction x using Nat.strongRecOn with
  | _ x ihx=>
   intro y
   induction y using Nat.strongRecOn with
   | _ y ihy=>
    intro z
    induction z using Nat.strongRecOn with
    | _ z ihz=>
     refine Acc.intro _ fun q hq=>?_
     obtain⟨q1,q2,q3⟩:=q
     rcases hq with h|⟨h1,h|⟨h2,h⟩⟩
     ·exact ihx q1 h q2 q3
     ·simp only at h1 h
      subst h1
      exact ihy q2 h q3
     ·simp only at h1 h2 h
      subst h1
      subst h2
      exact ihz q3 h
 exact⟨fun⟨x,y,z⟩=>key x y z⟩
theorem FH {a b c d e f:Nat} (h:a<d):Lt3 (a,b,c) (d,e,f):=.inl h
theorem NG {a b c e f:Nat} (h:b<e):Lt3 (a,b,c) (a,e,f):=.inr ⟨rfl,.inl h⟩
theorem Gq {a b c f:Nat} (h:c<f):Lt3 (a,b,c) (a,b,f):=.inr ⟨rfl,.inr ⟨rfl,h⟩⟩
theorem FM {a b c d e f:Nat}:Lt3 (a,b,c) (d,e,f)↔a<d\/(a=d/\(b<e\/(b=e/\c<f))):=Iff.rfl
theorem Bj {U:Cm} {P R:Type} {T:P->Tr U (R⊕P)} {post:R->Prop} (I:P->Prop) (μ:P->Nat×Nat×Nat)
  (h:∀p,I p->Tot (T p) (fun l=>match l with | .inl r=>post r | .inr q=>I q/\Lt3 (μ q) (μ p))) (p:P) (hp:I p):∃r,Ad T p=some r/\post r:=by
 have key:∀x p,μ p=x->I p->∃r,Ad T p=some r/\post r:=by
  intro x
  induction lt3_wf.apply x with
  | intro x _ ih=>
   intro p hx hI
   subst hx
   rw [Cc]
   refine Z6o ((h p hI).mono fun l hl=>?_)
   cases l with
   | inl r=>exact⟨r,rfl,hl⟩
   | inr q=>exact ih _ hl.2 q rfl hl.1
 exact key _ p rfl hp
theorem CE {U:Cm} {P R:Type} {T:P->Tr U (R⊕P)} {post:R->Prop} {p:P} (I:Prop) (hI:I) (h:I->Tot (T p) (fun l=>match l with | .inl r=>post r | .inr _=>False)):∃r,Ad T p=some r/\post r:=by
 rw [Cc]
 refine Z6o ((h hI).mono fun l hl=>?_)
 cases l with
 | inl r=>exact⟨r,rfl,hl⟩
 | inr q=>exact hl.elim
theorem ZnP {α:Type} {l:List α} {i:Int} {Q:α->Prop} (h:0<=i/\i<(l.length:Int)) (k:∀v,v∈l->Q v):∃v,l[Int.toNat i]? = some v/\Q v:=by
 have hi:i.toNat<l.length:=by omega
 exact⟨l[i.toNat],List.getElem?_eq_getElem hi,k _ (List.getElem_mem hi)⟩
theorem Bv {a:Int} (h : -9223372036854775808<=a) (h' : a<=9223372036854775807):A7 a=a:=by
 simp only [A7,IntKind.wrap,IntKind.signed,IntKind.bits]
 simp
 omega
theorem tm_bd (a:Int) (n:Nat) (h:0<n) : -(n:Int)<Int.tmod a n/\Int.tmod a n<n:=by
 have h1:=Int.tmod_lt_of_pos a (show (0:Int)<n by omega)
 have h2:=Int.tmod_lt_of_pos (-a) (show (0:Int)<n by omega)
 rw [Int.neg_tmod] at h2
 omega
theorem Gm {U:Cm} {L:Type} {Q:L->Prop} (h:False):Tot (.fail:Tr U L) Q:=h
theorem BL {U:Cm} {L:Type} {l:L} {Q:L->Prop} (h:Q l):Tot (.leaf l:Tr U L) Q:=h
theorem CP {U:Cm} {L:Type} {c:Bool} {a b:Tr U L} {Q:L->Prop} (h:c=true->Tot a Q) (k:c=false->Tot b Q):Tot (.br c a b) Q:=⟨h,k⟩
theorem BO {U:Cm} {L:Type} {c:Bool} {a:Tr U L} {Q:L->Prop} (h:c=true) (k:Tot a Q):Tot (.chk c a) Q:=⟨h,k⟩
theorem Aj {U:Cm} {L:Type} {t:Nat} {o:Option (U.Ty t)} {k:U.Ty t->Tr U L} {Q:L->Prop} {post:U.Ty t->Prop} (h:∃v,o=some v/\post v) (g:∀v,o=some v->post v->Tot (k v) Q):Tot (.bind t o k) Q:=by
 obtain⟨v,h1,h2⟩:=h
 exact⟨v,h1,g v h1 h2⟩
theorem MQ {U:Cm} {L:Type} {t:Nat} {l:List (U.Ty t)} {i:Int} {k:U.Ty t->Tr U L} {Q:L->Prop} (h:0<=i/\i<(l.length:Int)) (g:∀v,v∈l->Tot (k v) Q):Tot (.bind t (l[Int.toNat i]?) k) Q:=
 ZnP h g
theorem GI {U:Cm} {L:Type} {t:Nat} {o:Option (U.Ty t)} {a:U.Ty t} {k:U.Ty t->Tr U L} {Q:L->Prop} (h:o=some a) (g:Tot (k a) Q):Tot (.bind t o k) Q:=⟨a,h,g⟩
theorem Du:lim=140737488355328:=rfl
theorem maxLen_eq:maxLen=9223372036854775807:=rfl
def R8 (n:Int):Prop:=0<=n/\n<256
def R16 (n:Int):Prop:=0<=n/\n<65536
def R32 (n:Int):Prop:=0<=n/\n<4294967296
def Bq (n:Int):Prop:=0<=n/\n<18446744073709551616
def Cb (l:List Int):Prop:=∀b∈l,R8 b
theorem Z78 (n:Int):R8 (IntKind.wrap .u8 n):=by unfold R8;rw [IntKind.wrap_u8];omega
theorem sZ (n:Int):R16 (IntKind.wrap .u16 n):=by unfold R16;rw [IntKind.wrap_u16];omega
theorem Z6N (n:Int):R32 (IntKind.wrap .u32 n):=by unfold R32;rw [IntKind.wrap_u32];omega
theorem F5 (n:Int):Bq (IntKind.wrap .u64 n):=by unfold Bq;rw [IntKind.wrap_u64];omega
theorem Z79 (o:BinOp) (a b:Int):R8 (bits o .u8 a b):=Z78 _
theorem Znk (o:BinOp) (a b:Int):R16 (bits o .u16 a b):=sZ _
theorem Zme (o:BinOp) (a b:Int):R32 (bits o .u32 a b):=Z6N _
theorem Zn0 (o:BinOp) (a b:Int):Bq (bits o .u64 a b):=F5 _
theorem GN:Bq 0:=by unfold Bq;omega
theorem Zoj:Bq 63:=by unfold Bq;omega
theorem Wu:R16 0:=by unfold R16;omega
theorem vK:R32 0:=by unfold R32;omega
theorem bM:Cb []:=fun _ h=>nomatch h
theorem ZmL (a b:List Int):Cb (a++b)↔Cb a/\Cb b:=by simp only [Cb,List.mem_append];exact⟨fun h=>⟨fun x hx=>h x (.inl hx),fun x hx=>h x (.inr hx)⟩,fun h x hx=>hx.elim (h.1 x) (h.2 x)⟩
theorem SK (a:Int) (b:List Int):Cb (a::b)↔R8 a/\Cb b:=by simp only [Cb,List.mem_cons,forall_eq_or_imp]
theorem ZlE (n:Nat) (l:List Int) (h:Cb l):Cb (l.take n):=fun x hx=>h x (List.mem_of_mem_take hx)
theorem Zlu (n:Nat) (l:List Int) (h:Cb l):Cb (l.drop n):=fun x hx=>h x (List.mem_of_mem_drop hx)
theorem Zn4 {l:List Int} (h:Cb l) {x:Int} (hx:x∈l):R8 x:=h x hx
theorem Z32 (xs:List Int):Le.bytesOf (xs.map (U.enc 5))=some (xs.map fun n=>UInt8.ofNat n.toNat):=by
 induction xs with
 | nil=>rfl
 | cons x xs ih=>
  rw [List.map_cons]
  show (match Le.byteOf (U.enc 5 x),Le.bytesOf (xs.map (U.enc 5)) with|some b,some bs=>some (b::bs)|_,_=>none)=_
  rw [ih]
  rfl
theorem GR (xs:List Int) (h:xs.length<=1000000):MP U 5 xs=true:=by
 unfold MP
 rw [Z32]
 exact decide_eq_true (by rw [List.length_map];exact Nat.le_trans (Nat.le_trans h (by decide)) (by decide:1000000000<=maxLen))
def BZ (c:AV):Prop:=Bq c.Map/\R16 c.EN/\Bq c.EG/\Bq c.Mark/\Bq c.EU/\0<=c.Kind
def Ju (c:BP):Prop:=Bq c.Map/\R16 c.EN
def En (l:List AV):Prop:=∀c∈l,BZ c
def FI (l:List BP):Prop:=∀c∈l,Ju c
def Bh (p:Ai):Prop:=p.Payload.length<=65536/\Cb p.Payload
def Eb (p:Ai):Prop:=1<=p.Dn/\p.Dn<=3/\1<=p.Payload.length/\p.Payload.length<=251/\Cb p.Payload
def Iw (l:List Ai):Prop:=∀p∈l,Eb p
def EL (n:Int):Prop:=n=0\/n=1
theorem ZoQ:EL 0:=.inl rfl
theorem ZoL:EL 1:=.inr rfl
theorem ZjL {n:Int} (h:EL n):EL (A7 (1 - n)):=by rcases h with rfl|rfl<;>first|exact .inr rfl|exact .inl rfl
def D7 (a:CZ):Prop:=EL a.SN/\EL a.GG/\a.Am.length<=64/\Iw a.Am/\(a.Open=true->a.Empty=false->0<a.Am.length)
def BJ (s:Ae):Prop:=s.Aa.length<=8/\s.Ap.length<=1/\En s.Aa/\FI s.Ap/\Bq s.EU/\Bq s.EG/\Bq s.Ku/\Bq s.Mark/\EL s.Dl /\ -1<=s.Own /\ -1<=s.Other
def G9 (s:DX):Prop:=Bq s.Key/\Bq s.EG/\Bq s.Tx/\Bq s.Rx
def Hw (p:Eh):Prop:=R32 p.JD/\R32 p.Kr/\Bq p.Map
def BK (k:Int) (l:Af):Prop:=D7 l.Ag/\BJ l.AP/\G9 l.Ef/\Hw l.Bz/\(l.A8.length:Int)<=k/\En l.A8/\l.Aq.length<=37/\R16 l.Event/\Bq l.Key/\Bq l.Jc/\EL l.Dl
def EE (a:Eo):Prop:=Bh a.Bg/\a.Bg.Payload.length<=4096/\Bq a.Map/\Bq a.Number/\Bq a.Key
theorem FB {a b:Int} {l:Af} (h:BK a l) (hab:a<=b):BK b l:=⟨h.1,h.2.1,h.2.2.1,h.2.2.2.1,Int.le_trans h.2.2.2.2.1 hab,h.2.2.2.2.2⟩
def Gs (l:List Int):Prop:=∀x∈l,0<=x/\x<=36
theorem Zl8:Gs []:=fun _ h=>nomatch h
theorem Zkx (a b:List Int):Gs (a++b)↔Gs a/\Gs b:=by simp only [Gs,List.mem_append];exact⟨fun h=>⟨fun x hx=>h x (.inl hx),fun x hx=>h x (.inr hx)⟩,fun h x hx=>hx.elim (h.1 x) (h.2 x)⟩
theorem Zjj (a:Int) (b:List Int):Gs (a::b)↔(0<=a/\a<=36)/\Gs b:=by simp only [Gs,List.mem_cons,forall_eq_or_imp]
theorem Zj1 (n:Nat) (l:List Int) (h:Gs l):Gs (l.take n):=fun x hx=>h x (List.mem_of_mem_take hx)
theorem Ziz (n:Nat) (l:List Int) (h:Gs l):Gs (l.drop n):=fun x hx=>h x (List.mem_of_mem_drop hx)
theorem Zl4 {l:List Int} (h:Gs l) {x:Int} (hx:x∈l):0<=x/\x<=36:=h x hx
theorem sQ:En []:=fun _ h=>nomatch h
theorem Zmp (a b:List AV):En (a++b)↔En a/\En b:=by simp only [En,List.mem_append];exact⟨fun h=>⟨fun x hx=>h x (.inl hx),fun x hx=>h x (.inr hx)⟩,fun h x hx=>hx.elim (h.1 x) (h.2 x)⟩
theorem ZkO (a:AV) (b:List AV):En (a::b)↔BZ a/\En b:=by simp only [En,List.mem_cons,forall_eq_or_imp]
theorem Zl3 (n:Nat) (l:List AV) (h:En l):En (l.take n):=fun x hx=>h x (List.mem_of_mem_take hx)
theorem Zkz (n:Nat) (l:List AV) (h:En l):En (l.drop n):=fun x hx=>h x (List.mem_of_mem_drop hx)
theorem ZlJ {l:List AV} (h:En l) {x:AV} (hx:x∈l):BZ x:=h x hx
theorem Z6j:FI []:=fun _ h=>nomatch h
theorem Zkv (a b:List BP):FI (a++b)↔FI a/\FI b:=by simp only [FI,List.mem_append];exact⟨fun h=>⟨fun x hx=>h x (.inl hx),fun x hx=>h x (.inr hx)⟩,fun h x hx=>hx.elim (h.1 x) (h.2 x)⟩
theorem Zjm (a:BP) (b:List BP):FI (a::b)↔Ju a/\FI b:=by simp only [FI,List.mem_cons,forall_eq_or_imp]
theorem Zlg {l:List BP} (h:FI l) {x:BP} (hx:x∈l):Ju x:=h x hx
theorem Z6y:Iw []:=fun _ h=>nomatch h
theorem ZmJ (a b:List Ai):Iw (a++b)↔Iw a/\Iw b:=by simp only [Iw,List.mem_append];exact⟨fun h=>⟨fun x hx=>h x (.inl hx),fun x hx=>h x (.inr hx)⟩,fun h x hx=>hx.elim (h.1 x) (h.2 x)⟩
theorem Zlf (a:Ai) (b:List Ai):Iw (a::b)↔Eb a/\Iw b:=by simp only [Iw,List.mem_cons,forall_eq_or_imp]
theorem Zln (n:Nat) (l:List Ai) (h:Iw l):Iw (l.take n):=fun x hx=>h x (List.mem_of_mem_take hx)
theorem ZkW (n:Nat) (l:List Ai) (h:Iw l):Iw (l.drop n):=fun x hx=>h x (List.mem_of_mem_drop hx)
theorem Zne {l:List Ai} (h:Iw l) {x:Ai} (hx:x∈l):Eb x:=h x hx
theorem Z6E:D7 MG:=⟨.inl rfl,.inl rfl,Nat.zero_le _,Z6y,fun h=>nomatch h⟩
theorem Z7e:BJ EI:=⟨Nat.zero_le _,Nat.zero_le _,sQ,Z6j,GN,GN,GN,GN,.inl rfl,by decide,by decide⟩
theorem Z76:G9 QD:=⟨GN,GN,GN,GN⟩
theorem Z7k:Hw yQ:=⟨vK,vK,GN⟩
theorem ZnY:BZ Ig:=⟨GN,Wu,GN,GN,GN,by decide⟩
theorem ZnV:Ju RS:=⟨GN,Wu⟩
theorem Z7m (k:Int) (h:0<=k):BK k CU:=⟨Z6E,Z7e,Z76,Z7k,h,sQ,Nat.zero_le _,Wu,GN,GN,.inl rfl⟩
theorem Zoy:Bh H7.Bg:=⟨Nat.zero_le _,bM⟩
def Ep:List CQ:=[⟨true,true,false,true,false,false,false,false,false,false,false⟩,⟨true,false,true,true,false,false,false,false,false,false,false⟩,⟨true,false,false,false,true,false,false,false,false,false,false⟩,⟨true,false,false,false,false,false,true,true,false,false,false⟩,⟨true,false,false,false,false,false,true,false,false,false,false⟩,⟨true,false,false,false,false,false,false,false,false,false,false⟩,⟨true,false,false,false,false,true,false,false,false,false,false⟩,⟨true,false,false,false,false,false,false,false,true,false,false⟩,⟨true,false,false,false,false,false,false,false,false,true,false⟩,⟨true,false,false,false,true,true,false,false,false,false,false⟩,⟨true,true,false,false,false,false,false,false,false,false,false⟩,⟨true,false,false,false,false,false,false,false,false,false,true⟩,⟨false,false,false,false,false,false,false,false,false,false,false⟩]
def Dc (u:CQ):Prop:=u∈Ep
def Gh (u:CQ):Int:=1+cond u.BM 9 0+cond u.Map 5 0+cond u.EN 2 0+cond (u.BV||u.Version||u.Length) 1 0+cond u.H9 1 0+cond (u.EG||u.EU) 8 0+cond u.Mark 8 0
theorem ZkB {l:List Int} {v:Int} (h:Cb l) (hv:v∈l):BZ ⟨A7 v,ET,0,0,0,0,0,0,0,0,0⟩:=by
 obtain⟨h1,h2⟩:=h v hv
 refine⟨GN,Wu,GN,GN,GN,?_⟩
 show 0<=A7 v
 rw [Bv (by omega) (by omega)]
 exact h1
def Dp (l:List Ar):Prop:=∀x∈l,Bh x.Bg
theorem Znq:Dp []:=fun _ h=>nomatch h
theorem ZlL (a b:List Ar):Dp (a++b)↔Dp a/\Dp b:=by simp only [Dp,List.mem_append];exact⟨fun h=>⟨fun x hx=>h x (.inl hx),fun x hx=>h x (.inr hx)⟩,fun h x hx=>hx.elim (h.1 x) (h.2 x)⟩
theorem Zlq (a:Ar) (b:List Ar):Dp (a::b)↔Bh a.Bg/\Dp b:=by simp only [Dp,List.mem_cons,forall_eq_or_imp]
theorem ZmA {l:List Ar} (h:Dp l) {x:Ar} (hx:x∈l):Bh x.Bg:=h x hx
theorem Z7y:Bh ⟨0,[]⟩:=⟨Nat.zero_le _,bM⟩
def IC (l:List Ai):Prop:=∀p∈l,Bh p
theorem Z6F:IC []:=fun _ h=>nomatch h
theorem ZmB (a b:List Ai):IC (a++b)↔IC a/\IC b:=by simp only [IC,List.mem_append];exact⟨fun h=>⟨fun x hx=>h x (.inl hx),fun x hx=>h x (.inr hx)⟩,fun h x hx=>hx.elim (h.1 x) (h.2 x)⟩
theorem Q3 {p:Ai} (h:Bh p):IC [p]:=fun q hq=>by cases hq with|head=>exact h|tail _ h=>exact nomatch h
theorem Eb.pp {p:Ai} (h:Eb p):Bh p:=⟨by have:=h.2.2.2.1;omega,h.2.2.2.2⟩
theorem Iw.pp {l:List Ai} (h:Iw l):IC l:=fun p hp=>(h p hp).pp
def O7 (k:Int) (l:List Ai):Prop:=(l.length:Int)<=k/\IC l
def CO (k:Int) (d:Ak):Prop:=BK k d.AA.x0/\BK k d.AA.x1/\O7 k d.Sent.x0/\O7 k d.Sent.x1/\O7 k d.AB.x0/\O7 k d.AB.x1/\(d.Notes.length:Int)<=k
theorem MN {a b:Int} {l:List Ai} (h:O7 a l) (hab:a<=b):O7 b l:=⟨Int.le_trans h.1 hab,h.2⟩
theorem Dw {a b:Int} {d:Ak} (h:CO a d) (hab:a<=b):CO b d:=⟨FB h.1 hab,FB h.2.1 hab,MN h.2.2.1 hab,MN h.2.2.2.1 hab,MN h.2.2.2.2.1 hab,MN h.2.2.2.2.2.1 hab,Int.le_trans h.2.2.2.2.2.2 hab⟩
theorem Zlv {k:Int} {d:Ak} (t:Int) (h:CO k d):CO k { d with Now:=t }:=h
theorem PM {k:Int} {d:Ak} {l:Af} (h:CO k d) (hl:BK k l):CO k { d with AA:=⟨l,d.AA.x1⟩ }:=⟨hl,h.2⟩
theorem PI {k:Int} {d:Ak} {l:Af} (h:CO k d) (hl:BK k l):CO k { d with AA:=⟨d.AA.x0,l⟩ }:=⟨h.1,hl,h.2.2⟩
theorem WR {k j:Int} {a b:List Ai} (h:O7 k a) (hb:IC b) (hj:(b.length:Int)<=j):O7 (k+j) (a++b):=⟨by rw [List.length_append];have:=h.1;omega,(ZmB a b).2 ⟨h.2,hb⟩⟩
def NV (b:DL):Prop:=∀a∈b.F8,EE a
attribute [grind] BK D7 BJ G9 Hw BZ Ju EE Bh Eb
attribute [grind .] ZoQ ZoL Z78 sZ Z6N F5 Z79 Znk Zme Zn0 Z6E Z7e Z76 Z7k ZnY ZnV Z7m Zoy GN Zoj Wu vK bM ZlE Zlu Zl8 Zj1 Ziz sQ Zl3 Zkz Z6j Z6y Zln ZkW Znq Z7y
attribute [grind =] ZmL SK List.length_take List.length_drop Zkx Zjj Zmp ZkO Zkv Zjm ZmJ Zlf ZlL Zlq
attribute [grind ->] ZjL Zn4 Zl4 ZlJ Zlg Zne ZmA
set_option linter.defProp false
set_option maxRecDepth 100000
set_option maxHeartbeats 40000000
theorem CB:(∀(α:Type) (a b:List α),(a++b).length=a.length+b.length)/\(∀(α:Type) (a:α) (l:List α),(a::l).length=l.length+1)/\(∀α:Type,([]:List α).length=0)/\(∀(α:Type) (n:Nat) (l:List α),(l.take n).length=min n l.length)/\(∀(α:Type) (n:Nat) (l:List α),(l.drop n).length=l.length - n)/\(∀(α:Type) (l:List α) (i:Nat) (a:α),(l.set i a).length=l.length)/\(∀(α:Type) (n:Nat) (a:α),(List.replicate n a).length=n):=
 ⟨fun _ _ _=>List.length_append,fun _ _ _=>List.length_cons,fun _=>List.length_nil,fun _ _ _=>List.length_take,fun _ _ _=>List.length_drop,fun _ _ _ _=>List.length_set,fun _ _ _=>List.length_replicate⟩
theorem Dx:(∀a b:Bool,((a&&b)=true)=(a=true/\b=true))/\(∀a b:Bool,((a||b)=true)=(a=true\/b=true))/\(∀(p:Prop) [Decidable p],(decide p=true)=p)/\(∀(α:Type) [BEq α] [LawfulBEq α] (a b:α),((a==b)=true)=(a=b))/\(∀(α:Type) [BEq α] [LawfulBEq α] (a b:α),((a != b)=true)=(a≠b))/\(∀(α:Type) [BEq α] [ReflBEq α] (a:α),(a==a)=true)/\(∀p:Prop,(p/\p)=p)/\(∀p:Prop,(p/\True)=p)/\(∀p:Prop,(True/\p)=p)/\(∀(α β:Type) (f:α->β) (l:List α),(l.map f).length=l.length):=
 ⟨Bool.and_eq_true,Bool.or_eq_true,fun _ _=>decide_eq_true_eq,fun _ _ _ _ _=>propext beq_iff_eq,fun _ _ _ _ _=>propext bne_iff_ne,fun _ _ _ a=>beq_self_eq_true a,and_self,and_true,true_and,fun _ _ _ _=>List.length_map _⟩
theorem Fp:(∀(p:Prop) [Decidable p],(decide p=true)=p)/\(∀(p:Prop) [Decidable p],(decide p=false)=¬p)/\(∀b:Bool,((!b)=true)=(b=false))/\(∀b:Bool,((!b)=false)=(b=true))/\(∀b:Bool,(¬b=true)=(b=false))/\(∀b:Bool,(¬b=false)=(b=true))/\(∀(α:Type) [BEq α] [LawfulBEq α] (a b:α),((a==b)=true)=(a=b))/\(∀(α:Type) [BEq α] [LawfulBEq α] (a b:α),((a != b)=true)=(a≠b)) /\
  (∀(α:Type) [BEq α] [LawfulBEq α] (a b:α),((a==b)=false)=(a≠b))/\(∀(α:Type) [BEq α] [LawfulBEq α] (a b:α),((a != b)=false)=(a=b))/\(∀(α:Type) (a b:α),(a≠b)=¬a=b)/\(∀a b:Bool,((a&&b)=true)=(a=true/\b=true))/\(∀a b:Bool,((a||b)=true)=(a=true\/b=true))/\(∀p:Prop,(¬¬p)=p):=
 ⟨fun _ _=>decide_eq_true_eq,fun _ _=>propext decide_eq_false_iff_not,fun b=>by cases b<;>simp,fun b=>by cases b<;>simp,fun b=>by cases b<;>simp,fun b=>by cases b<;>simp,fun _ _ _ _ _=>propext beq_iff_eq,fun _ _ _ _ _=>propext bne_iff_ne,fun _ _ _ _ _=>propext beq_eq_false_iff_ne,fun _ _ _ _ _=>propext bne_eq_false_iff_eq,fun _ _ _=>rfl,Bool.and_eq_true,Bool.or_eq_true,fun _=>propext Classical.not_not⟩
theorem Zm8 {L:Type} {l:List (DL)} {i:Int} {k:DL->Tr U L} {Q:L->Prop} (h:0<=i/\i<(l.length:Int)) (g:∀v:DL,v∈l->Tot (k v) Q):Tot (Tr.bind (U:=U) 95 (l[Int.toNat i]? : Option (DL)) k) Q:=MQ (U:=U) (t:=95) h g
theorem Zm1 {L:Type} {l:List (Eo)} {i:Int} {k:Eo->Tr U L} {Q:L->Prop} (h:0<=i/\i<(l.length:Int)) (g:∀v:Eo,v∈l->Tot (k v) Q):Tot (Tr.bind (U:=U) 97 (l[Int.toNat i]? : Option (Eo)) k) Q:=MQ (U:=U) (t:=97) h g
theorem Md {L:Type} {l:List (Int)} {i:Int} {k:Int->Tr U L} {Q:L->Prop} (h:0<=i/\i<(l.length:Int)) (g:∀v:Int,v∈l->Tot (k v) Q):Tot (Tr.bind (U:=U) 5 (l[Int.toNat i]? : Option (Int)) k) Q:=MQ (U:=U) (t:=5) h g
theorem Z6w {L:Type} {l:List (Ai)} {i:Int} {k:Ai->Tr U L} {Q:L->Prop} (h:0<=i/\i<(l.length:Int)) (g:∀v:Ai,v∈l->Tot (k v) Q):Tot (Tr.bind (U:=U) 67 (l[Int.toNat i]? : Option (Ai)) k) Q:=MQ (U:=U) (t:=67) h g
theorem aX {L:Type} {l:List (Ar)} {i:Int} {k:Ar->Tr U L} {Q:L->Prop} (h:0<=i/\i<(l.length:Int)) (g:∀v:Ar,v∈l->Tot (k v) Q):Tot (Tr.bind (U:=U) 226 (l[Int.toNat i]? : Option (Ar)) k) Q:=MQ (U:=U) (t:=226) h g
theorem rJ {L:Type} {l:List (AV)} {i:Int} {k:AV->Tr U L} {Q:L->Prop} (h:0<=i/\i<(l.length:Int)) (g:∀v:AV,v∈l->Tot (k v) Q):Tot (Tr.bind (U:=U) 310 (l[Int.toNat i]? : Option (AV)) k) Q:=MQ (U:=U) (t:=310) h g
theorem ZlX {L:Type} {l:List (Int)} {i:Int} {k:Int->Tr U L} {Q:L->Prop} (h:0<=i/\i<(l.length:Int)) (g:∀v:Int,v∈l->Tot (k v) Q):Tot (Tr.bind (U:=U) 25 (l[Int.toNat i]? : Option (Int)) k) Q:=MQ (U:=U) (t:=25) h g
theorem Z6g {L:Type} {l:List (Ba)} {i:Int} {k:Ba->Tr U L} {Q:L->Prop} (h:0<=i/\i<(l.length:Int)) (g:∀v:Ba,v∈l->Tot (k v) Q):Tot (Tr.bind (U:=U) 380 (l[Int.toNat i]? : Option (Ba)) k) Q:=MQ (U:=U) (t:=380) h g
theorem tY {L:Type} {l:List (Int)} {i:Int} {k:Int->Tr U L} {Q:L->Prop} (h:0<=i/\i<(l.length:Int)) (g:∀v:Int,v∈l->Tot (k v) Q):Tot (Tr.bind (U:=U) 3 (l[Int.toNat i]? : Option (Int)) k) Q:=MQ (U:=U) (t:=3) h g
theorem rX {L:Type} {l:List (BP)} {i:Int} {k:BP->Tr U L} {Q:L->Prop} (h:0<=i/\i<(l.length:Int)) (g:∀v:BP,v∈l->Tot (k v) Q):Tot (Tr.bind (U:=U) 111 (l[Int.toNat i]? : Option (BP)) k) Q:=MQ (U:=U) (t:=111) h g
theorem JZ:(∀(p0:Int),∃r,iV p0=some r/\True) /\
  (∀(p0:Ae) (p1:AV),BJ p0->BZ p1->∃r,kZ p0 p1=some r/\BZ r) /\
  (∀(p0:Int),∃r,U2 p0=some r/\True) /\
  (∀(p0:Int),∃r,Oo p0=some r/\True) /\
  (∀(p0:Ae) (p1:Int),BJ p0->∃r,mZ p0 p1=some r/\True) /\
  (∀(p0 p1:Int),∃r,Yx p0 p1=some r/\R16 r) /\
  (∀(p0 p1:Int),∃r,o5 p0 p1=some r/\True) /\
  (∀(p0:AV),∃r,YB p0=some r/\r.Map=p0.Map/\r.EN=p0.EN) /\
  (∀(p0:Int),∃r,Xz p0=some r/\True) /\
  (∀(p0:AV),∃r,LV p0=some r/\r=[p0]) /\
  (∀(p0:DX) (p1 p2:Bool),G9 p0->∃r,VW p0 p1 p2=some r/\G9 r) /\
  (∀(p0 p1:Int),0<=p1->p1<=32->∃r,Yl p0 p1=some r/\True) /\
  (∀(p0:List Int),p0.length<=1000000->∃r,lM p0=some r/\Bq r) /\
  (∀(p0 p1:Int),0<=p0->p0<=8->∃r,QR p0 p1=some r/\(r.q0.length:Int)=p0/\Cb r.q0):=by
 refine⟨fun p0=>Bj (fun(p:UH)=>True) (fun(p:UH)=>match p with | .b0 ..=>(0,0,4) | .b1 ..=>(0,0,3) | .b2 ..=>(0,0,2) | .b3 ..=>(0,0,1) | .b4 ..=>(0,0,0)) ?_ _ ?_,
  fun p0 p1 h0 h1=>Bj (fun(p:U6)=>match p with | .b0 a0 a1=>BJ a0/\BZ a1 | .b1 a0 _=>BZ a0) (fun(p:U6)=>match p with | .b0 ..=>(0,0,1) | .b1 ..=>(0,0,0)) ?_ _ ?_,
  fun p0=>CE (True) ?_ fun hp=>?_,
  fun p0=>CE (True) ?_ fun hp=>?_,
  fun p0 p1 h0=>Bj (fun(p:Ua)=>match p with | .b0 a0 _=>BJ a0 | .b1 _ a1 a2=>BJ a2/\0<=a1/\a1<=(a2.Aa.length:Int)) (fun(p:Ua)=>match p with | .b0 ..=>(1,0,0) | .b1 _ a1 a2=>(0,((a2.Aa.length:Int) - a1).toNat,0)) ?_ _ ?_,
  fun p0 p1=>CE (True) ?_ fun hp=>?_,
  fun p0 p1=>Bj (fun(p:VH)=>True) (fun(p:VH)=>match p with | .b0 ..=>(0,0,1) | .b1 ..=>(0,0,0)) ?_ _ ?_,
  fun p0=>CE (p0=p0) ?_ fun hp=>?_,
  fun p0=>CE (True) ?_ fun hp=>?_,
  fun p0=>CE (p0=p0) ?_ fun hp=>?_,
  fun p0 p1 p2 h0=>CE (G9 p0) ?_ fun hp=>?_,
  fun p0 p1 h0 h1=>CE (0<=p1/\p1<=32) ?_ fun hp=>?_,
  fun p0 h0=>Bj (fun(p:Uf)=>match p with | .b0 a0=>a0.length<=1000000 | .b1 a0 a1 a2=>-1<=a2/\a2<(a0.length:Int)/\a0.length<=1000000/\Bq a1) (fun(p:Uf)=>match p with | .b0 ..=>(1,0,0) | .b1 _ _ a2=>(0,(a2+1).toNat,0)) ?_ _ ?_,
  fun p0 p1 h0 h1=>Bj (fun(p:V6)=>match p with | .b0 a0 _=>a0=p0/\0<=a0/\a0<=8 | .b1 a0 _ a2 a3=>a0=p0/\0<=a0/\a0<=8/\0<=a3/\a3<=a0/\(a2.length:Int)=a3/\Cb a2) (fun(p:V6)=>match p with | .b0 ..=>(1,0,0) | .b1 a0 _ _ a3=>(0,(a0 - a3).toNat,0)) ?_ _ ?_⟩
 all_goals try (intro p hp;cases p)
 all_goals
  try dsimp only at hp
  try exact False.elim hp
  try have hx:=hp
  try dsimp only [BK,D7,BJ,Bh,Eb,EE] at hx
  try (repeat with_reducible (have hq:=And.left hp;replace hp:=And.right hp))
  try simp only [zI,Z19,Z0N,Z1J,Z2C,Z56,Z46,Z0R,Z10,Z51,Z3C,Z3Y,Z1E,Z5D]
  try dsimp only
  repeat' first|(refine BL ?_;dsimp only;try simp(disch:=omega) only [Bv,CB,List.nil_append,List.drop_zero])|(refine CP (fun h=>?_) (fun h=>?_)<;>(try simp only [Fp,reduceCtorEq] at h;try simp(disch:=omega) only [Bv] at h))|refine BO ?_ ?_|refine Gm ?_|refine rJ ?_ fun v hv=>?_|refine Md ?_ fun v hv=>?_|with_reducible apply And.intro|rfl|assumption|exact True.intro|omega|exact decide_eq_true (F5 _).1|exact FB (by assumption) (by omega)|(refine FM.2 ?_;first|omega|grind)|(apply GR;first|omega|(simp only [CB];omega))|(simp only [Dx,CB,Du,maxLen_eq,kL,kA]<;>omega)|(simp(disch:=omega) only [Bv,decide_eq_true_eq,bne_iff_ne,ne_eq];(repeat' split)<;>omega)|(simp [Dc,Ep];done)|grind|(simp only [Dx,CB,Du,maxLen_eq,kL,kA]<;>grind)|grind [EL]
def Z9A:=JZ.1
def ZcW:=JZ.2.1
def ZbR:=JZ.2.2.1
def mY:=JZ.2.2.2.1
def Zf8:=JZ.2.2.2.2.1
def ZiV:=JZ.2.2.2.2.2.1
def ZgA:=JZ.2.2.2.2.2.2.1
def Zdo:=JZ.2.2.2.2.2.2.2.1
def Zca:=JZ.2.2.2.2.2.2.2.2.1
def qN:=JZ.2.2.2.2.2.2.2.2.2.1
def Z3g:=JZ.2.2.2.2.2.2.2.2.2.2.1
def ZhX:=JZ.2.2.2.2.2.2.2.2.2.2.2.1
def Ze0:=JZ.2.2.2.2.2.2.2.2.2.2.2.2.1
def pM:=JZ.2.2.2.2.2.2.2.2.2.2.2.2.2
theorem JW:(∀(p0:Int),∃r,Om p0=some r/\0<=r/\r<=65536) /\
  (∀(p0:List Ba) (p1:Int),p0.length<=37->∃r,WE p0 p1=some r/\True) /\
  (∀(p0:Int),∃r,QE p0=some r/\True) /\
  (∀(p0:List Int) (p1:Int),p0.length<=8->∃r,QS p0 p1=some r/\True) /\
  (∀(p0:Int),∃r,Xd p0=some r/\True) /\
  (∀(p0:Int),∃r,YK p0=some r/\True) /\
  (∀(p0 p1:Int),∃r,pG p0 p1=some r/\True) /\
  (∀(p0:Dq) (p1:Bool),∃r,Yi p0 p1=some r/\True) /\
  (∀(p0:CZ),D7 p0->∃r,oI p0=some r/\True) /\
  (∀(p0:Int),∃r,Y9 p0=some r/\r.length=3/\Cb r) /\
  (∀(p0 p1:Int),∃r,oL p0 p1=some r/\True) /\
  (∀(p0:List Ba) (p1:Int) (p2:Bool),p0.length<=37->∃r,U9 p0 p1 p2=some r/\r.length<=37) /\
  (∀(p0:List Int),p0.length<=65536->Cb p0->∃r,lC p0=some r/\Bh r.1.Bg) /\
  (∀(p0:Ai),∃r,Ri p0=some r/\((r=false->p0.Dn=1->1<=p0.Payload.length))):=by
 refine⟨fun p0=>CE (True) ?_ fun hp=>?_,
  fun p0 p1 h0=>Bj (fun(p:Vy)=>match p with | .b0 a0 _=>a0.length<=37 | .b1 ..=>True | .b2 a0 a1 _=>a0.length<=37/\0<=a1/\a1<(a0.length:Int)) (fun(p:Vy)=>match p with | .b0 ..=>(0,0,1)|_=>(0,0,0)) ?_ _ ?_,
  fun p0=>CE (True) ?_ fun hp=>?_,
  fun p0 p1 h0=>Bj (fun(p:V7)=>match p with | .b0 a0 _=>a0.length<=8 | .b1 a0 _ a2=>a0.length<=8/\0<=a2/\a2<=(a0.length:Int)) (fun(p:V7)=>match p with | .b0 ..=>(1,0,0) | .b1 a0 _ a2=>(0,((a0.length:Int) - a2).toNat,0)) ?_ _ ?_,
  fun p0=>Bj (fun(p:UJ)=>match p with | .b0 ..=>True | .b1 _ _ a2=>0<=a2/\a2<=8) (fun(p:UJ)=>match p with | .b0 ..=>(1,0,0) | .b1 _ _ a2=>(0,(8 - a2).toNat,0)) ?_ _ ?_,
  fun p0=>CE (True) ?_ fun hp=>?_,
  fun p0 p1=>CE (True) ?_ fun hp=>?_,
  fun p0 p1=>CE (True) ?_ fun hp=>?_,
  fun p0 h0=>CE (D7 p0) ?_ fun hp=>?_,
  fun p0=>CE (True) ?_ fun hp=>?_,
  fun p0 p1=>CE (True) ?_ fun hp=>?_,
  fun p0 p1 p2 h0=>Bj (fun(p:U8)=>match p with | .b0 a0 _ _=>a0.length<=37 | .b1 a0 _ a2=>a2.length<=37/\0<=a0/\a0<(a2.length:Int) | .b2 a0 _ a2=>a2.length<=37/\0<=a0/\a0<(a2.length:Int) | .b3 a0 _ a2=>a2.length<=37/\0<=a0/\a0<(a2.length:Int) | .b4 a0 a1=>a1.length<=37/\0<=a0/\a0<(a1.length:Int)) (fun(p:U8)=>match p with | .b0 ..=>(0,0,4) | .b1 ..=>(0,0,3) | .b2 ..=>(0,0,2) | .b3 ..=>(0,0,1) | .b4 ..=>(0,0,0)) ?_ _ ?_,
  fun p0 h0 h1=>Bj (fun(p:U0)=>match p with | .b0 a0=>a0.length<=65536/\Cb a0 | .b1 ..=>True | .b2 a0 _ _ _ _=>2<=a0.length/\a0.length<=65536/\Cb a0) (fun(p:U0)=>match p with | .b0 ..=>(0,0,1)|_=>(0,0,0)) ?_ _ ?_,
  fun p0=>CE (p0=p0) ?_ fun hp=>?_⟩
 all_goals try (intro p hp;cases p)
 all_goals
  try dsimp only at hp
  try exact False.elim hp
  try have hx:=hp
  try dsimp only [BK,D7,BJ,Bh,Eb,EE] at hx
  try (repeat with_reducible (have hq:=And.left hp;replace hp:=And.right hp))
  try simp only [Z2U,Z5T,Z0c,Z4o,zW,Z2j,Z31,Z4m,Z3H,Z3U,Z3O,Z1i,Z1g,Z2N]
  try dsimp only
  repeat' first|(refine BL ?_;dsimp only;try simp(disch:=omega) only [Bv,CB,List.nil_append,List.drop_zero])|(refine CP (fun h=>?_) (fun h=>?_)<;>(try simp only [Fp,reduceCtorEq] at h;try simp(disch:=omega) only [Bv] at h))|refine BO ?_ ?_|refine Gm ?_|refine Z6g ?_ fun v hv=>?_|refine tY ?_ fun v hv=>?_|refine Md ?_ fun v hv=>?_|with_reducible apply And.intro|rfl|assumption|exact True.intro|omega|exact decide_eq_true (F5 _).1|exact FB (by assumption) (by omega)|(refine FM.2 ?_;first|omega|grind)|(apply GR;first|omega|(simp only [CB];omega))|(simp only [Dx,CB,Du,maxLen_eq,kL,kA]<;>omega)|(simp(disch:=omega) only [Bv,decide_eq_true_eq,bne_iff_ne,ne_eq];(repeat' split)<;>omega)|(simp [Dc,Ep];done)|grind|(simp only [Dx,CB,Du,maxLen_eq,kL,kA]<;>grind)|grind [EL]
def Z2M:=JW.1
def Zks:=JW.2.1
def jW:=JW.2.2.1
def pK:=JW.2.2.2.1
def Zaf:=JW.2.2.2.2.1
def Z2i:=JW.2.2.2.2.2.1
def Zij:=JW.2.2.2.2.2.2.1
def Z3x:=JW.2.2.2.2.2.2.2.1
def Zhf:=JW.2.2.2.2.2.2.2.2.1
def Z44:=JW.2.2.2.2.2.2.2.2.2.1
def Zi3:=JW.2.2.2.2.2.2.2.2.2.2.1
def Z0A:=JW.2.2.2.2.2.2.2.2.2.2.2.1
def ZcV:=JW.2.2.2.2.2.2.2.2.2.2.2.2.1
def lI:=JW.2.2.2.2.2.2.2.2.2.2.2.2.2
theorem JR:(∀(p0:CG) (p1:List Int),∃r,Yf p0 p1=some r/\r = { p0 with Bg:={ p0.Bg with Payload:=p1 } }) /\
  (∀(p0:DX) (p1 p2:Int),G9 p0->∃r,YM p0 p1 p2=some r/\Bq r) /\
  (∀(p0 p1:List Int),p0.length<=100000->p1.length<=100000->∃r,oC p0 p1=some r/\True) /\
  (∀(p0 p1:List Int),p0.length<=1000000->∃r,aA p0 p1=some r/\(r.q0.length<=p0.length/\Cb r.q0/\(p0.length<=p1.length->r.q0.length=p0.length))) /\
  (∀(p0:Int),∃r,lH p0=some r/\True) /\
  (∀(k:Int) (p0:Af) (p1:Int),BK k p0->0<=k->k<=1000000->∃r,aF p0 p1=some r/\BK k r.1/\r.2.length<=1/\Dp r.2) /\
  (∀(p0:DX) (p1 p2:Bool),G9 p0->∃r,Ya p0 p1 p2=some r/\G9 r) /\
  (∀(p0:List Int) (p1 p2:Int),0<=p1->0<=p2->p2<=8->p1+p2<=(p0.length:Int)->p0.length<=1000000->∃r,KE p0 p1 p2=some r/\Bq r) /\
  (∀(p0:List Ar) (p1:Int),(p0.length<=1/\Dp p0)->∃r,YJ p0 p1=some r/\r.length<=1/\Dp r) /\
  (∀(p0 p1:Int),∃r,KA p0 p1=some r/\r.length=1/\Dp r) /\
  (∀(p0:Int),∃r,mX p0=some r/\True) /\
  (∀(p0:Int),∃r,o7 p0=some r/\True) /\
  (∀(k:Int) (p0:Ak),BK k p0.AA.x1->0<=k->k<=1000000->∃r,LM p0=some r/\Bq r) /\
  (∀(p0:Dq) (p1:Bool),∃r,kW p0 p1=some r/\True):=by
 refine⟨fun p0 p1=>CE (p0=p0/\p1=p1) ?_ fun hp=>?_,
  fun p0 p1 p2 h0=>Bj (fun(p:Us)=>match p with | .b0 a0 _ _=>G9 a0 | .b1 _ _ a2=>G9 a2) (fun(p:Us)=>match p with | .b0 ..=>(0,0,1) | .b1 ..=>(0,0,0)) ?_ _ ?_,
  fun p0 p1 h0 h1=>CE (p0.length<=100000/\p1.length<=100000) ?_ fun hp=>?_,
  fun p0 p1 h0=>Bj (fun(p:Vd)=>match p with | .b0 a0 a1=>a0=p0/\a1=p1 | .b1 a0 a1 a2 a3=>(a0=p0/\a1=p1/\a0.length<=1000000/\0<=a3/\a3<=(a0.length:Int)/\(p0.length<=p1.length\/a3<=(a1.length:Int))/\(a2.length:Int)=a3/\Cb a2) | .b2 a0 a1 a2 a3=>a0=p0/\a1=p1/\a0.length<=1000000/\0<=a3/\a3<(a0.length:Int)/\a3<(a1.length:Int)/\(a2.length:Int)=a3/\Cb a2) (fun(p:Vd)=>match p with | .b0 ..=>(1,0,0) | .b1 a0 _ _ a3=>(0,((a0.length:Int) - a3).toNat,1) | .b2 a0 _ _ a3=>(0,((a0.length:Int) - a3).toNat,0)) ?_ _ ?_,
  fun p0=>CE (True) ?_ fun hp=>?_,
  fun k p0 p1 h0 h1 h2=>CE (BK k p0) ?_ fun hp=>?_,
  fun p0 p1 p2 h0=>Bj (fun(p:VM)=>match p with | .b0 a0 _ _=>G9 a0 | .b1 _ a1 _=>G9 a1 | .b2 _ a1 _=>G9 a1 | .b3 a0 _=>G9 a0) (fun(p:VM)=>match p with | .b0 ..=>(0,0,3) | .b1 ..=>(0,0,2) | .b2 ..=>(0,0,1) | .b3 ..=>(0,0,0)) ?_ _ ?_,
  fun p0 p1 p2 h0 h1 h2 h3 h4=>Bj (fun(p:Vm)=>match p with | .b0 a0 a1 a2=>0<=a1/\0<=a2/\a2<=8/\a1+a2<=(a0.length:Int)/\a0.length<=1000000 | .b1 a0 a1 a2 a3=>0<=a1 /\ -1<=a3/\a3<=7/\a1+a3<(a0.length:Int)/\a0.length<=1000000/\Bq a2) (fun(p:Vm)=>match p with | .b0 ..=>(1,0,0) | .b1 _ _ _ a3=>(0,(a3+1).toNat,0)) ?_ _ ?_,
  fun p0 p1 h0=>Bj (fun(p:VE)=>match p with | .b0 a0 _=>a0.length<=1/\Dp a0 | .b1 a0 _ a2 a3=>a0.length<=1/\Dp a0/\a2.length<=1/\Dp a2/\0<=a3/\a3<=(a0.length:Int)/\(a2.length:Int)=a3) (fun(p:VE)=>match p with | .b0 ..=>(1,0,0) | .b1 a0 _ _ a3=>(0,((a0.length:Int) - a3).toNat,0)) ?_ _ ?_,
  fun p0 p1=>CE (True) ?_ fun hp=>?_,
  fun p0=>CE (True) ?_ fun hp=>?_,
  fun p0=>CE (True) ?_ fun hp=>?_,
  fun k p0 h0 h1 h2=>CE (BK k p0.AA.x1) ?_ fun hp=>?_,
  fun p0 p1=>CE (True) ?_ fun hp=>?_⟩
 all_goals try (intro p hp;cases p)
 all_goals
  try dsimp only at hp
  try exact False.elim hp
  try have hx:=hp
  try dsimp only [BK,D7,BJ,Bh,Eb,EE] at hx
  try (repeat with_reducible (have hq:=And.left hp;replace hp:=And.right hp))
  try simp only [Z3E,Z1H,Z3r,Z5x,Z2b,Z5b,Z3S,Z4S,Z2y,Z4g,Z2e,Z45,Z5,Z1q]
  try dsimp only
  repeat' first|(refine BL ?_;dsimp only;try simp(disch:=omega) only [Bv,CB,List.nil_append,List.drop_zero])|(refine CP (fun h=>?_) (fun h=>?_)<;>(try simp only [Fp,reduceCtorEq] at h;try simp(disch:=omega) only [Bv] at h))|refine BO ?_ ?_|refine Gm ?_|refine Md ?_ fun v hv=>?_|refine aX ?_ fun v hv=>?_|with_reducible apply And.intro|rfl|assumption|exact True.intro|omega|exact decide_eq_true (F5 _).1|exact FB (by assumption) (by omega)|(refine FM.2 ?_;first|omega|grind)|(apply GR;first|omega|(simp only [CB];omega))|(simp only [Dx,CB,Du,maxLen_eq,kL,kA]<;>omega)|(simp(disch:=omega) only [Bv,decide_eq_true_eq,bne_iff_ne,ne_eq];(repeat' split)<;>omega)|(simp [Dc,Ep];done)|grind|(simp only [Dx,CB,Du,maxLen_eq,kL,kA]<;>grind)|grind [EL]
def ZhV:=JR.1
def ZfX:=JR.2.1
def ZhJ:=JR.2.2.1
def ZiS:=JR.2.2.2.1
def ZeZ:=JR.2.2.2.2.1
def Z4s:=JR.2.2.2.2.2.1
def Z47:=JR.2.2.2.2.2.2.1
def qI:=JR.2.2.2.2.2.2.2.1
def ZfC:=JR.2.2.2.2.2.2.2.2.1
def Z3J:=JR.2.2.2.2.2.2.2.2.2.1
def Zeh:=JR.2.2.2.2.2.2.2.2.2.2.1
def Zgn:=JR.2.2.2.2.2.2.2.2.2.2.2.1
def Z9O:=JR.2.2.2.2.2.2.2.2.2.2.2.2.1
def Zc5:=JR.2.2.2.2.2.2.2.2.2.2.2.2.2
theorem JV:(∀(p0:DV),∃r,Y2 p0=some r/\True) /\
  (∀(p0:Int),∃r,VX p0=some r/\True) /\
  (∀(p0 p1 p2:Int),∃r,Nc p0 p1 p2=some r/\True) /\
  (∀(p0 p1 p2:Int),∃r,RI p0 p1 p2=some r/\True) /\
  (∃r,qM=some r/\(r=MG)) /\
  (∀(p0:Int),∃r,aJ p0=some r/\True) /\
  (∀(p0 p1 p2:Int),Bq p1->∃r,qF p0 p1 p2=some r/\BJ r) /\
  (∃r,mG=some r/\(r.length<=37)) /\
  (∀(p0 p1 p2:Int),∃r,QC p0 p1 p2=some r/\True) /\
  (∀(p0:Int),∃r,V9 p0=some r/\((r=true->EL p0))) /\
  (∀(p0:Ai),∃r,iL p0=some r/\((r=0->1<=p0.Dn/\p0.Dn<=3/\(1<=p0.Payload.length\/p0.Dn=1)/\p0.Payload.length<=255))) /\
  (∀(p0:Ae),BJ p0->∃r,YP p0=some r/\True) /\
  (∀(p0:Ai),∃r,Xf p0=some r/\((r=false->p0.Dn=1->1<=p0.Payload.length))) /\
  (∀(p0:Int),∃r,Gv p0=some r/\Dc r):=by
 refine⟨fun p0=>CE (True) ?_ fun hp=>?_,
  fun p0=>CE (True) ?_ fun hp=>?_,
  fun p0 p1 p2=>CE (True) ?_ fun hp=>?_,
  fun p0 p1 p2=>CE (True) ?_ fun hp=>?_,
  CE (True) ?_ fun hp=>?_,
  fun p0=>CE (True) ?_ fun hp=>?_,
  fun p0 p1 p2 h0=>CE (Bq p1) ?_ fun hp=>?_,
  CE (True) ?_ fun hp=>?_,
  fun p0 p1 p2=>CE (True) ?_ fun hp=>?_,
  fun p0=>CE (p0=p0) ?_ fun hp=>?_,
  fun p0=>Bj (fun(p:UB)=>match p with | .b0 a0=>a0=p0 | .b1 a0=>a0=p0/\1<=a0.Dn/\a0.Dn<=3 | .b2 a0=>(a0=p0/\1<=a0.Dn/\a0.Dn<=3/\(1<=a0.Payload.length\/a0.Dn=1))) (fun(p:UB)=>match p with | .b0 ..=>(0,0,2) | .b1 ..=>(0,0,1) | .b2 ..=>(0,0,0)) ?_ _ ?_,
  fun p0 h0=>CE (BJ p0) ?_ fun hp=>?_,
  fun p0=>CE (p0=p0) ?_ fun hp=>?_,
  fun p0=>Bj (fun(p:UU)=>True) (fun(p:UU)=>match p with | .b0 ..=>(0,0,3) | .b2 ..=>(0,0,2) | .b4 ..=>(0,0,1)|_=>(0,0,0)) ?_ _ ?_⟩
 all_goals try (intro p hp;cases p)
 all_goals
  try dsimp only at hp
  try exact False.elim hp
  try have hx:=hp
  try dsimp only [BK,D7,BJ,Bh,Eb,EE] at hx
  try (repeat with_reducible (have hq:=And.left hp;replace hp:=And.right hp))
  try simp only [Z2W,Z4d,Z17,Z0b,Z4Y,Z4t,Z4y,Z21,Zv,Z52,yM,Z1I,Z0p,Z0I]
  try dsimp only
  repeat' first|(refine BL ?_;dsimp only;try simp(disch:=omega) only [Bv,CB,List.nil_append,List.drop_zero])|(refine CP (fun h=>?_) (fun h=>?_)<;>(try simp only [Fp,reduceCtorEq] at h;try simp(disch:=omega) only [Bv] at h))|refine BO ?_ ?_|refine Gm ?_|with_reducible apply And.intro|rfl|assumption|exact True.intro|omega|exact decide_eq_true (F5 _).1|exact FB (by assumption) (by omega)|(refine FM.2 ?_;first|omega|grind)|(apply GR;first|omega|(simp only [CB];omega))|(simp only [Dx,CB,Du,maxLen_eq,kL,kA]<;>omega)|(simp(disch:=omega) only [Bv,decide_eq_true_eq,bne_iff_ne,ne_eq];(repeat' split)<;>omega)|(simp [Dc,Ep];done)|grind|(simp only [Dx,CB,Du,maxLen_eq,kL,kA]<;>grind)|grind [EL]
def ZdX:=JV.1
def oV:=JV.2.1
def Z14:=JV.2.2.1
def Z07:=JV.2.2.2.1
def Zk3:=JV.2.2.2.2.1
def Z4R:=JV.2.2.2.2.2.1
def ZjZ:=JV.2.2.2.2.2.2.1
def ZfH:=JV.2.2.2.2.2.2.2.1
def ZF:=JV.2.2.2.2.2.2.2.2.1
def Zkl:=JV.2.2.2.2.2.2.2.2.2.1
def Z94:=JV.2.2.2.2.2.2.2.2.2.2.1
def Z1B:=JV.2.2.2.2.2.2.2.2.2.2.2.1
def ZaH:=JV.2.2.2.2.2.2.2.2.2.2.2.2.1
def YG:=JV.2.2.2.2.2.2.2.2.2.2.2.2.2
theorem uB:(∀(p0:Int),∃r,jX p0=some r/\True) /\
  (∀(p0 p1:Int),0<=p1->p1<=8->∃r,KF p0 p1=some r/\(r.q0.length:Int)=p1/\Cb r.q0) /\
  (∃r,mD=some r/\(r=⟨1,[]⟩)):=by
 refine⟨fun p0=>CE (True) ?_ fun hp=>?_,
  fun p0 p1 h0 h1=>Bj (fun(p:Vq)=>match p with | .b0 _ a1=>a1=p1/\0<=a1/\a1<=8 | .b1 _ a1 a2 a3=>a1=p1/\0<=a1/\a1<=8/\0<=a3/\a3<=a1/\(a2.length:Int)=a3/\Cb a2) (fun(p:Vq)=>match p with | .b0 ..=>(1,0,0) | .b1 _ a1 _ a3=>(0,(a1 - a3).toNat,0)) ?_ _ ?_,
  CE (True) ?_ fun hp=>?_⟩
 all_goals try (intro p hp;cases p)
 all_goals
  try dsimp only at hp
  try exact False.elim hp
  try have hx:=hp
  try dsimp only [BK,D7,BJ,Bh,Eb,EE] at hx
  try (repeat with_reducible (have hq:=And.left hp;replace hp:=And.right hp))
  try simp only [Z0j,Z4Z,Z2m]
  try dsimp only
  repeat' first|(refine BL ?_;dsimp only;try simp(disch:=omega) only [Bv,CB,List.nil_append,List.drop_zero])|(refine CP (fun h=>?_) (fun h=>?_)<;>(try simp only [Fp,reduceCtorEq] at h;try simp(disch:=omega) only [Bv] at h))|refine BO ?_ ?_|refine Gm ?_|with_reducible apply And.intro|rfl|assumption|exact True.intro|omega|exact decide_eq_true (F5 _).1|exact FB (by assumption) (by omega)|(refine FM.2 ?_;first|omega|grind)|(apply GR;first|omega|(simp only [CB];omega))|(simp only [Dx,CB,Du,maxLen_eq,kL,kA]<;>omega)|(simp(disch:=omega) only [Bv,decide_eq_true_eq,bne_iff_ne,ne_eq];(repeat' split)<;>omega)|(simp [Dc,Ep];done)|grind|(simp only [Dx,CB,Du,maxLen_eq,kL,kA]<;>grind)|grind [EL]
def ZaA:=uB.1
def Z4N:=uB.2.1
def ZeD:=uB.2.2
theorem lV:∀(p0:Int),0<=p0->p0<=63->∃r,Ut p0=some r/\0<r:=by
 refine fun p0 h0 h1=>Bj (fun(p:Ux)=>match p with | .b0 a0=>0<=a0/\a0<=63 | .b1 a0 a1 a2=>0<=a2/\a0<=63/\a2<=a0/\a1=2 ^ a2.toNat) (fun(p:Ux)=>match p with | .b0 ..=>(1,0,0) | .b1 a0 _ a2=>(0,(a0 - a2).toNat,0)) ?_ _ ?_
 all_goals try (intro p hp;cases p)
 case' b1=>
  dsimp only at hp
  have hx:=hp
  try dsimp only [BK,D7,BJ,Bh,Eb,EE] at hx
  simp only [lK]
  obtain⟨h1,h2,h3,h4⟩:=hp
  refine CP (fun h=>?_) (fun h=>?_)
  ·simp only [decide_eq_true_eq] at h
   refine BL ?_
   dsimp only
   obtain⟨n,rfl⟩:=Int.eq_ofNat_of_zero_le h1
   rw [Bv (by omega) (by omega)]
   refine⟨⟨by omega,h2,by omega,?_⟩,?_⟩
   ·subst h4
    have hn:n<63:=by omega
    have e1:((n:Int)+1).toNat=n+1:=by omega
    have e2:((n:Int)).toNat=n:=by omega
    have hlt:(2:Int) ^ n*2<18446744073709551616:=by
     have:2 ^ (n+1)<2 ^ 64:=Nat.pow_lt_pow_right (by decide) (by omega)
     have h' : ((2 ^ (n+1):Nat):Int)<((2 ^ 64:Nat):Int):=by exact_mod_cast this
     simpa [Int.pow_succ] using h'
    rw [e1,e2,IntKind.wrap_u64,Int.emod_eq_of_lt (Int.mul_nonneg (Int.pow_nonneg (by decide)) (by decide)) hlt,Int.pow_succ]
   ·refine FM.2 ?_;omega
  ·refine BL ?_
   dsimp only
   subst h4
   exact Int.pow_pos (by decide)
 all_goals
  try dsimp only at hp
  try exact False.elim hp
  try have hx:=hp
  try dsimp only [BK,D7,BJ,Bh,Eb,EE] at hx
  try (repeat with_reducible (have hq:=And.left hp;replace hp:=And.right hp))
  try simp only [lK]
  try dsimp only
  repeat' first|(refine BL ?_;dsimp only;try simp(disch:=omega) only [Bv,CB,List.nil_append,List.drop_zero])|(refine CP (fun h=>?_) (fun h=>?_)<;>(try simp only [Fp,reduceCtorEq] at h;try simp(disch:=omega) only [Bv] at h))|refine BO ?_ ?_|refine Gm ?_|with_reducible apply And.intro|rfl|assumption|exact True.intro|omega|exact decide_eq_true (F5 _).1|exact FB (by assumption) (by omega)|(refine FM.2 ?_;first|omega|grind)|(apply GR;first|omega|(simp only [CB];omega))|(simp only [Dx,CB,Du,maxLen_eq,kL,kA]<;>omega)|(simp(disch:=omega) only [Bv,decide_eq_true_eq,bne_iff_ne,ne_eq];(repeat' split)<;>omega)|(simp [Dc,Ep];done)|grind|(simp only [Dx,CB,Du,maxLen_eq,kL,kA]<;>grind)|grind [EL]
theorem ZiJ:∀(p0 p1:Int),∃r,qK p0 p1=some r/\True:=by
 refine fun p0 p1=>Bj (fun(p:V5)=>True) (fun(p:V5)=>match p with | .b0 ..=>(0,0,1) | .b1 ..=>(0,0,0)) ?_ _ ?_
 all_goals try (intro p hp;cases p)
 case' b0 a0 a1=>
  have hb : -64<Int.tmod (A7 (A7 (a1.tmod 64+64)*11)) 64/\Int.tmod (A7 (A7 (a1.tmod 64+64)*11)) 64<64:=tm_bd _ 64 (by omega)
 all_goals
  try dsimp only at hp
  try exact False.elim hp
  try have hx:=hp
  try dsimp only [BK,D7,BJ,Bh,Eb,EE] at hx
  try (repeat with_reducible (have hq:=And.left hp;replace hp:=And.right hp))
  try simp only [Z5z]
  try dsimp only
  repeat' first|(refine BL ?_;dsimp only;try simp(disch:=omega) only [Bv,CB,List.nil_append,List.drop_zero])|(refine CP (fun h=>?_) (fun h=>?_)<;>(try simp only [Fp,reduceCtorEq] at h;try simp(disch:=omega) only [Bv] at h))|refine BO ?_ ?_|refine Gm ?_|with_reducible apply And.intro|rfl|assumption|exact True.intro|omega|exact decide_eq_true (F5 _).1|exact FB (by assumption) (by omega)|(refine FM.2 ?_;first|omega|grind)|(apply GR;first|omega|(simp only [CB];omega))|(simp only [Dx,CB,Du,maxLen_eq,kL,kA]<;>omega)|(simp(disch:=omega) only [Bv,decide_eq_true_eq,bne_iff_ne,ne_eq];(repeat' split)<;>omega)|(simp [Dc,Ep];done)|grind|(simp only [Dx,CB,Du,maxLen_eq,kL,kA]<;>grind)|grind [EL]
theorem JX:(∀(p0:Ae) (p1:Bool) (p2:Int),BJ p0->Bq p2->∃r,kX p0 p1 p2=some r/\BJ r.1/\r.2.length<=2/\En r.2) /\
  (∀(p0 p1 p2:Int),∃r,lT p0 p1 p2=some r/\True) /\
  (∀(p0:Ba),∃r,VI p0=some r/\True) /\
  (∀(p0:List Int),p0.length<=37->Gs p0->∃r,rC p0=some r/\Bq r) /\
  (∀(p0:List Ba),p0.length<=37->∃r,nI p0=some r/\r.length<=37) /\
  (∀(p0 p1:Int),∃r,jD p0 p1=some r/\True) /\
  (∀(p0 p1:Int),∃r,Xw p0 p1=some r/\True) /\
  (∀(k:Int) (p0:Af),BK k p0->0<=k->k<=1000000->∃r,YQ p0=some r/\True) /\
  (∀(p0:Int) (p1:List Int),p1.length<=1000000->∃r,aH p0 p1=some r/\True) /\
  (∀(p0:Int) (p1 p2:List Int),p1.length<=200000->p2.length<=200000->∃r,lX p0 p1 p2=some r/\r.q0.length<=400100) /\
  (∀(p0:List Int) (p1:Int),0<=p1->p1+9<=(p0.length:Int)->p0.length<=1000000->∃r,iP p0 p1=some r/\True) /\
  (∀(p0:Ae) (p1:AV),BJ p0->BZ p1->∃r,nN p0 p1=some r/\BJ r.1/\r.2.length<=1/\Dp r.2) /\
  (∀(p0:Ae) (p1:AV) (p2:Int),BJ p0->BZ p1->∃r,iJ p0 p1 p2=some r/\BJ r.1/\r.2.1.length<=8/\En r.2.1/\r.2.2.length<=1/\Dp r.2.2) /\
  (∀(p0:Ae) (p1:AV),BJ p0->BZ p1->∃r,iD p0 p1=some r/\BJ r.1/\r.2.1.length<=8/\En r.2.1/\r.2.2.length<=1/\Dp r.2.2):=by
 refine⟨fun p0 p1 p2 h0 h1=>Bj (fun(p:U1)=>match p with | .b0 a0 _ a2=>BJ a0/\Bq a2 | .b1 _ a1 a2 _=>BJ a2/\Bq a1) (fun(p:U1)=>match p with | .b0 ..=>(0,0,1) | .b1 ..=>(0,0,0)) ?_ _ ?_,
  fun p0 p1 p2=>CE (True) ?_ fun hp=>?_,
  fun p0=>CE (True) ?_ fun hp=>?_,
  fun p0 h0 h1=>Bj (fun(p:Vw)=>match p with | .b0 a0=>a0.length<=37/\Gs a0 | .b1 a0 a1 a2=>a0.length<=37/\(Gs a0)/\0<=a2/\a2<=(a0.length:Int)/\Bq a1) (fun(p:Vw)=>match p with | .b0 ..=>(1,0,0) | .b1 a0 _ a2=>(0,((a0.length:Int) - a2).toNat,0)) ?_ _ ?_,
  fun p0 h0=>Bj (fun(p:Uk)=>match p with | .b0 a0=>a0.length<=37 | .b1 a0 a1 a2=>a0.length<=37/\a1.length<=37/\0<=a2/\a2<=(a0.length:Int)/\(a1.length:Int)=a2) (fun(p:Uk)=>match p with | .b0 ..=>(1,0,0) | .b1 a0 _ a2=>(0,((a0.length:Int) - a2).toNat,0)) ?_ _ ?_,
  fun p0 p1=>Bj (fun(p:UI)=>True) (fun(p:UI)=>match p with | .b0 ..=>(0,0,1) | .b1 ..=>(0,0,0)) ?_ _ ?_,
  fun p0 p1=>Bj (fun(p:U5)=>match p with | .b0 ..=>True | .b1 _ _ a2=>0<=a2/\a2<=3) (fun(p:U5)=>match p with | .b0 ..=>(1,0,0) | .b1 _ _ a2=>(0,(3 - a2).toNat,0)) ?_ _ ?_,
  fun k p0 h0 h1 h2=>CE (BK k p0) ?_ fun hp=>?_,
  fun p0 p1 h0=>Bj (fun(p:Vr)=>match p with | .b0 _ a1=>a1.length<=1000000 | .b1 a0 _ a2=>0<=a2/\a2<=(a0.length:Int)/\a0.length<=1000000 | .b2 a0 _ a2 _ a4=>0<=a2/\a2<(a0.length:Int)/\a0.length<=1000000/\0<=a4/\a4<=8) (fun(p:Vr)=>match p with | .b0 ..=>(2,0,0) | .b1 a0 _ a2=>(1,((a0.length:Int) - a2).toNat,9) | .b2 a0 _ a2 _ a4=>(1,((a0.length:Int) - a2).toNat,(8 - a4).toNat)) ?_ _ ?_,
  fun p0 p1 p2 h0 h1=>Bj (fun(p:Ug)=>match p with | .b0 _ a1 a2=>a1.length<=200000/\a2.length<=200000) (fun(p:Ug)=>(0,0,0)) ?_ _ ?_,
  fun p0 p1 h0 h1 h2=>CE (0<=p1/\p1+9<=(p0.length:Int)/\p0.length<=1000000) ?_ fun hp=>?_,
  fun p0 p1 h0 h1=>Bj (fun(p:VV)=>match p with | .b0 a0 a1=>BJ a0/\BZ a1 | .b1 a0 a1 _=>BJ a0/\BZ a1 | .b2 a0 a1 _=>BJ a0/\BZ a1 | .b3 a0 _=>BJ a0) (fun(p:VV)=>match p with | .b0 ..=>(0,0,3) | .b1 ..=>(0,0,2) | .b2 ..=>(0,0,1) | .b3 ..=>(0,0,0)) ?_ _ ?_,
  fun p0 p1 p2 h0 h1=>Bj (fun(p:UA)=>match p with | .b0 a0 a1 _=>BJ a0/\BZ a1 | .b1 _ a1 a2 _=>BJ a1/\BZ a2 | .b2 _ a1 a2 _=>BJ a1/\BZ a2 | .b3 a0 a1 _=>BJ a0/\BZ a1 | .b4 _ a1 a2 _=>BJ a1/\BZ a2 | .b5 a0 _=>BJ a0 | .b6 a0 _=>BJ a0 | .b7 _ a1 a2 _=>BJ a1/\BZ a2 | .b8 _ a1 _=>BJ a1) (fun(p:UA)=>match p with | .b0 ..=>(0,0,4) | .b2 ..=>(0,0,3) | .b3 ..=>(0,0,1) | .b4 ..=>(0,0,2) | .b7 ..=>(0,0,1)|_=>(0,0,0)) ?_ _ ?_,
  fun p0 p1 h0 h1=>Bj (fun(p:Tu)=>match p with | .b0 a0 a1=>BJ a0/\BZ a1 | .b1 a0 _=>BJ a0 | .b2 a0 a1 _=>BJ a0/\BZ a1 | .b3 a0 a1 _=>BJ a0/\BZ a1) (fun(p:Tu)=>match p with | .b0 ..=>(0,0,2) | .b2 ..=>(0,0,1)|_=>(0,0,0)) ?_ _ ?_⟩
 all_goals try (intro p hp;cases p)
 all_goals
  try dsimp only at hp
  try exact False.elim hp
  try have hx:=hp
  try dsimp only [BK,D7,BJ,Bh,Eb,EE] at hx
  try (repeat with_reducible (have hq:=And.left hp;replace hp:=And.right hp))
  try simp only [Z0x,Z2f,Z3n,Z5N,Z1z,Zn,Z0v,Z2R,Z4Q,Z2n,yS,Z3Q,yO,yJ]
  try dsimp only
  repeat' first|(refine BL ?_;dsimp only;try simp(disch:=omega) only [Bv,CB,List.nil_append,List.drop_zero])|(refine CP (fun h=>?_) (fun h=>?_)<;>(try simp only [Fp,reduceCtorEq] at h;try simp(disch:=omega) only [Bv] at h))|refine BO ?_ ?_|refine Gm ?_|refine Aj (qN _) fun(v:(List AV)) hm hv=>?_|refine Aj (ZiJ _ _) fun(v:Int) hm hv=>?_|refine Aj (ZhX _ _ ?_ ?_) fun(v:Int) hm hv=>?_|refine Aj (Z2M _) fun(v:Int) hm hv=>?_|refine Aj (lV _ ?_ ?_) fun(v:Int) hm hv=>?_|refine tY ?_ fun v hv=>?_|refine Z6g ?_ fun v hv=>?_|refine Aj (ZF _ _ _) fun(v:Int) hm hv=>?_|refine Aj (Zaf _) fun(v:Int) hm hv=>?_|refine Aj (Zhf _ ?_) fun(v:Bool) hm hv=>?_|refine Aj (Z3x _ _) fun(v:Bool) hm hv=>?_|refine Md ?_ fun v hv=>?_|refine Aj (Zi3 _ _) fun(v:Int) hm hv=>?_|refine Aj (pM _ _ ?_ ?_) fun(v:Jh) hm hv=>?_|refine Aj (qI _ _ _ ?_ ?_ ?_ ?_ ?_) fun(v:Int) hm hv=>?_|refine Aj (mY _) fun(v:Bool) hm hv=>?_|refine Aj (Z3J _ _) fun(v:(List Ar)) hm hv=>?_|with_reducible apply And.intro|rfl|assumption|exact True.intro|omega|exact decide_eq_true (F5 _).1|exact FB (by assumption) (by omega)|(refine FM.2 ?_;first|omega|grind)|(apply GR;first|omega|(simp only [CB];omega))|(simp only [Dx,CB,Du,maxLen_eq,kL,kA]<;>omega)|(simp(disch:=omega) only [Bv,decide_eq_true_eq,bne_iff_ne,ne_eq];(repeat' split)<;>omega)|(simp [Dc,Ep];done)|grind|(simp only [Dx,CB,Du,maxLen_eq,kL,kA]<;>grind)|grind [EL]
def ZbL:=JX.1
def Zf3:=JX.2.1
def Z3c:=JX.2.2.1
def Zly:=JX.2.2.2.1
def ZdV:=JX.2.2.2.2.1
def Z9T:=JX.2.2.2.2.2.1
def Z0V:=JX.2.2.2.2.2.2.1
def Z1O:=JX.2.2.2.2.2.2.2.1
def Z57:=JX.2.2.2.2.2.2.2.2.1
def Zfc:=JX.2.2.2.2.2.2.2.2.2.1
def yZ:=JX.2.2.2.2.2.2.2.2.2.2.1
def Zgg:=JX.2.2.2.2.2.2.2.2.2.2.2.1
def Z96:=JX.2.2.2.2.2.2.2.2.2.2.2.2.1
def Z8w:=JX.2.2.2.2.2.2.2.2.2.2.2.2.2
theorem Mc:(∀(p0:Ae) (p1:AV) (p2:Int),BJ p0->BZ p1->∃r,gZ p0 p1 p2=some r/\BJ r.1/\r.2.1.length<=8/\En r.2.1/\r.2.2.length<=1/\Dp r.2.2) /\
  (∀(p0:Ae) (p1:AV),BJ p0->BZ p1->∃r,iE p0 p1=some r/\BJ r.1/\r.2.1.length<=8/\En r.2.1/\r.2.2.length<=1/\Dp r.2.2) /\
  (∀(p0:Ae) (p1:AV),BJ p0->BZ p1->∃r,iO p0 p1=some r/\BJ r.1/\r.2.1.length<=8/\En r.2.1/\r.2.2.length<=1/\Dp r.2.2) /\
  (∀(p0 p1:Int),0<=p1->p1<=1000000->∃r,jC p0 p1=some r/\(r.length:Int)=p1/\Cb r) /\
  (∀(p0:Dq),∃r,nJ p0=some r/\True) /\
  (∀(p0:Dq) (p1:Int),∃r,qG p0 p1=some r/\True) /\
  (∀(p0 p1 p2:Int),∃r,Y4 p0 p1 p2=some r/\True) /\
  (∀(p0:ER),∃r,jU p0=some r/\True) /\
  (∀(p0:ER),∃r,iU p0=some r/\r.length=9/\Cb r) /\
  (∀(p0:CZ),D7 p0->∃r,oH p0=some r/\D7 r.1/\r.1.Open=true/\Bh r.2.Bg):=by
 refine⟨fun p0 p1 p2 h0 h1=>CE (BJ p0/\BZ p1) ?_ fun hp=>?_,
  fun p0 p1 h0 h1=>Bj (fun(p:Tv)=>match p with | .b0 a0 a1=>BJ a0/\BZ a1 | .b1 a0 _=>BJ a0 | .b2 a0 a1 _=>BJ a0/\BZ a1) (fun(p:Tv)=>match p with | .b0 ..=>(0,0,1)|_=>(0,0,0)) ?_ _ ?_,
  fun p0 p1 h0 h1=>Bj (fun(p:UF)=>match p with | .b0 a0 a1=>BJ a0/\BZ a1 | .b1 a0 a1 _=>BJ a0/\BZ a1 | .b2 a0 a1 _=>BJ a0/\BZ a1 | .b3 a0 _=>BJ a0 | .b4 a0 _=>BJ a0) (fun(p:UF)=>match p with | .b0 ..=>(0,0,2) | .b2 ..=>(0,0,1)|_=>(0,0,0)) ?_ _ ?_,
  fun p0 p1 h0 h1=>Bj (fun(p:UK)=>match p with | .b0 _ a1=>a1=p1/\0<=a1/\a1<=1000000 | .b1 a0 a1 _ a3=>a0=p1/\a0<=1000000/\0<=a3/\a3<=a0/\(a1.length:Int)=a3/\Cb a1 | .b2 a0 a1 _ a3 _ _ a6=>a0=p1/\a0<=1000000/\0<=a3/\a3<a0/\(a1.length:Int)=a3/\Cb a1/\0<=a6/\a6<=8) (fun(p:UK)=>match p with | .b0 ..=>(2,0,0) | .b1 a0 _ _ a3=>(1,(a0 - a3).toNat,9) | .b2 a0 _ _ a3 _ _ a6=>(1,(a0 - a3).toNat,(8 - a6).toNat)) ?_ _ ?_,
  fun p0=>CE (True) ?_ fun hp=>?_,
  fun p0 p1=>CE (True) ?_ fun hp=>?_,
  fun p0 p1 p2=>CE (True) ?_ fun hp=>?_,
  fun p0=>CE (True) ?_ fun hp=>?_,
  fun p0=>CE (True) ?_ fun hp=>?_,
  fun p0 h0=>Bj (fun(p:VJ)=>match p with | .b0 a0=>D7 a0 | .b1 a0 _ _=>D7 a0/\a0.Open=true | .b2 _ a1 _ _ a4=>D7 a1/\Bh a4.Bg/\a1.Open=true/\a1.Empty=false | .b3 _ a1 _ _ a4=>D7 a1/\Bh a4.Bg/\a1.Open=true | .b4 a0 _ _ a3=>D7 a0/\Bh a3.Bg/\a0.Open=true) (fun(p:VJ)=>match p with | .b0 ..=>(0,0,4) | .b1 ..=>(0,0,3) | .b2 ..=>(0,0,2) | .b3 ..=>(0,0,1) | .b4 ..=>(0,0,0)) ?_ _ ?_⟩
 all_goals try (intro p hp;cases p)
 all_goals
  try dsimp only at hp
  try exact False.elim hp
  try have hx:=hp
  try dsimp only [BK,D7,BJ,Bh,Eb,EE] at hx
  try (repeat with_reducible (have hq:=And.left hp;replace hp:=And.right hp))
  try simp only [yK,yH,yV,Z7,Z4f,Z5F,Z37,Z08,zJ,Z3Z]
  try dsimp only
  repeat' first|(refine BL ?_;dsimp only;try simp(disch:=omega) only [Bv,CB,List.nil_append,List.drop_zero])|(refine CP (fun h=>?_) (fun h=>?_)<;>(try simp only [Fp,reduceCtorEq] at h;try simp(disch:=omega) only [Bv] at h))|refine BO ?_ ?_|refine Gm ?_|refine Aj (mY _) fun(v:Bool) hm hv=>?_|refine Aj (qN _) fun(v:(List AV)) hm hv=>?_|refine Aj (Z3J _ _) fun(v:(List Ar)) hm hv=>?_|refine Aj (Zeh _) fun(v:Int) hm hv=>?_|refine Aj (Zgn _) fun(v:Int) hm hv=>?_|refine Aj (Z3x _ _) fun(v:Bool) hm hv=>?_|refine Aj (Z4R _) fun(v:Dq) hm hv=>?_|refine Aj (Z07 _ _ _) fun(v:Int) hm hv=>?_|refine Aj (Z4N _ _ ?_ ?_) fun(v:I7) hm hv=>?_|refine Aj (ZeD) fun(v:Ai) hm hv=>?_|refine Z6w ?_ fun v hv=>?_|with_reducible apply And.intro|rfl|assumption|exact True.intro|omega|exact decide_eq_true (F5 _).1|exact FB (by assumption) (by omega)|(refine FM.2 ?_;first|omega|grind)|(apply GR;first|omega|(simp only [CB];omega))|(simp only [Dx,CB,Du,maxLen_eq,kL,kA]<;>omega)|(simp(disch:=omega) only [Bv,decide_eq_true_eq,bne_iff_ne,ne_eq];(repeat' split)<;>omega)|(simp [Dc,Ep];done)|grind|(simp only [Dx,CB,Du,maxLen_eq,kL,kA]<;>grind)|grind [EL]
def Z8r:=Mc.1
def Z8D:=Mc.2.1
def Z9d:=Mc.2.2.1
def Zal:=Mc.2.2.2.1
def ZhS:=Mc.2.2.2.2.1
def Zkq:=Mc.2.2.2.2.2.1
def Zi8:=Mc.2.2.2.2.2.2.1
def Zb3:=Mc.2.2.2.2.2.2.2.1
def Z9F:=Mc.2.2.2.2.2.2.2.2.1
def Zi7:=Mc.2.2.2.2.2.2.2.2.2
theorem ZgX:∀(p0:Int),∃r,Yb p0=some r/\(∃u,Gv p0=some u/\r=Gh u/\Dc u):=by
 refine fun p0=>Bj (fun(p:VZ)=>match p with | .b0 a0=>a0=p0 | .b1 a0 a1=>Dc a1/\Gv p0=some a1/\a0=1+cond a1.BM 9 0 | .b2 a0 a1=>Dc a1/\Gv p0=some a1/\a0=1+cond a1.BM 9 0+cond a1.Map 5 0 | .b3 a0 a1=>Dc a1/\Gv p0=some a1/\a0=1+cond a1.BM 9 0+cond a1.Map 5 0+cond a1.EN 2 0 | .b4 a0 a1=>Dc a1/\Gv p0=some a1/\a0=1+cond a1.BM 9 0+cond a1.Map 5 0+cond a1.EN 2 0/\(a1.BV||a1.Version||a1.Length)=true | .b5 a0 a1=>Dc a1/\Gv p0=some a1/\a0=1+cond a1.BM 9 0+cond a1.Map 5 0+cond a1.EN 2 0+cond (a1.BV||a1.Version||a1.Length) 1 0 | .b6 a0 a1=>Dc a1/\Gv p0=some a1/\a0=1+cond a1.BM 9 0+cond a1.Map 5 0+cond a1.EN 2 0+cond (a1.BV||a1.Version||a1.Length) 1 0+cond a1.H9 1 0 | .b7 a0 a1=>Dc a1/\Gv p0=some a1/\a0=1+cond a1.BM 9 0+cond a1.Map 5 0+cond a1.EN 2 0+cond (a1.BV||a1.Version||a1.Length) 1 0+cond a1.H9 1 0/\(a1.EG||a1.EU)=true | .b8 a0 a1=>Dc a1/\Gv p0=some a1/\a0=1+cond a1.BM 9 0+cond a1.Map 5 0+cond a1.EN 2 0+cond (a1.BV||a1.Version||a1.Length) 1 0+cond a1.H9 1 0+cond (a1.EG||a1.EU) 8 0) (fun(p:VZ)=>match p with | .b0 ..=>(0,0,8) | .b1 ..=>(0,0,7) | .b2 ..=>(0,0,6) | .b3 ..=>(0,0,5) | .b4 ..=>(0,0,4) | .b5 ..=>(0,0,3) | .b6 ..=>(0,0,2) | .b7 ..=>(0,0,1) | .b8 ..=>(0,0,0)) ?_ _ ?_
 all_goals try (intro p hp;cases p)
 case' b0=>
  dsimp only at hp
  have hx:=hp
  try dsimp only [BK,D7,BJ,Bh,Eb,EE] at hx
  simp only [Yd]
  subst hp
  refine Aj (YG _) (fun(v:CQ) hm hv=>?_)
  clear hx
  simp only [Dc,Ep,List.mem_cons,List.not_mem_nil,or_false] at hv
  rcases hv with rfl|rfl|rfl|rfl|rfl|rfl|rfl|rfl|rfl|rfl|rfl|rfl|rfl<;>simp only [Gh,cond_true,cond_false,Bool.or_true,Bool.true_or,Bool.or_false,Bool.false_or,Bool.or_self,reduceCtorEq,and_false] at *<;>repeat' first|(refine CP (fun h=>?_) (fun h=>?_)<;>(try simp only [Fp,reduceCtorEq] at h;try simp(disch:=omega) only [Bv] at h))|(refine BL ?_;dsimp only;exact⟨⟨by simp [Dc,Ep],hm,by simp only [Gh,cond_true,cond_false,Bool.or_true,Bool.true_or,Bool.or_false,Bool.false_or,Bool.or_self,reduceCtorEq,and_false] at *<;>omega⟩,FM.2 (by omega)⟩)
 case' b1|b2|b3|b4|b5|b6|b7|b8=>
  dsimp only at hp
  have hx:=hp
  try dsimp only [BK,D7,BJ,Bh,Eb,EE] at hx
  simp only [Yd]
  have hu:=hp.1
  have hf:=hp.2.1
  have ha:=hp.2.2
  clear hp hx
  simp only [Dc,Ep,List.mem_cons,List.not_mem_nil,or_false] at hu
  rcases hu with rfl|rfl|rfl|rfl|rfl|rfl|rfl|rfl|rfl|rfl|rfl|rfl|rfl<;>simp only [Gh,cond_true,cond_false,Bool.or_true,Bool.true_or,Bool.or_false,Bool.false_or,Bool.or_self,reduceCtorEq,and_false] at *<;>repeat' first|(refine CP (fun h=>?_) (fun h=>?_)<;>(try simp only [Fp,reduceCtorEq] at h;try simp(disch:=omega) only [Bv] at h))|(refine BL ?_;dsimp only;(try simp(disch:=omega) only [Bv]);first|exact⟨⟨by simp [Dc,Ep],hf,by simp only [Gh,cond_true,cond_false,Bool.or_true,Bool.true_or,Bool.or_false,Bool.false_or,Bool.or_self,reduceCtorEq,and_false] at *<;>first|omega|exact⟨by omega,by first|trivial|rfl⟩⟩,FM.2 (by omega)⟩|exact⟨_,hf,by simp only [Gh,cond_true,cond_false,Bool.or_true,Bool.true_or,Bool.or_false,Bool.false_or,Bool.or_self,reduceCtorEq,and_false] at *<;>omega,by simp [Dc,Ep]⟩)
 all_goals
  try dsimp only at hp
  try exact False.elim hp
  try have hx:=hp
  try dsimp only [BK,D7,BJ,Bh,Eb,EE] at hx
  try (repeat with_reducible (have hq:=And.left hp;replace hp:=And.right hp))
  try simp only [Yd]
  try dsimp only
  repeat' first|(refine BL ?_;dsimp only;try simp(disch:=omega) only [Bv,CB,List.nil_append,List.drop_zero])|(refine CP (fun h=>?_) (fun h=>?_)<;>(try simp only [Fp,reduceCtorEq] at h;try simp(disch:=omega) only [Bv] at h))|refine BO ?_ ?_|refine Gm ?_|with_reducible apply And.intro|rfl|assumption|exact True.intro|omega|exact decide_eq_true (F5 _).1|exact FB (by assumption) (by omega)|(refine FM.2 ?_;first|omega|grind)|(apply GR;first|omega|(simp only [CB];omega))|(simp only [Dx,CB,Du,maxLen_eq,kL,kA]<;>omega)|(simp(disch:=omega) only [Bv,decide_eq_true_eq,bne_iff_ne,ne_eq];(repeat' split)<;>omega)|(simp [Dc,Ep];done)|grind|(simp only [Dx,CB,Du,maxLen_eq,kL,kA]<;>grind)|grind [EL]
theorem JY:(∀(p0:ER),∃r,XV p0=some r/\True) /\
  (∀(p0 p1:Int),∃r,Ve p0 p1=some r/\True) /\
  (∀(p0:Int),∃r,mP p0=some r/\True) /\
  (∀(p0:ER),∃r,kQ p0=some r/\True) /\
  (∀(p0:ER),∃r,oK p0=some r/\True) /\
  (∀(p0:DV) (p1:Int),∃r,Jg p0 p1=some r/\True) /\
  (∀(p0:CG),∃r,Ou p0=some r/\((r=0->EL p0.SN/\EL p0.GG/\EL p0.MD/\1<=p0.Bg.Dn/\p0.Bg.Dn<=3/\(1<=p0.Bg.Payload.length\/p0.Bg.Dn=1)/\p0.Bg.Payload.length<=255))) /\
  (∀(p0:Int),∃r,iT p0=some r/\True) /\
  (∀(p0:AV),BZ p0->∃r,pI p0=some r/\BZ r) /\
  (∀(p0:Ae) (p1:Int),BJ p0->∃r,jJ p0 p1=some r/\True) /\
  (∀(p0:Ae) (p1:AV),BJ p0->BZ p1->∃r,aK p0 p1=some r/\True) /\
  (∀(p0 p1:Int),∃r,o9 p0 p1=some r/\R16 r) /\
  (∀(p0 p1:Int),∃r,Xy p0 p1=some r/\True) /\
  (∀(k:Int) (p0:Af),BK k p0->0<=k->k<=1000000->∃r,YO p0=some r/\R16 r):=by
 refine⟨fun p0=>Bj (fun(p:UD)=>True) (fun(p:UD)=>match p with | .b0 ..=>(0,0,1) | .b1 ..=>(0,0,0)) ?_ _ ?_,
  fun p0 p1=>CE (True) ?_ fun hp=>?_,
  fun p0=>CE (True) ?_ fun hp=>?_,
  fun p0=>CE (True) ?_ fun hp=>?_,
  fun p0=>CE (True) ?_ fun hp=>?_,
  fun p0 p1=>Bj (fun(p:Uo)=>True) (fun(p:Uo)=>match p with | .b0 ..=>(0,0,1) | .b1 ..=>(0,0,0)) ?_ _ ?_,
  fun p0=>Bj (fun(p:VB)=>match p with | .b0 a0=>a0=p0 | .b1 a0=>a0=p0/\EL a0.SN/\EL a0.GG/\EL a0.MD) (fun(p:VB)=>match p with | .b0 ..=>(0,0,1) | .b1 ..=>(0,0,0)) ?_ _ ?_,
  fun p0=>CE (True) ?_ fun hp=>?_,
  fun p0 h0=>Bj (fun(p:VO)=>match p with | .b0 a0=>BZ a0 | .b1 a0 _ _=>BZ a0 | .b2 a0 _ _=>BZ a0 | .b3 a0 _ _=>BZ a0 | .b4 a0 _ _=>BZ a0 | .b5 a0 _ _=>BZ a0 | .b6 a0 _ _=>BZ a0 | .b7 a0 _ _=>BZ a0 | .b8 a0 _ _=>BZ a0 | .b9 a0 _ _=>BZ a0) (fun(p:VO)=>match p with | .b0 ..=>(0,0,9) | .b1 ..=>(0,0,8) | .b2 ..=>(0,0,7) | .b3 ..=>(0,0,6) | .b4 ..=>(0,0,5) | .b5 ..=>(0,0,4) | .b6 ..=>(0,0,3) | .b7 ..=>(0,0,2) | .b8 ..=>(0,0,1) | .b9 ..=>(0,0,0)) ?_ _ ?_,
  fun p0 p1 h0=>Bj (fun(p:UL)=>match p with | .b0 a0 _=>BJ a0 | .b1 _ a1=>BJ a1 | .b2 _ a1=>BJ a1) (fun(p:UL)=>match p with | .b0 ..=>(0,0,2) | .b1 ..=>(0,0,1) | .b2 ..=>(0,0,0)) ?_ _ ?_,
  fun p0 p1 h0 h1=>CE (BJ p0/\BZ p1) ?_ fun hp=>?_,
  fun p0 p1=>CE (True) ?_ fun hp=>?_,
  fun p0 p1=>CE (True) ?_ fun hp=>?_,
  fun k p0 h0 h1 h2=>CE (BK k p0) ?_ fun hp=>?_⟩
 all_goals try (intro p hp;cases p)
 all_goals
  try dsimp only at hp
  try exact False.elim hp
  try have hx:=hp
  try dsimp only [BK,D7,BJ,Bh,Eb,EE] at hx
  try (repeat with_reducible (have hq:=And.left hp;replace hp:=And.right hp))
  try simp only [yL,Z5f,Z2X,Z1h,Z4a,Z1D,Z22,zM,Z3v,ZM,Z5l,Z30,Z0S,Z2u]
  try dsimp only
  repeat' first|(refine BL ?_;dsimp only;try simp(disch:=omega) only [Bv,CB,List.nil_append,List.drop_zero])|(refine CP (fun h=>?_) (fun h=>?_)<;>(try simp only [Fp,reduceCtorEq] at h;try simp(disch:=omega) only [Bv] at h))|refine BO ?_ ?_|refine Gm ?_|refine Aj (Z14 _ _ _) fun(v:Bool) hm hv=>?_|refine Aj (lV _ ?_ ?_) fun(v:Int) hm hv=>?_|refine Aj (Z07 _ _ _) fun(v:Int) hm hv=>?_|refine Aj (ZF _ _ _) fun(v:Int) hm hv=>?_|refine Aj (Zkl _) fun(v:Bool) hm hv=>?_|refine Aj (Z94 _) fun(v:Int) hm hv=>?_|refine Aj (YG _) fun(v:CQ) hm hv=>?_|refine Aj (Z9A _) fun(v:Int) hm hv=>?_|refine Aj (mY _) fun(v:Bool) hm hv=>?_|refine Aj (Zf8 _ _ ?_) fun(v:Bool) hm hv=>?_|refine Aj (ZiV _ _) fun(v:Int) hm hv=>?_|refine Aj (ZgA _ _) fun(v:Int) hm hv=>?_|with_reducible apply And.intro|rfl|assumption|exact True.intro|omega|exact decide_eq_true (F5 _).1|exact FB (by assumption) (by omega)|(refine FM.2 ?_;first|omega|grind)|(apply GR;first|omega|(simp only [CB];omega))|(simp only [Dx,CB,Du,maxLen_eq,kL,kA]<;>omega)|(simp(disch:=omega) only [Bv,decide_eq_true_eq,bne_iff_ne,ne_eq];(repeat' split)<;>omega)|(simp [Dc,Ep];done)|grind|(simp only [Dx,CB,Du,maxLen_eq,kL,kA]<;>grind)|grind [EL]
def Z8V:=JY.1
def Z4X:=JY.2.1
def Zfr:=JY.2.2.1
def Zd8:=JY.2.2.2.1
def Zg4:=JY.2.2.2.2.1
def Y0:=JY.2.2.2.2.2.1
def YV:=JY.2.2.2.2.2.2.1
def Z9D:=JY.2.2.2.2.2.2.2.1
def ZhC:=JY.2.2.2.2.2.2.2.2.1
def ZaN:=JY.2.2.2.2.2.2.2.2.2.1
def Z4P:=JY.2.2.2.2.2.2.2.2.2.2.1
def Zh1:=JY.2.2.2.2.2.2.2.2.2.2.2.1
def ZcO:=JY.2.2.2.2.2.2.2.2.2.2.2.2.1
def Z1t:=JY.2.2.2.2.2.2.2.2.2.2.2.2.2
theorem JM:(∀(p0:Int),∃r,VF p0=some r/\r.length<=37/\Gs r) /\
  (∀(p0:Int) (p1:ER),∃r,nH p0 p1=some r/\True) /\
  (∀(p0:CZ) (p1:Ai),D7 p0->Bh p1->∃r,YZ p0 p1=some r/\D7 r.1) /\
  (∀(p0:Int) (p1:BP),Ju p1->∃r,nG p0 p1=some r/\True) /\
  (∀(p0 p1:Int),∃r,Rt p0 p1=some r/\Bq r) /\
  (∀(p0:Ba),∃r,qX p0=some r/\True) /\
  (∀(p0:Ak) (p1 p2:Int),(p1=0\/p1=1)->∃r,Lu p0 p1 p2=some r/\True) /\
  (∀(k:Int) (p0:Af),BK k p0->0<=k->k<=1000000->∃r,Xx p0=some r/\True) /\
  (∀(p0:Int) (p1:List Int),p1.length<=65536->Cb p1->∃r,lJ p0 p1=some r/\r.1.length<=65536/\Cb r.1) /\
  (∀(p0:CZ) (p1:CG),D7 p0->Bh p1.Bg->∃r,nX p0 p1=some r/\D7 r.1/\Bh r.2.1) /\
  (∀(p0:Int) (p1:List Int),p1.length<=100000->∃r,YL p0 p1=some r/\r.q0.length=p1.length/\Cb r.q0) /\
  (∀(p0:List BP) (p1:Int),(p0.length<=1/\FI p0)->∃r,qB p0 p1=some r/\r.1.length<=1/\FI r.1/\r.2.length<=1/\FI r.2) /\
  (∀(k:Int) (p0:Af) (p1:BP),BK k p0->Ju p1->0<=k->k<=1000000->∃r,mF p0 p1=some r/\BK k r) /\
  (∀(p0:Ae) (p1:Int),BJ p0->∃r,jQ p0 p1=some r/\True):=by
 refine⟨fun p0=>Bj (fun(p:VN)=>match p with | .b0 ..=>True | .b1 _ a1 a2=>0<=a2/\a2<=37/\(a1.length:Int)<=a2/\Gs a1 | .b2 _ a1 a2=>0<=a2/\a2<=36/\(a1.length:Int)<=a2+1/\Gs a1) (fun(p:VN)=>match p with | .b0 ..=>(1,0,0) | .b1 _ _ a2=>(0,(37 - a2).toNat,1) | .b2 _ _ a2=>(0,(37 - a2).toNat,0)) ?_ _ ?_,
  fun p0 p1=>CE (True) ?_ fun hp=>?_,
  fun p0 p1 h0 h1=>Bj (fun(p:VD)=>match p with | .b0 a0 a1=>D7 a0/\Bh a1 | .b1 a0 a1 _=>D7 a0/\Bh a1/\Eb a1) (fun(p:VD)=>match p with | .b0 ..=>(0,0,1) | .b1 ..=>(0,0,0)) ?_ _ ?_,
  fun p0 p1 h0=>Bj (fun(p:Ud)=>match p with | .b0 _ a1=>Ju a1 | .b1 _ a1=>Ju a1) (fun(p:Ud)=>match p with | .b0 ..=>(0,0,1) | .b1 ..=>(0,0,0)) ?_ _ ?_,
  fun p0 p1=>Bj (fun(p:Vk)=>match p with | .b0 ..=>True | .b1 _ _ _ a3=>0<=a3/\a3<=8) (fun(p:Vk)=>match p with | .b0 ..=>(1,0,0) | .b1 _ _ _ a3=>(0,(8 - a3).toNat,0)) ?_ _ ?_,
  fun p0=>CE (True) ?_ fun hp=>?_,
  fun p0 p1 p2 h0=>CE ((p1=0\/p1=1)) ?_ fun hp=>?_,
  fun k p0 h0 h1 h2=>CE (BK k p0) ?_ fun hp=>?_,
  fun p0 p1 h0 h1=>CE (p1.length<=65536/\Cb p1) ?_ fun hp=>?_,
  fun p0 p1 h0 h1=>Bj (fun(p:VL)=>match p with | .b0 a0 a1=>D7 a0/\Bh a1.Bg | .b1 a0 a1 _ _=>D7 a0/\Bh a1.Bg | .b2 _ a1 a2 _ _=>D7 a1/\Bh a2.Bg | .b3 _ a1 a2 _ _=>D7 a1/\Bh a2.Bg/\0<a1.Am.length | .b4 _ a1 a2 _ _=>Bh a2.Bg/\D7 { a1 with Open:=false } | .b5 _ a1 _ _=>D7 a1) (fun(p:VL)=>match p with | .b0 ..=>(0,0,5) | .b1 ..=>(0,0,4) | .b2 ..=>(0,0,1) | .b3 ..=>(0,0,3) | .b4 ..=>(0,0,2) | .b5 ..=>(0,0,0)) ?_ _ ?_,
  fun p0 p1 h0=>Bj (fun(p:Ul)=>match p with | .b0 _ a1=>a1=p1 | .b1 a0 a1 a2 a3=>a0=p1/\a0.length<=100000/\a1.length=p1.length/\0<=a3/\a3<=(a0.length:Int)/\(a2.length:Int)=a3/\Cb a2) (fun(p:Ul)=>match p with | .b0 ..=>(1,0,0) | .b1 a0 _ _ a3=>(0,((a0.length:Int) - a3).toNat,0)) ?_ _ ?_,
  fun p0 p1 h0=>Bj (fun(p:Vp)=>match p with | .b0 a0 _=>a0.length<=1/\FI a0 | .b1 a0 _ a2 a3 a4=>a0.length<=1/\FI a0/\a2.length<=1/\FI a2/\a3.length<=1/\FI a3/\0<=a4/\a4<=(a0.length:Int)/\(a2.length:Int)+(a3.length:Int)<=a4 | .b2 a0 _ a2 a3 a4=>a0.length<=1/\FI a0/\a2.length<=1/\FI a2/\a3.length<=1/\FI a3/\0<=a4/\a4<(a0.length:Int)/\(a2.length:Int)+(a3.length:Int)<=a4+1) (fun(p:Vp)=>match p with | .b0 ..=>(1,0,0) | .b1 a0 _ _ _ a4=>(0,((a0.length:Int) - a4).toNat,1) | .b2 a0 _ _ _ a4=>(0,((a0.length:Int) - a4).toNat,0)) ?_ _ ?_,
  fun k p0 p1 h0 h1 h2 h3=>Bj (fun(p:Uy)=>match p with | .b0 a0 a1=>BK k a0/\Ju a1 | .b1 a0 a1 _=>BK k a0/\Ju a1) (fun(p:Uy)=>match p with | .b0 ..=>(0,0,1) | .b1 ..=>(0,0,0)) ?_ _ ?_,
  fun p0 p1 h0=>CE (BJ p0) ?_ fun hp=>?_⟩
 all_goals try (intro p hp;cases p)
 all_goals
  try dsimp only at hp
  try exact False.elim hp
  try have hx:=hp
  try dsimp only [BK,D7,BJ,Bh,Eb,EE] at hx
  try (repeat with_reducible (have hq:=And.left hp;replace hp:=And.right hp))
  try simp only [Z4b,Z24,Z1W,Z1P,Z4D,Z55,Z2P,Z0B,Z1F,Z3P,Z1v,Z50,Z1V,Z0t]
  try dsimp only
  repeat' first|(refine BL ?_;dsimp only;try simp(disch:=omega) only [Bv,CB,List.nil_append,List.drop_zero])|(refine CP (fun h=>?_) (fun h=>?_)<;>(try simp only [Fp,reduceCtorEq] at h;try simp(disch:=omega) only [Bv] at h))|refine BO ?_ ?_|refine Gm ?_|refine Aj (Z4X _ _) fun(v:Bool) hm hv=>?_|refine Aj (Zfr _) fun(v:Int) hm hv=>?_|refine Aj (Zd8 _) fun(v:Int) hm hv=>?_|refine Aj (Zg4 _) fun(v:Int) hm hv=>?_|refine Aj (ZaH _) fun(v:Bool) hm hv=>?_|refine Aj (YV _) fun(v:Int) hm hv=>?_|refine Aj (ZcO _ _) fun(v:Bool) hm hv=>?_|refine Aj (Zf3 _ _ _) fun(v:Int) hm hv=>?_|refine Aj (Z2M _) fun(v:Int) hm hv=>?_|refine Aj (Z3c _) fun(v:Int) hm hv=>?_|refine Aj (Y0 _ _) fun(v:Int) hm hv=>?_|refine Aj (Z9T _ _) fun(v:Int) hm hv=>?_|refine Aj (Z57 _ _ ?_) fun(v:Int) hm hv=>?_|refine Aj (Z44 _) fun(v:(List Int)) hm hv=>?_|refine Aj (Zal _ _ ?_ ?_) fun(v:(List Int)) hm hv=>?_|refine Md ?_ fun v hv=>?_|refine rX ?_ fun v hv=>?_|refine Aj (Zkq _ _) fun(v:Dq) hm hv=>?_|refine Aj (Zi8 _ _ _) fun(v:Bool) hm hv=>?_|with_reducible apply And.intro|rfl|assumption|exact True.intro|omega|exact decide_eq_true (F5 _).1|exact FB (by assumption) (by omega)|(refine FM.2 ?_;first|omega|grind)|(apply GR;first|omega|(simp only [CB];omega))|(simp only [Dx,CB,Du,maxLen_eq,kL,kA]<;>omega)|(simp(disch:=omega) only [Bv,decide_eq_true_eq,bne_iff_ne,ne_eq];(repeat' split)<;>omega)|(simp [Dc,Ep];done)|grind|(simp only [Dx,CB,Du,maxLen_eq,kL,kA]<;>grind)|grind [EL]
def Z43:=JM.1
def ZeN:=JM.2.1
def Z2V:=JM.2.2.1
def Zfg:=JM.2.2.2.1
def Zjw:=JM.2.2.2.2.1
def Zjk:=JM.2.2.2.2.2.1
def Ov:=JM.2.2.2.2.2.2.1
def Z11:=JM.2.2.2.2.2.2.2.1
def Zeq:=JM.2.2.2.2.2.2.2.2.1
def ZgW:=JM.2.2.2.2.2.2.2.2.2.1
def Ze7:=JM.2.2.2.2.2.2.2.2.2.2.1
def Zjc:=JM.2.2.2.2.2.2.2.2.2.2.2.1
def ZeJ:=JM.2.2.2.2.2.2.2.2.2.2.2.2.1
def Zbf:=JM.2.2.2.2.2.2.2.2.2.2.2.2.2
theorem Z6V:(∀(p0:CG),Bh p0.Bg->∃r,kC p0=some r/\r.1.length<=257/\Cb r.1) /\
  (∀(p0:Int) (p1:List Int),p1.length<=100000->Cb p1->∃r,kD p0 p1=some r/\r.length=p1.length+3/\Cb r):=by
 refine⟨fun p0 h0=>CE (Bh p0.Bg) ?_ fun hp=>?_,
  fun p0 p1 h0 h1=>CE (p1=p1) ?_ fun hp=>?_⟩
 all_goals
  try dsimp only at hp
  try exact False.elim hp
  try have hx:=hp
  try dsimp only [BK,D7,BJ,Bh,Eb,EE] at hx
  try (repeat with_reducible (have hq:=And.left hp;replace hp:=And.right hp))
  try simp only [Z0w,Z0T]
  try dsimp only
  repeat' first|(refine BL ?_;dsimp only;try simp(disch:=omega) only [Bv,CB,List.nil_append,List.drop_zero])|(refine CP (fun h=>?_) (fun h=>?_)<;>(try simp only [Fp,reduceCtorEq] at h;try simp(disch:=omega) only [Bv] at h))|refine BO ?_ ?_|refine Gm ?_|refine Aj (YV _) fun(v:Int) hm hv=>?_|refine Aj (Z57 _ _ ?_) fun(v:Int) hm hv=>?_|refine Aj (Z44 _) fun(v:(List Int)) hm hv=>?_|with_reducible apply And.intro|rfl|assumption|exact True.intro|omega|exact decide_eq_true (F5 _).1|exact FB (by assumption) (by omega)|(refine FM.2 ?_;first|omega|grind)|(apply GR;first|omega|(simp only [CB];omega))|(simp only [Dx,CB,Du,maxLen_eq,kL,kA]<;>omega)|(simp(disch:=omega) only [Bv,decide_eq_true_eq,bne_iff_ne,ne_eq];(repeat' split)<;>omega)|(simp [Dc,Ep];done)|grind|(simp only [Dx,CB,Du,maxLen_eq,kL,kA]<;>grind)|grind [EL]
def ZcG:=Z6V.1
def Zdd:=Z6V.2
theorem Zhz:∀(p0:DV) (p1:Int),∃r,VK p0 p1=some r/\True:=by
 refine fun p0 p1=>Bj (fun(p:VP)=>match p with | .b0 ..=>True | .b1 _ a1 a2 _=>0<=a1/\a1<=a2/\a2<=1099511627776) (fun(p:VP)=>match p with | .b0 ..=>(1,0,0) | .b1 _ a1 a2 _=>(0,(a2 - a1).toNat,0)) ?_ _ ?_
 all_goals try (intro p hp;cases p)
 case' b1 a0 a1 a2 a3=>
  dsimp only at hp
  have hx:=hp
  try dsimp only [BK,D7,BJ,Bh,Eb,EE] at hx
  simp only [o6]
  obtain⟨g0,g1,g2⟩:=hp
  clear hx
  have em:A7 (Int.tdiv (A7 (a1+a2)) 2)=(a1+a2) / 2:=by rw [Bv (a:=a1+a2) (by omega) (by omega),Int.tdiv_eq_ediv_of_nonneg (by omega),Bv (by omega) (by omega)]
  refine CP (fun h=>?_) (fun h=>BL trivial)
  have h:=of_decide_eq_true h
  refine Aj (Y0 _ _) (fun(v:Int) _ _=>?_)
  refine CP (fun _=>?_) (fun _=>?_)
  ·refine BL ?_
   dsimp only
   rw [em]
   exact⟨⟨by omega,by omega,by omega⟩,FM.2 (by omega)⟩
  ·refine BL ?_
   dsimp only
   rw [em,Bv (by omega) (by omega)]
   exact⟨⟨by omega,by omega,by omega⟩,FM.2 (by omega)⟩
 all_goals
  try dsimp only at hp
  try exact False.elim hp
  try have hx:=hp
  try dsimp only [BK,D7,BJ,Bh,Eb,EE] at hx
  try (repeat with_reducible (have hq:=And.left hp;replace hp:=And.right hp))
  try simp only [o6]
  try dsimp only
  repeat' first|(refine BL ?_;dsimp only;try simp(disch:=omega) only [Bv,CB,List.nil_append,List.drop_zero])|(refine CP (fun h=>?_) (fun h=>?_)<;>(try simp only [Fp,reduceCtorEq] at h;try simp(disch:=omega) only [Bv] at h))|refine BO ?_ ?_|refine Gm ?_|with_reducible apply And.intro|rfl|assumption|exact True.intro|omega|exact decide_eq_true (F5 _).1|exact FB (by assumption) (by omega)|(refine FM.2 ?_;first|omega|grind)|(apply GR;first|omega|(simp only [CB];omega))|(simp only [Dx,CB,Du,maxLen_eq,kL,kA]<;>omega)|(simp(disch:=omega) only [Bv,decide_eq_true_eq,bne_iff_ne,ne_eq];(repeat' split)<;>omega)|(simp [Dc,Ep];done)|grind|(simp only [Dx,CB,Du,maxLen_eq,kL,kA]<;>grind)|grind [EL]
theorem ZfR:∀(p0:AV) (p1:List Int),BZ p0->(∃u,Gv p0.Kind=some u/\(p1.length:Int)=Gh u/\Dc u)->p1.length<=65536->∃r,mO p0 p1=some r/\BZ r:=by
 refine fun p0 p1 h0 h1 h2=>Bj (fun(p:Uu)=>match p with | .b0 a0 a1=>BZ a0/\a0.Kind=p0.Kind/\a1=p1 | .b1 a0 a1 a2 _ a4=>BZ a2/\Dc a4/\(a0.length:Int)=Gh a4/\a1=1+cond a4.BM 9 0/\a0.length<=65536 | .b2 a0 a1 a2 _ a4=>BZ a2/\Dc a4/\(a0.length:Int)=Gh a4/\a1=1+cond a4.BM 9 0+cond a4.Map 5 0/\a0.length<=65536 | .b3 a0 a1 a2 _ a4=>BZ a2/\Dc a4/\(a0.length:Int)=Gh a4/\a1=1+cond a4.BM 9 0+cond a4.Map 5 0/\a0.length<=65536 | .b4 a0 a1 a2 _ a4=>BZ a2/\Dc a4/\(a0.length:Int)=Gh a4/\a1=1+cond a4.BM 9 0+cond a4.Map 5 0+cond a4.BV 1 0/\a0.length<=65536 | .b5 a0 a1 a2 _ a4=>BZ a2/\Dc a4/\(a0.length:Int)=Gh a4/\a1=1+cond a4.BM 9 0+cond a4.Map 5 0+cond a4.BV 1 0/\a0.length<=65536 | .b6 a0 a1 a2 _ a4=>BZ a2/\Dc a4/\(a0.length:Int)=Gh a4/\a1=1+cond a4.BM 9 0+cond a4.Map 5 0+cond a4.BV 1 0+cond a4.EG 8 0/\a0.length<=65536 | .b7 a0 a1 a2 _ a4=>BZ a2/\Dc a4/\(a0.length:Int)=Gh a4/\a1=1+cond a4.BM 9 0+cond a4.Map 5 0+cond a4.BV 1 0+cond a4.EG 8 0/\a0.length<=65536 | .b8 a0 a1 a2 _ a4=>BZ a2/\Dc a4/\(a0.length:Int)=Gh a4/\a1=1+cond a4.BM 9 0+cond a4.Map 5 0+cond a4.BV 1 0+cond a4.EG 8 0/\a0.length<=65536 | .b9 a0 a1 a2 _ a4=>BZ a2/\Dc a4/\(a0.length:Int)=Gh a4/\a1=1+cond a4.BM 9 0+cond a4.Map 5 0+cond a4.BV 1 0+cond a4.EG 8 0/\a0.length<=65536) (fun(p:Uu)=>match p with | .b0 ..=>(0,0,9) | .b1 ..=>(0,0,8) | .b2 ..=>(0,0,7) | .b3 ..=>(0,0,6) | .b4 ..=>(0,0,5) | .b5 ..=>(0,0,4) | .b6 ..=>(0,0,3) | .b7 ..=>(0,0,2) | .b8 ..=>(0,0,1) | .b9 ..=>(0,0,0)) ?_ _ ?_
 all_goals try (intro p hp;cases p)
 case' b0=>
  dsimp only at hp
  have hx:=hp
  try dsimp only [BK,D7,BJ,Bh,Eb,EE] at hx
  simp only [Y3]
  obtain⟨hq,hk,rfl⟩:=hp
  obtain⟨u,h1,h2,h3⟩:=h1
  refine GI (hk▸h1) ?_
  clear hx h1 hk
  simp only [Dc,Ep,List.mem_cons,List.not_mem_nil,or_false] at h3
  rcases h3 with rfl|rfl|rfl|rfl|rfl|rfl|rfl|rfl|rfl|rfl|rfl|rfl|rfl<;>simp only [Gh,cond_true,cond_false,Bool.or_true,Bool.true_or,Bool.or_false,Bool.false_or,Bool.or_self,reduceCtorEq,and_false] at *<;>repeat' first|(refine CP (fun h=>?_) (fun h=>?_)<;>(try simp only [Fp,reduceCtorEq] at h;try simp(disch:=omega) only [Bv] at h))|(refine Aj (qI _ _ _ (by omega) (by omega) (by omega) (by omega) (by omega)) (fun(v:Int) hm hv=>?_))|(refine Md ?_ (fun v hv=>?_))|(refine Aj (yZ _ _ (by omega) (by omega) (by omega)) (fun(v:ER) hm hv=>?_))|(refine BL ?_;dsimp only;(try simp(disch:=omega) only [Bv]);first|exact⟨⟨by grind,by simp [Dc,Ep],by first|omega|(simp only [Gh,cond_true,cond_false,Bool.or_true,Bool.true_or,Bool.or_false,Bool.false_or,Bool.or_self,reduceCtorEq,and_false] at *<;>omega),by first|omega|(simp only [Gh,cond_true,cond_false,Bool.or_true,Bool.true_or,Bool.or_false,Bool.false_or,Bool.or_self,reduceCtorEq,and_false] at *<;>omega),by omega⟩,FM.2 (by omega)⟩|grind)
 case' b1|b2|b3|b4|b5|b6|b7|b8|b9=>
  dsimp only at hp
  have hx:=hp
  try dsimp only [BK,D7,BJ,Bh,Eb,EE] at hx
  simp only [Y3]
  have hc:=hp.1
  have hu:=hp.2.1
  have hl:=hp.2.2.1
  have ha:=hp.2.2.2.1
  have hs:=hp.2.2.2.2
  clear hp hx
  simp only [Dc,Ep,List.mem_cons,List.not_mem_nil,or_false] at hu
  rcases hu with rfl|rfl|rfl|rfl|rfl|rfl|rfl|rfl|rfl|rfl|rfl|rfl|rfl<;>simp only [Gh,cond_true,cond_false,Bool.or_true,Bool.true_or,Bool.or_false,Bool.false_or,Bool.or_self,reduceCtorEq,and_false] at *<;>repeat' first|(refine CP (fun h=>?_) (fun h=>?_)<;>(try simp only [Fp,reduceCtorEq] at h;try simp(disch:=omega) only [Bv] at h))|(refine BO ?_ ?_)|(refine Aj (qI _ _ _ (by omega) (by omega) (by omega) (by omega) (by omega)) (fun(v:Int) hm hv=>?_))|(refine Md ?_ (fun v hv=>?_))|(refine Aj (yZ _ _ (by omega) (by omega) (by omega)) (fun(v:ER) hm hv=>?_))|(refine BL ?_;dsimp only;(try simp(disch:=omega) only [Bv]);first|exact⟨⟨by grind,by simp [Dc,Ep],by first|omega|(simp only [Gh,cond_true,cond_false,Bool.or_true,Bool.true_or,Bool.or_false,Bool.false_or,Bool.or_self,reduceCtorEq,and_false] at *<;>omega),by first|omega|(simp only [Gh,cond_true,cond_false,Bool.or_true,Bool.true_or,Bool.or_false,Bool.false_or,Bool.or_self,reduceCtorEq,and_false] at *<;>omega),by omega⟩,FM.2 (by omega)⟩|grind)
 all_goals
  try dsimp only at hp
  try exact False.elim hp
  try have hx:=hp
  try dsimp only [BK,D7,BJ,Bh,Eb,EE] at hx
  try (repeat with_reducible (have hq:=And.left hp;replace hp:=And.right hp))
  try simp only [Y3]
  try dsimp only
  repeat' first|(refine BL ?_;dsimp only;try simp(disch:=omega) only [Bv,CB,List.nil_append,List.drop_zero])|(refine CP (fun h=>?_) (fun h=>?_)<;>(try simp only [Fp,reduceCtorEq] at h;try simp(disch:=omega) only [Bv] at h))|refine BO ?_ ?_|refine Gm ?_|with_reducible apply And.intro|rfl|assumption|exact True.intro|omega|exact decide_eq_true (F5 _).1|exact FB (by assumption) (by omega)|(refine FM.2 ?_;first|omega|grind)|(apply GR;first|omega|(simp only [CB];omega))|(simp only [Dx,CB,Du,maxLen_eq,kL,kA]<;>omega)|(simp(disch:=omega) only [Bv,decide_eq_true_eq,bne_iff_ne,ne_eq];(repeat' split)<;>omega)|(simp [Dc,Ep];done)|grind|(simp only [Dx,CB,Du,maxLen_eq,kL,kA]<;>grind)|grind [EL]
end Go.Proofs.YtddbklgndkpipaaGreatDoor
