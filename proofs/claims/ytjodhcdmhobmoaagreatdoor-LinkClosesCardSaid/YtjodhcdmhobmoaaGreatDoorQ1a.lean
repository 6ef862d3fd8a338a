/-
  A part of the proof.
-/
import Derived.Test.YtjodhcdmhobmoaaGreatDoorCUn
import Derived.Laws.BitsAllLaws
import Derived.Test.YtjodhcdmhobmoaaGreatDoorF3
import Derived.Laws.Bits128
set_option linter.unusedVariables false
set_option linter.unusedSimpArgs false
namespace Go.Proofs.YtjodhcdmhobmoaaGreatDoor
open Go Go.Proofs.YtjodhcdmhobmoaaGreatDoor.Le
def Tot {U:Z5V} {L:Type}:Tr U L->(L->Prop)->Prop
 | .leaf l,Q=>Q l
 | .br c a b,Q=>(c=true->Tot a Q)/\(c=false->Tot b Q)
 | .bind _ o k,Q=>∃x,o=some x/\Tot (k x) Q
 | .chk c a,Q=>c=true/\Tot a Q
 | .fail,_=>False
theorem ZPL {U:Z5V} {L R:Type} {J:L->Option R} {post:R->Prop}:∀{t:Tr U L},Tot t (fun l=>∃r,J l=some r/\post r)->∃r,t.den J=some r/\post r:=by
 intro t
 induction t with
 | leaf l=>intro h;exact h
 | br c a b iha ihb=>
  intro h
  cases c with
  | true=>exact iha (h.1 rfl)
  | false=>exact ihb (h.2 rfl)
 | bind t o k ih=>
  intro h
  obtain⟨x,hx,h⟩:=h
  obtain⟨r,h1,h2⟩:=ih x h
  exact⟨r,by rw [Tr.den,hx];exact h1,h2⟩
 | chk c a ih=>
  intro h
  obtain⟨r,h1,h2⟩:=ih h.2
  exact⟨r,by rw [Tr.den,h.1];exact h1,h2⟩
 | fail=>intro h;exact h.elim
theorem Tot.mono {U:Z5V} {L:Type} {Q Q' : L->Prop} (hq:∀l,Q l->Q' l):∀{t:Tr U L},Tot t Q->Tot t Q' :=by
 intro t
 induction t with
 | leaf l=>exact hq l
 | br c a b iha ihb=>exact fun h=>⟨fun e=>iha (h.1 e),fun e=>ihb (h.2 e)⟩
 | bind t o k ih=>exact fun⟨x,hx,h⟩=>⟨x,hx,ih x h⟩
 | chk c a ih=>exact fun h=>⟨h.1,ih h.2⟩
 | fail=>exact fun h=>h
def Lt3 (a b:Nat×Nat×Nat):Prop:=a.1<b.1\/(a.1=b.1/\(a.2.1<b.2.1\/(a.2.1=b.2.1/\a.2.2<b.2.2)))
theorem lt3_wf:WellFounded Lt3:=by
 have key:∀x y z,Acc Lt3 (x,y,z):=by
  intro x
  induction x using Nat.strongRecOn with
  | _ x ihx=>
   intro y
   induction y using Nat.strongRecOn with
   | _ y ihy=>
    intro z
    induction z using Nat.strongRecOn with
    | _ z ihz=>
     refine Acc.intro _ fun q hq=>?_
     obtain⟨q1,q2,q3⟩:=q
     rcases hq with h|⟨h1,h|⟨h2,h⟩⟩
     ·exact ihx q1 h q2 q3
     ·simp only at h1 h
      subst h1
      exact ihy q2 h q3
     ·simp only at h1 h2 h
      subst h1
      subst h2
      exact ihz q3 h
 exact⟨fun⟨x,y,z⟩=>key x y z⟩
theorem ZRO {a b c d e f:Nat} (h:a<d):Lt3 (a,b,c) (d,e,f):=.inl h
theorem ZSs {a b c e f:Nat} (h:b<e):Lt3 (a,b,c) (a,e,f):=.inr ⟨rfl,.inl h⟩
theorem Z1v {a b c d e f:Nat}:Lt3 (a,b,c) (d,e,f)↔a<d\/(a=d/\(b<e\/(b=e/\c<f))):=Iff.rfl
theorem Zl {U:Z5V} {P R:Type} {T:P->Tr U (R⊕P)} {post:R->Prop} (I:P->Prop) (μ:P->Nat×Nat×Nat)
  (h:∀p,I p->Tot (T p) (fun l=>match l with | .inl r=>post r | .inr q=>I q/\Lt3 (μ q) (μ p))) (p:P) (hp:I p):∃r,ZO T p=some r/\post r:=by
 have key:∀x p,μ p=x->I p->∃r,ZO T p=some r/\post r:=by
  intro x
  induction lt3_wf.apply x with
  | intro x _ ih=>
   intro p hx hI
   subst hx
   rw [ZV]
   refine ZPL ((h p hI).mono fun l hl=>?_)
   cases l with
   | inl r=>exact⟨r,rfl,hl⟩
   | inr q=>exact ih _ hl.2 q rfl hl.1
 exact key _ p rfl hp
theorem ZRW {α:Type} {l:List α} {i:Int} {Q:α->Prop} (h:0<=i/\i<(l.length:Int)) (k:∀v,v∈l->Q v):∃v,l[Int.toNat i]? = some v/\Q v:=by
 have hi:i.toNat<l.length:=by omega
 exact⟨l[i.toNat],List.getElem?_eq_getElem hi,k _ (List.getElem_mem hi)⟩
theorem ZL {a:Int} (h : -9223372036854775808<=a) (h' : a<=9223372036854775807):w64 a=a:=by
 simp only [w64,IntKind.wrap,IntKind.signed,IntKind.bits]
 simp
 omega
theorem tm_bd (a:Int) (n:Nat) (h:0<n) : -(n:Int)<Int.tmod a n/\Int.tmod a n<n:=by
 have h1:=Int.tmod_lt_of_pos a (show (0:Int)<n by omega)
 have h2:=Int.tmod_lt_of_pos (-a) (show (0:Int)<n by omega)
 rw [Int.neg_tmod] at h2
 omega
theorem Z1o {U:Z5V} {L:Type} {Q:L->Prop} (h:False):Tot (.fail:Tr U L) Q:=h
theorem Z0n {U:Z5V} {L:Type} {l:L} {Q:L->Prop} (h:Q l):Tot (.leaf l:Tr U L) Q:=h
theorem Z2a {U:Z5V} {L:Type} {c:Bool} {a b:Tr U L} {Q:L->Prop} (h:c=true->Tot a Q) (k:c=false->Tot b Q):Tot (.br c a b) Q:=⟨h,k⟩
theorem Z0s {U:Z5V} {L:Type} {c:Bool} {a:Tr U L} {Q:L->Prop} (h:c=true) (k:Tot a Q):Tot (.chk c a) Q:=⟨h,k⟩
theorem Zi {U:Z5V} {L:Type} {t:Nat} {o:Option (U.Ty t)} {k:U.Ty t->Tr U L} {Q:L->Prop} {post:U.Ty t->Prop} (h:∃v,o=some v/\post v) (g:∀v,o=some v->post v->Tot (k v) Q):Tot (.bind t o k) Q:=by
 obtain⟨v,h1,h2⟩:=h
 exact⟨v,h1,g v h1 h2⟩
theorem Zb5 {U:Z5V} {L:Type} {t:Nat} {l:List (U.Ty t)} {i:Int} {k:U.Ty t->Tr U L} {Q:L->Prop} (h:0<=i/\i<(l.length:Int)) (g:∀v,v∈l->Tot (k v) Q):Tot (.bind t (l[Int.toNat i]?) k) Q:=
 ZRW h g
theorem ZfU {U:Z5V} {L:Type} {t:Nat} {o:Option (U.Ty t)} {a:U.Ty t} {k:U.Ty t->Tr U L} {Q:L->Prop} (h:o=some a) (g:Tot (k a) Q):Tot (.bind t o k) Q:=⟨a,h,g⟩
theorem Z0e:lim=140737488355328:=rfl
theorem maxLen_eq:maxLen=9223372036854775807:=rfl
def R8 (n:Int):Prop:=0<=n/\n<256
def R16 (n:Int):Prop:=0<=n/\n<65536
def R32 (n:Int):Prop:=0<=n/\n<4294967296
def R64 (n:Int):Prop:=0<=n/\n<18446744073709551616
def byL (l:List Int):Prop:=∀b∈l,R8 b
theorem ZOt (n:Int):R8 (IntKind.wrap .u8 n):=by unfold R8;rw [IntKind.wrap_u8];omega
theorem ZL2 (n:Int):R16 (IntKind.wrap .u16 n):=by unfold R16;rw [IntKind.wrap_u16];omega
theorem ZMc (n:Int):R32 (IntKind.wrap .u32 n):=by unfold R32;rw [IntKind.wrap_u32];omega
theorem Z1T (n:Int):R64 (IntKind.wrap .u64 n):=by unfold R64;rw [IntKind.wrap_u64];omega
theorem ZSj (o:BinOp) (a b:Int):R8 (bits o .u8 a b):=ZOt _
theorem ZPa (o:BinOp) (a b:Int):R16 (bits o .u16 a b):=ZL2 _
theorem ZPB (o:BinOp) (a b:Int):R32 (bits o .u32 a b):=ZMc _
theorem ZPG (o:BinOp) (a b:Int):R64 (bits o .u64 a b):=Z1T _
theorem Zb6:R64 0:=by unfold R64;omega
theorem ZSg:R64 63:=by unfold R64;omega
theorem ZLN:R16 0:=by unfold R16;omega
theorem ZPc:R32 0:=by unfold R32;omega
theorem ZMe:byL []:=fun _ h=>nomatch h
theorem ZQ6 (a b:List Int):byL (a++b)↔byL a/\byL b:=by simp only [byL,List.mem_append];exact⟨fun h=>⟨fun x hx=>h x (.inl hx),fun x hx=>h x (.inr hx)⟩,fun h x hx=>hx.elim (h.1 x) (h.2 x)⟩
theorem ZMP (a:Int) (b:List Int):byL (a::b)↔R8 a/\byL b:=by simp only [byL,List.mem_cons,forall_eq_or_imp]
theorem ZMW (n:Nat) (l:List Int) (h:byL l):byL (l.take n):=fun x hx=>h x (List.mem_of_mem_take hx)
theorem ZNb (n:Nat) (l:List Int) (h:byL l):byL (l.drop n):=fun x hx=>h x (List.mem_of_mem_drop hx)
theorem ZQi {l:List Int} (h:byL l) {x:Int} (hx:x∈l):R8 x:=h x hx
theorem ZGM (xs:List Int):Le.bytesOf (xs.map (U.enc 5))=some (xs.map fun n=>UInt8.ofNat n.toNat):=by
 induction xs with
 | nil=>rfl
 | cons x xs ih=>
  rw [List.map_cons]
  show (match Le.byteOf (U.enc 5 x),Le.bytesOf (xs.map (U.enc 5)) with|some b,some bs=>some (b::bs)|_,_=>none)=_
  rw [ih]
  rfl
theorem Zov (xs:List Int) (h:xs.length<=1000000):Z7z U 5 xs=true:=by
 unfold Z7z
 rw [ZGM]
 exact decide_eq_true (by rw [List.length_map];exact Nat.le_trans (Nat.le_trans h (by decide)) (by decide:1000000000<=maxLen))
def Z1f (c:Z4):Prop:=R64 c.Map/\R16 c.ZQ/\R64 c.Z5R/\R64 c.Mark/\R64 c.ZZ/\0<=c.Kind
def ZIu (c:Z8):Prop:=R64 c.Map/\R16 c.ZQ
def ctL (l:List Z4):Prop:=∀c∈l,Z1f c
def Zjd (l:List Z8):Prop:=∀c∈l,ZIu c
def Z2c (p:Zd):Prop:=p.Payload.length<=65536/\byL p.Payload
def Zg5 (p:Zd):Prop:=1<=p.Z5f/\p.Z5f<=3/\1<=p.Payload.length/\p.Payload.length<=251/\byL p.Payload
def pkL (l:List Zd):Prop:=∀p∈l,Zg5 p
def Zb8 (n:Int):Prop:=n=0\/n=1
theorem ZSh:Zb8 0:=.inl rfl
theorem ZRB:Zb8 1:=.inr rfl
theorem ZJw {n:Int} (h:Zb8 n):Zb8 (w64 (1 - n)):=by rcases h with rfl|rfl<;>first|exact .inr rfl|exact .inl rfl
def Z16 (a:ZK):Prop:=Zb8 a.SN/\Zb8 a.Zda/\a.Zu.length<=64/\pkL a.Zu/\(a.Open=true->a.Empty=false->0<a.Zu.length)
def Z0l (s:Z7):Prop:=s.Zf.length<=8/\s.Zo.length<=1/\ctL s.Zf/\Zjd s.Zo/\R64 s.ZZ/\R64 s.Z5R/\R64 s.Zpv/\R64 s.Mark/\Zb8 s.Z1z /\ -1<=s.Own /\ -1<=s.Other
def Zo2 (s:Zv):Prop:=R64 s.Key/\R64 s.Z5R/\R64 s.Tx/\R64 s.Rx
def ZFp (p:Zy):Prop:=R32 p.Z3W/\R32 p.ZOI/\R64 p.Map
def Z0z (k:Int) (l:Z9):Prop:=Z16 l.Arq/\Z0l l.Ze/\Zo2 l.Z0h/\ZFp l.ZN/\(l.Zb.length:Int)<=k/\ctL l.Zb/\l.Zw.length<=37/\R16 l.Event/\R64 l.Key/\R64 l.Zld/\Zb8 l.Z1z
def Z4s (a:Z22):Prop:=Z2c a.ZF/\a.ZF.Payload.length<=4096/\R64 a.Map/\R64 a.Number/\R64 a.Key
def acR (a:Z22):Prop:=byL a.ZF.Payload/\R64 a.Map/\R64 a.Number/\R64 a.Key
def ZzM (e:Zq):Prop:=∀a∈e.ZOg,acR a
theorem ZN4 {e:Zq} (h:ZzM e) {a:Z22} (ha:a∈e.ZOg):acR a:=h a ha
def Z6M (k:Int) (s:ZT):Prop:=Z0z k s.x0/\Z0z k s.x1
theorem Z0S {a b:Int} {l:Z9} (h:Z0z a l) (hab:a<=b):Z0z b l:=⟨h.1,h.2.1,h.2.2.1,h.2.2.2.1,Int.le_trans h.2.2.2.2.1 hab,h.2.2.2.2.2⟩
theorem Z0Z {a b:Int} {s:ZT} (h:Z6M a s) (hab:a<=b):Z6M b s:=⟨Z0S h.1 hab,Z0S h.2 hab⟩
def evL (l:List Zq):Prop:=∀e∈l,ZzM e
theorem ZQm {l:List Zq} (h:evL l) {e:Zq} (he:e∈l):ZzM e:=h e he
def Z3m (x:Z01):Prop:=ZFp x.ZN/\R64 x.Keys.x0/\R64 x.Keys.x1/\evL x.Events
def ZrI (l:List Int):Prop:=∀x∈l,0<=x/\x<=36
theorem ZNe:ZrI []:=fun _ h=>nomatch h
theorem ZNK (a b:List Int):ZrI (a++b)↔ZrI a/\ZrI b:=by simp only [ZrI,List.mem_append];exact⟨fun h=>⟨fun x hx=>h x (.inl hx),fun x hx=>h x (.inr hx)⟩,fun h x hx=>hx.elim (h.1 x) (h.2 x)⟩
theorem ZLp (a:Int) (b:List Int):ZrI (a::b)↔(0<=a/\a<=36)/\ZrI b:=by simp only [ZrI,List.mem_cons,forall_eq_or_imp]
theorem ZKx (n:Nat) (l:List Int) (h:ZrI l):ZrI (l.take n):=fun x hx=>h x (List.mem_of_mem_take hx)
theorem ZKo (n:Nat) (l:List Int) (h:ZrI l):ZrI (l.drop n):=fun x hx=>h x (List.mem_of_mem_drop hx)
theorem ZNh {l:List Int} (h:ZrI l) {x:Int} (hx:x∈l):0<=x/\x<=36:=h x hx
theorem ZBP:ctL []:=fun _ h=>nomatch h
theorem ZQ3 (a b:List Z4):ctL (a++b)↔ctL a/\ctL b:=by simp only [ctL,List.mem_append];exact⟨fun h=>⟨fun x hx=>h x (.inl hx),fun x hx=>h x (.inr hx)⟩,fun h x hx=>hx.elim (h.1 x) (h.2 x)⟩
theorem ZMI (a:Z4) (b:List Z4):ctL (a::b)↔Z1f a/\ctL b:=by simp only [ctL,List.mem_cons,forall_eq_or_imp]
theorem ZO8 (n:Nat) (l:List Z4) (h:ctL l):ctL (l.take n):=fun x hx=>h x (List.mem_of_mem_take hx)
theorem ZNZ (n:Nat) (l:List Z4) (h:ctL l):ctL (l.drop n):=fun x hx=>h x (List.mem_of_mem_drop hx)
theorem ZQg {l:List Z4} (h:ctL l) {x:Z4} (hx:x∈l):Z1f x:=h x hx
theorem ZF4:Zjd []:=fun _ h=>nomatch h
theorem ZNY (a b:List Z8):Zjd (a++b)↔Zjd a/\Zjd b:=by simp only [Zjd,List.mem_append];exact⟨fun h=>⟨fun x hx=>h x (.inl hx),fun x hx=>h x (.inr hx)⟩,fun h x hx=>hx.elim (h.1 x) (h.2 x)⟩
theorem ZJT (a:Z8) (b:List Z8):Zjd (a::b)↔ZIu a/\Zjd b:=by simp only [Zjd,List.mem_cons,forall_eq_or_imp]
theorem ZNX {l:List Z8} (h:Zjd l) {x:Z8} (hx:x∈l):ZIu x:=h x hx
theorem ZJn:pkL []:=fun _ h=>nomatch h
theorem ZPs (a b:List Zd):pkL (a++b)↔pkL a/\pkL b:=by simp only [pkL,List.mem_append];exact⟨fun h=>⟨fun x hx=>h x (.inl hx),fun x hx=>h x (.inr hx)⟩,fun h x hx=>hx.elim (h.1 x) (h.2 x)⟩
theorem ZMR (a:Zd) (b:List Zd):pkL (a::b)↔Zg5 a/\pkL b:=by simp only [pkL,List.mem_cons,forall_eq_or_imp]
theorem ZNk (n:Nat) (l:List Zd) (h:pkL l):pkL (l.take n):=fun x hx=>h x (List.mem_of_mem_take hx)
theorem ZNH (n:Nat) (l:List Zd) (h:pkL l):pkL (l.drop n):=fun x hx=>h x (List.mem_of_mem_drop hx)
theorem ZPp {l:List Zd} (h:pkL l) {x:Zd} (hx:x∈l):Zg5 x:=h x hx
theorem ZJH:Z16 Z4y:=⟨.inl rfl,.inl rfl,Nat.zero_le _,ZJn,fun h=>nomatch h⟩
theorem ZOD:Z0l ZI:=⟨Nat.zero_le _,Nat.zero_le _,ZBP,ZF4,Zb6,Zb6,Zb6,Zb6,.inl rfl,by decide,by decide⟩
theorem ZP2:Zo2 Z31:=⟨Zb6,Zb6,Zb6,Zb6⟩
theorem ZOu:ZFp Zdw:=⟨ZPc,ZPc,Zb6⟩
theorem ZS5:Z1f Z0x:=⟨Zb6,ZLN,Zb6,Zb6,Zb6,by decide⟩
theorem ZRK:ZIu Z0A:=⟨Zb6,ZLN⟩
theorem ZRe (k:Int) (h:0<=k):Z0z k ZH:=⟨ZJH,ZOD,ZP2,ZOu,h,ZBP,Nat.zero_le _,ZLN,Zb6,Zb6,.inl rfl⟩
theorem ZRg:Z2c Z15.ZF:=⟨Nat.zero_le _,ZMe⟩
def Z4A:List Zg:=[⟨true,true,false,true,false,false,false,false,false,false,false⟩,⟨true,false,true,true,false,false,false,false,false,false,false⟩,⟨true,false,false,false,true,false,false,false,false,false,false⟩,⟨true,false,false,false,false,false,true,true,false,false,false⟩,⟨true,false,false,false,false,false,true,false,false,false,false⟩,⟨true,false,false,false,false,false,false,false,false,false,false⟩,⟨true,false,false,false,false,true,false,false,false,false,false⟩,⟨true,false,false,false,false,false,false,false,true,false,false⟩,⟨true,false,false,false,false,false,false,false,false,true,false⟩,⟨true,false,false,false,true,true,false,false,false,false,false⟩,⟨true,true,false,false,false,false,false,false,false,false,false⟩,⟨true,false,false,false,false,false,false,false,false,false,true⟩,⟨false,false,false,false,false,false,false,false,false,false,false⟩]
def Z0H (u:Zg):Prop:=u∈Z4A
def szU (u:Zg):Int:=1+cond u.Zt 9 0+cond u.Map 5 0+cond u.ZQ 2 0+cond (u.Z05||u.Version||u.Length) 1 0+cond u.Z13 1 0+cond (u.Z5R||u.ZZ) 8 0+cond u.Mark 8 0
theorem ZNU {l:List Int} {v:Int} (h:byL l) (hv:v∈l):Z1f ⟨w64 v,Zr,0,0,0,0,0,0,0,0,0⟩:=by
 obtain⟨h1,h2⟩:=h v hv
 refine⟨Zb6,ZLN,Zb6,Zb6,Zb6,?_⟩
 show 0<=w64 v
 rw [ZL (by omega) (by omega)]
 exact h1
attribute [grind] Z0z Z16 Z0l Zo2 ZFp Z1f ZIu Z4s acR Z6M Z3m Z2c Zg5
attribute [grind .] ZSh ZRB ZOt ZL2 ZMc Z1T ZSj ZPa ZPB ZPG ZJH ZOD ZP2 ZOu ZS5 ZRK ZRe ZRg Zb6 ZSg ZLN ZPc ZMe ZMW ZNb ZNe ZKx ZKo ZBP ZO8 ZNZ ZF4 ZJn ZNk ZNH
attribute [grind =] ZQ6 ZMP List.length_take List.length_drop ZNK ZLp ZQ3 ZMI ZNY ZJT ZPs ZMR
attribute [grind ->] ZJw ZN4 ZQm ZQi ZNh ZQg ZNX ZPp
set_option linter.defProp false
set_option maxRecDepth 100000
set_option maxHeartbeats 40000000
theorem ZMa {L:Type} {l:List (Zd)} {i:Int} {k:Zd->Tr U L} {Q:L->Prop} (h:0<=i/\i<(l.length:Int)) (g:∀v:Zd,v∈l->Tot (k v) Q):Tot (Tr.bind (U:=U) 68 (l[Int.toNat i]? : Option (Zd)) k) Q:=Zb5 (U:=U) (t:=68) h g
theorem Zvr {L:Type} {l:List (Z4)} {i:Int} {k:Z4->Tr U L} {Q:L->Prop} (h:0<=i/\i<(l.length:Int)) (g:∀v:Z4,v∈l->Tot (k v) Q):Tot (Tr.bind (U:=U) 156 (l[Int.toNat i]? : Option (Z4)) k) Q:=Zb5 (U:=U) (t:=156) h g
theorem Zuc {L:Type} {l:List (Z8)} {i:Int} {k:Z8->Tr U L} {Q:L->Prop} (h:0<=i/\i<(l.length:Int)) (g:∀v:Z8,v∈l->Tot (k v) Q):Tot (Tr.bind (U:=U) 138 (l[Int.toNat i]? : Option (Z8)) k) Q:=Zb5 (U:=U) (t:=138) h g
theorem ZCx {L:Type} {l:List (Zj)} {i:Int} {k:Zj->Tr U L} {Q:L->Prop} (h:0<=i/\i<(l.length:Int)) (g:∀v:Zj,v∈l->Tot (k v) Q):Tot (Tr.bind (U:=U) 99 (l[Int.toNat i]? : Option (Zj)) k) Q:=Zb5 (U:=U) (t:=99) h g
theorem ZOH {L:Type} {l:List (Int)} {i:Int} {k:Int->Tr U L} {Q:L->Prop} (h:0<=i/\i<(l.length:Int)) (g:∀v:Int,v∈l->Tot (k v) Q):Tot (Tr.bind (U:=U) 3 (l[Int.toNat i]? : Option (Int)) k) Q:=Zb5 (U:=U) (t:=3) h g
theorem Znp {L:Type} {l:List (Int)} {i:Int} {k:Int->Tr U L} {Q:L->Prop} (h:0<=i/\i<(l.length:Int)) (g:∀v:Int,v∈l->Tot (k v) Q):Tot (Tr.bind (U:=U) 5 (l[Int.toNat i]? : Option (Int)) k) Q:=Zb5 (U:=U) (t:=5) h g
theorem ZPg {L:Type} {l:List (Int)} {i:Int} {k:Int->Tr U L} {Q:L->Prop} (h:0<=i/\i<(l.length:Int)) (g:∀v:Int,v∈l->Tot (k v) Q):Tot (Tr.bind (U:=U) 25 (l[Int.toNat i]? : Option (Int)) k) Q:=Zb5 (U:=U) (t:=25) h g
theorem ZFg {L:Type} {l:List (Z5)} {i:Int} {k:Z5->Tr U L} {Q:L->Prop} (h:0<=i/\i<(l.length:Int)) (g:∀v:Z5,v∈l->Tot (k v) Q):Tot (Tr.bind (U:=U) 148 (l[Int.toNat i]? : Option (Z5)) k) Q:=Zb5 (U:=U) (t:=148) h g
theorem ZPJ {L:Type} {l:List (Z22)} {i:Int} {k:Z22->Tr U L} {Q:L->Prop} (h:0<=i/\i<(l.length:Int)) (g:∀v:Z22,v∈l->Tot (k v) Q):Tot (Tr.bind (U:=U) 83 (l[Int.toNat i]? : Option (Z22)) k) Q:=Zb5 (U:=U) (t:=83) h g
theorem ZMN {L:Type} {l:List (Zq)} {i:Int} {k:Zq->Tr U L} {Q:L->Prop} (h:0<=i/\i<(l.length:Int)) (g:∀v:Zq,v∈l->Tot (k v) Q):Tot (Tr.bind (U:=U) 113 (l[Int.toNat i]? : Option (Zq)) k) Q:=Zb5 (U:=U) (t:=113) h g
theorem ZaC:(∀(p0 p1 p2:Int),∃r,Z2v p0 p1 p2=some r/\True) /\
  (∀(p0 p1 p2:Int),∃r,Z2r p0 p1 p2=some r/\True) /\
  (∃r,Zp0=some r/\(r=Z4y)) /\
  (∀(p0:Int),∃r,ZbZ p0=some r/\True) /\
  (∀(p0 p1 p2:Int),R64 p1->∃r,Zqz p0 p1 p2=some r/\Z0l r) /\
  (∃r,Zhr=some r/\(r.length<=37)) /\
  (∀(p0:Zk) (p1:Bool),∃r,Z8u p0 p1=some r/\True) /\
  (∀(p0:ZK),Z16 p0->∃r,ZfT p0=some r/\True) /\
  (∀(p0:Int),∃r,Z4B p0=some r/\True) /\
  (∀(p0:Int),∃r,Z9V p0=some r/\True) /\
  (∀(p0 p1:Int),∃r,ZfR p0 p1=some r/\True) /\
  (∀(p0:Z7),Z0l p0->∃r,Zcw p0=some r/\True) /\
  (∀(p0:Int),∃r,ZcV p0=some r/\True) /\
  (∀(p0:Int),∃r,Z0k p0=some r/\Z0H r):=by
 refine⟨fun p0 p1 p2=>Zl (fun(p:Z7j)=>True) (fun(p:Z7j)=>(0,0,0)) ?_ _ ?_,
  fun p0 p1 p2=>Zl (fun(p:Z58)=>True) (fun(p:Z58)=>(0,0,0)) ?_ _ ?_,
  Zl (fun(p:Zf5)=>True) (fun(p:Zf5)=>(0,0,0)) ?_ _ ?_,
  fun p0=>Zl (fun(p:Zf1)=>True) (fun(p:Zf1)=>(0,0,0)) ?_ _ ?_,
  fun p0 p1 p2 h0=>Zl (fun(p:Zeb)=>match p with | .b0 _ a1 _=>R64 a1) (fun(p:Zeb)=>(0,0,0)) ?_ _ ?_,
  Zl (fun(p:Z8V)=>True) (fun(p:Z8V)=>(0,0,0)) ?_ _ ?_,
  fun p0 p1=>Zl (fun(p:ZbK)=>True) (fun(p:ZbK)=>(0,0,0)) ?_ _ ?_,
  fun p0 h0=>Zl (fun(p:ZbT)=>match p with | .b0 a0=>Z16 a0) (fun(p:ZbT)=>(0,0,0)) ?_ _ ?_,
  fun p0=>Zl (fun(p:Z4w)=>match p with | .b0 ..=>True | .b1 _ _ a2=>0<=a2/\a2<=8) (fun(p:Z4w)=>match p with | .b0 ..=>(1,0,0) | .b1 _ _ a2=>(0,(8 - a2).toNat,0)) ?_ _ ?_,
  fun p0=>Zl (fun(p:Za4)=>True) (fun(p:Za4)=>(0,0,0)) ?_ _ ?_,
  fun p0 p1=>Zl (fun(p:Zcf)=>True) (fun(p:Zcf)=>(0,0,0)) ?_ _ ?_,
  fun p0 h0=>Zl (fun(p:Z9o)=>match p with | .b0 a0=>Z0l a0) (fun(p:Z9o)=>(0,0,0)) ?_ _ ?_,
  fun p0=>Zl (fun(p:Z53)=>True) (fun(p:Z53)=>(0,0,0)) ?_ _ ?_,
  fun p0=>Zl (fun(p:Z6Y)=>True) (fun(p:Z6Y)=>match p with | .b0 ..=>(0,0,3) | .b2 ..=>(0,0,2) | .b4 ..=>(0,0,1)|_=>(0,0,0)) ?_ _ ?_⟩
 all_goals try (intro p hp;cases p)
 all_goals
  try dsimp only at hp
  try exact False.elim hp
  try have hx:=hp
  try dsimp only [Z0z,Z16,Z0l,Z6M,Z2c,Zg5,Z4s,Z3m] at hx
  try (repeat with_reducible (have hq:=And.left hp;replace hp:=And.right hp))
  try simp only [ZeS,Z8a,ZoH,Zke,Zpn,ZiI,Zbi,Zmb,Z3u,ZcT,ZlF,Zhs,Zdb,Zfi]
  try dsimp only
  repeat' first|(refine Z0n ?_;dsimp only;try simp(disch:=omega) only [ZL,List.length_append,List.length_cons,List.length_nil,List.length_take,List.length_drop,List.length_set,List.length_replicate,List.nil_append,List.drop_zero])|(refine Z2a (fun h=>?_) (fun h=>?_)<;>(try simp only [decide_eq_true_eq,decide_eq_false_iff_not,Bool.not_eq_true',Bool.not_eq_false',Bool.not_eq_true,Bool.not_eq_false,beq_iff_eq,bne_iff_ne,beq_eq_false_iff_ne,bne_eq_false_iff_eq,ne_eq,reduceCtorEq,Bool.and_eq_true,Bool.or_eq_true,Classical.not_not] at h;try simp(disch:=omega) only [ZL] at h))|refine Z0s ?_ ?_|refine Z1o ?_|with_reducible apply And.intro|rfl|assumption|exact True.intro|omega|exact decide_eq_true (Z1T _).1|exact Z0S (by assumption) (by omega)|exact Z0Z (by assumption) (by omega)|(refine Z1v.2 ?_;first|omega|grind)|(apply Zov;first|omega|(simp only [List.length_append,List.length_cons,List.length_nil,List.length_take,List.length_drop,List.length_set,List.length_replicate];omega))|(simp only [Bool.and_eq_true,Bool.or_eq_true,decide_eq_true_eq,beq_iff_eq,bne_iff_ne,beq_self_eq_true,and_self,and_true,true_and,List.length_map,List.length_append,List.length_cons,List.length_nil,List.length_take,List.length_drop,List.length_set,List.length_replicate,Z0e,maxLen_eq]<;>omega)|(simp(disch:=omega) only [ZL,decide_eq_true_eq,bne_iff_ne,ne_eq];(repeat' split)<;>omega)|(simp [Z0H,Z4A];done)|grind|(simp only [Bool.and_eq_true,Bool.or_eq_true,decide_eq_true_eq,beq_iff_eq,bne_iff_ne,beq_self_eq_true,and_self,and_true,true_and,List.length_map,List.length_append,List.length_cons,List.length_nil,List.length_take,List.length_drop,List.length_set,List.length_replicate,Z0e,maxLen_eq]<;>grind)|grind [Zb8]
def Znj:=ZaC.1
def ZjH:=ZaC.2.1
def ZKN:=ZaC.2.2.1
def Zy6:=ZaC.2.2.2.1
def ZMw:=ZaC.2.2.2.2.1
def ZDo:=ZaC.2.2.2.2.2.1
def ZtF:=ZaC.2.2.2.2.2.2.1
def ZHy:=ZaC.2.2.2.2.2.2.2.1
def Zsz:=ZaC.2.2.2.2.2.2.2.2.1
def ZqI:=ZaC.2.2.2.2.2.2.2.2.2.1
def ZIf:=ZaC.2.2.2.2.2.2.2.2.2.2.1
def ZqH:=ZaC.2.2.2.2.2.2.2.2.2.2.2.1
def Zvm:=ZaC.2.2.2.2.2.2.2.2.2.2.2.2.1
def Z73:=ZaC.2.2.2.2.2.2.2.2.2.2.2.2.2
theorem Zao:(∀(p0:Int),∃r,Z78 p0=some r/\True) /\
  (∀(p0 p1:Int),0<=p1->p1<=8->∃r,Z3i p0 p1=some r/\(r.q0.length:Int)=p1/\byL r.q0) /\
  (∀(p0:Int),∃r,Zfl p0=some r/\((r=true->Zb8 p0))) /\
  (∀(p0:Zd),∃r,Z6f p0=some r/\((r=0->1<=p0.Z5f/\p0.Z5f<=3/\(1<=p0.Payload.length\/p0.Z5f=1)/\p0.Payload.length<=255))) /\
  (∀(p0:Zd),∃r,Z8l p0=some r/\((r=false->p0.Z5f=1->1<=p0.Payload.length))) /\
  (∃r,Zh6=some r/\(r=⟨1,[]⟩)) /\
  (∀(p0:Zd),∃r,Z6G p0=some r/\((r=false->p0.Z5f=1->1<=p0.Payload.length))) /\
  (∀(p0:Zn) (p1:List Int),∃r,Zg8 p0 p1=some r/\r = { p0 with ZF:={ p0.ZF with Payload:=p1 } }) /\
  (∀(p0 p1:Int),0<=p1->p1<=32->∃r,ZfN p0 p1=some r/\True) /\
  (∀(p0 p1:Int),0<=p0->p0<=8->∃r,Z9K p0 p1=some r/\(r.q0.length:Int)=p0/\byL r.q0) /\
  (∀(p0:List Int),p0.length<=1000000->∃r,ZiH p0=some r/\R64 r) /\
  (∀(p0 p1:List Int),p0.length<=1000000->∃r,Zkj p0 p1=some r/\(r.q0.length<=p0.length/\byL r.q0/\(p0.length<=p1.length->r.q0.length=p0.length))) /\
  (∀(p0:Zv) (p1 p2:Int),Zo2 p0->∃r,Zch p0 p1 p2=some r/\R64 r) /\
  (∀(p0:Int),∃r,Zg7 p0=some r/\r.length=3/\byL r):=by
 refine⟨fun p0=>Zl (fun(p:Z7f)=>True) (fun(p:Z7f)=>(0,0,0)) ?_ _ ?_,
  fun p0 p1 h0 h1=>Zl (fun(p:ZeG)=>match p with | .b0 _ a1=>a1=p1/\0<=a1/\a1<=8 | .b1 _ a1 a2 a3=>a1=p1/\0<=a1/\a1<=8/\0<=a3/\a3<=a1/\(a2.length:Int)=a3/\byL a2) (fun(p:ZeG)=>match p with | .b0 ..=>(1,0,0) | .b1 _ a1 _ a3=>(0,(a1 - a3).toNat,0)) ?_ _ ?_,
  fun p0=>Zl (fun(p:Zec)=>match p with | .b0 a0=>a0=p0) (fun(p:Zec)=>(0,0,0)) ?_ _ ?_,
  fun p0=>Zl (fun(p:Z2H)=>match p with | .b0 a0=>a0=p0 | .b1 a0=>a0=p0/\1<=a0.Z5f/\a0.Z5f<=3 | .b2 a0=>(a0=p0/\1<=a0.Z5f/\a0.Z5f<=3/\(1<=a0.Payload.length\/a0.Z5f=1))) (fun(p:Z2H)=>match p with | .b0 ..=>(0,0,2) | .b1 ..=>(0,0,1) | .b2 ..=>(0,0,0)) ?_ _ ?_,
  fun p0=>Zl (fun(p:Z5N)=>match p with | .b0 a0=>a0=p0) (fun(p:Z5N)=>(0,0,0)) ?_ _ ?_,
  Zl (fun(p:Z8W)=>True) (fun(p:Z8W)=>(0,0,0)) ?_ _ ?_,
  fun p0=>Zl (fun(p:Z9h)=>match p with | .b0 a0=>a0=p0) (fun(p:Z9h)=>(0,0,0)) ?_ _ ?_,
  fun p0 p1=>Zl (fun(p:Zbx)=>match p with | .b0 a0 a1=>a0=p0/\a1=p1) (fun(p:Zbx)=>(0,0,0)) ?_ _ ?_,
  fun p0 p1 h0 h1=>Zl (fun(p:ZbE)=>match p with | .b0 _ a1=>0<=a1/\a1<=32) (fun(p:ZbE)=>(0,0,0)) ?_ _ ?_,
  fun p0 p1 h0 h1=>Zl (fun(p:ZeN)=>match p with | .b0 a0 _=>a0=p0/\0<=a0/\a0<=8 | .b1 a0 _ a2 a3=>a0=p0/\0<=a0/\a0<=8/\0<=a3/\a3<=a0/\(a2.length:Int)=a3/\byL a2) (fun(p:ZeN)=>match p with | .b0 ..=>(1,0,0) | .b1 a0 _ _ a3=>(0,(a0 - a3).toNat,0)) ?_ _ ?_,
  fun p0 h0=>Zl (fun(p:Z9a)=>match p with | .b0 a0=>a0.length<=1000000 | .b1 a0 a1 a2=>-1<=a2/\a2<(a0.length:Int)/\a0.length<=1000000/\R64 a1) (fun(p:Z9a)=>match p with | .b0 ..=>(1,0,0) | .b1 _ _ a2=>(0,(a2+1).toNat,0)) ?_ _ ?_,
  fun p0 p1 h0=>Zl (fun(p:Zf4)=>match p with | .b0 a0 a1=>a0=p0/\a1=p1 | .b1 a0 a1 a2 a3=>(a0=p0/\a1=p1/\a0.length<=1000000/\0<=a3/\a3<=(a0.length:Int)/\(p0.length<=p1.length\/a3<=(a1.length:Int))/\(a2.length:Int)=a3/\byL a2) | .b2 a0 a1 a2 a3=>a0=p0/\a1=p1/\a0.length<=1000000/\0<=a3/\a3<(a0.length:Int)/\a3<(a1.length:Int)/\(a2.length:Int)=a3/\byL a2) (fun(p:Zf4)=>match p with | .b0 ..=>(1,0,0) | .b1 a0 _ _ a3=>(0,((a0.length:Int) - a3).toNat,1) | .b2 a0 _ _ a3=>(0,((a0.length:Int) - a3).toNat,0)) ?_ _ ?_,
  fun p0 p1 p2 h0=>Zl (fun(p:Z8X)=>match p with | .b0 a0 _ _=>Zo2 a0 | .b1 _ _ a2=>Zo2 a2) (fun(p:Z8X)=>match p with | .b0 ..=>(0,0,1) | .b1 ..=>(0,0,0)) ?_ _ ?_,
  fun p0=>Zl (fun(p:ZbG)=>True) (fun(p:ZbG)=>(0,0,0)) ?_ _ ?_⟩
 all_goals try (intro p hp;cases p)
 all_goals
  try dsimp only at hp
  try exact False.elim hp
  try have hx:=hp
  try dsimp only [Z0z,Z16,Z0l,Z6M,Z2c,Zg5,Z4s,Z3m] at hx
  try (repeat with_reducible (have hq:=And.left hp;replace hp:=And.right hp))
  try simp only [ZeO,Zrc,ZpF,Z6l,Zdo,Zhl,Zir,Zmy,ZmN,ZpX,ZhN,Zpr,Ziu,ZmJ]
  try dsimp only
  repeat' first|(refine Z0n ?_;dsimp only;try simp(disch:=omega) only [ZL,List.length_append,List.length_cons,List.length_nil,List.length_take,List.length_drop,List.length_set,List.length_replicate,List.nil_append,List.drop_zero])|(refine Z2a (fun h=>?_) (fun h=>?_)<;>(try simp only [decide_eq_true_eq,decide_eq_false_iff_not,Bool.not_eq_true',Bool.not_eq_false',Bool.not_eq_true,Bool.not_eq_false,beq_iff_eq,bne_iff_ne,beq_eq_false_iff_ne,bne_eq_false_iff_eq,ne_eq,reduceCtorEq,Bool.and_eq_true,Bool.or_eq_true,Classical.not_not] at h;try simp(disch:=omega) only [ZL] at h))|refine Z0s ?_ ?_|refine Z1o ?_|refine Znp ?_ fun v hv=>?_|with_reducible apply And.intro|rfl|assumption|exact True.intro|omega|exact decide_eq_true (Z1T _).1|exact Z0S (by assumption) (by omega)|exact Z0Z (by assumption) (by omega)|(refine Z1v.2 ?_;first|omega|grind)|(apply Zov;first|omega|(simp only [List.length_append,List.length_cons,List.length_nil,List.length_take,List.length_drop,List.length_set,List.length_replicate];omega))|(simp only [Bool.and_eq_true,Bool.or_eq_true,decide_eq_true_eq,beq_iff_eq,bne_iff_ne,beq_self_eq_true,and_self,and_true,true_and,List.length_map,List.length_append,List.length_cons,List.length_nil,List.length_take,List.length_drop,List.length_set,List.length_replicate,Z0e,maxLen_eq]<;>omega)|(simp(disch:=omega) only [ZL,decide_eq_true_eq,bne_iff_ne,ne_eq];(repeat' split)<;>omega)|(simp [Z0H,Z4A];done)|grind|(simp only [Bool.and_eq_true,Bool.or_eq_true,decide_eq_true_eq,beq_iff_eq,bne_iff_ne,beq_self_eq_true,and_self,and_true,true_and,List.length_map,List.length_append,List.length_cons,List.length_nil,List.length_take,List.length_drop,List.length_set,List.length_replicate,Z0e,maxLen_eq]<;>grind)|grind [Zb8]
def Zyj:=Zao.1
def ZxU:=Zao.2.1
def ZLO:=Zao.2.2.1
def Zmr:=Zao.2.2.2.1
def ZwF:=Zao.2.2.2.2.1
def ZE5:=Zao.2.2.2.2.2.1
def Zh7:=Zao.2.2.2.2.2.2.1
def ZGG:=Zao.2.2.2.2.2.2.2.1
def ZIh:=Zao.2.2.2.2.2.2.2.2.1
def Zpb:=Zao.2.2.2.2.2.2.2.2.2.1
def ZCJ:=Zao.2.2.2.2.2.2.2.2.2.2.1
def ZLu:=Zao.2.2.2.2.2.2.2.2.2.2.2.1
def ZBt:=Zao.2.2.2.2.2.2.2.2.2.2.2.2.1
def ZGK:=Zao.2.2.2.2.2.2.2.2.2.2.2.2.2
theorem ZaD:(∀(p0 p1:Int),∃r,Zlk p0 p1=some r/\True) /\
  (∀(p0:Int),∃r,Zih p0=some r/\True) /\
  (∀(p0:Int),∃r,Zms p0=some r/\True) /\
  (∀(p0:Zk) (p1:Bool),∃r,Z75 p0 p1=some r/\True) /\
  (∀(p0:List Zj) (p1:Int) (p2:Bool),p0.length<=37->∃r,Z3Q p0 p1 p2=some r/\r.length<=37) /\
  (∀(p0 p1:Int),∃r,ZfZ p0 p1=some r/\True) /\
  (∀(p0:Int),∃r,Z2y p0=some r/\True) /\
  (∀(p0 p1:Int),∃r,ZdY p0 p1=some r/\R16 r) /\
  (∀(p0:Z4),∃r,Z7m p0=some r/\r.Map=p0.Map/\r.ZQ=p0.ZQ) /\
  (∀(k:Int) (p0:Z9) (p1:Int),Z0z k p0->0<=k->k<=1000000->∃r,Ze1 p0 p1=some r/\Z0z k r.1/\r.2.length<=1) /\
  (∀(p0:Int),∃r,Z8F p0=some r/\True) /\
  (∀(p0:Z7) (p1:Z4),Z0l p0->Z1f p1->∃r,Zfs p0 p1=some r/\Z1f r) /\
  (∀(p0:Z7) (p1:Int),Z0l p0->∃r,ZhF p0 p1=some r/\True) /\
  (∀(p0:Int),∃r,ZaE p0=some r/\True):=by
 refine⟨fun p0 p1=>Zl (fun(p:ZbL)=>True) (fun(p:ZbL)=>(0,0,0)) ?_ _ ?_,
  fun p0=>Zl (fun(p:Z9r)=>True) (fun(p:Z9r)=>(0,0,0)) ?_ _ ?_,
  fun p0=>Zl (fun(p:Zca)=>True) (fun(p:Zca)=>(0,0,0)) ?_ _ ?_,
  fun p0 p1=>Zl (fun(p:Z7c)=>True) (fun(p:Z7c)=>(0,0,0)) ?_ _ ?_,
  fun p0 p1 p2 h0=>Zl (fun(p:Z7b)=>match p with | .b0 a0 _ _=>a0.length<=37 | .b1 a0 _ a2=>a2.length<=37/\0<=a0/\a0<(a2.length:Int) | .b2 a0 _ a2=>a2.length<=37/\0<=a0/\a0<(a2.length:Int) | .b3 a0 _ a2=>a2.length<=37/\0<=a0/\a0<(a2.length:Int) | .b4 a0 a1=>a1.length<=37/\0<=a0/\a0<(a1.length:Int)) (fun(p:Z7b)=>match p with | .b0 ..=>(0,0,4) | .b1 ..=>(0,0,3) | .b2 ..=>(0,0,2) | .b3 ..=>(0,0,1) | .b4 ..=>(0,0,0)) ?_ _ ?_,
  fun p0 p1=>Zl (fun(p:Zc3)=>True) (fun(p:Zc3)=>match p with | .b0 ..=>(0,0,1) | .b1 ..=>(0,0,0)) ?_ _ ?_,
  fun p0=>Zl (fun(p:Z9c)=>True) (fun(p:Z9c)=>(0,0,0)) ?_ _ ?_,
  fun p0 p1=>Zl (fun(p:Zfg)=>True) (fun(p:Zfg)=>(0,0,0)) ?_ _ ?_,
  fun p0=>Zl (fun(p:Z7e)=>match p with | .b0 a0=>a0=p0) (fun(p:Z7e)=>(0,0,0)) ?_ _ ?_,
  fun k p0 p1 h0 h1 h2=>Zl (fun(p:ZeE)=>match p with | .b0 a0 _=>Z0z k a0) (fun(p:ZeE)=>(0,0,0)) ?_ _ ?_,
  fun p0=>Zl (fun(p:Z43)=>True) (fun(p:Z43)=>match p with | .b0 ..=>(0,0,4) | .b1 ..=>(0,0,3) | .b2 ..=>(0,0,2) | .b3 ..=>(0,0,1) | .b4 ..=>(0,0,0)) ?_ _ ?_,
  fun p0 p1 h0 h1=>Zl (fun(p:Z6X)=>match p with | .b0 a0 a1=>Z0l a0/\Z1f a1 | .b1 a0 a1=>Z1f a0/\Z1f a1) (fun(p:Z6X)=>match p with | .b0 ..=>(0,0,1) | .b1 ..=>(0,0,0)) ?_ _ ?_,
  fun p0 p1 h0=>Zl (fun(p:Z9y)=>match p with | .b0 a0 _=>Z0l a0 | .b1 _ a1 a2=>Z0l a2/\0<=a1/\a1<=(a2.Zf.length:Int)) (fun(p:Z9y)=>match p with | .b0 ..=>(1,0,0) | .b1 _ a1 a2=>(0,((a2.Zf.length:Int) - a1).toNat,0)) ?_ _ ?_,
  fun p0=>Zl (fun(p:Z79)=>True) (fun(p:Z79)=>(0,0,0)) ?_ _ ?_⟩
 all_goals try (intro p hp;cases p)
 all_goals
  try dsimp only at hp
  try exact False.elim hp
  try have hx:=hp
  try dsimp only [Z0z,Z16,Z0l,Z6M,Z2c,Zg5,Z4s,Z3m] at hx
  try (repeat with_reducible (have hq:=And.left hp;replace hp:=And.right hp))
  try simp only [Zmf,ZhG,ZlU,Zai,Z3V,Z8w,Zdc,Zjx,Zed,ZqO,Z8U,ZeT,Zhj,Zfm]
  try dsimp only
  repeat' first|(refine Z0n ?_;dsimp only;try simp(disch:=omega) only [ZL,List.length_append,List.length_cons,List.length_nil,List.length_take,List.length_drop,List.length_set,List.length_replicate,List.nil_append,List.drop_zero])|(refine Z2a (fun h=>?_) (fun h=>?_)<;>(try simp only [decide_eq_true_eq,decide_eq_false_iff_not,Bool.not_eq_true',Bool.not_eq_false',Bool.not_eq_true,Bool.not_eq_false,beq_iff_eq,bne_iff_ne,beq_eq_false_iff_ne,bne_eq_false_iff_eq,ne_eq,reduceCtorEq,Bool.and_eq_true,Bool.or_eq_true,Classical.not_not] at h;try simp(disch:=omega) only [ZL] at h))|refine Z0s ?_ ?_|refine Z1o ?_|refine ZCx ?_ fun v hv=>?_|refine Zvr ?_ fun v hv=>?_|with_reducible apply And.intro|rfl|assumption|exact True.intro|omega|exact decide_eq_true (Z1T _).1|exact Z0S (by assumption) (by omega)|exact Z0Z (by assumption) (by omega)|(refine Z1v.2 ?_;first|omega|grind)|(apply Zov;first|omega|(simp only [List.length_append,List.length_cons,List.length_nil,List.length_take,List.length_drop,List.length_set,List.length_replicate];omega))|(simp only [Bool.and_eq_true,Bool.or_eq_true,decide_eq_true_eq,beq_iff_eq,bne_iff_ne,beq_self_eq_true,and_self,and_true,true_and,List.length_map,List.length_append,List.length_cons,List.length_nil,List.length_take,List.length_drop,List.length_set,List.length_replicate,Z0e,maxLen_eq]<;>omega)|(simp(disch:=omega) only [ZL,decide_eq_true_eq,bne_iff_ne,ne_eq];(repeat' split)<;>omega)|(simp [Z0H,Z4A];done)|grind|(simp only [Bool.and_eq_true,Bool.or_eq_true,decide_eq_true_eq,beq_iff_eq,bne_iff_ne,beq_self_eq_true,and_self,and_true,true_and,List.length_map,List.length_append,List.length_cons,List.length_nil,List.length_take,List.length_drop,List.length_set,List.length_replicate,Z0e,maxLen_eq]<;>grind)|grind [Zb8]
def ZFN:=ZaD.1
def ZBC:=ZaD.2.1
def ZHv:=ZaD.2.2.1
def ZwY:=ZaD.2.2.2.1
def Znd:=ZaD.2.2.2.2.1
def ZHU:=ZaD.2.2.2.2.2.1
def ZpL:=ZaD.2.2.2.2.2.2.1
def ZLG:=ZaD.2.2.2.2.2.2.2.1
def Zxt:=ZaD.2.2.2.2.2.2.2.2.1
def Zzf:=ZaD.2.2.2.2.2.2.2.2.2.1
def ZpJ:=ZaD.2.2.2.2.2.2.2.2.2.2.1
def ZAV:=ZaD.2.2.2.2.2.2.2.2.2.2.2.1
def ZBE:=ZaD.2.2.2.2.2.2.2.2.2.2.2.2.1
def ZzV:=ZaD.2.2.2.2.2.2.2.2.2.2.2.2.2
end Go.Proofs.YtjodhcdmhobmoaaGreatDoor
