/-
  A part of the proof.
-/
import Derived.Test.YtjodhcdmhobmoaaGreatDoorEUn
import Derived.Laws.BitsAllLaws
import Derived.Test.YtjodhcdmhobmoaaGreatDoorF3
set_option linter.unusedVariables false
set_option linter.unusedSimpArgs false
namespace Go.Proofs.YtjodhcdmhobmoaaGreatDoor
open Go Go.Proofs.YtjodhcdmhobmoaaGreatDoor.Le
def Tot {U:Z3Q} {L:Type}:Tr U L->(L->Prop)->Prop
 | .leaf l,Q=>Q l
 | .br c a b,Q=>(c=true->Tot a Q)/\(c=false->Tot b Q)
 | .bind _ o k,Q=>∃x,o=some x/\Tot (k x) Q
 | .chk c a,Q=>c=true/\Tot a Q
 | .fail,_=>False
theorem ZKy {U:Z3Q} {L R:Type} {J:L->Option R} {post:R->Prop}:∀{t:Tr U L},Tot t (fun l=>∃r,J l=some r/\post r)->∃r,t.den J=some r/\post r:=by
 intro t
 induction t with
 | leaf l=>intro h;exact h
 | br c a b iha ihb=>
  intro h
  cases c with
  | true=>exact iha (h.1 rfl)
  | false=>exact ihb (h.2 rfl)
 | bind t o k ih=>
  intro h
  obtain⟨x,hx,h⟩:=h
  obtain⟨r,h1,h2⟩:=ih x h
  exact⟨r,by rw [Tr.den,hx];exact h1,h2⟩
 | chk c a ih=>
  intro h
  obtain⟨r,h1,h2⟩:=ih h.2
  exact⟨r,by rw [Tr.den,h.1];exact h1,h2⟩
 | fail=>intro h;exact h.elim
theorem Tot.mono {U:Z3Q} {L:Type} {Q Q' : L->Prop} (hq:∀l,Q l->Q' l):∀{t:Tr U L},Tot t Q->Tot t Q' :=by
 intro t
 induction t with
 | leaf l=>exact hq l
 | br c a b iha ihb=>exact fun h=>⟨fun e=>iha (h.1 e),fun e=>ihb (h.2 e)⟩
 | bind t o k ih=>exact fun⟨x,hx,h⟩=>⟨x,hx,ih x h⟩
 | chk c a ih=>exact fun h=>⟨h.1,ih h.2⟩
 | fail=>exact fun h=>h
def Lt3 (a b:Nat×Nat×Nat):Prop:=a.1<b.1\/(a.1=b.1/\(a.2.1<b.2.1\/(a.2.1=b.2.1/\a.2.2<b.2.2)))
theorem lt3_wf:WellFounded Lt3:=by
 have key:∀x y z,Acc Lt3 (x,y,z):=by
  intro x
  induction x using Nat.strongRecOn with
  | _ x ihx=>
   intro y
   induction y using Nat.strongRecOn with
   | _ y ihy=>
    intro z
    induction z using Nat.strongRecOn with
    | _ z ihz=>
     refine Acc.intro _ fun q hq=>?_
     obtain⟨q1,q2,q3⟩:=q
     rcases hq with h|⟨h1,h|⟨h2,h⟩⟩
     ·exact ihx q1 h q2 q3
     ·simp only at h1 h
      subst h1
      exact ihy q2 h q3
     ·simp only at h1 h2 h
      subst h1
      subst h2
      exact ihz q3 h
 exact⟨fun⟨x,y,z⟩=>key x y z⟩
theorem ZM2 {a b c d e f:Nat} (h:a<d):Lt3 (a,b,c) (d,e,f):=.inl h
theorem ZM6 {a b c e f:Nat} (h:b<e):Lt3 (a,b,c) (a,e,f):=.inr ⟨rfl,.inl h⟩
theorem Z0N {a b c d e f:Nat}:Lt3 (a,b,c) (d,e,f)↔a<d\/(a=d/\(b<e\/(b=e/\c<f))):=Iff.rfl
theorem Zj {U:Z3Q} {P R:Type} {T:P->Tr U (R⊕P)} {post:R->Prop} (I:P->Prop) (μ:P->Nat×Nat×Nat)
  (h:∀p,I p->Tot (T p) (fun l=>match l with | .inl r=>post r | .inr q=>I q/\Lt3 (μ q) (μ p))) (p:P) (hp:I p):∃r,Z05 T p=some r/\post r:=by
 have key:∀x p,μ p=x->I p->∃r,Z05 T p=some r/\post r:=by
  intro x
  induction lt3_wf.apply x with
  | intro x _ ih=>
   intro p hx hI
   subst hx
   rw [Z2k]
   refine ZKy ((h p hI).mono fun l hl=>?_)
   cases l with
   | inl r=>exact⟨r,rfl,hl⟩
   | inr q=>exact ih _ hl.2 q rfl hl.1
 exact key _ p rfl hp
theorem ZKX {α:Type} {l:List α} {i:Int} {Q:α->Prop} (h:0<=i/\i<(l.length:Int)) (k:∀v,v∈l->Q v):∃v,l[Int.toNat i]? = some v/\Q v:=by
 have hi:i.toNat<l.length:=by omega
 exact⟨l[i.toNat],List.getElem?_eq_getElem hi,k _ (List.getElem_mem hi)⟩
theorem ZE {a:Int} (h : -9223372036854775808<=a) (h' : a<=9223372036854775807):w64 a=a:=by
 simp only [w64,IntKind.wrap,IntKind.signed,IntKind.bits]
 simp
 omega
theorem tm_bd (a:Int) (n:Nat) (h:0<n) : -(n:Int)<Int.tmod a n/\Int.tmod a n<n:=by
 have h1:=Int.tmod_lt_of_pos a (show (0:Int)<n by omega)
 have h2:=Int.tmod_lt_of_pos (-a) (show (0:Int)<n by omega)
 rw [Int.neg_tmod] at h2
 omega
theorem Z0J {U:Z3Q} {L:Type} {Q:L->Prop} (h:False):Tot (.fail:Tr U L) Q:=h
theorem Z01 {U:Z3Q} {L:Type} {l:L} {Q:L->Prop} (h:Q l):Tot (.leaf l:Tr U L) Q:=h
theorem Z1c {U:Z3Q} {L:Type} {c:Bool} {a b:Tr U L} {Q:L->Prop} (h:c=true->Tot a Q) (k:c=false->Tot b Q):Tot (.br c a b) Q:=⟨h,k⟩
theorem Z02 {U:Z3Q} {L:Type} {c:Bool} {a:Tr U L} {Q:L->Prop} (h:c=true) (k:Tot a Q):Tot (.chk c a) Q:=⟨h,k⟩
theorem Ze {U:Z3Q} {L:Type} {t:Nat} {o:Option (U.Ty t)} {k:U.Ty t->Tr U L} {Q:L->Prop} {post:U.Ty t->Prop} (h:∃v,o=some v/\post v) (g:∀v,o=some v->post v->Tot (k v) Q):Tot (.bind t o k) Q:=by
 obtain⟨v,h1,h2⟩:=h
 exact⟨v,h1,g v h1 h2⟩
theorem Z7P {U:Z3Q} {L:Type} {t:Nat} {l:List (U.Ty t)} {i:Int} {k:U.Ty t->Tr U L} {Q:L->Prop} (h:0<=i/\i<(l.length:Int)) (g:∀v,v∈l->Tot (k v) Q):Tot (.bind t (l[Int.toNat i]?) k) Q:=
 ZKX h g
theorem ZAe {U:Z3Q} {L:Type} {t:Nat} {o:Option (U.Ty t)} {a:U.Ty t} {k:U.Ty t->Tr U L} {Q:L->Prop} (h:o=some a) (g:Tot (k a) Q):Tot (.bind t o k) Q:=⟨a,h,g⟩
theorem Z00:lim=140737488355328:=rfl
theorem maxLen_eq:maxLen=9223372036854775807:=rfl
end Go.Proofs.YtjodhcdmhobmoaaGreatDoor
namespace Go.Proofs.YtjodhcdmhobmoaaGreatDoor
open Go Go.Proofs.YtjodhcdmhobmoaaGreatDoor.Le
def R8 (n:Int):Prop:=0<=n/\n<256
def R16 (n:Int):Prop:=0<=n/\n<65536
def R32 (n:Int):Prop:=0<=n/\n<4294967296
def R64 (n:Int):Prop:=0<=n/\n<18446744073709551616
def byL (l:List Int):Prop:=∀b∈l,R8 b
theorem ZJb (n:Int):R8 (IntKind.wrap .u8 n):=by unfold R8;rw [IntKind.wrap_u8];omega
theorem ZEv (n:Int):R16 (IntKind.wrap .u16 n):=by unfold R16;rw [IntKind.wrap_u16];omega
theorem ZGq (n:Int):R32 (IntKind.wrap .u32 n):=by unfold R32;rw [IntKind.wrap_u32];omega
theorem Z0X (n:Int):R64 (IntKind.wrap .u64 n):=by unfold R64;rw [IntKind.wrap_u64];omega
theorem ZMd (o:BinOp) (a b:Int):R8 (bits o .u8 a b):=ZJb _
theorem ZKw (o:BinOp) (a b:Int):R16 (bits o .u16 a b):=ZEv _
theorem ZK8 (o:BinOp) (a b:Int):R32 (bits o .u32 a b):=ZGq _
theorem ZJV (o:BinOp) (a b:Int):R64 (bits o .u64 a b):=Z0X _
theorem ZaO:R64 0:=by unfold R64;omega
theorem ZLm:R64 63:=by unfold R64;omega
theorem ZID:R16 0:=by unfold R16;omega
theorem ZJs:R32 0:=by unfold R32;omega
theorem ZGH:byL []:=fun _ h=>nomatch h
theorem ZJq (a b:List Int):byL (a++b)↔byL a/\byL b:=by simp only [byL,List.mem_append];exact⟨fun h=>⟨fun x hx=>h x (.inl hx),fun x hx=>h x (.inr hx)⟩,fun h x hx=>hx.elim (h.1 x) (h.2 x)⟩
theorem ZIa (a:Int) (b:List Int):byL (a::b)↔R8 a/\byL b:=by simp only [byL,List.mem_cons,forall_eq_or_imp]
theorem ZHt (n:Nat) (l:List Int) (h:byL l):byL (l.take n):=fun x hx=>h x (List.mem_of_mem_take hx)
theorem ZIh (n:Nat) (l:List Int) (h:byL l):byL (l.drop n):=fun x hx=>h x (List.mem_of_mem_drop hx)
theorem ZJz {l:List Int} (h:byL l) {x:Int} (hx:x∈l):R8 x:=h x hx
theorem ZB2 (xs:List Int):Le.bytesOf (xs.map (U.enc 5))=some (xs.map fun n=>UInt8.ofNat n.toNat):=by
 induction xs with
 | nil=>rfl
 | cons x xs ih=>
  rw [List.map_cons]
  show (match Le.byteOf (U.enc 5 x),Le.bytesOf (xs.map (U.enc 5)) with|some b,some bs=>some (b::bs)|_,_=>none)=_
  rw [ih]
  rfl
theorem Zkw (xs:List Int) (h:xs.length<=1000000):Z55 U 5 xs=true:=by
 unfold Z55
 rw [ZB2]
 exact decide_eq_true (by rw [List.length_map];exact Nat.le_trans (Nat.le_trans h (by decide)) (by decide:1000000000<=maxLen))
def Z0M (c:Z4):Prop:=R64 c.Map/\R16 c.Z0u/\R64 c.Z4h/\R64 c.Mark/\R64 c.ZQ
def ZDw (c:Z9):Prop:=R64 c.Map/\R16 c.Z0u
def ctL (l:List Z4):Prop:=∀c∈l,Z0M c
def Zfh (l:List Z9):Prop:=∀c∈l,ZDw c
def Z1m (p:Zb):Prop:=p.Payload.length<=65536/\byL p.Payload
def Z9Z (p:Zb):Prop:=1<=p.Z5c/\p.Z5c<=3/\1<=p.Payload.length/\p.Payload.length<=251/\byL p.Payload
def pkL (l:List Zb):Prop:=∀p∈l,Z9Z p
def Z7N (n:Int):Prop:=n=0\/n=1
theorem ZKL:Z7N 0:=.inl rfl
theorem ZKS:Z7N 1:=.inr rfl
theorem ZFX {n:Int} (h:Z7N n):Z7N (w64 (1 - n)):=by rcases h with rfl|rfl<;>first|exact .inr rfl|exact .inl rfl
def Z0z (a:Zr):Prop:=Z7N a.SN/\Z7N a.Z8Y/\a.ZP.length<=64/\pkL a.ZP/\(a.Open=true->a.Empty=false->0<a.ZP.length)
def Z03 (s:Z7):Prop:=s.Zl.length<=8/\s.Zy.length<=1/\ctL s.Zl/\Zfh s.Zy/\R64 s.ZQ/\R64 s.Z4h/\R64 s.ZkQ/\R64 s.Mark
def Zkc (s:Zv):Prop:=R64 s.Key/\R64 s.Z4h/\R64 s.Tx/\R64 s.Rx
def ZAv (p:ZG):Prop:=R32 p.ZfK/\R32 p.ZJ3/\R64 p.Map
def Z09 (k:Int) (l:Z8):Prop:=Z0z l.Arq/\Z03 l.Zi/\Zkc l.ZZ/\ZAv l.ZX/\(l.Zf.length:Int)<=k/\ctL l.Zf/\l.Zx.length<=37/\R16 l.Event/\R64 l.Key/\R64 l.Zc9/\Z7N l.Z1G
def Z2q (a:Z0K):Prop:=Z1m a.ZH/\a.ZH.Payload.length<=4096/\R64 a.Map/\R64 a.Number/\R64 a.Key
def acR (a:Z0K):Prop:=byL a.ZH.Payload/\R64 a.Map/\R64 a.Number/\R64 a.Key
def Zuz (e:Zn):Prop:=∀a∈e.ZJ7,acR a
theorem ZI5 {e:Zn} (h:Zuz e) {a:Z0K} (ha:a∈e.ZJ7):acR a:=h a ha
def Z3R (k:Int) (s:ZJ):Prop:=Z09 k s.x0/\Z09 k s.x1
theorem Z0g {a b:Int} {l:Z8} (h:Z09 a l) (hab:a<=b):Z09 b l:=⟨h.1,h.2.1,h.2.2.1,h.2.2.2.1,Int.le_trans h.2.2.2.2.1 hab,h.2.2.2.2.2⟩
theorem Z0s {a b:Int} {s:ZJ} (h:Z3R a s) (hab:a<=b):Z3R b s:=⟨Z0g h.1 hab,Z0g h.2 hab⟩
def evL (l:List Zn):Prop:=∀e∈l,Zuz e
theorem ZJw {l:List Zn} (h:evL l) {e:Zn} (he:e∈l):Zuz e:=h e he
def Z1V (x:ZT):Prop:=ZAv x.ZX/\R64 x.Keys.x0/\R64 x.Keys.x1/\evL x.Events
def ZoO (l:List Int):Prop:=∀x∈l,0<=x/\x<=36
theorem ZHO:ZoO []:=fun _ h=>nomatch h
theorem ZHV (a b:List Int):ZoO (a++b)↔ZoO a/\ZoO b:=by simp only [ZoO,List.mem_append];exact⟨fun h=>⟨fun x hx=>h x (.inl hx),fun x hx=>h x (.inr hx)⟩,fun h x hx=>hx.elim (h.1 x) (h.2 x)⟩
theorem ZG2 (a:Int) (b:List Int):ZoO (a::b)↔(0<=a/\a<=36)/\ZoO b:=by simp only [ZoO,List.mem_cons,forall_eq_or_imp]
theorem ZGi (n:Nat) (l:List Int) (h:ZoO l):ZoO (l.take n):=fun x hx=>h x (List.mem_of_mem_take hx)
theorem ZFv (n:Nat) (l:List Int) (h:ZoO l):ZoO (l.drop n):=fun x hx=>h x (List.mem_of_mem_drop hx)
theorem ZHX {l:List Int} (h:ZoO l) {x:Int} (hx:x∈l):0<=x/\x<=36:=h x hx
theorem Zz0:ctL []:=fun _ h=>nomatch h
theorem ZK6 (a b:List Z4):ctL (a++b)↔ctL a/\ctL b:=by simp only [ctL,List.mem_append];exact⟨fun h=>⟨fun x hx=>h x (.inl hx),fun x hx=>h x (.inr hx)⟩,fun h x hx=>hx.elim (h.1 x) (h.2 x)⟩
theorem ZHw (a:Z4) (b:List Z4):ctL (a::b)↔Z0M a/\ctL b:=by simp only [ctL,List.mem_cons,forall_eq_or_imp]
theorem ZHU (n:Nat) (l:List Z4) (h:ctL l):ctL (l.take n):=fun x hx=>h x (List.mem_of_mem_take hx)
theorem ZI2 (n:Nat) (l:List Z4) (h:ctL l):ctL (l.drop n):=fun x hx=>h x (List.mem_of_mem_drop hx)
theorem ZK1 {l:List Z4} (h:ctL l) {x:Z4} (hx:x∈l):Z0M x:=h x hx
theorem ZAA:Zfh []:=fun _ h=>nomatch h
theorem ZIu (a b:List Z9):Zfh (a++b)↔Zfh a/\Zfh b:=by simp only [Zfh,List.mem_append];exact⟨fun h=>⟨fun x hx=>h x (.inl hx),fun x hx=>h x (.inr hx)⟩,fun h x hx=>hx.elim (h.1 x) (h.2 x)⟩
theorem ZEt (a:Z9) (b:List Z9):Zfh (a::b)↔ZDw a/\Zfh b:=by simp only [Zfh,List.mem_cons,forall_eq_or_imp]
theorem ZHf {l:List Z9} (h:Zfh l) {x:Z9} (hx:x∈l):ZDw x:=h x hx
theorem ZFo:pkL []:=fun _ h=>nomatch h
theorem ZJP (a b:List Zb):pkL (a++b)↔pkL a/\pkL b:=by simp only [pkL,List.mem_append];exact⟨fun h=>⟨fun x hx=>h x (.inl hx),fun x hx=>h x (.inr hx)⟩,fun h x hx=>hx.elim (h.1 x) (h.2 x)⟩
theorem ZIj (a:Zb) (b:List Zb):pkL (a::b)↔Z9Z a/\pkL b:=by simp only [pkL,List.mem_cons,forall_eq_or_imp]
theorem ZIo (n:Nat) (l:List Zb) (h:pkL l):pkL (l.take n):=fun x hx=>h x (List.mem_of_mem_take hx)
theorem ZHC (n:Nat) (l:List Zb) (h:pkL l):pkL (l.drop n):=fun x hx=>h x (List.mem_of_mem_drop hx)
theorem ZJX {l:List Zb} (h:pkL l) {x:Zb} (hx:x∈l):Z9Z x:=h x hx
theorem ZFx:Z0z Zho:=⟨.inl rfl,.inl rfl,Nat.zero_le _,ZFo,fun h=>nomatch h⟩
theorem ZIO:Z03 ZmN:=⟨Nat.zero_le _,Nat.zero_le _,Zz0,ZAA,ZaO,ZaO,ZaO,ZaO⟩
theorem ZIM:Zkc Zt:=⟨ZaO,ZaO,ZaO,ZaO⟩
theorem ZIV:ZAv Zm:=⟨ZJs,ZJs,ZaO⟩
theorem ZKU:Z0M Z0b:=⟨ZaO,ZID,ZaO,ZaO,ZaO⟩
theorem ZLO:ZDw Z0I:=⟨ZaO,ZID⟩
theorem ZKZ (k:Int) (h:0<=k):Z09 k Z4e:=⟨ZFx,ZIO,ZIM,ZIV,h,Zz0,Nat.zero_le _,ZID,ZaO,ZaO,.inl rfl⟩
theorem ZL8:Z1m Z0D.ZH:=⟨Nat.zero_le _,ZGH⟩
def Z2M:List Zd:=[⟨true,true,false,true,false,false,false,false,false,false,false⟩,⟨true,false,true,true,false,false,false,false,false,false,false⟩,⟨true,false,false,false,true,false,false,false,false,false,false⟩,⟨true,false,false,false,false,false,true,true,false,false,false⟩,⟨true,false,false,false,false,false,true,false,false,false,false⟩,⟨true,false,false,false,false,false,false,false,false,false,false⟩,⟨true,false,false,false,false,true,false,false,false,false,false⟩,⟨true,false,false,false,false,false,false,false,true,false,false⟩,⟨true,false,false,false,false,false,false,false,false,true,false⟩,⟨true,false,false,false,true,true,false,false,false,false,false⟩,⟨true,true,false,false,false,false,false,false,false,false,false⟩,⟨true,false,false,false,false,false,false,false,false,false,true⟩,⟨false,false,false,false,false,false,false,false,false,false,false⟩]
def Z0d (u:Zd):Prop:=u∈Z2M
def szU (u:Zd):Int:=1+cond u.ZI 9 0+cond u.Map 5 0+cond u.Z0u 2 0+cond (u.ZL||u.Version||u.Length) 1 0+cond u.Z0C 1 0+cond (u.Z4h||u.ZQ) 8 0+cond u.Mark 8 0
attribute [grind] Z09 Z0z Z03 Zkc ZAv Z0M ZDw Z2q acR Z3R Z1V Z1m Z9Z
attribute [grind .] ZKL ZKS ZJb ZEv ZGq Z0X ZMd ZKw ZK8 ZJV ZFx ZIO ZIM ZIV ZKU ZLO ZKZ ZL8 ZaO ZLm ZID ZJs ZGH ZHt ZIh ZHO ZGi ZFv Zz0 ZHU ZI2 ZAA ZFo ZIo ZHC
attribute [grind =] ZJq ZIa List.length_take List.length_drop ZHV ZG2 ZK6 ZHw ZIu ZEt ZJP ZIj
attribute [grind ->] ZFX ZI5 ZJw ZJz ZHX ZK1 ZHf ZJX
end Go.Proofs.YtjodhcdmhobmoaaGreatDoor
namespace Go.Proofs.YtjodhcdmhobmoaaGreatDoor
open Go Go.Proofs.YtjodhcdmhobmoaaGreatDoor.Le
set_option linter.defProp false
set_option maxRecDepth 100000
set_option maxHeartbeats 40000000
theorem ZGM {L:Type} {l:List (Zb)} {i:Int} {k:Zb->Tr U L} {Q:L->Prop} (h:0<=i/\i<(l.length:Int)) (g:∀v:Zb,v∈l->Tot (k v) Q):Tot (Tr.bind (U:=U) 68 (l[Int.toNat i]? : Option (Zb)) k) Q:=Z7P (U:=U) (t:=68) h g
theorem Zqb {L:Type} {l:List (Z4)} {i:Int} {k:Z4->Tr U L} {Q:L->Prop} (h:0<=i/\i<(l.length:Int)) (g:∀v:Z4,v∈l->Tot (k v) Q):Tot (Tr.bind (U:=U) 156 (l[Int.toNat i]? : Option (Z4)) k) Q:=Z7P (U:=U) (t:=156) h g
theorem ZrM {L:Type} {l:List (Z9)} {i:Int} {k:Z9->Tr U L} {Q:L->Prop} (h:0<=i/\i<(l.length:Int)) (g:∀v:Z9,v∈l->Tot (k v) Q):Tot (Tr.bind (U:=U) 138 (l[Int.toNat i]? : Option (Z9)) k) Q:=Z7P (U:=U) (t:=138) h g
theorem ZzC {L:Type} {l:List (Zg)} {i:Int} {k:Zg->Tr U L} {Q:L->Prop} (h:0<=i/\i<(l.length:Int)) (g:∀v:Zg,v∈l->Tot (k v) Q):Tot (Tr.bind (U:=U) 99 (l[Int.toNat i]? : Option (Zg)) k) Q:=Z7P (U:=U) (t:=99) h g
theorem ZIU {L:Type} {l:List (Int)} {i:Int} {k:Int->Tr U L} {Q:L->Prop} (h:0<=i/\i<(l.length:Int)) (g:∀v:Int,v∈l->Tot (k v) Q):Tot (Tr.bind (U:=U) 3 (l[Int.toNat i]? : Option (Int)) k) Q:=Z7P (U:=U) (t:=3) h g
theorem ZjN {L:Type} {l:List (Int)} {i:Int} {k:Int->Tr U L} {Q:L->Prop} (h:0<=i/\i<(l.length:Int)) (g:∀v:Int,v∈l->Tot (k v) Q):Tot (Tr.bind (U:=U) 5 (l[Int.toNat i]? : Option (Int)) k) Q:=Z7P (U:=U) (t:=5) h g
theorem ZJN {L:Type} {l:List (Int)} {i:Int} {k:Int->Tr U L} {Q:L->Prop} (h:0<=i/\i<(l.length:Int)) (g:∀v:Int,v∈l->Tot (k v) Q):Tot (Tr.bind (U:=U) 25 (l[Int.toNat i]? : Option (Int)) k) Q:=Z7P (U:=U) (t:=25) h g
theorem ZAc {L:Type} {l:List (Z5)} {i:Int} {k:Z5->Tr U L} {Q:L->Prop} (h:0<=i/\i<(l.length:Int)) (g:∀v:Z5,v∈l->Tot (k v) Q):Tot (Tr.bind (U:=U) 148 (l[Int.toNat i]? : Option (Z5)) k) Q:=Z7P (U:=U) (t:=148) h g
theorem ZKl {L:Type} {l:List (Z0K)} {i:Int} {k:Z0K->Tr U L} {Q:L->Prop} (h:0<=i/\i<(l.length:Int)) (g:∀v:Z0K,v∈l->Tot (k v) Q):Tot (Tr.bind (U:=U) 83 (l[Int.toNat i]? : Option (Z0K)) k) Q:=Z7P (U:=U) (t:=83) h g
theorem ZHG {L:Type} {l:List (Zn)} {i:Int} {k:Zn->Tr U L} {Q:L->Prop} (h:0<=i/\i<(l.length:Int)) (g:∀v:Zn,v∈l->Tot (k v) Q):Tot (Tr.bind (U:=U) 113 (l[Int.toNat i]? : Option (Zn)) k) Q:=Z7P (U:=U) (t:=113) h g
theorem Z7g:(∀(p0 p1 p2:Int),∃r,Z1A p0 p1 p2=some r/\True) /\
  (∀(p0 p1 p2:Int),∃r,Z2E p0 p1 p2=some r/\True) /\
  (∃r,ZkV=some r/\(r=Zho)) /\
  (∀(p0:Int),∃r,Zg5 p0=some r/\True) /\
  (∀(p0 p1 p2:Int),R64 p1->∃r,Zl8 p0 p1 p2=some r/\Z03 r) /\
  (∃r,Zey=some r/\(r.length<=37)) /\
  (∀(p0:Zo) (p1:Bool),∃r,ZbV p0 p1=some r/\True) /\
  (∀(p0:Zr),Z0z p0->∃r,Zin p0=some r/\True) /\
  (∀(p0:Int),∃r,Z4k p0=some r/\True) /\
  (∀(p0:Int),∃r,Z8W p0=some r/\True) /\
  (∀(p0 p1:Int),∃r,ZhA p0 p1=some r/\True) /\
  (∀(p0:Z7),Z03 p0->∃r,Z9j p0=some r/\True) /\
  (∀(p0:Int),∃r,Z9k p0=some r/\True) /\
  (∀(p0:Int),∃r,Z06 p0=some r/\Z0d r):=by
 refine⟨fun p0 p1 p2=>Zj (fun(p:Z4A)=>True) (fun(p:Z4A)=>(0,0,0)) ?_ _ ?_,
  fun p0 p1 p2=>Zj (fun(p:Z3s)=>True) (fun(p:Z3s)=>(0,0,0)) ?_ _ ?_,
  Zj (fun(p:Zbs)=>True) (fun(p:Zbs)=>(0,0,0)) ?_ _ ?_,
  fun p0=>Zj (fun(p:Zbu)=>True) (fun(p:Zbu)=>(0,0,0)) ?_ _ ?_,
  fun p0 p1 p2 h0=>Zj (fun(p:Zah)=>match p with | .b0 _ a1 _=>R64 a1) (fun(p:Zah)=>(0,0,0)) ?_ _ ?_,
  Zj (fun(p:Z75)=>True) (fun(p:Z75)=>(0,0,0)) ?_ _ ?_,
  fun p0 p1=>Zj (fun(p:Z84)=>True) (fun(p:Z84)=>(0,0,0)) ?_ _ ?_,
  fun p0 h0=>Zj (fun(p:Z8q)=>match p with | .b0 a0=>Z0z a0) (fun(p:Z8q)=>(0,0,0)) ?_ _ ?_,
  fun p0=>Zj (fun(p:Z2Y)=>match p with | .b0 ..=>True | .b1 _ _ a2=>0<=a2/\a2<=8) (fun(p:Z2Y)=>match p with | .b0 ..=>(1,0,0) | .b1 _ _ a2=>(0,(8 - a2).toNat,0)) ?_ _ ?_,
  fun p0=>Zj (fun(p:Z6J)=>True) (fun(p:Z6J)=>(0,0,0)) ?_ _ ?_,
  fun p0 p1=>Zj (fun(p:Z8D)=>True) (fun(p:Z8D)=>(0,0,0)) ?_ _ ?_,
  fun p0 h0=>Zj (fun(p:Z6v)=>match p with | .b0 a0=>Z03 a0) (fun(p:Z6v)=>(0,0,0)) ?_ _ ?_,
  fun p0=>Zj (fun(p:Z3o)=>True) (fun(p:Z3o)=>(0,0,0)) ?_ _ ?_,
  fun p0=>Zj (fun(p:Z4s)=>True) (fun(p:Z4s)=>match p with | .b0 ..=>(0,0,3) | .b2 ..=>(0,0,2) | .b4 ..=>(0,0,1)|_=>(0,0,0)) ?_ _ ?_⟩
 all_goals try (intro p hp;cases p)
 all_goals
  try dsimp only at hp
  try exact False.elim hp
  try have hx:=hp
  try dsimp only [Z09,Z0z,Z03,Z3R,Z1m,Z9Z,Z2q,Z1V] at hx
  try (repeat with_reducible (have hq:=And.left hp;replace hp:=And.right hp))
  try simp only [Zb0,Z9b,ZmV,Zmu,Zm6,ZdI,Ziz,ZhK,Z7O,Ze4,ZhI,ZeU,Z8O,Zbk]
  try dsimp only
  repeat' first|(refine Z01 ?_;dsimp only;try simp(disch:=omega) only [ZE,List.length_append,List.length_cons,List.length_nil,List.length_take,List.length_drop,List.length_set,List.length_replicate,List.nil_append,List.drop_zero])|(refine Z1c (fun h=>?_) (fun h=>?_)<;>(try simp only [decide_eq_true_eq,decide_eq_false_iff_not,Bool.not_eq_true',Bool.not_eq_false',Bool.not_eq_true,Bool.not_eq_false,beq_iff_eq,bne_iff_ne,beq_eq_false_iff_ne,bne_eq_false_iff_eq,ne_eq,reduceCtorEq,Bool.and_eq_true,Bool.or_eq_true,Classical.not_not] at h;try simp(disch:=omega) only [ZE] at h))|refine Z02 ?_ ?_|refine Z0J ?_|with_reducible apply And.intro|rfl|assumption|exact True.intro|omega|exact decide_eq_true (Z0X _).1|exact Z0g (by assumption) (by omega)|exact Z0s (by assumption) (by omega)|(refine Z0N.2 ?_;first|omega|grind)|(apply Zkw;first|omega|(simp only [List.length_append,List.length_cons,List.length_nil,List.length_take,List.length_drop,List.length_set,List.length_replicate];omega))|(simp only [Bool.and_eq_true,Bool.or_eq_true,decide_eq_true_eq,beq_iff_eq,bne_iff_ne,beq_self_eq_true,and_self,and_true,true_and,List.length_map,List.length_append,List.length_cons,List.length_nil,List.length_take,List.length_drop,List.length_set,List.length_replicate,Z00,maxLen_eq]<;>omega)|(simp(disch:=omega) only [ZE,decide_eq_true_eq,bne_iff_ne,ne_eq];(repeat' split)<;>omega)|(simp [Z0d,Z2M];done)|grind|(simp only [Bool.and_eq_true,Bool.or_eq_true,decide_eq_true_eq,beq_iff_eq,bne_iff_ne,beq_self_eq_true,and_self,and_true,true_and,List.length_map,List.length_append,List.length_cons,List.length_nil,List.length_take,List.length_drop,List.length_set,List.length_replicate,Z00,maxLen_eq]<;>grind)|grind [Z7N]
def ZjZ:=Z7g.1
def Zf5:=Z7g.2.1
def ZEN:=Z7g.2.2.1
def ZtY:=Z7g.2.2.2.1
def ZH1:=Z7g.2.2.2.2.1
def ZA0:=Z7g.2.2.2.2.2.1
def ZpT:=Z7g.2.2.2.2.2.2.1
def ZBL:=Z7g.2.2.2.2.2.2.2.1
def Zon:=Z7g.2.2.2.2.2.2.2.2.1
def Zl1:=Z7g.2.2.2.2.2.2.2.2.2.1
def ZBE:=Z7g.2.2.2.2.2.2.2.2.2.2.1
def Zlg:=Z7g.2.2.2.2.2.2.2.2.2.2.2.1
def ZpW:=Z7g.2.2.2.2.2.2.2.2.2.2.2.2.1
def Z4Y:=Z7g.2.2.2.2.2.2.2.2.2.2.2.2.2
end Go.Proofs.YtjodhcdmhobmoaaGreatDoor
namespace Go.Proofs.YtjodhcdmhobmoaaGreatDoor
open Go Go.Proofs.YtjodhcdmhobmoaaGreatDoor.Le
set_option linter.defProp false
set_option maxRecDepth 100000
set_option maxHeartbeats 40000000
theorem Z7H:(∀(p0:Int),∃r,Z4J p0=some r/\True) /\
  (∀(p0 p1:Int),0<=p1->p1<=8->∃r,Z2g p0 p1=some r/\(r.q0.length:Int)=p1/\byL r.q0) /\
  (∀(p0:Int),∃r,Zak p0=some r/\((r=true->Z7N p0))) /\
  (∀(p0:Zb),∃r,Z4a p0=some r/\((r=0->1<=p0.Z5c/\p0.Z5c<=3/\(1<=p0.Payload.length\/p0.Z5c=1)/\p0.Payload.length<=255))) /\
  (∀(p0:Zb),∃r,Z5N p0=some r/\((r=false->p0.Z5c=1->1<=p0.Payload.length))) /\
  (∃r,Zdi=some r/\(r=⟨1,[]⟩)) /\
  (∀(p0:Zb),∃r,Z4g p0=some r/\((r=false->p0.Z5c=1->1<=p0.Payload.length))) /\
  (∀(p0:Zk) (p1:List Int),∃r,Zc8 p0 p1=some r/\r = { p0 with ZH:={ p0.ZH with Payload:=p1 } }) /\
  (∀(p0 p1:Int),0<=p1->p1<=32->∃r,ZbZ p0 p1=some r/\True) /\
  (∀(p0 p1:Int),0<=p0->p0<=8->∃r,Z6y p0 p1=some r/\(r.q0.length:Int)=p0/\byL r.q0) /\
  (∀(p0:List Int),p0.length<=1000000->∃r,ZdU p0=some r/\R64 r) /\
  (∀(p0 p1:List Int),p0.length<=1000000->∃r,Zfb p0 p1=some r/\(r.q0.length<=p0.length/\byL r.q0/\(p0.length<=p1.length->r.q0.length=p0.length))) /\
  (∀(p0:Zv) (p1 p2:Int),Zkc p0->∃r,Z9g p0 p1 p2=some r/\R64 r) /\
  (∀(p0:Int),∃r,ZbR p0=some r/\r.length=3/\byL r):=by
 refine⟨fun p0=>Zj (fun(p:Z4y)=>True) (fun(p:Z4y)=>(0,0,0)) ?_ _ ?_,
  fun p0 p1 h0 h1=>Zj (fun(p:ZaH)=>match p with | .b0 _ a1=>a1=p1/\0<=a1/\a1<=8 | .b1 _ a1 a2 a3=>a1=p1/\0<=a1/\a1<=8/\0<=a3/\a3<=a1/\(a2.length:Int)=a3/\byL a2) (fun(p:ZaH)=>match p with | .b0 ..=>(1,0,0) | .b1 _ a1 _ a3=>(0,(a1 - a3).toNat,0)) ?_ _ ?_,
  fun p0=>Zj (fun(p:ZaR)=>match p with | .b0 a0=>a0=p0) (fun(p:ZaR)=>(0,0,0)) ?_ _ ?_,
  fun p0=>Zj (fun(p:Z1N)=>match p with | .b0 a0=>a0=p0 | .b1 a0=>a0=p0/\1<=a0.Z5c/\a0.Z5c<=3 | .b2 a0=>(a0=p0/\1<=a0.Z5c/\a0.Z5c<=3/\(1<=a0.Payload.length\/a0.Z5c=1))) (fun(p:Z1N)=>match p with | .b0 ..=>(0,0,2) | .b1 ..=>(0,0,1) | .b2 ..=>(0,0,0)) ?_ _ ?_,
  fun p0=>Zj (fun(p:Z3A)=>match p with | .b0 a0=>a0=p0) (fun(p:Z3A)=>(0,0,0)) ?_ _ ?_,
  Zj (fun(p:Z7a)=>True) (fun(p:Z7a)=>(0,0,0)) ?_ _ ?_,
  fun p0=>Zj (fun(p:Z6d)=>match p with | .b0 a0=>a0=p0) (fun(p:Z6d)=>(0,0,0)) ?_ _ ?_,
  fun p0 p1=>Zj (fun(p:Z8r)=>match p with | .b0 a0 a1=>a0=p0/\a1=p1) (fun(p:Z8r)=>(0,0,0)) ?_ _ ?_,
  fun p0 p1 h0 h1=>Zj (fun(p:Z80)=>match p with | .b0 _ a1=>0<=a1/\a1<=32) (fun(p:Z80)=>(0,0,0)) ?_ _ ?_,
  fun p0 p1 h0 h1=>Zj (fun(p:Zbh)=>match p with | .b0 a0 _=>a0=p0/\0<=a0/\a0<=8 | .b1 a0 _ a2 a3=>a0=p0/\0<=a0/\a0<=8/\0<=a3/\a3<=a0/\(a2.length:Int)=a3/\byL a2) (fun(p:Zbh)=>match p with | .b0 ..=>(1,0,0) | .b1 a0 _ _ a3=>(0,(a0 - a3).toNat,0)) ?_ _ ?_,
  fun p0 h0=>Zj (fun(p:Z6L)=>match p with | .b0 a0=>a0.length<=1000000 | .b1 a0 a1 a2=>-1<=a2/\a2<(a0.length:Int)/\a0.length<=1000000/\R64 a1) (fun(p:Z6L)=>match p with | .b0 ..=>(1,0,0) | .b1 _ _ a2=>(0,(a2+1).toNat,0)) ?_ _ ?_,
  fun p0 p1 h0=>Zj (fun(p:Za4)=>match p with | .b0 a0 a1=>a0=p0/\a1=p1 | .b1 a0 a1 a2 a3=>(a0=p0/\a1=p1/\a0.length<=1000000/\0<=a3/\a3<=(a0.length:Int)/\(p0.length<=p1.length\/a3<=(a1.length:Int))/\(a2.length:Int)=a3/\byL a2) | .b2 a0 a1 a2 a3=>a0=p0/\a1=p1/\a0.length<=1000000/\0<=a3/\a3<(a0.length:Int)/\a3<(a1.length:Int)/\(a2.length:Int)=a3/\byL a2) (fun(p:Za4)=>match p with | .b0 ..=>(1,0,0) | .b1 a0 _ _ a3=>(0,((a0.length:Int) - a3).toNat,1) | .b2 a0 _ _ a3=>(0,((a0.length:Int) - a3).toNat,0)) ?_ _ ?_,
  fun p0 p1 p2 h0=>Zj (fun(p:Z6I)=>match p with | .b0 a0 _ _=>Zkc a0 | .b1 _ _ a2=>Zkc a2) (fun(p:Z6I)=>match p with | .b0 ..=>(0,0,1) | .b1 ..=>(0,0,0)) ?_ _ ?_,
  fun p0=>Zj (fun(p:Z8y)=>True) (fun(p:Z8y)=>(0,0,0)) ?_ _ ?_⟩
 all_goals try (intro p hp;cases p)
 all_goals
  try dsimp only at hp
  try exact False.elim hp
  try have hx:=hp
  try dsimp only [Z09,Z0z,Z03,Z3R,Z1m,Z9Z,Z2q,Z1V] at hx
  try (repeat with_reducible (have hq:=And.left hp;replace hp:=And.right hp))
  try simp only [Zad,Zlu,Zle,Z3Y,Z9t,Zdt,ZeF,Zi1,ZiW,Zm2,ZeG,ZlJ,ZdY,Zia]
  try dsimp only
  repeat' first|(refine Z01 ?_;dsimp only;try simp(disch:=omega) only [ZE,List.length_append,List.length_cons,List.length_nil,List.length_take,List.length_drop,List.length_set,List.length_replicate,List.nil_append,List.drop_zero])|(refine Z1c (fun h=>?_) (fun h=>?_)<;>(try simp only [decide_eq_true_eq,decide_eq_false_iff_not,Bool.not_eq_true',Bool.not_eq_false',Bool.not_eq_true,Bool.not_eq_false,beq_iff_eq,bne_iff_ne,beq_eq_false_iff_ne,bne_eq_false_iff_eq,ne_eq,reduceCtorEq,Bool.and_eq_true,Bool.or_eq_true,Classical.not_not] at h;try simp(disch:=omega) only [ZE] at h))|refine Z02 ?_ ?_|refine Z0J ?_|refine ZjN ?_ fun v hv=>?_|with_reducible apply And.intro|rfl|assumption|exact True.intro|omega|exact decide_eq_true (Z0X _).1|exact Z0g (by assumption) (by omega)|exact Z0s (by assumption) (by omega)|(refine Z0N.2 ?_;first|omega|grind)|(apply Zkw;first|omega|(simp only [List.length_append,List.length_cons,List.length_nil,List.length_take,List.length_drop,List.length_set,List.length_replicate];omega))|(simp only [Bool.and_eq_true,Bool.or_eq_true,decide_eq_true_eq,beq_iff_eq,bne_iff_ne,beq_self_eq_true,and_self,and_true,true_and,List.length_map,List.length_append,List.length_cons,List.length_nil,List.length_take,List.length_drop,List.length_set,List.length_replicate,Z00,maxLen_eq]<;>omega)|(simp(disch:=omega) only [ZE,decide_eq_true_eq,bne_iff_ne,ne_eq];(repeat' split)<;>omega)|(simp [Z0d,Z2M];done)|grind|(simp only [Bool.and_eq_true,Bool.or_eq_true,decide_eq_true_eq,beq_iff_eq,bne_iff_ne,beq_self_eq_true,and_self,and_true,true_and,List.length_map,List.length_append,List.length_cons,List.length_nil,List.length_take,List.length_drop,List.length_set,List.length_replicate,Z00,maxLen_eq]<;>grind)|grind [Z7N]
def Zvb:=Z7H.1
def ZtS:=Z7H.2.1
def ZFJ:=Z7H.2.2.1
def Zix:=Z7H.2.2.2.1
def Zr1:=Z7H.2.2.2.2.1
def ZyT:=Z7H.2.2.2.2.2.1
def ZeC:=Z7H.2.2.2.2.2.2.1
def ZDm:=Z7H.2.2.2.2.2.2.2.1
def ZDo:=Z7H.2.2.2.2.2.2.2.2.1
def Zn1:=Z7H.2.2.2.2.2.2.2.2.2.1
def ZxK:=Z7H.2.2.2.2.2.2.2.2.2.2.1
def ZFQ:=Z7H.2.2.2.2.2.2.2.2.2.2.2.1
def Zzs:=Z7H.2.2.2.2.2.2.2.2.2.2.2.2.1
def ZBw:=Z7H.2.2.2.2.2.2.2.2.2.2.2.2.2
end Go.Proofs.YtjodhcdmhobmoaaGreatDoor
namespace Go.Proofs.YtjodhcdmhobmoaaGreatDoor
open Go Go.Proofs.YtjodhcdmhobmoaaGreatDoor.Le
set_option linter.defProp false
set_option maxRecDepth 100000
set_option maxHeartbeats 40000000
theorem Z7q:(∀(p0 p1:Int),∃r,ZhH p0 p1=some r/\True) /\
  (∀(p0:Int),∃r,Ze1 p0=some r/\True) /\
  (∀(p0:Int),∃r,Zih p0=some r/\True) /\
  (∀(p0:Zo) (p1:Bool),∃r,Zaf p0 p1=some r/\True) /\
  (∀(p0:List Zg) (p1:Int) (p2:Bool),p0.length<=37->∃r,Z4B p0 p1 p2=some r/\r.length<=37) /\
  (∀(p0 p1:Int),∃r,ZiQ p0 p1=some r/\True) /\
  (∀(p0:Int),∃r,Z2A p0=some r/\True) /\
  (∀(p0 p1:Int),∃r,Zfi p0 p1=some r/\R16 r) /\
  (∀(p0:Z4),∃r,Z7s p0=some r/\r.Map=p0.Map/\r.Z0u=p0.Z0u) /\
  (∀(k:Int) (p0:Z8) (p1:Int),Z09 k p0->0<=k->k<=1000000->∃r,ZfE p0 p1=some r/\Z09 k r.1/\r.2.length<=1) /\
  (∀(p0:Int),∃r,Z5W p0=some r/\True) /\
  (∀(p0:Z7) (p1:Z4),Z03 p0->Z0M p1->∃r,ZbH p0 p1=some r/\Z0M r) /\
  (∀(p0:Z7) (p1:Int),Z03 p0->∃r,ZeB p0 p1=some r/\True) /\
  (∀(p0:Int),∃r,Z7y p0=some r/\True):=by
 refine⟨fun p0 p1=>Zj (fun(p:Z85)=>True) (fun(p:Z85)=>(0,0,0)) ?_ _ ?_,
  fun p0=>Zj (fun(p:Z66)=>True) (fun(p:Z66)=>(0,0,0)) ?_ _ ?_,
  fun p0=>Zj (fun(p:Z8F)=>True) (fun(p:Z8F)=>(0,0,0)) ?_ _ ?_,
  fun p0 p1=>Zj (fun(p:Z51)=>True) (fun(p:Z51)=>(0,0,0)) ?_ _ ?_,
  fun p0 p1 p2 h0=>Zj (fun(p:Z4M)=>match p with | .b0 a0 _ _=>a0.length<=37 | .b1 a0 _ a2=>a2.length<=37/\0<=a0/\a0<(a2.length:Int) | .b2 a0 _ a2=>a2.length<=37/\0<=a0/\a0<(a2.length:Int) | .b3 a0 _ a2=>a2.length<=37/\0<=a0/\a0<(a2.length:Int) | .b4 a0 a1=>a1.length<=37/\0<=a0/\a0<(a1.length:Int)) (fun(p:Z4M)=>match p with | .b0 ..=>(0,0,4) | .b1 ..=>(0,0,3) | .b2 ..=>(0,0,2) | .b3 ..=>(0,0,1) | .b4 ..=>(0,0,0)) ?_ _ ?_,
  fun p0 p1=>Zj (fun(p:Z8J)=>True) (fun(p:Z8J)=>match p with | .b0 ..=>(0,0,1) | .b1 ..=>(0,0,0)) ?_ _ ?_,
  fun p0=>Zj (fun(p:Z6r)=>True) (fun(p:Z6r)=>(0,0,0)) ?_ _ ?_,
  fun p0 p1=>Zj (fun(p:Zb1)=>True) (fun(p:Zb1)=>(0,0,0)) ?_ _ ?_,
  fun p0=>Zj (fun(p:Z4z)=>match p with | .b0 a0=>a0=p0) (fun(p:Z4z)=>(0,0,0)) ?_ _ ?_,
  fun k p0 p1 h0 h1 h2=>Zj (fun(p:ZaU)=>match p with | .b0 a0 _=>Z09 k a0) (fun(p:ZaU)=>(0,0,0)) ?_ _ ?_,
  fun p0=>Zj (fun(p:Z2t)=>True) (fun(p:Z2t)=>match p with | .b0 ..=>(0,0,4) | .b1 ..=>(0,0,3) | .b2 ..=>(0,0,2) | .b3 ..=>(0,0,1) | .b4 ..=>(0,0,0)) ?_ _ ?_,
  fun p0 p1 h0 h1=>Zj (fun(p:Z4u)=>match p with | .b0 a0 a1=>Z03 a0/\Z0M a1 | .b1 a0 a1=>Z0M a0/\Z0M a1) (fun(p:Z4u)=>match p with | .b0 ..=>(0,0,1) | .b1 ..=>(0,0,0)) ?_ _ ?_,
  fun p0 p1 h0=>Zj (fun(p:Z6q)=>match p with | .b0 a0 _=>Z03 a0 | .b1 _ a1 a2=>Z03 a2/\0<=a1/\a1<=(a2.Zl.length:Int)) (fun(p:Z6q)=>match p with | .b0 ..=>(1,0,0) | .b1 _ a1 a2=>(0,((a2.Zl.length:Int) - a1).toNat,0)) ?_ _ ?_,
  fun p0=>Zj (fun(p:Z4x)=>True) (fun(p:Z4x)=>(0,0,0)) ?_ _ ?_⟩
 all_goals try (intro p hp;cases p)
 all_goals
  try dsimp only at hp
  try exact False.elim hp
  try have hx:=hp
  try dsimp only [Z09,Z0z,Z03,Z3R,Z1m,Z9Z,Z2q,Z1V] at hx
  try (repeat with_reducible (have hq:=And.left hp;replace hp:=And.right hp))
  try simp only [ZhZ,ZdE,ZiI,Za2,Za8,ZiF,Zeq,ZmL,ZaI,Znz,Z74,Zbm,ZdK,ZbE]
  try dsimp only
  repeat' first|(refine Z01 ?_;dsimp only;try simp(disch:=omega) only [ZE,List.length_append,List.length_cons,List.length_nil,List.length_take,List.length_drop,List.length_set,List.length_replicate,List.nil_append,List.drop_zero])|(refine Z1c (fun h=>?_) (fun h=>?_)<;>(try simp only [decide_eq_true_eq,decide_eq_false_iff_not,Bool.not_eq_true',Bool.not_eq_false',Bool.not_eq_true,Bool.not_eq_false,beq_iff_eq,bne_iff_ne,beq_eq_false_iff_ne,bne_eq_false_iff_eq,ne_eq,reduceCtorEq,Bool.and_eq_true,Bool.or_eq_true,Classical.not_not] at h;try simp(disch:=omega) only [ZE] at h))|refine Z02 ?_ ?_|refine Z0J ?_|refine ZzC ?_ fun v hv=>?_|refine Zqb ?_ fun v hv=>?_|with_reducible apply And.intro|rfl|assumption|exact True.intro|omega|exact decide_eq_true (Z0X _).1|exact Z0g (by assumption) (by omega)|exact Z0s (by assumption) (by omega)|(refine Z0N.2 ?_;first|omega|grind)|(apply Zkw;first|omega|(simp only [List.length_append,List.length_cons,List.length_nil,List.length_take,List.length_drop,List.length_set,List.length_replicate];omega))|(simp only [Bool.and_eq_true,Bool.or_eq_true,decide_eq_true_eq,beq_iff_eq,bne_iff_ne,beq_self_eq_true,and_self,and_true,true_and,List.length_map,List.length_append,List.length_cons,List.length_nil,List.length_take,List.length_drop,List.length_set,List.length_replicate,Z00,maxLen_eq]<;>omega)|(simp(disch:=omega) only [ZE,decide_eq_true_eq,bne_iff_ne,ne_eq];(repeat' split)<;>omega)|(simp [Z0d,Z2M];done)|grind|(simp only [Bool.and_eq_true,Bool.or_eq_true,decide_eq_true_eq,beq_iff_eq,bne_iff_ne,beq_self_eq_true,and_self,and_true,true_and,List.length_map,List.length_append,List.length_cons,List.length_nil,List.length_take,List.length_drop,List.length_set,List.length_replicate,Z00,maxLen_eq]<;>grind)|grind [Z7N]
def ZBA:=Z7q.1
def ZxI:=Z7q.2.1
def ZDS:=Z7q.2.2.1
def ZvL:=Z7q.2.2.2.1
def ZjT:=Z7q.2.2.2.2.1
def ZDR:=Z7q.2.2.2.2.2.1
def Zmf:=Z7q.2.2.2.2.2.2.1
def ZEC:=Z7q.2.2.2.2.2.2.2.1
def ZvW:=Z7q.2.2.2.2.2.2.2.2.1
def ZvQ:=Z7q.2.2.2.2.2.2.2.2.2.1
def ZmG:=Z7q.2.2.2.2.2.2.2.2.2.2.1
def Ztf:=Z7q.2.2.2.2.2.2.2.2.2.2.2.1
def ZwX:=Z7q.2.2.2.2.2.2.2.2.2.2.2.2.1
def Zuo:=Z7q.2.2.2.2.2.2.2.2.2.2.2.2.2
end Go.Proofs.YtjodhcdmhobmoaaGreatDoor
