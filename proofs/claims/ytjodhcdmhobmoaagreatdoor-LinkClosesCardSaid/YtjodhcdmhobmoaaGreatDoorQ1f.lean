/-
  A part of the proof.
-/
import Derived.Test.YtjodhcdmhobmoaaGreatDoorQ1e
set_option linter.unusedVariables false
set_option linter.unusedSimpArgs false
namespace Go.Proofs.YtjodhcdmhobmoaaGreatDoor
open Go Go.Proofs.YtjodhcdmhobmoaaGreatDoor.Le
set_option maxRecDepth 100000
set_option maxHeartbeats 1000000
def ZQq (s:Z7) (c:Z4):Bool:=!(c.Kind==0||c.Kind==1)||((s.Zo.length:Int)==0)
def goes (s:Z7):Bool:=s.Z1n==0&&s.Own == -1
def drops (s:Z7) (c:Z4):Bool:=c.Kind==12&&s.Z0q||c.Kind==3&&s.Z29 != 0
def Zoy (ev now:Int):List Z4->Z7->List Z4->Z7×List Z4
 | [],s,out=>(s,out)
 | c::ws,s,out=>
  bif goes s&&ZQq s c then
   bif drops s c then Zoy ev now ws { s with Zf:=ws } out
   else Zoy ev now ws (ZdS { s with Zf:=ws } c ev now).1 (out++[(ZdS { s with Zf:=ws } c ev now).2])
  else (s,out)
structure PI (s:Z7):Prop where
 pen:s.Zo.length<=1
 own : -1<=s.Own
 oth : -1<=s.Other
 wai:∀c∈s.Zf,0<=c.Kind
theorem PI.drop {s:Z7} (h:PI s) {c:Z4} {ws:List Z4} (hw:s.Zf=c::ws):PI { s with Zf:=ws }:=
 ⟨h.pen,h.own,h.oth,fun x hx=>h.wai x (by rw [hw];exact List.mem_cons_of_mem _ hx)⟩
theorem PI.beg {s:Z7} (h:PI s) {c:Z4} (hc:0<=c.Kind) (ev now:Int):PI (ZdS s c ev now).1:=by
 obtain⟨h1,h2,h3,h4⟩:=Zjv s c ev now h.pen
 exact⟨h1,by rw [h3];omega,by rcases h4 with h4|h4<;>rw [h4];exact h.oth;omega,by rw [h2];exact h.wai⟩
theorem ZJx (ev now:Int):∀(ws:List Z4) (s:Z7) (out:List Z4),s.Zf=ws->PI s->PI (Zoy ev now ws s out).1/\(Zoy ev now ws s out).2.length<=out.length+ws.length:=by
 intro ws
 induction ws with
 | nil=>intro s out _ h;exact⟨h,Nat.le_refl _⟩
 | cons c ws ih=>
  intro s out hw h
  have hk:0<=c.Kind:=h.wai c (by rw [hw];exact List.mem_cons_self)
  have h1:=ih { s with Zf:=ws } out rfl (h.drop hw)
  have h2:=ih (ZdS { s with Zf:=ws } c ev now).1 (out++[(ZdS { s with Zf:=ws } c ev now).2]) (Zjv { s with Zf:=ws } c ev now h.pen).2.1 ((h.drop hw).beg hk ev now)
  unfold Zoy
  simp only [List.length_cons,List.length_append,List.length_nil] at h2 ⊢
  cases goes s&&ZQq s c with
  | false=>exact⟨h,by simp only [cond_false];omega⟩
  | true=>
   simp only [cond_true]
   cases drops s c with
   | true=>exact⟨h1.1,by simp only [cond_true];omega⟩
   | false=>exact⟨h2.1,by simp only [cond_false];omega⟩
theorem Zxk (ev now:Int) (c:Z4) (ws:List Z4) (s:Z7) (out:List Z4):Zoy ev now (c::ws) s out =
  bif goes s&&ZQq s c then (bif drops s c then Zoy ev now ws { s with Zf:=ws } out
   else Zoy ev now ws (ZdS { s with Zf:=ws } c ev now).1 (out++[(ZdS { s with Zf:=ws } c ev now).2])) else (s,out):=rfl
theorem lst1 (c:Z4) (ws:List Z4):(((c::ws).drop (Int.toNat 1)).take ((c::ws).length - Int.toNat 1))=ws:=by
 show (ws.take ((c::ws).length - 1))=ws
 rw [List.length_cons,Nat.add_sub_cancel,List.take_length]
theorem ZBZ (ev now:Int) (he:r16 ev):∀(ws:List Z4) (s:Z7) (out:List Z4) (z:Z7),s.Zf=ws->PI s->ws.length<=100->out.length+ws.length<=1000 ->
  ZO Z1t (.b1 ev now out s z)=some (Zoy ev now ws s out):=by
 have b3:∀out s z,ZO Z1t (.b3 out s z)=some (s,out):=fun out s z=>fe (by simp only [Z1t,Tr.den,ZC,Z42,cond_true])
 intro ws
 induction ws with
 | nil=>
  intro s out z hw hI hl ho
  refine fe ?_
  simp only [Z1t,Tr.den,ZC,hw,Z42,cond_true,b3]
  cases s.Z1n==0<;>cases decide (s.Own<0)<;>rfl
 | cons c ws ih=>
  intro s out z hw hI hl ho
  rw [List.length_cons] at hl ho
  have hk:0<=c.Kind:=hI.wai c (by rw [hw];exact List.mem_cons_self)
  have hown:decide (s.Own<0)=(s.Own == -1):=by
   by_cases h:s.Own = -1
   ·rw [decide_eq_true (by omega),beq_iff_eq.2 h]
   ·have:=hI.own
    rw [decide_eq_false (by omega),beq_eq_false_iff_ne.2 h]
  have b4:ZO Z1t (.b4 ev now out { s with Zf:=ws } z c)=some (Zoy ev now ws (ZdS { s with Zf:=ws } c ev now).1 (out++[(ZdS { s with Zf:=ws } c ev now).2])):=fe (by
   have hI2:=(hI.drop hw).beg hk ev now
   have hb:=(Zjv { s with Zf:=ws } c ev now hI.pen).2.1
   simp only [Z1t,Tr.den,ZC,Z42,cond_true,ZDP { s with Zf:=ws } c ev now hI.pen he,Option.bind_some]
   rw [ZJ0 (by simp only [List.length_cons,List.length_nil];omega) (by decide)]
   simp only [cond_true]
   rw [ih _ (out++[(ZdS { s with Zf:=ws } c ev now).2]) z hb hI2 (by omega) (by simp only [List.length_append,List.length_cons,List.length_nil];omega)]
   rfl)
  have b2:ZO Z1t (.b2 ev now out s z)=some (bif drops s c then Zoy ev now ws { s with Zf:=ws } out else Zoy ev now ws (ZdS { s with Zf:=ws } c ev now).1 (out++[(ZdS { s with Zf:=ws } c ev now).2])):=fe (by
   have e1:=ih { s with Zf:=ws } out z rfl (hI.drop hw) (by omega) (by omega)
   have hx:(s.Zf[(Int.toNat 0)]? : Option Z4)=some c:=by rw [hw];rfl
   have hl0:decide (0<=(0:Int)/\(0:Int)<(s.Zf.length:Int))=true:=decide_eq_true (by rw [hw,List.length_cons];omega)
   have hl1:decide (0<=(1:Int)/\(1:Int)<=(s.Zf.length:Int))=true:=decide_eq_true (by rw [hw,List.length_cons];omega)
   simp only [Z1t,Tr.den,ZC,Z42,Bool.and_self,cond_true,hl0,hl1,hx,Option.bind_some,List.nil_append,List.length_nil,Nat.zero_add]
   rw [hw,lst1,ZJ0 (by omega) (by decide),e1,b4]
   unfold drops
   cases c.Kind==12<;>cases s.Z0q<;>cases c.Kind==3<;>cases s.Z29 != 0<;>rfl)
  refine fe ?_
  have hx:(s.Zf[(Int.toNat 0)]? : Option Z4)=some c:=by rw [hw];rfl
  have hl0:decide (0<=(0:Int)/\(0:Int)<(s.Zf.length:Int))=true:=decide_eq_true (by rw [hw,List.length_cons];omega)
  have hl2:decide ((s.Zf.length:Int)>0)=true:=decide_eq_true (by rw [hw,List.length_cons];omega)
  simp only [Z1t,Tr.den,ZC,Z42,cond_true,hl0,hl2,hx,Option.bind_some,hown,b3,e_can,b2]
  rw [Zxk]
  unfold goes ZQq
  cases s.Z1n==0<;>cases s.Own == -1<;>cases (!(c.Kind==0||c.Kind==1)||((s.Zo.length:Int)==0))<;>rfl
theorem ZAn (ev now:Int) (told:List Z5):∀(ws:List Z4) (s:Z7) (out:List Z4) (z:Z7),s.Zf=ws->PI s->ws.length<=100->out.length+ws.length<=1000 ->
  ZO Z0b (.b1 z ⟨s,ev,now,out,told⟩)=some (Zoy ev now ws s out):=by
 have b3:∀z (y:Zm),ZO Z0b (.b3 z y)=some (y.Ze,y.f_out):=fun z y=>fe (by simp only [Z0b,Tr.den,ZC,Z42,cond_true])
 intro ws
 induction ws with
 | nil=>
  intro s out z hw hI hl ho
  refine fe ?_
  simp only [Z0b,Tr.den,ZC,hw,Z42,Bool.and_self,cond_true,b3]
  cases s.Z1n==0<;>cases (s.Own == -1)<;>rfl
 | cons c ws ih=>
  intro s out z hw hI hl ho
  rw [List.length_cons] at hl ho
  have hk:0<=c.Kind:=hI.wai c (by rw [hw];exact List.mem_cons_self)
  have b5:ZO Z0b (.b5 z ⟨{ s with Zf:=ws },ev,now,out,told⟩ c)=some (Zoy ev now ws (ZdS { s with Zf:=ws } c ev now).1 (out++[(ZdS { s with Zf:=ws } c ev now).2])):=fe (by
   have hI2:=(hI.drop hw).beg hk ev now
   have hb:=(Zjv { s with Zf:=ws } c ev now hI.pen).2.1
   simp only [Z0b,Tr.den,ZC,Z42,Bool.and_self,cond_true]
   rw [ZPH c ⟨{ s with Zf:=ws },ev,now,out,told⟩ hI.pen (by simp only;omega)]
   simp only [Option.bind_some,cond_true]
   exact ih _ (out++[(ZdS { s with Zf:=ws } c ev now).2]) z hb hI2 (by omega) (by simp only [List.length_append,List.length_cons,List.length_nil];omega))
  have b4:ZO Z0b (.b4 z ⟨s,ev,now,out,told⟩ c)=some (bif drops s c then Zoy ev now ws { s with Zf:=ws } out else Zoy ev now ws (ZdS { s with Zf:=ws } c ev now).1 (out++[(ZdS { s with Zf:=ws } c ev now).2])):=fe (by
   have e1:=ih { s with Zf:=ws } out z rfl (hI.drop hw) (by omega) (by omega)
   have hl1:decide (0<=(1:Int)/\(1:Int)<=(s.Zf.length:Int))=true:=decide_eq_true (by rw [hw,List.length_cons];omega)
   simp only [Z0b,Tr.den,ZC,Z42,Bool.and_self,cond_true,hl1]
   rw [hw,lst1,e1,b5]
   unfold drops
   cases c.Kind==12<;>cases s.Z0q<;>cases c.Kind==3<;>cases s.Z29 != 0<;>rfl)
  have b2:ZO Z0b (.b2 z ⟨s,ev,now,out,told⟩)=some (bif ZQq s c then (bif drops s c then Zoy ev now ws { s with Zf:=ws } out else Zoy ev now ws (ZdS { s with Zf:=ws } c ev now).1 (out++[(ZdS { s with Zf:=ws } c ev now).2])) else (s,out)):=fe (by
   have hx:(s.Zf[(Int.toNat 0)]? : Option Z4)=some c:=by rw [hw];rfl
   have hl0:decide (0<=(0:Int)/\(0:Int)<(s.Zf.length:Int))=true:=decide_eq_true (by rw [hw,List.length_cons];omega)
   simp only [Z0b,Tr.den,ZC,Z42,Bool.and_self,cond_true,hl0,hx,Option.bind_some,ZyY,ZoQ,b3,b4]
   unfold ZQq
   have hq:((s.Zo.length:Int)==0) = !decide ((s.Zo.length:Int)>0):=by
    by_cases h:s.Zo.length=0
    ·rw [decide_eq_false (by omega),beq_iff_eq.2 (by omega)];rfl
    ·rw [decide_eq_true (by omega),beq_eq_false_iff_ne.2 (by omega)];rfl
   rw [hq]
   cases (c.Kind==0||c.Kind==1)<;>cases decide ((s.Zo.length:Int)>0)<;>rfl)
  refine fe ?_
  have hl2:decide ((s.Zf.length:Int)>0)=true:=decide_eq_true (by rw [hw,List.length_cons];omega)
  simp only [Z0b,Tr.den,ZC,Z42,Bool.and_self,cond_true,hl2,b3,b2]
  rw [Zxk]
  unfold goes
  cases s.Z1n==0<;>cases s.Own == -1<;>cases ZQq s c<;>rfl
theorem v_at (s:Z7) (ev now:Int) (h1:s.Zf.length<=100) (h2:s.Zo.length<=1):Z6O s ev now=some ⟨⟨s,ev,now,[],[]⟩⟩:=fe (by
 simp only [ZaR,Tr.den,ZC,ZO5 _ (show s.Zf.length<=1000000 by omega),Zvv _ (show s.Zo.length<=1000000 by omega),Option.bind_some,Z42,Bool.and_self,cond_true,List.length_nil])
theorem Zlv (s:Z7) (ev now:Int) (hI:PI s) (hw:s.Zf.length<=100):Z63 s ev now=some (Zoy ev now s.Zf s []):=fe (by
 simp only [Z0b,Tr.den,ZC,v_at s ev now hw hI.pen,Option.bind_some,Z42,Bool.and_self,cond_true]
 exact ZAn ev now [] s.Zf s [] _ rfl hI hw (by simp only [List.length_nil];omega))
theorem ZAq (s:Z7) (ev now:Int) (he:r16 ev) (hI:PI s) (hw:s.Zf.length<=100):Zdl s ev now=some (Zoy ev now s.Zf s []):=fe (by
 simp only [Z1t,Tr.den,ZC,List.length_nil,Z42,cond_true]
 exact ZBZ ev now he s.Zf s [] _ rfl hI hw (by simp only [List.length_nil];omega))
def Zua (l:List Z8) (ev:Int):List Z8×List Z8:=
 match l with
 | c::_=>bif psd ev c.ZQ then ([],[c]) else ([c],[])
 | []=>([],[])
theorem ZjD (c:Z8) (l:List Z8) (ev:Int):Zua (c::l) ev=bif psd ev c.ZQ then ([],[c]) else ([c],[]):=rfl
theorem Zv6 (l:List Z8) (ev:Int) (h:l.length<=1):Zcq l ev=some (Zua l ev):=fe (by
 match l,h with
 | [],_=>simp only [Z5i,Tr.den,ZC];rfl
 | [c],_=>
  have hx:([c][(Int.toNat 0)]? : Option Z8)=some c:=rfl
  simp only [Z5i,Tr.den,ZC,hx,Option.bind_some,Z9F]
  rw [ZjD]
  cases psd ev c.ZQ<;>simp [show lim=140737488355328 from rfl,show maxLen=9223372036854775807 from rfl])
theorem ZJa (l:List Z8) (ev:Int) (he:r16 ev) (h:l.length<=1) (hc:∀c∈l,r16 c.ZQ):ZkS l ev=some (Zua l ev):=by
 have fin:∀l a b n,(l:List Z8).length<=n->ZO Z4t (.b1 l ev a b (n:Nat))=some (a,b):=fun l a b n hn=>fe (by
  simp only [Z4t,Tr.den,ZC,Z42,cond_true]
  rw [decide_eq_false (by omega)]
  rfl)
 match l,h with
 | [],_=>
  refine fe ?_
  simp only [Z4t,Tr.den,ZC,List.length_nil,Z42,Bool.and_self,cond_true]
  exact fin [] [] [] 0 (Nat.zero_le _)
 | [c],_=>
  have hx:([c][(Int.toNat 0)]? : Option Z8)=some c:=rfl
  have b2:∀a b,ZO Z4t (.b2 [c] ev a b 0)=some (a,b):=fun a b=>fe (by
   simp only [Z4t,Tr.den,ZC,Z42,Bool.and_self,cond_true]
   exact fin [c] a b 1 (Nat.le_refl _))
  refine fe ?_
  simp only [Z4t,Tr.den,ZC,List.length_nil,Z42,Bool.and_self,cond_true]
  refine fe ?_
  have hl0:decide (0<=(0:Int)/\(0:Int)<([c].length:Int))=true:=rfl
  have hl1:decide ((0:Int)<([c].length:Int))=true:=rfl
  simp only [Z4t,Tr.den,ZC,hl0,hl1,hx,Option.bind_some,ZzG ev c.ZQ he (hc c List.mem_cons_self),List.length_nil,Z42,Bool.and_self,cond_true,List.nil_append,b2]
  rw [ZjD,ZJ0 (by simp) (by decide)]
  cases psd ev c.ZQ<;>rfl
def took (s:Z7) (c:Z8):Z7:=
 let s1:Z7:=bif s.Own==c.Kind then { s with Own:=-1 } else s
 bif s1.Other==c.Kind then { s1 with Other:=-1 } else s1
def Zga (s:Z7) (ev:Int):Z7×List Z8:=
 let q:=Zua s.Zo ev
 let s1:={ s with Zo:=q.1 }
 match q.2 with
 | []=>(s1,[])
 | c::_=>bif s.Z1z==0 && !s.Told then (bif s.Z1n==0 then { s1 with Z1n:=40 } else s1,[]) else (took s1 c,q.2)
theorem ZhV (l:List Z8) (ev:Int):(Zua l ev).2=[]\/∃c,(Zua l ev).2=[c]:=by
 match l with
 | []=>exact .inl rfl
 | c::_=>rw [ZjD];cases psd ev c.ZQ with
  | true=>exact .inr ⟨c,rfl⟩
  | false=>exact .inl rfl
theorem ZqK (s:Z7) (ev:Int) (h1:s.Zf.length<=100) (h2:s.Zo.length<=1) (hr:s.Z1z=0\/s.Z1z=1):Z9k s ev=some (Zga s ev):=by
 have fin:∀(due:List Z8) (z:Z7) (y:Zm),ZO Z07 (.b4 due due (due.length:Nat) (due.length:Nat) z y)=some (y.Ze,due):=fun due z y=>fe (by
  simp only [Z07,Tr.den,ZC,Z42,cond_true]
  rw [decide_eq_false (by omega)]
  rfl)
 have lp:∀(c:Z8) (z:Z7) (y:Zm),ZO Z07 (.b4 [c] [c] 1 0 z y)=some (took y.Ze c,[c]):=fun c z y=>by
  have b6:∀y:Zm,ZO Z07 (.b6 [c] [c] 1 0 z y)=some (y.Ze,[c]):=fun y=>fe (by
   simp only [Z07,Tr.den,ZC,Z42,Bool.and_self,cond_true]
   exact fin [c] z y)
  have b5:∀y:Zm,ZO Z07 (.b5 [c] [c] 1 0 z y c)=some (bif y.Ze.Other==c.Kind then { y.Ze with Other:=-1 } else y.Ze,[c]):=fun y=>fe (by
   simp only [Z07,Tr.den,ZC,Z42,Bool.and_self,cond_true,b6]
   cases y.Ze.Other==c.Kind<;>rfl)
  have hx:([c][(Int.toNat 0)]? : Option Z8)=some c:=rfl
  have hl0:decide (0<=(0:Int)/\(0:Int)<([c].length:Int))=true:=rfl
  have hl1:decide ((0:Int)<1)=true:=rfl
  refine fe ?_
  simp only [Z07,Tr.den,ZC,hl0,hl1,hx,Option.bind_some,Z42,Bool.and_self,cond_true,b5]
  unfold took
  cases y.Ze.Own==c.Kind<;>rfl
 have b2:∀(due:List Z8) z y,ZO Z07 (.b2 due z y)=ZO Z07 (.b4 due due (due.length:Nat) 0 z y):=fun due z y=>fe (by
  simp only [Z07,Tr.den,ZC,Z42,Bool.and_self,cond_true])
 have b3:∀z (y:Zm),ZO Z07 (.b3 z y)=some (y.Ze,[]):=fun z y=>fe (by simp only [Z07,Tr.den,ZC,Z42,List.length_nil,cond_true])
 have b1:∀z (y:Zm),ZO Z07 (.b1 z y)=some (bif y.Ze.Z1n==0 then { y.Ze with Z1n:=40 } else y.Ze,[]):=fun z y=>fe (by
  simp only [Z07,Tr.den,ZC,Z42,Bool.and_self,cond_true,b3]
  cases y.Ze.Z1n==0<;>rfl)
 have hcen:∀w:Z1m,Z2M w=some (w.Ze.Z1z != 1):=fun w=>fe rfl
 refine fe ?_
 simp only [Z07,Tr.den,ZC,v_at s ev 0 h1 h2,Option.bind_some,Z42,Bool.and_self,cond_true,Zv6 _ _ h2,hcen,b1,b2]
 unfold Zga
 have hro:(s.Z1z != 1)=(s.Z1z==0):=by rcases hr with h|h<;>rw [h]<;>rfl
 rcases ZhV s.Zo ev with hq|⟨c,hq⟩
 ·simp only [hq]
  exact fin [] _ _
 ·simp only [hq,hro]
  have hl:decide (([c].length:Int)>0)=true:=rfl
  simp only [hl,cond_true]
  have e:=lp c
  cases s.Z1z==0<;>cases s.Told<;>first|rfl|exact e _ _
theorem ZJd (s:Z7) (ev:Int) (he:r16 ev) (h2:s.Zo.length<=1) (hc:∀c∈s.Zo,r16 c.ZQ):ZjM s ev=some (Zga s ev):=by
 have fin:∀(due:List Z8) (s z:Z7),ZO Z1M (.b3 due (due.length:Nat) s z)=some (s,due):=fun due s z=>fe (by
  simp only [Z1M,Tr.den,ZC]
  rw [decide_eq_false (by omega)]
  rfl)
 have lp:∀(c:Z8) (s z:Z7),ZO Z1M (.b3 [c] 0 s z)=some (took s c,[c]):=fun c s z=>by
  have hx:([c][(Int.toNat 0)]? : Option Z8)=some c:=rfl
  have hl0:decide (0<=(0:Int)/\(0:Int)<([c].length:Int))=true:=rfl
  have hl1:decide ((0:Int)<([c].length:Int))=true:=rfl
  have b5:∀s,ZO Z1M (.b5 [c] 0 s z)=some (s,[c]):=fun s=>fe (by
   simp only [Z1M,Tr.den,ZC]
   exact fin [c] s z)
  have b4:∀s:Z7,ZO Z1M (.b4 [c] 0 s z)=some (bif s.Other==c.Kind then { s with Other:=-1 } else s,[c]):=fun s=>fe (by
   simp only [Z1M,Tr.den,ZC,hl0,hx,Option.bind_some,cond_true,b5]
   cases s.Other==c.Kind<;>rfl)
  refine fe ?_
  simp only [Z1M,Tr.den,ZC,hl0,hl1,hx,Option.bind_some,cond_true,b4]
  unfold took
  cases s.Own==c.Kind<;>rfl
 have b2:∀(due:List Z8) s z,ZO Z1M (.b2 due s z)=ZO Z1M (.b3 due 0 s z):=fun due s z=>fe rfl
 have b1:∀(s z:Z7),ZO Z1M (.b1 s z)=some (bif s.Z1n==0 then { s with Z1n:=40 } else s,[]):=fun s z=>fe (by
  simp only [Z1M,Tr.den,ZC,List.length_nil,Z42,cond_true]
  cases s.Z1n==0<;>rfl)
 refine fe ?_
 simp only [Z1M,Tr.den,ZC,ZJa _ _ he h2 hc,Option.bind_some,b1,b2]
 unfold Zga
 rcases ZhV s.Zo ev with hq|⟨c,hq⟩
 ·simp only [hq]
  have e:=fin [] { s with Zo:=(Zua s.Zo ev).1 }
  cases s.Z1z==0<;>exact e _
 ·simp only [hq]
  have e:=lp c { s with Zo:=(Zua s.Zo ev).1 }
  have hl:decide (([c].length:Int)>0)=true:=rfl
  simp only [hl,e]
  cases s.Z1z==0<;>cases s.Told<;>rfl
end Go.Proofs.YtjodhcdmhobmoaaGreatDoor
namespace Go.Proofs.YtjodhcdmhobmoaaGreatDoor.Na
open Go
def rep (c:Nat):Nat->Nat
 | 0=>0
 | k+1=>256*rep c k+c
theorem ZpV (x s c k:Nat) (hs:s<=8) (hc:c<2 ^ (8 - s)):(x / 2 ^ s) &&& rep c (k+1)=256*((x / 256 / 2 ^ s) &&& rep c k)+((x % 256 / 2 ^ s) &&& c):=by
 have hc8:c<2 ^ 8:=Nat.lt_of_lt_of_le hc (Nat.pow_le_pow_right (by omega) (by omega))
 have hb:((x % 256 / 2 ^ s) &&& c)<2 ^ 8:=Nat.lt_of_le_of_lt Nat.and_le_right hc8
 refine Nat.eq_of_testBit_eq fun j=>?_
 rw [show (256:Nat)=2 ^ 8 from rfl] at *
 rw [Nat.testBit_two_pow_mul_add _ hb]
 simp only [rep]
 rw [show (256:Nat)=2 ^ 8 from rfl,Nat.testBit_and,Nat.testBit_two_pow_mul_add _ hc8]
 split
 ·rename_i hj
  rw [Nat.testBit_and,Nat.testBit_div_two_pow,Nat.testBit_div_two_pow,Nat.testBit_mod_two_pow]
  by_cases h:c.testBit j=true
  ·have:j<8 - s:=by
    refine Nat.lt_of_not_le fun hle=>?_
    rw [Nat.testBit_lt_two_pow (Nat.lt_of_lt_of_le hc (Nat.pow_le_pow_right (by omega) hle))] at h
    cases h
   rw [h,show decide (j+s<8)=true by simp;omega]
   simp
  ·simp [h]
 ·rename_i hj
  rw [Nat.testBit_and,Nat.testBit_div_two_pow,Nat.testBit_div_two_pow,Nat.testBit_div_two_pow]
  rw [show j - 8+s+8=j+s by omega]
def s1 (k x:Nat):Nat:=(x / 2 &&& rep 0x55 k)+(x &&& rep 0x55 k)
def s2 (k x:Nat):Nat:=(x / 4 &&& rep 0x33 k)+(x &&& rep 0x33 k)
def s3 (k x:Nat):Nat:=(x / 16+x) &&& rep 0x0f k
theorem ZBr (k x:Nat):s1 (k+1) x=256*s1 k (x / 256)+s1 1 (x % 256):=by
 have h1:=ZpV x 1 0x55 k (by omega) (by decide)
 have h2:=ZpV x 0 0x55 k (by omega) (by decide)
 simp only [Nat.pow_zero,Nat.div_one,Nat.pow_one] at h1 h2
 simp only [s1]
 rw [h1,h2,show rep 0x55 1=0x55 from rfl]
 omega
theorem ZKV (k h a:Nat) (ha:a<256):s2 (k+1) (256*h+a)=256*s2 k h+s2 1 a:=by
 have h1:=ZpV (256*h+a) 2 0x33 k (by omega) (by decide)
 have h2:=ZpV (256*h+a) 0 0x33 k (by omega) (by decide)
 have e1:(256*h+a) / 256=h:=by omega
 have e2:(256*h+a) % 256=a:=by omega
 rw [e1,e2] at h1 h2
 simp only [Nat.pow_zero,Nat.div_one,show 2 ^ 2=4 from rfl] at h1 h2
 simp only [s2]
 rw [h1,h2,show rep 0x33 1=0x33 from rfl]
 omega
theorem ZPy (k h a:Nat) (ha:a % 16<=4) (ha' : a / 16<=4) (hh:h % 16<=4):s3 (k+1) (256*h+a)=256*s3 k h+s3 1 a:=by
 have h2:=ZpV ((256*h+a) / 16+(256*h+a)) 0 0x0f k (by omega) (by decide)
 simp only [Nat.pow_zero,Nat.div_one] at h2
 have e1:((256*h+a) / 16+(256*h+a)) / 256=h / 16+h:=by omega
 have e2:((256*h+a) / 16+(256*h+a)) % 256=(h % 16)*16+(a / 16+a):=by omega
 have e3:((h % 16)*16+(a / 16+a)) &&& 15=(a / 16+a) &&& 15:=by
  rw [Nat.and_two_pow_sub_one_eq_mod _ 4,Nat.and_two_pow_sub_one_eq_mod _ 4];omega
 simp only [s3]
 rw [h2,e1,e2,e3,show rep 0x0f 1=0x0f from rfl]
theorem ZPR:∀a<256,s1 1 a<256:=by decide +kernel
theorem ZSp:∀a<256,s2 1 (s1 1 a) % 16<=4/\s2 1 (s1 1 a) / 16<=4/\s2 1 (s1 1 a)<256:=by decide +kernel
def bc:Nat->Nat->Nat
 | 0,_=>0
 | k+1,x=>bc k x+x / 2 ^ k % 2
theorem f3_eq:∀a<256,s3 1 (s2 1 (s1 1 a))=bc 8 a:=by decide +kernel
theorem Zgb (k x:Nat):bc k x<=k:=by
 induction k with
 | zero=>simp [bc]
 | succ k ih=>simp only [bc];omega
theorem ZzH (a k x:Nat):bc (a+k) x=bc a x+bc k (x / 2 ^ a):=by
 induction k with
 | zero=>simp [bc]
 | succ k ih=>
  show bc (a+k) x+x / 2 ^ (a+k) % 2=_
  simp only [bc]
  rw [ih,Nat.pow_add,Nat.div_div_eq_div_mul]
  omega
theorem ZOl (a b x:Nat) (h:a<=b):bc a (x % 2 ^ b)=bc a x:=by
 induction a with
 | zero=>rfl
 | succ k ih=>
  simp only [bc]
  rw [ih (by omega)]
  congr 1
  have e:∀y,y / 2 ^ k % 2=(y.testBit k).toNat:=fun y=>by rw [Nat.testBit_eq_decide_div_mod_eq];rcases Nat.mod_two_eq_zero_or_one (y / 2 ^ k) with h|h<;>simp [h]
  rw [e,e,Nat.testBit_mod_two_pow]
  simp [show k<b by omega]
theorem ZJM (k:Nat):bc k 0=0:=by
 induction k with
 | zero=>rfl
 | succ k ih=>simp [bc,ih]
def pb:Nat->Nat->Nat
 | 0,_=>0
 | k+1,x=>256*pb k (x / 256)+bc 8 (x % 256)
theorem swar (k x:Nat):s3 k (s2 k (s1 k x))=pb k x/\s2 k (s1 k x) % 16<=4:=by
 induction k generalizing x with
 | zero=>simp [s1,s2,s3,rep,pb]
 | succ k ih=>
  have ha:x % 256<256:=Nat.mod_lt _ (by omega)
  obtain⟨i1,i2⟩:=ih (x / 256)
  obtain⟨b1,b2,b3⟩:=ZSp _ ha
  rw [ZBr,ZKV _ _ _ (ZPR _ ha),ZPy _ _ _ b1 b2 i2,i1,f3_eq _ ha]
  exact⟨rfl,by omega⟩
theorem dv (B A b:Nat) (hb:b<B):(b+B*A) / B=A:=by
 rw [Nat.add_mul_div_left _ _ (by omega),Nat.div_eq_of_lt hb];omega
theorem sum8e (p0 p1 p2 p3 p4 p5 p6 p7:Nat) :
  256*(256*(256*(256*(256*(256*(256*(256*0+p7)+p6)+p5)+p4)+p3)+p2)+p1)+p0=p0+256*(256*(256*(256*(256*(256*(256*p7+p6)+p5)+p4)+p3)+p2)+p1) /\
  (p0+256*(256*(256*(256*(256*(256*(256*p7+p6)+p5)+p4)+p3)+p2)+p1))+(256*(256*(256*(256*(256*(256*p7+p6)+p5)+p4)+p3)+p2)+p1)=((p0+p1)+256*(p1+p2))+65536*((p2+p3)+256*(p3+p4)+65536*(p4+p5)+16777216*(p5+p6)+4294967296*(p6+p7)+1099511627776*p7) /\
  (((p0+p1)+256*(p1+p2))+65536*((p2+p3)+256*(p3+p4)+65536*(p4+p5)+16777216*(p5+p6)+4294967296*(p6+p7)+1099511627776*p7))+((p2+p3)+256*(p3+p4)+65536*(p4+p5)+16777216*(p5+p6)+4294967296*(p6+p7)+1099511627776*p7)=((p0+p1+p2+p3)+256*(p1+p2+p3+p4)+65536*(p2+p3+p4+p5)+16777216*(p3+p4+p5+p6))+4294967296*((p4+p5+p6+p7)+256*(p5+p6+p7)+65536*(p6+p7)+16777216*p7) /\
  (((p0+p1+p2+p3)+256*(p1+p2+p3+p4)+65536*(p2+p3+p4+p5)+16777216*(p3+p4+p5+p6))+4294967296*((p4+p5+p6+p7)+256*(p5+p6+p7)+65536*(p6+p7)+16777216*p7))+((p4+p5+p6+p7)+256*(p5+p6+p7)+65536*(p6+p7)+16777216*p7)=(p0+p1+p2+p3+p4+p5+p6+p7)+128*(2*(p1+p2+p3+p4+p5+p6+p7)+512*(p2+p3+p4+p5+p6+p7)+131072*(p3+p4+p5+p6+p7)+33554432*((p4+p5+p6+p7)+256*(p5+p6+p7)+65536*(p6+p7)+16777216*p7)):=by
 refine⟨?_,?_,?_,?_⟩<;>omega
theorem sum8 (p0 p1 p2 p3 p4 p5 p6 p7:Nat) (h0:p0<=8) (h1:p1<=8) (h2:p2<=8) (h3:p3<=8) (h4:p4<=8) (h5:p5<=8) (h6:p6<=8) (h7:p7<=8) (w t u v:Nat)
  (hw:w=256*(256*(256*(256*(256*(256*(256*(256*0+p7)+p6)+p5)+p4)+p3)+p2)+p1)+p0) (ht:t=w+w / 256) (hu:u=t+t / 65536) (hv:v=u+u / 4294967296) :
  v % 128=p0+p1+p2+p3+p4+p5+p6+p7/\w<=v/\t<=v/\u<=v/\v<18446744073709551616:=by
 obtain⟨q1,q2,q3,q4⟩:=sum8e p0 p1 p2 p3 p4 p5 p6 p7
 rw [q1] at hw
 rw [hw,dv 256 _ _ (Nat.lt_of_le_of_lt h0 (by decide)),q2] at ht
 rw [ht,dv 65536 _ _ (Nat.lt_of_le_of_lt (Nat.add_le_add (Nat.add_le_add h0 h1) (Nat.mul_le_mul_left 256 (Nat.add_le_add h1 h2))) (by decide)),q3] at hu
 rw [hu,dv 4294967296 _ _ (Nat.lt_of_le_of_lt (Nat.add_le_add (Nat.add_le_add (Nat.add_le_add (Nat.add_le_add (Nat.add_le_add (Nat.add_le_add h0 h1) h2) h3) (Nat.mul_le_mul_left 256 (Nat.add_le_add (Nat.add_le_add (Nat.add_le_add h1 h2) h3) h4))) (Nat.mul_le_mul_left 65536 (Nat.add_le_add (Nat.add_le_add (Nat.add_le_add h2 h3) h4) h5))) (Nat.mul_le_mul_left 16777216 (Nat.add_le_add (Nat.add_le_add (Nat.add_le_add h3 h4) h5) h6))) (by decide)),q4] at hv
 have a1:w<=t:=by rw [hw,ht,<- q2];exact Nat.le_add_right _ _
 have a2:t<=u:=by rw [ht,hu,<- q3];exact Nat.le_add_right _ _
 have a3:u<=v:=by rw [hu,hv,<- q4];exact Nat.le_add_right _ _
 refine⟨?_,Nat.le_trans a1 (Nat.le_trans a2 a3),Nat.le_trans a2 a3,a3,?_⟩
 ·have hs:p0+p1+p2+p3+p4+p5+p6+p7<128:=Nat.lt_of_le_of_lt (Nat.add_le_add (Nat.add_le_add (Nat.add_le_add (Nat.add_le_add (Nat.add_le_add (Nat.add_le_add (Nat.add_le_add h0 h1) h2) h3) h4) h5) h6) h7) (by decide)
  rw [hv,Nat.add_mul_mod_self_left,Nat.mod_eq_of_lt hs]
 ·clear a1 a2 a3 q1 q2 q3 q4 hw ht hu
  omega
def popN (x:Nat):Nat:=
 let w:=s3 8 (s2 8 (s1 8 x))
 let t:=w+w / 256
 let u:=t+t / 65536
 let v:=u+u / 4294967296
 v % 128
theorem ZP5 (x:Nat) (hx:x<2 ^ 37):popN x=bc 37 x:=by
 have h:=sum8 (bc 8 (x % 256)) (bc 8 (x / 256 % 256)) (bc 8 (x / 256 / 256 % 256)) (bc 8 (x / 256 / 256 / 256 % 256)) (bc 8 (x / 256 / 256 / 256 / 256 % 256)) (bc 8 (x / 256 / 256 / 256 / 256 / 256 % 256)) (bc 8 (x / 256 / 256 / 256 / 256 / 256 / 256 % 256)) (bc 8 (x / 256 / 256 / 256 / 256 / 256 / 256 / 256 % 256))
  (Zgb _ _) (Zgb _ _) (Zgb _ _) (Zgb _ _) (Zgb _ _) (Zgb _ _) (Zgb _ _) (Zgb _ _) (pb 8 x) _ _ _ rfl rfl rfl rfl
 unfold popN
 rw [(swar 8 x).1]
 refine h.1.trans ?_
 have m8:∀y,bc 8 (y % 256)=bc 8 y:=fun y=>ZOl 8 8 y (Nat.le_refl 8)
 simp only [m8]
 have z5:x / 256 / 256 / 256 / 256 / 256=0:=by omega
 rw [z5]
 simp only [Nat.zero_div,ZJM,Nat.add_zero]
 rw [show 37=8+(8+(8+(8+5))) from rfl,ZzH,ZzH,ZzH,ZzH]
 have e5:bc 8 (x / 256 / 256 / 256 / 256)=bc 5 (x / 256 / 256 / 256 / 256):=by
  rw [show 8=5+3 from rfl,ZzH,show x / 256 / 256 / 256 / 256 / 2 ^ 5=0 by omega,ZJM]
  rfl
 rw [e5]
 simp only [show (2:Nat) ^ 8=256 from rfl]
 omega
theorem s1_lt (k x:Nat):s1 k x<256 ^ k:=by
 induction k generalizing x with
 | zero=>simp [s1,rep]
 | succ k ih=>
  have:=ZPR (x % 256) (Nat.mod_lt _ (by omega))
  have:=ih (x / 256)
  rw [ZBr,Nat.pow_succ]
  omega
theorem s2_le (k x:Nat):255*s2 k (s1 k x)+68<=68*256 ^ k:=by
 induction k generalizing x with
 | zero=>simp [s2,rep]
 | succ k ih=>
  have ha:x % 256<256:=Nat.mod_lt _ (by omega)
  obtain⟨b1,b2,b3⟩:=ZSp (x % 256) ha
  have:=ih (x / 256)
  rw [ZBr,ZKV _ _ _ (ZPR _ ha),Nat.pow_succ]
  omega
theorem ZQ5 (x:Nat):let w:=s3 8 (s2 8 (s1 8 x))
  let t:=w+w / 256
  let u:=t+t / 65536
  s1 8 x<18446744073709551616/\s2 8 (s1 8 x)+s2 8 (s1 8 x) / 16<18446744073709551616/\w<18446744073709551616/\t<18446744073709551616/\u<18446744073709551616/\u+u / 4294967296<18446744073709551616:=by
 have h:=sum8 (bc 8 (x % 256)) (bc 8 (x / 256 % 256)) (bc 8 (x / 256 / 256 % 256)) (bc 8 (x / 256 / 256 / 256 % 256)) (bc 8 (x / 256 / 256 / 256 / 256 % 256)) (bc 8 (x / 256 / 256 / 256 / 256 / 256 % 256)) (bc 8 (x / 256 / 256 / 256 / 256 / 256 / 256 % 256)) (bc 8 (x / 256 / 256 / 256 / 256 / 256 / 256 / 256 % 256))
  (Zgb _ _) (Zgb _ _) (Zgb _ _) (Zgb _ _) (Zgb _ _) (Zgb _ _) (Zgb _ _) (Zgb _ _) (pb 8 x) _ _ _ rfl rfl rfl rfl
 intro w t u
 have e:w=pb 8 x:=(swar 8 x).1
 rw [<- e] at h
 have q2:=s2_le 8 x
 refine⟨s1_lt 8 x,?_,Nat.lt_of_le_of_lt h.2.1 h.2.2.2.2,Nat.lt_of_le_of_lt h.2.2.1 h.2.2.2.2,Nat.lt_of_le_of_lt h.2.2.2.1 h.2.2.2.2,h.2.2.2.2⟩
 clear h e
 clear_value w t u
 generalize s2 8 (s1 8 x)=y at q2
 omega
def rot (x:Nat):Nat:=((x >>> 0 &&& 257) <<< 7) ||| ((x >>> 1 &&& 257) <<< 6) ||| ((x >>> 2 &&& 257) <<< 5) ||| ((x >>> 3 &&& 257) <<< 4) ||| ((x >>> 4 &&& 257) <<< 3) ||| ((x >>> 5 &&& 257) <<< 2) ||| ((x >>> 6 &&& 257) <<< 1) ||| ((x >>> 7 &&& 257) <<< 0)
theorem ZS2 (a b:Nat):rot (a ||| b)=rot a ||| rot b:=by
 have t:∀i j,((a ||| b) >>> i &&& 257) <<< j=((a >>> i &&& 257) <<< j) ||| ((b >>> i &&& 257) <<< j):=by
  intro i j
  rw [Nat.shiftRight_or_distrib,Nat.and_or_distrib_right,Nat.shiftLeft_or_distrib]
 simp only [rot,t]
 ac_rfl
def rv (k x r:Nat):Nat:=match k with
 | 0=>r
 | k+1=>rv k (x / 2) (2*r+x % 2)
theorem ZsY:∀a<256,rot a=rv 8 a 0/\rot (256*a)=256*rv 8 a 0/\rv 8 a 0<256:=by decide +kernel
theorem ZOF (x:Nat) (hx:x<65536):rot x=256*rv 8 (x / 256) 0+rv 8 (x % 256) 0:=by
 have hl:=ZsY (x % 256) (Nat.mod_lt _ (by omega))
 have hh:=ZsY (x / 256) (by omega)
 have e:x=256*(x / 256) ||| x % 256:=by
  rw [nat_join 8 (256*(x / 256)) (x % 256) (by omega) (by omega)];omega
 conv=>lhs;rw [e]
 rw [ZS2,hh.2.1,hl.1,nat_join 8 _ _ (by omega) (by omega)]
theorem ZOY (x:Nat) (hx:x<65536):rot x<65536:=by
 rw [ZOF x hx]
 have:=(ZsY (x % 256) (Nat.mod_lt _ (by omega))).2.2
 have:=(ZsY (x / 256) (by omega)).2.2
 omega
end Go.Proofs.YtjodhcdmhobmoaaGreatDoor.Na
namespace Go.Proofs.YtjodhcdmhobmoaaGreatDoor
open Go Go.Proofs.YtjodhcdmhobmoaaGreatDoor.Le
theorem Z3C {n:Int} (h : -9223372036854775808<=n) (h' : n<=9223372036854775807):w64 n=n:=by
 simp only [w64,IntKind.wrap,IntKind.signed,IntKind.bits]
 simp
 omega
def cl (lo hi x:Int):Int:=max lo (min x hi)
theorem cl1 (lo hi x:Int) (h:lo<=hi):(if hi<(if lo>x then lo else x) then hi else (if lo>x then lo else x))=cl lo hi x:=by unfold cl;split<;>split<;>omega
theorem cl2 (lo hi x:Int) (h:lo<=hi):(if (if hi<x then hi else x)>lo then (if hi<x then hi else x) else lo)=cl lo hi x:=by unfold cl;split<;>split<;>omega
theorem ZH7 (a:ZK):Zmq a=some ((a.Zu.length:Int)==0):=(ZV _ _).trans rfl
theorem ZGQ (a:ZK):ZfT a=some ((a.Zu.length:Int)==0):=(ZV _ _).trans rfl
def must (l:Zk) (b:Bool):Bool:=l.Full||(b||decide (l.Z3y>=l.Z0o))
theorem ZrH (l:Zk) (b:Bool):Z4v l b=some (must l b):=(ZV _ _).trans (by
 simp only [Z6J,Tr.den,ZC,must]
 cases l.Full<;>cases b<;>simp
 cases decide (l.Z0o<=l.Z3y)<;>rfl)
theorem ZtL (l:Zk) (b:Bool):Z8u l b=some (must l b):=(ZV _ _).trans (by
 simp only [Zbi,Tr.den,ZC,must]
 cases l.Full<;>cases b<;>simp)
def ZzX (l:Z9):Bool:=l.Z05==0&&(l.Z1z==1&&(l.Z2C&&(((l.Zb.length:Int)==0)&&(((l.Ze.Zo.length:Int)==0) && !must l.Z0y (!((l.Arq.Zu.length:Int)==0))))))
theorem ZyU (l:Z9):ZeF l=some (ZzX l):=(ZV _ _).trans (by
 have h1:ZO Z71 (.b1 l)=some (((l.Zb.length:Int)==0)&&(((l.Ze.Zo.length:Int)==0) && !must l.Z0y (!((l.Arq.Zu.length:Int)==0)))):=(ZV _ _).trans (by
  simp only [Z71,Tr.den,ZC,ZH7,ZrH,Option.bind_some]
  cases ((l.Zb.length:Int)==0)<;>cases ((l.Ze.Zo.length:Int)==0)<;>rfl)
 simp only [Z71,Tr.den,ZC,h1,ZzX,bne]
 cases (l.Z05==0)<;>cases (l.Z1z==1)<;>cases l.Z2C<;>rfl)
theorem ZBa (l:Z9):Z9J l=some (ZzX l):=(ZV _ _).trans (by
 simp only [Zd0,Tr.den,ZC,ZGQ,ZtL,Option.bind_some,ZzX]
 cases (l.Z05==0)<;>cases (l.Z1z==1)<;>cases l.Z2C<;>cases ((l.Zb.length:Int)==0)<;>cases ((l.Ze.Zo.length:Int)==0)<;>rfl)
end Go.Proofs.YtjodhcdmhobmoaaGreatDoor
