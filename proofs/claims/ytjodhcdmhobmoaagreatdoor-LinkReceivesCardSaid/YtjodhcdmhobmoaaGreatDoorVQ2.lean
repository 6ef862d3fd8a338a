/- . -/
import Derived.Test.YtjodhcdmhobmoaaGreatDoorVQ2g
set_option linter.unusedVariables false
set_option linter.unusedSimpArgs false
namespace Go.Proofs.YtjodhcdmhobmoaaGreatDoor
open Go Go.Proofs.YtjodhcdmhobmoaaGreatDoor.Le
set_option maxRecDepth 100000
set_option linter.defProp false
set_option maxHeartbeats 40000000
open Go Go.Proofs.YtjodhcdmhobmoaaGreatDoor.Le Go.Proofs.YtjodhcdmhobmoaaGreatDoor.Na
section
variable (s:A7) (c:AO) (ev now:Int)
theorem ZqB:Zt c ⟨s,ev,now,[],[]⟩=some ⟨LM ev now (mF s c)⟩:=by
 unfold mF;cases q:(c.Bl==0)
 all_goals
  iterate 1 (try (refine fe ?_;simp only[Z6r,DN,MN,MJ,MQ,MO,Option.bind_some,Bool.and_self,cond_true,cond_false,Bool.not_true,Bool.not_false,beq_self_eq_true,Bool.and_true,List.nil_append,List.length_nil,q]))
  all_goals (first|done|rfl)
theorem ZBL:ZO c ⟨s,ev,now,[],[]⟩=some ⟨LM ev now (Vd s c now)⟩:=by
 unfold Vd;cases q:(s.BK != 1)<;>cases z:(s.CP != 0)
 all_goals
  iterate 2 (try (refine fe ?_;simp only[Z77,DN,MN,MJ,MQ,MO,Option.bind_some,Bool.and_self,cond_true,cond_false,Bool.not_true,Bool.not_false,beq_self_eq_true,Bool.and_true,List.nil_append,List.length_nil,q,z]))
  all_goals (first|done|rfl)
theorem ZAx:ZF c ⟨s,ev,now,[],[]⟩=some ⟨LM ev now (Va s c)⟩:=by
 unfold Va;cases q:(s.BK != 1)<;>cases z:(s.CP==1)
 all_goals
  iterate 2 (try (refine fe ?_;simp only[Z6W,DN,MN,MJ,MQ,MO,Option.bind_some,Bool.and_self,cond_true,cond_false,Bool.not_true,Bool.not_false,beq_self_eq_true,Bool.and_true,List.nil_append,List.length_nil,q,z]))
  all_goals (first|done|rfl)
theorem Zxc:Zx c ⟨s,ev,now,[],[]⟩=some ⟨LM ev now (Vj s)⟩:=by
 unfold Vj;cases q:(s.BK != 1)<;>cases z:(s.CP==2)
 all_goals
  iterate 2 (try (refine fe ?_;simp only[Z6N,DN,MN,MJ,MQ,MO,Option.bind_some,Bool.and_self,cond_true,cond_false,Bool.not_true,Bool.not_false,beq_self_eq_true,Bool.and_true,List.nil_append,List.length_nil,q,z]))
  all_goals (first|done|rfl)
theorem hp_on:Z08 c ⟨s,ev,now,[],[]⟩=some ⟨LM ev now (Vy s)⟩:=by
 unfold Vy;cases q:(s.CP != 3)<;>cases z:(s.BK != 1)
 all_goals
  iterate 1 (try (refine fe ?_;simp only[Z7U,DN,MN,MJ,MQ,MO,Option.bind_some,Bool.and_self,cond_true,cond_false,Bool.not_true,Bool.not_false,beq_self_eq_true,Bool.and_true,List.nil_append,List.length_nil,q,z]))
  all_goals (first|done|rfl)
theorem ZcG (hm:(s.Own == -1)=true->(s.Own != c.DL)=true):nH c ⟨s,ev,now,[],[]⟩=some ⟨LM ev now (QC s c)⟩:=by
 unfold QC;cases z:(s.Own == -1)<;>cases q:(s.Own != c.DL)<;>cases A:(s.Own==0||s.Own==1)<;>cases C:(s.Own==2)<;>cases D:(s.Own==3)
 all_goals
  try (have:=hm z;rw[q]at this;cases this)
  iterate 3 (try (refine fe ?_;simp only[Z6z,DN,MN,MJ,MQ,MO,Option.bind_some,Bool.and_self,cond_true,cond_false,Bool.not_true,Bool.not_false,beq_self_eq_true,Bool.and_true,List.nil_append,List.length_nil,(YH s.Own).1,z,q,A,C,D]))
  all_goals (first|done|rfl)
theorem ZcP:nI c ⟨s,ev,now,[],[]⟩=some ⟨LM ev now (Oi s c)⟩:=by
 unfold Oi;cases q:(c.Kind==9)<;>cases z:(s.Own != 8)
 all_goals
  iterate 2 (try (refine fe ?_;simp only[Z6y,DN,MN,MJ,MQ,MO,Option.bind_some,Bool.and_self,cond_true,cond_false,Bool.not_true,Bool.not_false,beq_self_eq_true,Bool.and_true,List.nil_append,List.length_nil,q,z]))
  all_goals (first|done|rfl)
theorem Zxf:ZC c ⟨s,ev,now,[],[]⟩=some ⟨LM ev now (Vb s c)⟩:=by
 unfold Vb;cases q:(s.Own==12)<;>cases z:s.FY
 all_goals
  iterate 1 (try (refine fe ?_;simp only[Z6M,DN,MN,MJ,MQ,MO,Option.bind_some,Bool.and_self,cond_true,cond_false,Bool.not_true,Bool.not_false,beq_self_eq_true,Bool.and_true,List.nil_append,List.length_nil,q,z]))
  all_goals (first|done|rfl)
theorem Zza:ZH c ⟨s,ev,now,[],[]⟩=some ⟨LM ev now (Vh s c now)⟩:=by
 unfold Vh;cases q:(s.BK != 1)<;>cases z:(s.Own==0||s.Own==1)
 all_goals
  iterate 1 (try (refine fe ?_;simp only[Z71,DN,MN,MJ,MQ,MO,Option.bind_some,Bool.and_self,cond_true,cond_false,Bool.not_true,Bool.not_false,beq_self_eq_true,Bool.and_true,List.nil_append,List.length_nil,(YH s.Own).1,q,z]))
  all_goals (first|done|rfl)
theorem ZCB:ZR c ⟨s,ev,now,[],[]⟩=some ⟨LM ev now (Y8 s)⟩:=by
 unfold Y8
 all_goals
  iterate 1 (try (refine fe ?_;simp only[Z7k,DN,MN,MJ,MQ,MO,Option.bind_some,Bool.and_self,cond_true,cond_false,Bool.not_true,Bool.not_false,beq_self_eq_true,Bool.and_true,List.nil_append,List.length_nil]))
  all_goals (first|done|rfl)
theorem Zzc:ZG c ⟨s,ev,now,[],[]⟩=some ⟨LM ev now (V7 s)⟩:=by
 unfold V7;cases q:(s.Own==18)
 all_goals
  iterate 1 (try (refine fe ?_;simp only[Z6T,DN,MN,MJ,MQ,MO,Option.bind_some,Bool.and_self,cond_true,cond_false,Bool.not_true,Bool.not_false,beq_self_eq_true,Bool.and_true,List.nil_append,List.length_nil,q]))
  all_goals (first|done|rfl)
theorem Zfc:nM c ⟨s,ev,now,[],[]⟩=some ⟨LM ev now (hLen s c)⟩:=by
 unfold hLen;cases q:(c.Kind==21)<;>cases z:(s.Own != 20)
 all_goals
  iterate 2 (try (refine fe ?_;simp only[Z6Z,DN,MN,MJ,MQ,MO,Option.bind_some,Bool.and_self,cond_true,cond_false,Bool.not_true,Bool.not_false,beq_self_eq_true,Bool.and_true,List.nil_append,List.length_nil,q,z]))
  all_goals (first|done|rfl)
theorem Zem (hP:s.Ak.length<=1):∃q,nJ c ⟨s,ev,now,[],[]⟩=some ⟨LM ev now (Tt s c ev now),q⟩:=by
 have G:=ZaE s.Ak ev (Iw c) hP;unfold Tt;refine⟨s.Ak,?_⟩;cases z:(s.BK != 1)<;>cases A:((JZ s.Ak ev (Iw c)).2==0)<;>cases C:(c.Kind==0)<;>cases D:(s.Own==15)<;>cases F:((JZ s.Ak ev (Iw c)).2==18)
 all_goals
  iterate 2 (try (refine fe ?_;simp only[Z6K,DN,MN,MJ,MQ,MO,Option.bind_some,Bool.and_self,cond_true,cond_false,Bool.not_true,Bool.not_false,beq_self_eq_true,Bool.and_true,List.nil_append,List.length_nil,G,z,A,C,D,F]))
  all_goals (first|done|rfl)
theorem J5 (z:A7) (r:HR):AU IJ (.b1 z (LM ev now r))=some r:=fe (by simp only[IJ,hdB,DN];rfl)
variable (hw:s.Ah.length<=100) (hP:s.Ak.length<=1)
include hw hP
theorem JX (q:(s.Bz != 0)=true):Gz s c ev now=some (s,[],[])/\Uh s c ev now=some (s,[],[]):=by
 constructor
 ·refine fe ?_;simp only[IJ,hdB,DN,Iu s ev now hw hP,q,Bool.and_self,cond_true,cond_false,Option.bind_some]
 ·refine fe ?_;simp only[I4,DN,q,Bool.and_self,cond_true,cond_false,Option.bind_some]
theorem hd_0 (hk:c.Kind=0) (z:(s.Bz != 0)=false):Gz s c ev now=some (Tt s c ev now):=by
 obtain⟨q,A⟩:=Zem s c ev now hP;refine fe ?_;simp only[IJ,hdB,DN,Iu s ev now hw hP,z,hk,A,J5,Int.reduceBEq,Bool.and_self,cond_true,cond_false,Option.bind_some]
theorem hd_1 (hk:c.Kind=1) (z:(s.Bz != 0)=false):Gz s c ev now=some (Tt s c ev now):=by
 obtain⟨q,A⟩:=Zem s c ev now hP;refine fe ?_;simp only[IJ,hdB,DN,Iu s ev now hw hP,z,hk,A,J5,Int.reduceBEq,Bool.and_self,cond_true,cond_false,Option.bind_some]
theorem hd_2 (hk:c.Kind=2) (q:(s.Bz != 0)=false):Gz s c ev now=some (mF s c):=by
 have z:=ZqB s c ev now;refine fe ?_;simp only[IJ,hdB,DN,Iu s ev now hw hP,q,hk,z,J5,Int.reduceBEq,Bool.and_self,cond_true,cond_false,Option.bind_some]
theorem hd_3 (hk:c.Kind=3) (q:(s.Bz != 0)=false):Gz s c ev now=some (Vd s c now):=by
 have z:=ZBL s c ev now;refine fe ?_;simp only[IJ,hdB,DN,Iu s ev now hw hP,q,hk,z,J5,Int.reduceBEq,Bool.and_self,cond_true,cond_false,Option.bind_some]
theorem hd_4 (hk:c.Kind=4) (q:(s.Bz != 0)=false):Gz s c ev now=some (Va s c):=by
 have z:=ZAx s c ev now;refine fe ?_;simp only[IJ,hdB,DN,Iu s ev now hw hP,q,hk,z,J5,Int.reduceBEq,Bool.and_self,cond_true,cond_false,Option.bind_some]
theorem hd_5 (hk:c.Kind=5) (q:(s.Bz != 0)=false):Gz s c ev now=some (Vj s):=by
 have z:=Zxc s c ev now;refine fe ?_;simp only[IJ,hdB,DN,Iu s ev now hw hP,q,hk,z,J5,Int.reduceBEq,Bool.and_self,cond_true,cond_false,Option.bind_some]
theorem hd_6 (hk:c.Kind=6) (q:(s.Bz != 0)=false):Gz s c ev now=some (Vy s):=by
 have z:=hp_on s c ev now;refine fe ?_;simp only[IJ,hdB,DN,Iu s ev now hw hP,q,hk,z,J5,Int.reduceBEq,Bool.and_self,cond_true,cond_false,Option.bind_some]
theorem hd_7 (hm:(s.Own == -1)=true->(s.Own != c.DL)=true) (hk:c.Kind=7) (q:(s.Bz != 0)=false):Gz s c ev now=some (QC s c):=by
 have z:=ZcG s c ev now hm;refine fe ?_;simp only[IJ,hdB,DN,Iu s ev now hw hP,q,hk,z,J5,Int.reduceBEq,Bool.and_self,cond_true,cond_false,Option.bind_some]
theorem hd_13 (hm:(s.Own == -1)=true->(s.Own != c.DL)=true) (hk:c.Kind=13) (q:(s.Bz != 0)=false):Gz s c ev now=some (QC s c):=by
 have z:=ZcG s c ev now hm;refine fe ?_;simp only[IJ,hdB,DN,Iu s ev now hw hP,q,hk,z,J5,Int.reduceBEq,Bool.and_self,cond_true,cond_false,Option.bind_some]
theorem hd_8 (hk:c.Kind=8) (q:(s.Bz != 0)=false):Gz s c ev now=some (Oi s c):=by
 have z:=ZcP s c ev now;refine fe ?_;simp only[IJ,hdB,DN,Iu s ev now hw hP,q,hk,z,J5,Int.reduceBEq,Bool.and_self,cond_true,cond_false,Option.bind_some]
theorem hd_9 (hk:c.Kind=9) (q:(s.Bz != 0)=false):Gz s c ev now=some (Oi s c):=by
 have z:=ZcP s c ev now;refine fe ?_;simp only[IJ,hdB,DN,Iu s ev now hw hP,q,hk,z,J5,Int.reduceBEq,Bool.and_self,cond_true,cond_false,Option.bind_some]
theorem hd_12 (hk:c.Kind=12) (q:(s.Bz != 0)=false):Gz s c ev now=some (Vb s c):=by
 have z:=Zxf s c ev now;refine fe ?_;simp only[IJ,hdB,DN,Iu s ev now hw hP,q,hk,z,J5,Int.reduceBEq,Bool.and_self,cond_true,cond_false,Option.bind_some]
theorem hd_15 (hk:c.Kind=15) (q:(s.Bz != 0)=false):Gz s c ev now=some (Vh s c now):=by
 have z:=Zza s c ev now;refine fe ?_;simp only[IJ,hdB,DN,Iu s ev now hw hP,q,hk,z,J5,Int.reduceBEq,Bool.and_self,cond_true,cond_false,Option.bind_some]
theorem hd_18 (hk:c.Kind=18) (q:(s.Bz != 0)=false):Gz s c ev now=some (Y8 s):=by
 have z:=ZCB s c ev now;refine fe ?_;simp only[IJ,hdB,DN,Iu s ev now hw hP,q,hk,z,J5,Int.reduceBEq,Bool.and_self,cond_true,cond_false,Option.bind_some]
theorem hd_19 (hk:c.Kind=19) (q:(s.Bz != 0)=false):Gz s c ev now=some (V7 s):=by
 have z:=Zzc s c ev now;refine fe ?_;simp only[IJ,hdB,DN,Iu s ev now hw hP,q,hk,z,J5,Int.reduceBEq,Bool.and_self,cond_true,cond_false,Option.bind_some]
theorem hd_20 (hk:c.Kind=20) (q:(s.Bz != 0)=false):Gz s c ev now=some (hLen s c):=by
 have z:=Zfc s c ev now;refine fe ?_;simp only[IJ,hdB,DN,Iu s ev now hw hP,q,hk,z,J5,Int.reduceBEq,Bool.and_self,cond_true,cond_false,Option.bind_some]
theorem hd_21 (hk:c.Kind=21) (q:(s.Bz != 0)=false):Gz s c ev now=some (hLen s c):=by
 have z:=Zfc s c ev now;refine fe ?_;simp only[IJ,hdB,DN,Iu s ev now hw hP,q,hk,z,J5,Int.reduceBEq,Bool.and_self,cond_true,cond_false,Option.bind_some]
end
section
variable (s:A7) (c:AO) (ev now:Int)
theorem ZCz (hk:c.Kind=3) (hr:s.BK=0\/s.BK=1):U0 s c now=some (Vd s c now):=by
 obtain⟨A,C⟩:=lV hr;unfold Vd;have q1:(s.CP==0) = !(s.CP != 0):=by rw[bne];cases (s.CP==0)<;>rfl
 cases q:(s.BK != 1)<;>cases z:(s.CP != 0)
 all_goals
  iterate 6 (try (refine fe ?_;simp only[Wj,DN,Fb,Fh,Ff,Option.bind_some,Bool.and_self,cond_true,cond_false,Bool.not_true,Bool.not_false,Int.reduceBEq,hk,A,q1,q,z]))
  all_goals (first|done|rfl)
theorem ZyR (hk:c.Kind=4) (hr:s.BK=0\/s.BK=1):U0 s c now=some (Va s c):=by
 obtain⟨A,C⟩:=lV hr;unfold Va;cases q:(s.BK != 1)<;>cases z:(s.CP==1)
 all_goals
  iterate 6 (try (refine fe ?_;simp only[Wj,DN,Fb,Fh,Ff,Option.bind_some,Bool.and_self,cond_true,cond_false,Bool.not_true,Bool.not_false,Int.reduceBEq,hk,A,q,z]))
  all_goals (first|done|rfl)
theorem Zxw (hk:c.Kind=5) (hr:s.BK=0\/s.BK=1):U0 s c now=some (Vj s):=by
 obtain⟨A,C⟩:=lV hr;unfold Vj;cases q:(s.BK != 1)<;>cases z:(s.CP==2)
 all_goals
  iterate 6 (try (refine fe ?_;simp only[Wj,DN,Fb,Fh,Ff,Option.bind_some,Bool.and_self,cond_true,cond_false,Bool.not_true,Bool.not_false,Int.reduceBEq,hk,A,q,z]))
  all_goals (first|done|rfl)
theorem hr_on (hk:c.Kind=6) (hr:s.BK=0\/s.BK=1):U0 s c now=some (Vy s):=by
 obtain⟨A,C⟩:=lV hr;unfold Vy;have q1:(s.CP==3) = !(s.CP != 3):=by rw[bne];cases (s.CP==3)<;>rfl
 cases q:(s.CP != 3)<;>cases z:(s.BK != 1)
 all_goals
  iterate 6 (try (refine fe ?_;simp only[Wj,DN,Fb,Fh,Ff,Option.bind_some,Bool.and_self,cond_true,cond_false,Bool.not_true,Bool.not_false,Int.reduceBEq,hk,A,q1,q,z]))
  all_goals (first|done|rfl)
theorem Zc1:o6 s c=some (QC s c):=by
 unfold QC;cases q:(s.Own != c.DL)<;>cases z:(s.Own==0||s.Own==1)<;>cases A:(s.Own==2)<;>cases C:(s.Own==3)
 all_goals
  iterate 3 (try (refine fe ?_;simp only[Z0o,DN,Fb,Fh,Ff,Option.bind_some,Bool.and_self,cond_true,cond_false,Bool.not_true,Bool.not_false,Int.reduceBEq,(YH s.Own).2,q,z,A,C]))
  all_goals (first|done|rfl)
theorem ZzA (hr:s.BK=0\/s.BK=1):oQ s c now=some (Vh s c now):=by
 obtain⟨C,A⟩:=lV hr;unfold Vh;cases q:(s.BK != 1)<;>cases z:(s.Own==0||s.Own==1)
 all_goals
  iterate 1 (try (refine fe ?_;simp only[Z0r,DN,Fb,Fh,Ff,Option.bind_some,Bool.and_self,cond_true,cond_false,Bool.not_true,Bool.not_false,Int.reduceBEq,A,(YH s.Own).2,q,z]))
  all_goals (first|done|rfl)
theorem Zf6:oU s c=some (hLen s c):=by
 unfold hLen;cases q:(c.Kind==21)<;>cases z:(s.Own != 20)
 all_goals
  iterate 2 (try (refine fe ?_;simp only[Z0t,DN,Fb,Fh,Ff,Option.bind_some,Bool.and_self,cond_true,cond_false,Bool.not_true,Bool.not_false,Int.reduceBEq,q,z]))
  all_goals (first|done|rfl)
theorem ZBd (hk:c.Kind=8):Ry s c=some (Oi s c):=by
 have q:(c.Kind==9)=false:=by rw[hk];rfl
 unfold Oi;rw[q]
 all_goals
  iterate 5 (try (refine fe ?_;simp only[U8,DN,Fb,Fh,Ff,Option.bind_some,Bool.and_self,cond_true,cond_false,Bool.not_true,Bool.not_false,Int.reduceBEq,hk]))
  all_goals (first|done|rfl)
theorem ZBD (hk:c.Kind=9):Ry s c=some (Oi s c):=by
 have z:(c.Kind==9)=true:=by rw[hk];rfl
 unfold Oi;rw[z];have q1:(s.Own==8) = !(s.Own != 8):=by rw[bne];cases (s.Own==8)<;>rfl
 cases q:(s.Own != 8)
 all_goals
  iterate 5 (try (refine fe ?_;simp only[U8,DN,Fb,Fh,Ff,Option.bind_some,Bool.and_self,cond_true,cond_false,Bool.not_true,Bool.not_false,Int.reduceBEq,hk,q1,q]))
  all_goals (first|done|rfl)
theorem ZxI (hk:c.Kind=12):Ry s c=some (Vb s c):=by
 unfold Vb;cases q:(s.Own==12)<;>cases z:s.FY
 all_goals
  iterate 5 (try (refine fe ?_;simp only[U8,DN,Fb,Fh,Ff,Option.bind_some,Bool.and_self,cond_true,cond_false,Bool.not_true,Bool.not_false,Int.reduceBEq,hk,q,z]))
  all_goals (first|done|rfl)
theorem ZDX (hk:c.Kind=18):Ry s c=some (Y8 s):=by
 unfold Y8
 all_goals
  iterate 5 (try (refine fe ?_;simp only[U8,DN,Fb,Fh,Ff,Option.bind_some,Bool.and_self,cond_true,cond_false,Bool.not_true,Bool.not_false,Int.reduceBEq,hk]))
  all_goals (first|done|rfl)
theorem ZzQ (hk:c.Kind=19):Ry s c=some (V7 s):=by
 unfold V7;cases q:(s.Own==18)
 all_goals
  iterate 5 (try (refine fe ?_;simp only[U8,DN,Fb,Fh,Ff,Option.bind_some,Bool.and_self,cond_true,cond_false,Bool.not_true,Bool.not_false,Int.reduceBEq,hk,q]))
  all_goals (first|done|rfl)
theorem Zdn (hP:s.Ak.length<=1) (G:r16 ev) (hc:r16 c.Ci):oI s c ev now=some (Tt s c ev now).1:=by
 have F:VD s.Ak ev (Iw c)=some (JZ s.Ak ev (Iw c)):=ZzS s.Ak ev (Iw c) hP G hc;have hx:((JZ s.Ak ev (Iw c)).2==18)=true->((JZ s.Ak ev (Iw c)).2==0)=false:=fun h=>by rw[beq_iff_eq.1 h];rfl
 have q1:((JZ s.Ak ev (Iw c)).2 != 0) = !((JZ s.Ak ev (Iw c)).2==0):=rfl;unfold Tt;cases A:(s.BK != 1)<;>cases q:((JZ s.Ak ev (Iw c)).2==0)<;>cases C:(c.Kind==0)<;>cases D:(s.Own==15)<;>cases z:((JZ s.Ak ev (Iw c)).2==18)
 all_goals
  first
   | (have:=hx z;rw[q]at this;cases this)
   | skip
  iterate 2 (try (refine fe ?_;simp only[Z0k,DN,Fb,Fh,Ff,Option.bind_some,Bool.and_self,cond_true,cond_false,Bool.not_true,Bool.not_false,Int.reduceBEq,F,q1,A,q,C,D,z]))
  all_goals (first|done|rfl)
theorem kn {c:AO} (h:CV c):∃u,DJ c.Kind=some u/\u.FI=true:=by
 rcases kC c.Kind with ⟨hf,hk⟩|⟨hf,hk⟩|⟨hf,hk⟩|⟨hf,hk⟩|⟨hf,hk⟩|⟨hf,hk⟩|⟨hf,hk⟩|⟨hf,hk⟩|⟨hf,hk⟩|⟨hf,hk⟩|⟨hf,hk⟩|⟨hf,hk⟩|⟨hf,hk⟩
 all_goals first|exact⟨_,hf,rfl⟩|(exfalso;cases h<;>(dsimp only at hk;omega))
def HK (r:HR):Prop:=Gz s c ev now=some (bif s.Bz != 0 then (s,[],[]) else r)/\Uh s c ev now=some (bif s.Bz != 0 then (s,[],[]) else r)
variable (hw:s.Ah.length<=100) (hP:s.Ak.length<=1) (hr:s.BK=0\/s.BK=1) (hv:CV c)
include hw hP hv
theorem hk_0 (z:r16 ev) (A:r16 c.Ci) (hk:c.Kind=0):HK s c ev now (Tt s c ev now):=by
 unfold HK;cases q:(s.Bz != 0)
 ·refine⟨hd_0 s c ev now hw hP hk q,?_⟩;obtain⟨u,hf,hu⟩:=kn hv;rw[hk]at hf;simp only[cond_false];have C:=Zdn s c ev now hP z A
  iterate 6 (try (refine fe ?_;simp only[I4,DN,Fb,Fh,Ff,Option.bind_some,Bool.and_self,cond_true,cond_false,Bool.not_true,Bool.not_false,Int.reduceBEq,hf,hu,q,hk,C]))
  all_goals (first|done|rfl)
 ·exact JX s c ev now hw hP q
theorem hk_1 (z:r16 ev) (A:r16 c.Ci) (hk:c.Kind=1):HK s c ev now (Tt s c ev now):=by
 unfold HK;cases q:(s.Bz != 0)
 ·refine⟨hd_1 s c ev now hw hP hk q,?_⟩;obtain⟨u,hf,hu⟩:=kn hv;rw[hk]at hf;simp only[cond_false];have C:=Zdn s c ev now hP z A
  iterate 6 (try (refine fe ?_;simp only[I4,DN,Fb,Fh,Ff,Option.bind_some,Bool.and_self,cond_true,cond_false,Bool.not_true,Bool.not_false,Int.reduceBEq,hf,hu,q,hk,C]))
  all_goals (first|done|rfl)
 ·exact JX s c ev now hw hP q
theorem hk_2 (hk:c.Kind=2):HK s c ev now (mF s c):=by
 unfold HK;cases q:(s.Bz != 0)
 ·refine⟨hd_2 s c ev now hw hP hk q,?_⟩;obtain⟨u,hf,hu⟩:=kn hv;rw[hk]at hf;simp only[cond_false];unfold mF;cases z:(c.Bl==0)
  all_goals
   iterate 4 (try (refine fe ?_;simp only[I4,DN,Fb,Fh,Ff,Option.bind_some,Bool.and_self,cond_true,cond_false,Bool.not_true,Bool.not_false,Int.reduceBEq,hf,hu,q,hk,z]))
   all_goals (first|done|rfl)
 ·exact JX s c ev now hw hP q
include hr in
theorem hk_3 (hk:c.Kind=3):HK s c ev now (Vd s c now):=by
 unfold HK;cases q:(s.Bz != 0)
 ·refine⟨hd_3 s c ev now hw hP hk q,?_⟩;obtain⟨u,hf,hu⟩:=kn hv;rw[hk]at hf;simp only[cond_false];have z:=ZCz s c now hk hr
  iterate 6 (try (refine fe ?_;simp only[I4,DN,Fb,Fh,Ff,Option.bind_some,Bool.and_self,cond_true,cond_false,Bool.not_true,Bool.not_false,Int.reduceBEq,hf,hu,q,hk,z]))
  all_goals (first|done|rfl)
 ·exact JX s c ev now hw hP q
include hr in
theorem hk_4 (hk:c.Kind=4):HK s c ev now (Va s c):=by
 unfold HK;cases q:(s.Bz != 0)
 ·refine⟨hd_4 s c ev now hw hP hk q,?_⟩;obtain⟨u,hf,hu⟩:=kn hv;rw[hk]at hf;simp only[cond_false];have z:=ZyR s c now hk hr
  iterate 6 (try (refine fe ?_;simp only[I4,DN,Fb,Fh,Ff,Option.bind_some,Bool.and_self,cond_true,cond_false,Bool.not_true,Bool.not_false,Int.reduceBEq,hf,hu,q,hk,z]))
  all_goals (first|done|rfl)
 ·exact JX s c ev now hw hP q
include hr in
theorem hk_5 (hk:c.Kind=5):HK s c ev now (Vj s):=by
 unfold HK;cases q:(s.Bz != 0)
 ·refine⟨hd_5 s c ev now hw hP hk q,?_⟩;obtain⟨u,hf,hu⟩:=kn hv;rw[hk]at hf;simp only[cond_false];have z:=Zxw s c now hk hr
  iterate 6 (try (refine fe ?_;simp only[I4,DN,Fb,Fh,Ff,Option.bind_some,Bool.and_self,cond_true,cond_false,Bool.not_true,Bool.not_false,Int.reduceBEq,hf,hu,q,hk,z]))
  all_goals (first|done|rfl)
 ·exact JX s c ev now hw hP q
include hr in
theorem hk_6 (hk:c.Kind=6):HK s c ev now (Vy s):=by
 unfold HK;cases q:(s.Bz != 0)
 ·refine⟨hd_6 s c ev now hw hP hk q,?_⟩;obtain⟨u,hf,hu⟩:=kn hv;rw[hk]at hf;simp only[cond_false];have z:=hr_on s c now hk hr
  iterate 6 (try (refine fe ?_;simp only[I4,DN,Fb,Fh,Ff,Option.bind_some,Bool.and_self,cond_true,cond_false,Bool.not_true,Bool.not_false,Int.reduceBEq,hf,hu,q,hk,z]))
  all_goals (first|done|rfl)
 ·exact JX s c ev now hw hP q
theorem hk_7 (hm:(s.Own == -1)=true->(s.Own != c.DL)=true) (hk:c.Kind=7):HK s c ev now (QC s c):=by
 unfold HK;cases q:(s.Bz != 0)
 ·refine⟨hd_7 s c ev now hw hP hm hk q,?_⟩;obtain⟨u,hf,hu⟩:=kn hv;rw[hk]at hf;simp only[cond_false];have z:=Zc1 s c
  iterate 6 (try (refine fe ?_;simp only[I4,DN,Fb,Fh,Ff,Option.bind_some,Bool.and_self,cond_true,cond_false,Bool.not_true,Bool.not_false,Int.reduceBEq,hf,hu,q,hk,z]))
  all_goals (first|done|rfl)
 ·exact JX s c ev now hw hP q
theorem hk_13 (hm:(s.Own == -1)=true->(s.Own != c.DL)=true) (hk:c.Kind=13):HK s c ev now (QC s c):=by
 unfold HK;cases q:(s.Bz != 0)
 ·refine⟨hd_13 s c ev now hw hP hm hk q,?_⟩;obtain⟨u,hf,hu⟩:=kn hv;rw[hk]at hf;simp only[cond_false];have z:=Zc1 s c
  iterate 6 (try (refine fe ?_;simp only[I4,DN,Fb,Fh,Ff,Option.bind_some,Bool.and_self,cond_true,cond_false,Bool.not_true,Bool.not_false,Int.reduceBEq,hf,hu,q,hk,z]))
  all_goals (first|done|rfl)
 ·exact JX s c ev now hw hP q
theorem hk_8 (hk:c.Kind=8):HK s c ev now (Oi s c):=by
 unfold HK;cases q:(s.Bz != 0)
 ·refine⟨hd_8 s c ev now hw hP hk q,?_⟩;obtain⟨u,hf,hu⟩:=kn hv;rw[hk]at hf;simp only[cond_false];have z:=ZBd s c hk
  iterate 6 (try (refine fe ?_;simp only[I4,DN,Fb,Fh,Ff,Option.bind_some,Bool.and_self,cond_true,cond_false,Bool.not_true,Bool.not_false,Int.reduceBEq,hf,hu,q,hk,z]))
  all_goals (first|done|rfl)
 ·exact JX s c ev now hw hP q
theorem hk_9 (hk:c.Kind=9):HK s c ev now (Oi s c):=by
 unfold HK;cases q:(s.Bz != 0)
 ·refine⟨hd_9 s c ev now hw hP hk q,?_⟩;obtain⟨u,hf,hu⟩:=kn hv;rw[hk]at hf;simp only[cond_false];have z:=ZBD s c hk
  iterate 6 (try (refine fe ?_;simp only[I4,DN,Fb,Fh,Ff,Option.bind_some,Bool.and_self,cond_true,cond_false,Bool.not_true,Bool.not_false,Int.reduceBEq,hf,hu,q,hk,z]))
  all_goals (first|done|rfl)
 ·exact JX s c ev now hw hP q
theorem hk_12 (hk:c.Kind=12):HK s c ev now (Vb s c):=by
 unfold HK;cases q:(s.Bz != 0)
 ·refine⟨hd_12 s c ev now hw hP hk q,?_⟩;obtain⟨u,hf,hu⟩:=kn hv;rw[hk]at hf;simp only[cond_false];have z:=ZxI s c hk
  iterate 6 (try (refine fe ?_;simp only[I4,DN,Fb,Fh,Ff,Option.bind_some,Bool.and_self,cond_true,cond_false,Bool.not_true,Bool.not_false,Int.reduceBEq,hf,hu,q,hk,z]))
  all_goals (first|done|rfl)
 ·exact JX s c ev now hw hP q
include hr in
theorem hk_15 (hk:c.Kind=15):HK s c ev now (Vh s c now):=by
 unfold HK;cases q:(s.Bz != 0)
 ·refine⟨hd_15 s c ev now hw hP hk q,?_⟩;obtain⟨u,hf,hu⟩:=kn hv;rw[hk]at hf;simp only[cond_false];have z:=ZzA s c now hr
  iterate 6 (try (refine fe ?_;simp only[I4,DN,Fb,Fh,Ff,Option.bind_some,Bool.and_self,cond_true,cond_false,Bool.not_true,Bool.not_false,Int.reduceBEq,hf,hu,q,hk,z]))
  all_goals (first|done|rfl)
 ·exact JX s c ev now hw hP q
theorem hk_18 (hk:c.Kind=18):HK s c ev now (Y8 s):=by
 unfold HK;cases q:(s.Bz != 0)
 ·refine⟨hd_18 s c ev now hw hP hk q,?_⟩;obtain⟨u,hf,hu⟩:=kn hv;rw[hk]at hf;simp only[cond_false];have z:=ZDX s c hk
  iterate 6 (try (refine fe ?_;simp only[I4,DN,Fb,Fh,Ff,Option.bind_some,Bool.and_self,cond_true,cond_false,Bool.not_true,Bool.not_false,Int.reduceBEq,hf,hu,q,hk,z]))
  all_goals (first|done|rfl)
 ·exact JX s c ev now hw hP q
theorem hk_19 (hk:c.Kind=19):HK s c ev now (V7 s):=by
 unfold HK;cases q:(s.Bz != 0)
 ·refine⟨hd_19 s c ev now hw hP hk q,?_⟩;obtain⟨u,hf,hu⟩:=kn hv;rw[hk]at hf;simp only[cond_false];have z:=ZzQ s c hk
  iterate 6 (try (refine fe ?_;simp only[I4,DN,Fb,Fh,Ff,Option.bind_some,Bool.and_self,cond_true,cond_false,Bool.not_true,Bool.not_false,Int.reduceBEq,hf,hu,q,hk,z]))
  all_goals (first|done|rfl)
 ·exact JX s c ev now hw hP q
theorem hk_20 (hk:c.Kind=20):HK s c ev now (hLen s c):=by
 unfold HK;cases q:(s.Bz != 0)
 ·refine⟨hd_20 s c ev now hw hP hk q,?_⟩;obtain⟨u,hf,hu⟩:=kn hv;rw[hk]at hf;simp only[cond_false];have z:=Zf6 s c
  iterate 6 (try (refine fe ?_;simp only[I4,DN,Fb,Fh,Ff,Option.bind_some,Bool.and_self,cond_true,cond_false,Bool.not_true,Bool.not_false,Int.reduceBEq,hf,hu,q,hk,z]))
  all_goals (first|done|rfl)
 ·exact JX s c ev now hw hP q
theorem hk_21 (hk:c.Kind=21):HK s c ev now (hLen s c):=by
 unfold HK;cases q:(s.Bz != 0)
 ·refine⟨hd_21 s c ev now hw hP hk q,?_⟩;obtain⟨u,hf,hu⟩:=kn hv;rw[hk]at hf;simp only[cond_false];have z:=Zf6 s c
  iterate 6 (try (refine fe ?_;simp only[I4,DN,Fb,Fh,Ff,Option.bind_some,Bool.and_self,cond_true,cond_false,Bool.not_true,Bool.not_false,Int.reduceBEq,hf,hu,q,hk,z]))
  all_goals (first|done|rfl)
 ·exact JX s c ev now hw hP q
include hr in
theorem ZC3 (J:r16 ev) (N : -1<=s.Own):∃r,Gz s c ev now=some r/\Uh s c ev now=some r/\r.2.1.length<=1/\r.2.2.length<=1/\∀x∈r.2.2,x.Ap.Payload=[]:=by
 have q:∀r:HR,HK s c ev now r->r.2.1.length<=1/\r.2.2.length<=1/\(∀x∈r.2.2,x.Ap.Payload=[])->∃r,Gz s c ev now=some r/\Uh s c ev now=some r/\r.2.1.length<=1/\r.2.2.length<=1/\∀x∈r.2.2,x.Ap.Payload=[]:=fun r h hb=>by
  refine⟨_,h.1,h.2,?_⟩;cases s.Bz != 0
  ·exact hb
  ·exact⟨Nat.zero_le _,Nat.zero_le _,fun x h=>nomatch h⟩
 have z:∀(p:A7),((p,[],[]):HR).2.1.length<=1/\((p,[],[]):HR).2.2.length<=1/\(∀x∈((p,[],[]):HR).2.2,x.Ap.Payload=[]):=fun p=>⟨Nat.zero_le _,Nat.zero_le _,fun x h=>nomatch h⟩;have G:∀(p:A7) (a:AO),((p,[a],[]):HR).2.1.length<=1/\((p,[a],[]):HR).2.2.length<=1/\(∀x∈((p,[a],[]):HR).2.2,x.Ap.Payload=[]):=fun p a=>⟨Nat.le_refl _,Nat.zero_le _,fun x h=>nomatch h⟩;have C:∀(p:A7) (a:List AO) (i:Am),a.length<=1->i.Ap.Payload=[]->((p,a,[i]):HR).2.1.length<=1/\((p,a,[i]):HR).2.2.length<=1/\(∀x∈((p,a,[i]):HR).2.2,x.Ap.Payload=[]):=fun p a i h M=>⟨h,Nat.le_refl _,fun x hx=>by rw[List.mem_singleton.1 hx];exact M⟩;have A :=hv;cases hv with
 | upd u i D F=>exact q _ (hk_0 s _ ev now hw hP A J F rfl) (z _)
 | map m i D F I=>exact q _ (hk_1 s _ ev now hw hP A J I rfl) (z _)
 | term r D=>exact q _ (hk_2 s _ ev now hw hP A rfl) (z _)
 | enc a m D F=>
  refine q _ (hk_3 s _ ev now hw hP hr A rfl) ?_;unfold Vd;cases (s.BK != 1)<;>cases (s.CP != 0)<;>first|exact z _|exact C _ _ _ (by first|exact Nat.le_refl _|exact Nat.zero_le _) rfl
 | ans a D=>
  refine q _ (hk_4 s _ ev now hw hP hr A rfl) ?_;unfold Va;cases (s.BK != 1)<;>cases (s.CP==1)<;>exact z _
 | plain k hk=>
  rcases hk with rfl|rfl|rfl|rfl
  ·refine q _ (hk_5 s _ ev now hw hP hr A rfl) ?_;unfold Vj;cases (s.BK != 1)<;>cases (s.CP==2)<;>first|exact z _|exact G _ _
  ·refine q _ (hk_6 s _ ev now hw hP hr A rfl) ?_;unfold Vy;cases (s.CP != 3)<;>cases (s.BK != 1)<;>first|exact z _|exact C _ _ _ (by first|exact Nat.le_refl _|exact Nat.zero_le _) rfl
  ·exact q _ (hk_18 s _ ev now hw hP A rfl) (G _ _)
  ·refine q _ (hk_19 s _ ev now hw hP A rfl) ?_;unfold V7;cases (s.Own==18)<;>first|exact z _|exact C _ _ _ (by first|exact Nat.le_refl _|exact Nat.zero_le _) rfl
 | UB a D=>
  have hm:(s.Own == -1)=true->(s.Own != a)=true:=fun h=>by rw[beq_iff_eq.1 h];have:=D.1;simp only[bne_iff_ne,ne_eq];omega
  refine q _ (hk_7 s _ ev now hw hP A hm rfl) ?_;unfold QC;dsimp only;cases (s.Own != a)<;>cases (s.Own==0||s.Own==1)<;>cases (s.Own==2)<;>cases (s.Own==3)<;>first|exact z _|exact C _ _ _ (by first|exact Nat.le_refl _|exact Nat.zero_le _) rfl
 | UC a k D F=>
  have hm:(s.Own == -1)=true->(s.Own != k)=true:=fun h=>by rw[beq_iff_eq.1 h];have:=F.1;simp only[bne_iff_ne,ne_eq];omega
  refine q _ (hk_13 s _ ev now hw hP A hm rfl) ?_;unfold QC;dsimp only;cases (s.Own != k)<;>cases (s.Own==0||s.Own==1)<;>cases (s.Own==2)<;>cases (s.Own==3)<;>first|exact z _|exact C _ _ _ (by first|exact Nat.le_refl _|exact Nat.zero_le _) rfl
 | Y2 k f hk F=>
  rcases hk with rfl|rfl
  ·exact q _ (hk_8 s _ ev now hw hP A rfl) (C _ _ _ (by first|exact Nat.le_refl _|exact Nat.zero_le _) rfl)
  ·refine q _ (hk_9 s _ ev now hw hP A rfl) ?_;unfold Oi;cases (s.Own != 8)<;>first|exact z _|exact C _ _ _ (by first|exact Nat.le_refl _|exact Nat.zero_le _) rfl
 | WE v D=>
  refine q _ (hk_12 s _ ev now hw hP A rfl) ?_;unfold Vb;cases (s.Own==12)<;>cases s.FY<;>exact C _ _ _ (by first|exact Nat.le_refl _|exact Nat.zero_le _) rfl
 | par u D=>
  refine q _ (hk_15 s _ ev now hw hP hr A rfl) ?_;unfold Vh;cases (s.BK != 1)<;>cases (s.Own==0||s.Own==1)<;>first|exact z _|exact G _ _|exact C _ _ _ (by first|exact Nat.le_refl _|exact Nat.zero_le _) rfl
 | len k n hk F I=>
  rcases hk with rfl|rfl
  ·exact q _ (hk_20 s _ ev now hw hP A rfl) (C _ _ _ (by first|exact Nat.le_refl _|exact Nat.zero_le _) rfl)
  ·refine q _ (hk_21 s _ ev now hw hP A rfl) ?_;unfold hLen;cases (s.Own != 20)<;>first|exact z _|exact C _ _ _ (by first|exact Nat.le_refl _|exact Nat.zero_le _) rfl
end
noncomputable def KR (k q:Int) (z s:List Int):List Int×Int:=
 bif decide (s.length<4) then ([],3) else bif decide (Oe k q z (s.take (s.length - 4))=s.drop (s.length - 4)) then (Ed (s.take (s.length - 4)) (Z4T k q (s.length - 4)),0) else ([],15)
theorem ZfX {b:List Int} (h:¬b.length<4) (hl:b.length<=50000) :
  AQ ((b.length:Int) - 4)=((b.length - 4:Nat):Int)/\(b.drop 0).take (b.length - 4 - 0)=b.take (b.length - 4)/\decide (((b.length - 4:Nat):Int)<=(b.length:Int))=true/\decide (((b.length - 4:Nat):Int)<0)=false/\(b.drop (b.length - 4)).take (b.length - (b.length - 4))=b.drop (b.length - 4):=by
 refine⟨by rw[Dy (by omega) (by omega)];omega,by rw[Nat.sub_zero,List.drop_zero],decide_eq_true (by omega),decide_eq_false (by omega),List.take_of_length_le (by rw[List.length_drop];omega)⟩
theorem ZxR {xs ys:List Int} (hx:Bytes xs) (A:Bytes ys) (q:xs.length<=1000000) (z:ys.length<=1000000):vM xs ys=some (decide (xs=ys)):=(Aa _ _).trans (by
 simp only[Z3h,Y7 _ q,Y7 _ z,str_eq hx A,DN,SL,SM])
theorem Zwu (k:Int) (q:Int) (hx:E5 q) (z s:List Int) (I:Bytes z) (hs:Bytes s) (hl:z.length<=1000) (hm:s.length<=50000):Z3o k q z s=some (KR k q z s):=(Aa _ _).trans (by
 unfold KR
 by_cases h:s.length<4
 ·have e:decide (AQ ((s.length:Int) - 4)<0)=true:=decide_eq_true (by rw[Dy (by omega) (by omega)];omega);rw[decide_eq_true h];simp only[Z3y,e,DN,SL,SM]
 ·obtain⟨A,C,D,F,G⟩:=ZfX h hm;rw[decide_eq_false h];have hc:(s.take (s.length - 4)).length<=50000:=by rw[List.length_take];omega
  have J:=Zxi k q hx z (s.take (s.length - 4)) I (hs.take _) hl hc;have hb:Bytes (Oe k q z (s.take (s.length - 4))):=JQ _ _;simp only[Z3y,A,C,D,F,G,J,Y7 (Oe k q z (s.take (s.length - 4))) (by rw[Zff];decide),Y7 (s.drop (s.length - 4)) (by rw[List.length_drop];omega),str_eq hb (hs.drop (s.length - 4)),Zsh k q (s.length - 4) (by omega),ZsP (s.take (s.length - 4)) _ (by omega),DN,SL,SM];cases decide (Oe k q z (s.take (s.length - 4))=s.drop (s.length - 4))<;>rfl)
theorem ZvM (k:Int) (hk:E5 k) (q:Int) (hx:E5 q) (z s:List Int) (I:Bytes z) (hs:Bytes s) (hl:z.length<=1000) (hm:s.length<=50000):uV k q z s=some (KR k q z s):=(Aa _ _).trans (by
 unfold KR
 by_cases h:s.length<4
 ·have e:decide (AQ ((s.length:Int) - 4)<0)=true:=decide_eq_true (by rw[Dy (by omega) (by omega)];omega);rw[decide_eq_true h];simp only[vP,e,DN,SL,SM]
 ·obtain⟨A,C,D,F,G⟩:=ZfX h hm;rw[decide_eq_false h];have hc:(s.take (s.length - 4)).length<=50000:=by rw[List.length_take];omega
  have M:=ZzE k hk q hx z (s.take (s.length - 4)) I (hs.take _) hl hc;have hb:Bytes (Oe k q z (s.take (s.length - 4))):=JQ _ _;have J:=ZxR hb (hs.drop (s.length - 4)) (by rw[Zff];decide) (by rw[List.length_drop];omega);simp only[vP,A,C,D,F,G,M,J,Zsa k hk q hx (s.length - 4) (by omega),ZAA (s.take (s.length - 4)) _ (by omega),DN,SL,SM];cases decide (Oe k q z (s.take (s.length - 4))=s.drop (s.length - 4))<;>rfl)
def JI (s:Bc):Int:=bits .xor .u64 s.Bj (IntKind.wrap .u64 ((IntKind.wrap .u64 ((2:Int)*s.Rx))+(bif s.BK==1 then 0 else 1)))
noncomputable def mD (s:Bc) (p:BI):BI×Int:=
 bif MZ p != 0 then (Df,MZ p) else bif !s.Eg||(bif p.Ap.BP==1 then ((p.Ap.Payload.length:Nat):Int)==0 else false) then (p,0) else bif decide (((p.Ap.Payload.length:Nat):Int)<5) then (Df,3) else
 bif (KR s.Key (JI s) [IntKind.wrap .u8 p.Ap.BP] p.Ap.Payload).2 != 0 then (Df,(KR s.Key (JI s) [IntKind.wrap .u8 p.Ap.BP] p.Ap.Payload).2) else ({ p with Ap:=⟨p.Ap.BP,(KR s.Key (JI s) [IntKind.wrap .u8 p.Ap.BP] p.Ap.Payload).1⟩ },0)
theorem Zgl (s:Bc):E5 (JI s):=b64 _ _ _
theorem Zw6 (s:Bc) (p:BI) (hk:E5 s.Key) (hb:Bytes p.Ap.Payload) (hl:p.Ap.Payload.length<=50000):uT s p=some (mD s p):=(Aa _ _).trans (by
 have q:Bytes [IntKind.wrap .u8 p.Ap.BP]:=Bytes.cons (r8 _) Bytes.nil;have A:tZ s.BK=some (bif s.BK==1 then 0 else 1):=(Aa _ _).trans (by
  simp only[Z2o,DN];cases (s.BK==1)<;>rfl)
 have C:eG s (bif s.BK==1 then 0 else 1) s.Rx=some (JI s):=(Aa _ _).trans (by
  have b1:∀c d x,AU tX (.b1 c d x)=some (bits .xor .u64 x.Bj (IntKind.wrap .u64 ((IntKind.wrap .u64 ((2:Int)*c))+d))):=fun c d x=>(Aa _ _).trans rfl;unfold JI;simp only[tX,DN,b1];cases (s.BK==1)<;>rfl)
 have b1:∀z,AU iF (.b1 s p z)=some (bif decide (((p.Ap.Payload.length:Nat):Int)<5) then (Df,3) else
   bif (KR s.Key (JI s) [IntKind.wrap .u8 p.Ap.BP] p.Ap.Payload).2 != 0 then (Df,(KR s.Key (JI s) [IntKind.wrap .u8 p.Ap.BP] p.Ap.Payload).2) else ({ p with Ap:=⟨p.Ap.BP,(KR s.Key (JI s) [IntKind.wrap .u8 p.Ap.BP] p.Ap.Payload).1⟩ },0)):=fun z=>(Aa _ _).trans (by
  simp only[iF,DN,A,C,ZvM s.Key hk (JI s) (Zgl s) _ p.Ap.Payload q hb (by simp) hl,ZwE,Option.bind_some];cases decide (((p.Ap.Payload.length:Nat):Int)<5)
  ·cases ((KR s.Key (JI s) [IntKind.wrap .u8 p.Ap.BP] p.Ap.Payload).2 != 0)<;>rfl
  ·rfl)
 simp only[iF,DN,ZcK,sZ,Option.bind_some,b1];unfold mD;cases (MZ p != 0)
 ·cases s.Eg
  ·rfl
  ·cases (bif p.Ap.BP==1 then ((p.Ap.Payload.length:Nat):Int)==0 else false)<;>rfl
 ·rfl)
theorem ZpG (s:Bc) (p:BI) (hk:E5 s.Key) (hb:Bytes p.Ap.Payload) (hl:p.Ap.Payload.length<=50000):Z1v s p=some (mD s p):=(Aa _ _).trans (by
 have A:Bytes [IntKind.wrap .u8 p.Ap.BP]:=Bytes.cons (r8 _) Bytes.nil;have q:=kX [p.Ap.Payload] (by simp;omega) (by simp);rw[show [p.Ap.Payload].flatten=p.Ap.Payload by simp]at q;have C:bits .xor .u64 s.Bj (IntKind.wrap .u64 ((IntKind.wrap .u64 ((2:Int)*s.Rx))+(bif s.BK==1 then ((1:Int),(0:Int)) else (0,1)).2))=JI s:=by
  unfold JI;cases (s.BK==1)<;>rfl
 have b1:∀z,AU Ws (.b1 p z)=some (p,0):=fun z=>(Aa _ _).trans (by
  simp only[Ws,DN,q,Zhw,Option.bind_some];rfl)
 have b2:∀z,AU Ws (.b2 s p z)=some (bif decide (((p.Ap.Payload.length:Nat):Int)<5) then (Df,3) else
   bif (KR s.Key (JI s) [IntKind.wrap .u8 p.Ap.BP] p.Ap.Payload).2 != 0 then (Df,(KR s.Key (JI s) [IntKind.wrap .u8 p.Ap.BP] p.Ap.Payload).2) else ({ p with Ap:=⟨p.Ap.BP,(KR s.Key (JI s) [IntKind.wrap .u8 p.Ap.BP] p.Ap.Payload).1⟩ },0)):=fun z=>(Aa _ _).trans (by
  simp only[Ws,DN,ZDk,ZED,ZBe,C,Zwu s.Key (JI s) (Zgl s) _ p.Ap.Payload A hb (by simp) hl,Zhw,Option.bind_some];cases decide (((p.Ap.Payload.length:Nat):Int)<5)
  ·cases ((KR s.Key (JI s) [IntKind.wrap .u8 p.Ap.BP] p.Ap.Payload).2 != 0)<;>rfl
  ·rfl)
 simp only[Ws,DN,Z9k,Z4l,Option.bind_some,b1,b2];unfold mD;cases (MZ p != 0)
 ·cases s.Eg
  ·rfl
  ·cases (bif p.Ap.BP==1 then ((p.Ap.Payload.length:Nat):Int)==0 else false)<;>rfl
 ·rfl)
theorem TP (n:Int):IntKind.u16.wrap n=n % 65536:=by simp[IntKind.wrap,IntKind.bits,IntKind.signed]
theorem wu32L (n:Int):IntKind.u32.wrap n=n % 4294967296:=by simp[IntKind.wrap,IntKind.bits,IntKind.signed]
theorem ZBE (x a i:Nat) (hx:x<65536) (A:a<65536) (C:i<8):AU XD (.b1 x a i)=AU XD (.b1 x (a ||| ((x >>> i &&& 257) <<< (7 - i)):Nat) (i+1:Nat)):=by
 refine(Aa _ _).trans ?_;simp only[XD,DN];have hs:(x >>> i &&& 257) <<< (7 - i)<65536:=by
  have q:(x >>> i &&& 257)<=257:=Nat.and_le_right;rw[Nat.shiftLeft_eq];have z:2 ^ (7 - i)<=2 ^ 7:=Nat.pow_le_pow_right (by decide) (by omega);exact Nat.lt_of_le_of_lt (Nat.mul_le_mul q z) (by decide)
 rw[show decide ((i:Int)<8)=true by simp;omega,Gh (n:=7 - (i:Int)) (by omega) (by omega),show decide ((0:Int)<=(i:Int))=true by simp,show decide ((0:Int)<=7 - (i:Int))=true by simp;omega];simp only[cond_true];rw[Gh (n:=(i:Int)+1) (by omega) (by omega),show (i:Int).toNat=i by omega,show (7 - (i:Int)).toNat=7 - i by omega,
  show min i IntKind.u16.bits=i from Nat.min_eq_left (by simp[IntKind.bits];omega),show min (7 - i) IntKind.u16.bits=7 - i from Nat.min_eq_left (by simp[IntKind.bits];omega),fd]
 rw[show (257:Int)=((257:Nat):Int) from rfl,u16_and_nat _ _ (Nat.lt_of_le_of_lt (Nat.div_le_self _ _) hx) (by decide),TP];rw[show ((x / 2 ^ i &&& 257:Nat):Int)*2 ^ (7 - i)=(((x >>> i &&& 257) <<< (7 - i):Nat):Int) by rw[Nat.shiftLeft_eq,Nat.shiftRight_eq_div_pow];simp];have hm:(((x >>> i &&& 257) <<< (7 - i):Nat):Int) % 65536=(((x >>> i &&& 257) <<< (7 - i):Nat):Int):=Int.emod_eq_of_lt (Int.natCast_nonneg _) (Int.ofNat_lt.mpr hs);rw[hm,u16_or_nat _ _ A hs];rfl
theorem ZEC {a b:Nat} (q:a<65536) (hb:b<65536):a ||| b<65536:=Nat.or_lt_two_pow (n:=16) q hb
theorem sh_lt (x i:Nat):(x >>> i &&& 257) <<< (7 - i)<65536:=by
 have q:(x >>> i &&& 257)<=257:=Nat.and_le_right;rw[Nat.shiftLeft_eq];have z:2 ^ (7 - i)<=2 ^ 7:=Nat.pow_le_pow_right (by decide) (by omega);exact Nat.lt_of_le_of_lt (Nat.mul_le_mul q z) (by decide)
def Yl (x:Nat):Nat->Nat
 | 0=>0
 | i+1=>Yl x i ||| ((x >>> i &&& 257) <<< (7 - i))
theorem ZFu (x i:Nat):Yl x i<65536:=by
 induction i with
 | zero=>exact(by decide:(0:Nat)<65536)
 | succ i q=>exact ZEC q (sh_lt x i)
theorem ZCx (x:Nat) (hx:x<65536):∀j i:Nat,i+j=8->AU XD (.b1 x (Yl x i:Nat) i)=some ((Yl x 8:Nat):Int):=by
 intro j;induction j with
 | zero=>
  intro i q;refine(Aa _ _).trans ?_;simp only[XD,DN];rw[show decide ((i:Int)<8)=false by simp;omega,show i=8 by omega];rfl
 | succ j z=>
  intro i q;rw[ZBE x _ i hx (ZFu x i) (by omega)];exact z (i+1) (by omega)
theorem ZDP (x:Nat):Yl x 8=KO x:=by
 simp only[Yl,KO,Nat.zero_or]
theorem Zr3 (x:Nat) (hx:x<65536):Z1I (x:Int)=some ((KO x:Nat):Int):=(Aa _ _).trans (by
 rw[<- ZDP];exact ZCx x hx 8 0 (by omega))
theorem ZCs (k:Nat):∀j i x r:Nat,i+j=8->x<256->r<2 ^ i->AU aX (.b1 x r i)=some ((rv j x r:Nat):Int):=by
 intro j;induction j with
 | zero=>
  intro i x r q hx hr;refine(Aa _ _).trans ?_;simp only[aX,DN];rw[show decide ((i:Int)<8)=false by simp;omega];rfl
 | succ j A=>
  intro i x r q hx hr;have z : r<256:=Nat.lt_of_lt_of_le hr (Nat.le_trans (Nat.pow_le_pow_right (by decide) (show i<=8 by omega)) (by decide));refine(Aa _ _).trans ?_;simp only[aX,DN];rw[show decide ((i:Int)<8)=true by simp;omega];simp only[cond_true];rw[Int.tdiv_eq_ediv_of_nonneg (Int.natCast_nonneg _),Int.tmod_eq_emod_of_nonneg (Int.natCast_nonneg _)];rw[Gh (n:=(x:Int) / 2) (by omega) (by omega),Gh (n:=2*(r:Int)) (by omega) (by omega),Gh (n:=2*(r:Int)+(x:Int) % 2) (by omega) (by omega),Gh (n:=(i:Int)+1) (by omega) (by omega)];exact A (i+1) (x / 2) (2*r+x % 2) (by omega) (by omega) (by rw[Nat.pow_succ];omega)
theorem Z9J (x:Nat) (hx:x<256):aY (x:Int)=some ((rv 8 x 0:Nat):Int):=(Aa _ _).trans (ZCs 0 8 0 x 0 (by omega) hx (by decide))
def Oo (c:Nat):Nat->Nat->Nat
 | 0,a=>a ^^^ c
 | k+1,a=>Oo c k ((17*KO a+c) % 65536)
theorem ZFc (c:Nat) (hc:c<65536):∀k a,a<65536->Oo c k a<65536:=by
 intro k;induction k with
 | zero=>intro a q;exact Nat.xor_lt_two_pow (n:=16) q hc
 | succ k z=>intro a q;exact z _ (Nat.mod_lt _ (by decide))
theorem ZBn (c:Nat) (hc:c<65536):∀j i a:Nat,i+j=3->a<65536->AU dJ (.b1 c a i)=some ((Oo c j a:Nat):Int):=by
 intro j;induction j with
 | zero=>
  intro i a z q;refine(Aa _ _).trans ?_;simp only[dJ,DN];rw[show decide ((i:Int)<3)=false by simp;omega];simp only[cond_false];rw[u16_xor_nat _ _ q hc];rfl
 | succ j A=>
  intro i a z q;refine(Aa _ _).trans ?_;simp only[dJ,DN];rw[show decide ((i:Int)<3)=true by simp;omega,Zr3 a q];simp only[cond_true,Option.bind_some];rw[TP,TP,Gh (by omega) (by omega)];have hl:=Zhr a q;rw[show (((KO a:Nat):Int)*17 % 65536+(c:Int)) % 65536=(((17*KO a+c) % 65536:Nat):Int) by omega];exact A (i+1) _ (by omega) (Nat.mod_lt _ (by decide))
theorem Zbb (c d:Nat) (hc:c<65536) (q:d<65536):sD (c:Int) (d:Int)=some ((Oo d 3 (c ^^^ d):Nat):Int):=(Aa _ _).trans (by
 simp only[dJ,DN];rw[u16_xor_nat _ _ hc q];exact ZBn d q 3 0 _ (by omega) (Nat.xor_lt_two_pow (n:=16) hc q))
theorem ZBs (c:Nat) (hc:c<65536):∀j i a:Nat,i+j=3->a<65536->AU XJ (.b1 c a i)=some ((Oo c j a:Nat):Int):=by
 intro j;induction j with
 | zero=>
  intro i a F A;refine(Aa _ _).trans ?_;simp only[XJ,DN];rw[show decide ((i:Int)<3)=false by simp;omega];simp only[cond_false];rw[u16_xor_nat _ _ A hc];rfl
 | succ j G=>
  intro i a F A;refine(Aa _ _).trans ?_;simp only[XJ,DN];rw[show decide ((i:Int)<3)=true by simp;omega,Gh (n:=(a:Int)) (by omega) (by omega),Gh (n:=(c:Int)) (by omega) (by omega)];rw[Int.tdiv_eq_ediv_of_nonneg (Int.natCast_nonneg _),Int.tmod_eq_emod_of_nonneg (Int.natCast_nonneg _),Gh (n:=(a:Int) / 256) (by omega) (by omega)];rw[show (a:Int) / 256=((a / 256:Nat):Int) by omega,show (a:Int) % 256=((a % 256:Nat):Int) by omega,Z9J _ (by omega),Z9J _ (by omega)];simp only[cond_true,Option.bind_some];have hl:=Zhr a A;have C:=(YI (a % 256) (Nat.mod_lt _ (by omega))).2.2;have D:=(YI (a / 256) (by omega)).2.2;have I:=Zhp a A;generalize rv 8 (a / 256) 0=q at *;generalize rv 8 (a % 256) 0=z at *;rw[Gh (n:=256*(q:Int)) (by omega) (by omega),Gh (n:=256*(q:Int)+(z:Int)) (by omega) (by omega),Gh (n:=17*(256*(q:Int)+(z:Int))) (by omega) (by omega),Gh (n:=17*(256*(q:Int)+(z:Int))+c) (by omega) (by omega),Int.tmod_eq_emod_of_nonneg (by omega),TP,Gh (n:=(i:Int)+1) (by omega) (by omega)];rw[show (17*(256*(q:Int)+(z:Int))+c) % 65536 % 65536=(((17*KO a+c) % 65536:Nat):Int) by omega];exact G (i+1) _ (by omega) (Nat.mod_lt _ (by decide))
theorem ZbG (c d:Nat) (hc:c<65536) (q:d<65536):dL (c:Int) (d:Int)=some ((Oo d 3 (c ^^^ d):Nat):Int):=(Aa _ _).trans (by
 simp only[XJ,DN];rw[u16_xor_nat _ _ hc q];exact ZBs d q 3 0 _ (by omega) (Nat.xor_lt_two_pow (n:=16) hc q))
def ident (a:Nat):Nat:=(a / 65536) ^^^ (a % 65536)
theorem Xp (a:Nat) (q:a<4294967296):ident a<65536:=Nat.xor_lt_two_pow (n:=16) (by omega) (by omega)
theorem Zcs (a:Nat) (q:a<4294967296):uC (a:Int)=some ((ident a:Nat):Int):=(Aa _ _).trans (by
 simp only[Zce,DN];rw[fd,TP,TP,show ((a / 2 ^ 16:Nat):Int) % 65536=((a / 65536:Nat):Int) by omega,show (a:Int) % 65536=((a % 65536:Nat):Int) by omega,u16_xor_nat _ _ (by omega) (by omega)];rfl)
theorem Zca (a:Nat) (q:a<4294967296):fG (a:Int)=some ((ident a:Nat):Int):=(Aa _ _).trans (by
 simp only[Z2J,DN];rw[Int.tdiv_eq_ediv_of_nonneg (Int.natCast_nonneg _),Int.tmod_eq_emod_of_nonneg (Int.natCast_nonneg _),TP,TP,wu32L,show (a:Int) / 65536 % 4294967296 % 65536=((a / 65536:Nat):Int) by omega,show (a:Int) % 65536 % 65536=((a % 65536:Nat):Int) by omega,u16_xor_nat _ _ (by omega) (by omega)];rfl)
def draw (e a:Nat):Nat:=Oo (ident a) 3 (e ^^^ ident a)
theorem xI (e a:Nat) (z:e<65536) (q:a<4294967296):draw e a<65536:=ZFc _ (Xp a q) 3 _ (Nat.xor_lt_two_pow (n:=16) z (Xp a q))
def mix (m:Int) (e a:Nat):Int:=if has m ((draw e a % 37:Nat):Int) then ((draw e a % 37:Nat):Int) else OI m (cnt m*(draw e a:Nat) / 65536)
theorem tm37 (n:Nat) (h:n<65536):Int.tmod (AQ (n:Int)) 37=((n % 37:Nat):Int):=by
 rw[Gh (by omega) (by omega),Int.tmod_eq_emod_of_nonneg (Int.natCast_nonneg _)];omega
theorem ZhN (m:Int) (n:Nat) (h:n<65536):0<=cnt m*(n:Int)/\cnt m*(n:Int)<=2424832:=by
 have:=ZGE m;refine⟨Int.mul_nonneg this.1 (by omega),?_⟩;exact Int.le_trans (Int.mul_le_mul this.2 (show (n:Int)<=65536 by omega) (by omega) (by decide)) (by decide)
theorem ZAy (m e a:Nat) (hm:m<18446744073709551616) (A:e<65536) (q:a<4294967296):Z3V (m:Int) (e:Int) (a:Int)=some (mix m e a):=(Aa _ _).trans (by
 simp only[Zeo,DN,Zcs a q,Option.bind_some,Zbb e _ A (Xp a q),ZaB (m:Int) _ (Int.natCast_nonneg m),Z1n m hm,Zad,mix];rw[show Oo (ident a) 3 (e ^^^ ident a)=draw e a from rfl];have z:=xI e a A q;have hc:=ZhN m _ z;rw[tm37 _ z,Gh (n:=((draw e a:Nat):Int)) (by omega) (by omega),Gh (by omega) (by omega),show ((2:Int) ^ 16)=65536 from rfl,Int.fdiv_eq_ediv_of_nonneg _ (by decide)];cases has (m:Int) ((draw e a % 37:Nat):Int)<;>rfl)
theorem ZA8 (m e a:Nat) (hm:m<18446744073709551616) (A:e<65536) (q:a<4294967296):wK (m:Int) (e:Int) (a:Int)=some (mix m e a):=(Aa _ _).trans (by
 simp only[Z40,DN,Zca a q,Option.bind_some,ZbG e _ A (Xp a q),Z43 m hm,Z2y m hm,ZeH m hm,mix];rw[show Oo (ident a) 3 (e ^^^ ident a)=draw e a from rfl];have z:=xI e a A q;have hc:=ZhN m _ z;rw[tm37 _ z,Gh (n:=((draw e a:Nat):Int)) (by omega) (by omega),Gh (n:=cnt (m:Int)*((draw e a:Nat):Int)) (by omega) (by omega),Int.tdiv_eq_ediv_of_nonneg hc.1,Gh (by omega) (by omega)];cases has (m:Int) ((draw e a % 37:Nat):Int)<;>rfl)
def step (l h:Int):Int:=Int.tmod (AQ ((AQ ((Int.tmod l (37:Int))+(Int.tmod h (37:Int))))+(74:Int))) (37:Int)
theorem ZxX (l h:Int):Z3l l h=some (step l h):=(Aa _ _).trans rfl
theorem Zy6 (l h:Int):vH l h=some (step l h):=(Aa _ _).trans rfl
structure PWF (p:FW):Prop where
 acc:0<=p.Il/\p.Il<4294967296
 map:0<=p.Map/\p.Map<18446744073709551616
def lS (p:FW) (e:Nat) (l:Int):Int×Int:=
 if p.MH=2 then (mix p.Map e p.Il.toNat,((draw e p.Il.toNat % 37:Nat):Int)) else (kZ p.Map (step l p.Hop),step l p.Hop)
theorem Zwr (p:FW) (hp:PWF p) (e:Nat) (q:e<65536) (l:Int):Z33 p (e:Int) l=some (lS p e l):=(Aa _ _).trans (by
 obtain⟨a,z⟩:∃a:Nat,p.Il=a:=⟨p.Il.toNat,by have:=hp.acc;omega⟩;obtain⟨m,hm⟩:∃m:Nat,p.Map=m:=⟨p.Map.toNat,by have:=hp.map;omega⟩;have A:=hp.acc;have C:=hp.map;simp only[Zdm,DN,lS,z,hm,Int.toNat_natCast]at *;rw[Zcs a (by omega)];simp only[Option.bind_some];rw[Zbb e _ q (Xp a (by omega)),ZAy m e a (by omega) q (by omega),ZxX];simp only[Option.bind_some];rw[Zog m (by omega)];rw[show Oo (ident a) 3 (e ^^^ ident a)=draw e a from rfl];have D:=xI e a q (by omega)
 by_cases h:p.MH=2
 ·rw[h,show Int.tmod ((draw e a:Nat):Int) 37=((draw e a % 37:Nat):Int) by rw[Int.tmod_eq_emod_of_nonneg (Int.natCast_nonneg _)];omega,Gh (by omega) (by omega)];rfl
 ·rw[show (p.MH==2)=false by simpa using h,if_neg h];rfl)
theorem ZwJ (p:FW) (hp:PWF p) (e:Nat) (q:e<65536) (l:Int):iG p (e:Int) l=some (lS p e l):=(Aa _ _).trans (by
 obtain⟨a,z⟩:∃a:Nat,p.Il=a:=⟨p.Il.toNat,by have:=hp.acc;omega⟩;obtain⟨m,hm⟩:∃m:Nat,p.Map=m:=⟨p.Map.toNat,by have:=hp.map;omega⟩;have C:=hp.acc;have D:=hp.map;simp only[Z3p,DN,lS,z,hm,Int.toNat_natCast]at *;rw[Zca a (by omega),ZA8 m e a (by omega) q (by omega),Zy6];simp only[Option.bind_some];rw[ZbG e _ q (Xp a (by omega)),Zv9 m (by omega)];simp only[Option.bind_some];rw[show Oo (ident a) 3 (e ^^^ ident a)=draw e a from rfl];have A:=xI e a q (by omega)
 by_cases h:p.MH=2
 ·rw[h,tm37 _ A];rfl
 ·rw[show (p.MH==2)=false by simpa using h,if_neg h];rfl)
end Go.Proofs.YtjodhcdmhobmoaaGreatDoor
