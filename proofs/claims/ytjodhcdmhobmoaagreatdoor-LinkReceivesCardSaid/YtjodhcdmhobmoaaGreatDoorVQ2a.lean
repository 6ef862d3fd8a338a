/- . -/
import Derived.Test.YtjodhcdmhobmoaaGreatDoorVQ1
set_option linter.unusedVariables false
set_option linter.unusedSimpArgs false
namespace Go.Proofs.YtjodhcdmhobmoaaGreatDoor
open Go Go.Proofs.YtjodhcdmhobmoaaGreatDoor.Le
set_option maxRecDepth 100000
set_option linter.defProp false
set_option maxHeartbeats 40000000
open Go Go.Proofs.YtjodhcdmhobmoaaGreatDoor.Le Go.Proofs.YtjodhcdmhobmoaaGreatDoor.Na
noncomputable def Ie {Y:Type} (q:Y->AO) (f:List Int->AO->Option Y) (r:List Int) (k:Int) (sz:List Int):Option (AO×Int):=
 (bP r sz).bind fun x=>bif x.2.2 != 0 then some (EO,x.2.2) else bif decide ((x.2.1.length:Int)>0) then some (EO,2) else
  (f x.1 ⟨AQ k,Be,0,0,0,0,0,0,0,0,0⟩).bind fun y=>(O1 (q y)).bind fun e=>bif e != 0 then some (EO,e) else some (q y,0)
theorem Gq (k:Int) (r:List Int):LV (k::r) =
  bif AQ k==5 then Ie (·.q0) Jd r k [] else bif AQ k==6 then Ie (·.q0) Jd r k [] else bif AQ k==18 then Ie (·.q0) Jd r k [] else bif AQ k==19 then Ie (·.q0) Jd r k [] else bif AQ k==8 then Ie (·.q0) Ov r k [8] else bif AQ k==9 then Ie (·.q0) Ov r k [8] else bif AQ k==20 then Ie (·.q0) Oy r k [1] else bif AQ k==21 then Ie (·.q0) Oy r k [1] else bif AQ k==0 then Ie (·.q0) U6 r k [1,2,2,2,2,2] else bif AQ k==1 then Ie (·.q0) U5 r k [5,2] else bif AQ k==15 then Ie (·.q0) U4 r k [1,2,2,2,2] else bif AQ k==2 then Ie (·.q0) UW r k [1] else bif AQ k==3 then Ie (·.q0) UX r k [8,8] else bif AQ k==4 then Ie (·.q0) UU r k [8] else bif AQ k==7 then Ie (·.q0) UR r k [1] else bif AQ k==12 then Ie (·.q0) UK r k [1] else bif AQ k==13 then Ie (·.q0) UY r k [1,1] else some (EO,12):=fe (by
 have hf:QT=some ():=rfl;have A:(((k::r).length:Int)==0)=false:=beq_false_of_ne (by simp only[List.length_cons];omega);have C:decide ((0:Int)<=0/\(0:Int)<((k::r).length:Int))=true:=decide_eq_true ⟨by decide,by simp only[List.length_cons];omega⟩;have z:decide ((0:Int)<=1/\(1:Int)<=((k::r).length:Int))=true:=decide_eq_true ⟨by decide,by simp only[List.length_cons];omega⟩;have D:((k::r)[Int.toNat 0]? : Option Int)=some k:=rfl;have q:((k::r).drop (Int.toNat 1)).take ((k::r).length - Int.toNat 1)=r:=by
  show r.take _=_;exact List.take_of_length_le (by simp)
 simp only[Z93,JL,DN,hf,q,z,A,C,D,Option.bind_some,Bool.not_true,Bool.not_false,cond_true,cond_false];rfl)
def mP:List Int->List Int->Nat->List Int
 | [],_,_=>[]
 | n::q,r,a=>fl r a n.toNat::mP q r (a+n.toNat)
theorem tkF (r:List Int):∀(sz:List Int) (a:Nat),UA sz (r.drop a)=mP sz r a
 | [],_=>rfl
 | n::q,a=>by rw[UA,mP,List.drop_drop,tkF r q (a+n.toNat)];rfl
def DE (k:Int) (r:List Int) (c:AO) (e:Int):Prop:=
 LV (k::r)=some (bif e != 0 then (EO,e) else (c,0))/\JD (k::r)=some (bif e != 0 then (EO,e) else (c,0))
section
variable {Y:Type} {k:Int} {r:List Int} {u:CE} {sz:List Int} {q:Y->AO} {f:List Int->AO->Option Y}
 (hk:R8 k) (hb:Bytes r) (hf:DJ k=some u) (hu:u.FI=true) (hz:∀n∈sz,1<=n/\n<=8) (hzl:sz.length<=100) (hs:JP k=some (1+(Cf sz:Int))) (hl:r.length<=90000) (hp:LV (k::r)=Ie q f r k sz)
include hk hf hu hs in
theorem dd0:JD (k::r)=bif decide (r.length<Cf sz) then some (EO,3) else bif decide (Cf sz<r.length) then some (EO,2) else
  (XT ⟨k,Be,0,0,0,0,0,0,0,0,0⟩ (k::r)).bind fun c=>(JO c).bind fun e=>bif e != 0 then some (EO,e) else some (c,0):=fe (by
 have hw:AQ k=k:=Dy (by have:=hk.1;omega) (by have:=hk.2;omega);have A:(((k::r).length:Int)==0)=false:=beq_false_of_ne (by simp only[List.length_cons];omega);have C:decide ((0:Int)<=0/\(0:Int)<((k::r).length:Int))=true:=decide_eq_true ⟨by decide,by simp only[List.length_cons];omega⟩;have D:((k::r)[Int.toNat 0]? : Option Int)=some k:=rfl;have q:decide (((k::r).length:Int)<1+(Cf sz:Int))=decide (r.length<Cf sz):=decide_eq_decide.2 (by simp only[List.length_cons];omega);have z:decide (((k::r).length:Int)>1+(Cf sz:Int))=decide (Cf sz<r.length):=decide_eq_decide.2 (by simp only[List.length_cons];omega);simp only[rX,DN,A,C,D,hw,hf,hu,hs,q,z,Option.bind_some,Bool.not_true,cond_true,cond_false];rfl)
include hk hb hf hu hz hzl hs hl hp in
theorem OA (h:r.length≠Cf sz):∃x,LV (k::r)=some x/\JD (k::r)=some x/\x.2≠0:=by
 rw[hp,dd0 hk hf hu hs];unfold Ie;rw[ZgZ sz r hb hz hzl (by omega)]
 by_cases q:r.length<Cf sz
 ·rw[decide_eq_true q,if_pos q];exact⟨(EO,3),rfl,rfl,by decide⟩
 ·have z:Cf sz<r.length:=by omega
  have A:decide (((r.drop (Cf sz)).length:Int)>0)=true:=decide_eq_true (by rw[List.length_drop];omega);rw[decide_eq_false q,decide_eq_true z,if_neg q];refine⟨(EO,2),?_,rfl,by decide⟩;show (bif decide (((r.drop (Cf sz)).length:Int)>0) then _ else _)=_;rw[A];rfl
include hk hb hf hu hz hzl hs hp in
theorem OD (h:r.length=Cf sz) (A:Cf sz<=60) {y:Y} {c:AO} {e:Int} (F:f (mP sz r 0) ⟨k,Be,0,0,0,0,0,0,0,0,0⟩=some y) (C:q y=c) (D:XT ⟨k,Be,0,0,0,0,0,0,0,0,0⟩ (k::r)=some c)
  (hc:O1 c=some e/\JO c=some e):DE k r c e:=by
 have hw:AQ k=k:=Dy (by have:=hk.1;omega) (by have:=hk.2;omega);have z:decide (((r.drop (Cf sz)).length:Int)>0)=false:=decide_eq_false (by rw[List.length_drop];omega);have hx:UA sz r=mP sz r 0:=tkF r sz 0;unfold DE;rw[hp,dd0 hk hf hu hs,decide_eq_false (by omega),decide_eq_false (by omega)];unfold Ie;rw[ZgZ sz r hb hz hzl (by omega),if_neg (by omega),hw,hx];subst C;constructor
 ·show (bif decide (((r.drop (Cf sz)).length:Int)>0) then _ else _)=_;rw[z,F];show (O1 (q y)).bind _=_;rw[hc.1];show (bif e != 0 then _ else _)=_;cases e != 0<;>rfl
 ·show (XT _ _).bind _=_;rw[D];show (JO (q y)).bind _=_;rw[hc.2];show (bif e != 0 then _ else _)=_;cases e != 0<;>rfl
end
theorem Md {r:List Int} (hb:Bytes r) (a:Nat):R8 (AQ (fl r a 1)):=by
 have:=YW hb a 1;rw[Dy (by omega) (by omega)];exact⟨by omega,by omega⟩
theorem gb8 {r:List Int} (hb:Bytes r) (a:Nat):CU (fl r a 8):=⟨(YW hb a 8).1,Int.lt_of_lt_of_le (YW hb a 8).2 (by decide)⟩
theorem gb5 {r:List Int} (hb:Bytes r) (a:Nat):CU (fl r a 5):=⟨(YW hb a 5).1,Int.lt_of_lt_of_le (YW hb a 5).2 (by decide)⟩
theorem Zc {r:List Int} (hb:Bytes r) (a:Nat):R16 (AQ (fl r a 2)):=by
 have:=YW hb a 2;rw[Dy (by omega) (by omega)];exact⟨by omega,by omega⟩
theorem zS (n:Int):R16 (IntKind.wrap .u16 n):=by unfold R16;rw[IntKind.wrap_u16];omega
def up0 (u:D5):Prop:=R16 u.EK/\R16 u.Dx/\R16 u.D9/\R16 u.Dh/\R16 u.ER
theorem up_r {r:List Int} (hb:Bytes r):up0 ⟨AQ (fl r 0 1),AQ (fl r 1 2),AQ (fl r 3 2),AQ (fl r 5 2),AQ (fl r 7 2)⟩:=⟨⟨(Md hb 0).1,by have:=(Md hb 0).2;show AQ (fl r 0 1)<_;omega⟩,Zc hb 1,Zc hb 3,Zc hb 5,Zc hb 7⟩
theorem nzR (x:Int):(bif (true&&(x != 0)) then x else 0)=x:=by
 by_cases h:x=0
 ·rw[h];rfl
 ·rw[show (x != 0)=true by simpa using h];rfl
theorem z00:(0:Int)<=0/\(0:Int)<18446744073709551616:=⟨by decide,by decide⟩
theorem ZF0 (u:D5) (i:Int) (h:up0 u) (I:R16 i) (hf:DJ 0=some ⟨true,true,false,true,false,false,false,false,false,false,false⟩):O1 ⟨0,u,0,i,0,0,0,0,0,0,0⟩=some (He u)/\JO ⟨0,u,0,i,0,0,0,0,0,0,0⟩=some (He u):=by
 have G:QT=some ():=rfl;obtain⟨⟨q,J⟩,⟨A,M⟩,⟨C,N⟩,⟨D,O⟩,⟨F,z⟩⟩:=h;refine⟨fe ?_,?_⟩
 ·simp only[JM,FT,DN,G,Option.bind_some,Ls,KY,Lu,ww q (by omega),ww A (by omega),ww C (by omega),ww D (by omega),ww F (by omega),zT I,Jk,Int.reduceBEq,beq_self_eq_true,Bool.not_true,cond_true,cond_false]
 ·rw[XY ⟨0,u,0,i,0,0,0,0,0,0,0⟩ _ hf z00];exact congrArg some (nzR _)
theorem ZFH (u:D5) (h:up0 u) (hf:DJ 15=some ⟨true,true,false,false,false,false,false,false,false,false,false⟩):O1 ⟨15,u,0,0,0,0,0,0,0,0,0⟩=some (He u)/\JO ⟨15,u,0,0,0,0,0,0,0,0,0⟩=some (He u):=by
 have G:QT=some ():=rfl;obtain⟨⟨q,I⟩,⟨A,J⟩,⟨C,M⟩,⟨D,N⟩,⟨F,z⟩⟩:=h;refine⟨fe ?_,?_⟩
 ·simp only[JM,FT,DN,G,Option.bind_some,Lt,KX,Ll,ww q (by omega),ww A (by omega),ww C (by omega),ww D (by omega),ww F (by omega),Jk,Int.reduceBEq,beq_self_eq_true,Bool.not_true,cond_true,cond_false]
 ·rw[XY _ _ hf z00];exact congrArg some (nzR _)
theorem ZET (m i:Int) (h:CU m) (z:R16 i) (hf:DJ 1=some ⟨true,false,true,true,false,false,false,false,false,false,false⟩):O1 ⟨1,Be,m,i,0,0,0,0,0,0,0⟩=some (Ij m)/\JO ⟨1,Be,m,i,0,0,0,0,0,0,0⟩=some (Ij m):=by
 have q:QT=some ():=rfl;refine⟨fe ?_,?_⟩
 ·simp only[JM,FT,DN,q,Option.bind_some,Lp,KW,Zdc (⟨1,Be,m,i,0,0,0,0,0,0,0⟩:AO) h,zT z,Jk,Int.reduceBEq,beq_self_eq_true,Bool.not_true,cond_true,cond_false]
 ·rw[XY (⟨1,Be,m,i,0,0,0,0,0,0,0⟩:AO) _ hf h];exact congrArg some (nzR _)
theorem ZGg (k n:Int) (hk:k=20\/k=21) (h:R8 n) (hf:DJ k=some ⟨true,false,false,false,false,false,false,false,false,false,true⟩):O1 ⟨k,Be,0,0,0,0,0,0,0,0,n⟩=some (Ig n 27 251)/\JO ⟨k,Be,0,0,0,0,0,0,0,0,n⟩=some (Ig n 27 251):=by
 have z:QT=some ():=rfl;obtain⟨q,A⟩:=h;have hw:AQ (IntKind.wrap .u64 n)=n:=ww q (by omega);refine⟨?_,?_⟩
 ·rcases hk with rfl|rfl<;>(refine fe ?_;simp only[JM,FT,DN,z,Option.bind_some,Ld,KU,LY,hw,Jk,Int.reduceBEq,beq_self_eq_true,Bool.not_true,cond_true,cond_false])
 ·rw[XY ⟨k,Be,0,0,0,0,0,0,0,0,n⟩ _ hf z00];refine congrArg some ?_;show (bif true&&(decide (n<27)||decide (n>251)) then (5:Int) else 0)=_;unfold Ig;cases decide (n<27)<;>cases decide (n>251)<;>rfl
theorem TS {c:AO} (h:CV c):O1 c=some 0/\JO c=some 0:=⟨Zo9 h,Zct h⟩
theorem tu (k:Int) (r:List Int) (hb:Bytes (k::r)) (h:9<=r.length) (hl:r.length<=90000):pR (k::r) 1=some ⟨AQ (fl r 0 1),AQ (fl r 1 2),AQ (fl r 3 2),AQ (fl r 5 2),AQ (fl r 7 2)⟩:=fe (by
 have q:GX (k::r) 1 1=some (fl r 0 1):=nm k r hb 0 1 (by decide) (by omega) hl;have n1:GX (k::r) 2 2=some (fl r 1 2):=nm k r hb 1 2 (by decide) (by omega) hl;have z:GX (k::r) 4 2=some (fl r 3 2):=nm k r hb 3 2 (by decide) (by omega) hl;have n5:GX (k::r) 6 2=some (fl r 5 2):=nm k r hb 5 2 (by decide) (by omega) hl;have A:GX (k::r) 8 2=some (fl r 7 2):=nm k r hb 7 2 (by decide) (by omega) hl;simp only[Z12,DN,show AQ ((1:Int)+1)=2 from rfl,show AQ ((1:Int)+3)=4 from rfl,show AQ ((1:Int)+5)=6 from rfl,show AQ ((1:Int)+7)=8 from rfl,q,n1,z,n5,A,Option.bind_some])
theorem Zh4 (hf:DJ 0=some ⟨true,true,false,true,false,false,false,false,false,false,false⟩):JP 0=some (1+((Cf [1,2,2,2,2,2]:Nat):Int)):=by
 iterate 9 (try (refine fe ?_;simp(disch:=decide) only[Ji,DN,hf,Option.bind_some,cond_true,cond_false,Int.reduceAdd,Fe]))
 rfl
theorem Zhe (r:List Int) (hb:Bytes r) (hf:DJ 0=some ⟨true,true,false,true,false,false,false,false,false,false,false⟩) (h:r.length=Cf [1,2,2,2,2,2]):DE 0 r ⟨0,⟨AQ (fl r 0 1),AQ (fl r 1 2),AQ (fl r 3 2),AQ (fl r 5 2),AQ (fl r 7 2)⟩,0,IntKind.wrap .u16 (fl r 9 2),0,0,0,0,0,0,0⟩ (He ⟨AQ (fl r 0 1),AQ (fl r 1 2),AQ (fl r 3 2),AQ (fl r 5 2),AQ (fl r 7 2)⟩):=by
 have z:R8 0:=⟨by decide,by decide⟩;have A : Bytes (0::r):=Bytes.cons ⟨z.1,z.2⟩ hb;have D:r.length=11:=h;have tt:=tu 0 r A (by omega) (by omega);have C:GX (0::r) 10 2=some (fl r 9 2):=nm 0 r A 9 2 (by decide) (by omega) (by omega);refine OD (q:=(·.q0)) (f:=U6) z hb hf rfl (by decide) (by decide) (Zh4 hf) (by rw[Gq];rfl) h (by decide) (KY _ _ _ _ _ _ _) rfl ?_ (ZF0 _ _ (up_r hb) (zS _) hf)
 iterate 10 (refine fe ?_;simp(disch:=decide) only[Jg,DN,hf,tt,C,Option.bind_some,cond_true,cond_false,Int.reduceAdd,Fe])
theorem Zh6 (hf:DJ 1=some ⟨true,false,true,true,false,false,false,false,false,false,false⟩):JP 1=some (1+((Cf [5,2]:Nat):Int)):=by
 iterate 9 (try (refine fe ?_;simp(disch:=decide) only[Ji,DN,hf,Option.bind_some,cond_true,cond_false,Int.reduceAdd,Fe]))
 rfl
theorem Zhh (r:List Int) (hb:Bytes r) (hf:DJ 1=some ⟨true,false,true,true,false,false,false,false,false,false,false⟩) (h:r.length=Cf [5,2]):DE 1 r ⟨1,Be,fl r 0 5,IntKind.wrap .u16 (fl r 5 2),0,0,0,0,0,0,0⟩ (Ij (fl r 0 5)):=by
 have z:R8 1:=⟨by decide,by decide⟩;have A : Bytes (1::r):=Bytes.cons ⟨z.1,z.2⟩ hb;have D:r.length=7:=h;have C:GX (1::r) 1 5=some (fl r 0 5):=nm 1 r A 0 5 (by decide) (by omega) (by omega);have n5:GX (1::r) 6 2=some (fl r 5 2):=nm 1 r A 5 2 (by decide) (by omega) (by omega);refine OD (q:=(·.q0)) (f:=U5) z hb hf rfl (by decide) (by decide) (Zh6 hf) (by rw[Gq];rfl) h (by decide) (KW _ _ _) rfl ?_ (ZET _ _ (gb5 hb 0) (zS _) hf)
 iterate 10 (refine fe ?_;simp(disch:=decide) only[Jg,DN,hf,C,n5,Option.bind_some,cond_true,cond_false,Int.reduceAdd,Fe])
theorem ZgJ (hf:DJ 2=some ⟨true,false,false,false,true,false,false,false,false,false,false⟩):JP 2=some (1+((Cf [1]:Nat):Int)):=by
 iterate 9 (try (refine fe ?_;simp(disch:=decide) only[Ji,DN,hf,Option.bind_some,cond_true,cond_false,Int.reduceAdd,Fe]))
 rfl
theorem Zgz (r:List Int) (hb:Bytes r) (hf:DJ 2=some ⟨true,false,false,false,true,false,false,false,false,false,false⟩) (h:r.length=Cf [1]):DE 2 r ⟨2,Be,0,0,AQ (fl r 0 1),0,0,0,0,0,0⟩ (0):=by
 have z:R8 2:=⟨by decide,by decide⟩;have C : Bytes (2::r):=Bytes.cons ⟨z.1,z.2⟩ hb;have F:r.length=1:=h;have D:decide ((0:Int)<=1/\(1:Int)<((2::r).length:Int))=true:=decide_eq_true ⟨by decide,by simp only[List.length_cons];omega⟩;have A:((2::r)[Int.toNat 1]? : Option Int)=some (fl r 0 1):=Vx (a:=0) (by omega);refine OD (q:=(·.q0)) (f:=UW) z hb hf rfl (by decide) (by decide) (ZgJ hf) (by rw[Gq];rfl) h (by decide) (LZ _ _) rfl ?_ (TS (CV.term _ (Md hb 0)))
 iterate 10 (refine fe ?_;simp(disch:=decide) only[Jg,DN,hf,D,A,Option.bind_some,cond_true,cond_false,Int.reduceAdd,Fe])
theorem Zht (hf:DJ 3=some ⟨true,false,false,false,false,false,true,true,false,false,false⟩):JP 3=some (1+((Cf [8,8]:Nat):Int)):=by
 iterate 9 (try (refine fe ?_;simp(disch:=decide) only[Ji,DN,hf,Option.bind_some,cond_true,cond_false,Int.reduceAdd,Fe]))
 rfl
theorem Zho (r:List Int) (hb:Bytes r) (hf:DJ 3=some ⟨true,false,false,false,false,false,true,true,false,false,false⟩) (h:r.length=Cf [8,8]):DE 3 r ⟨3,Be,0,0,0,0,fl r 0 8,fl r 8 8,0,0,0⟩ (0):=by
 have z:R8 3:=⟨by decide,by decide⟩;have A : Bytes (3::r):=Bytes.cons ⟨z.1,z.2⟩ hb;have F:r.length=16:=h;have C:GX (3::r) 1 8=some (fl r 0 8):=nm 3 r A 0 8 (by decide) (by omega) (by omega);have D:GX (3::r) 9 8=some (fl r 8 8):=nm 3 r A 8 8 (by decide) (by omega) (by omega);refine OD (q:=(·.q0)) (f:=UX) z hb hf rfl (by decide) (by decide) (Zht hf) (by rw[Gq];rfl) h (by decide) (Lc _ _ _) rfl ?_ (TS (CV.enc _ _ (gb8 hb 0) (gb8 hb 8)))
 iterate 10 (refine fe ?_;simp(disch:=decide) only[Jg,DN,hf,C,D,Option.bind_some,cond_true,cond_false,Int.reduceAdd,Fe])
theorem Zhm (hf:DJ 4=some ⟨true,false,false,false,false,false,true,false,false,false,false⟩):JP 4=some (1+((Cf [8]:Nat):Int)):=by
 iterate 9 (try (refine fe ?_;simp(disch:=decide) only[Ji,DN,hf,Option.bind_some,cond_true,cond_false,Int.reduceAdd,Fe]))
 rfl
theorem ZhA (r:List Int) (hb:Bytes r) (hf:DJ 4=some ⟨true,false,false,false,false,false,true,false,false,false,false⟩) (h:r.length=Cf [8]):DE 4 r ⟨4,Be,0,0,0,0,fl r 0 8,0,0,0,0⟩ (0):=by
 have z:R8 4:=⟨by decide,by decide⟩;have A : Bytes (4::r):=Bytes.cons ⟨z.1,z.2⟩ hb;have D:r.length=8:=h;have C:GX (4::r) 1 8=some (fl r 0 8):=nm 4 r A 0 8 (by decide) (by omega) (by omega);refine OD (q:=(·.q0)) (f:=UU) z hb hf rfl (by decide) (by decide) (Zhm hf) (by rw[Gq];rfl) h (by decide) (Lh _ _) rfl ?_ (TS (CV.ans _ (gb8 hb 0)))
 iterate 10 (refine fe ?_;simp(disch:=decide) only[Jg,DN,hf,C,Option.bind_some,cond_true,cond_false,Int.reduceAdd,Fe])
theorem Zi3 (k:Int) (hf:DJ k=some ⟨true,false,false,false,false,false,false,false,false,false,false⟩):JP k=some (1+((Cf []:Nat):Int)):=by
 iterate 9 (try (refine fe ?_;simp(disch:=decide) only[Ji,DN,hf,Option.bind_some,cond_true,cond_false,Int.reduceAdd,Fe]))
 rfl
theorem ZhW (k:Int) (hk:k=5\/k=6\/k=18\/k=19) (r:List Int) (hb:Bytes r) (hf:DJ k=some ⟨true,false,false,false,false,false,false,false,false,false,false⟩) (h:r.length=Cf []):DE k r ⟨k,Be,0,0,0,0,0,0,0,0,0⟩ (0):=by
 have z:R8 k:=⟨by rcases hk with rfl|rfl|rfl|rfl<;>decide,by rcases hk with rfl|rfl|rfl|rfl<;>decide⟩;have A : Bytes (k::r):=Bytes.cons ⟨z.1,z.2⟩ hb;have C:r.length=0:=h;refine OD (q:=(·.q0)) (f:=Jd) z hb hf rfl (by decide) (by decide) (Zi3 k hf) (by rcases hk with rfl|rfl|rfl|rfl<;>(rw[Gq];rfl)) h (by decide) (Lj _ _) rfl ?_ (TS (CV.plain _ hk))
 iterate 10 (refine fe ?_;simp(disch:=decide) only[Jg,DN,hf,Option.bind_some,cond_true,cond_false,Int.reduceAdd,Fe])
theorem Zha (hf:DJ 7=some ⟨true,false,false,false,false,true,false,false,false,false,false⟩):JP 7=some (1+((Cf [1]:Nat):Int)):=by
 iterate 9 (try (refine fe ?_;simp(disch:=decide) only[Ji,DN,hf,Option.bind_some,cond_true,cond_false,Int.reduceAdd,Fe]))
 rfl
theorem ZhF (r:List Int) (hb:Bytes r) (hf:DJ 7=some ⟨true,false,false,false,false,true,false,false,false,false,false⟩) (h:r.length=Cf [1]):DE 7 r ⟨7,Be,0,0,0,AQ (fl r 0 1),0,0,0,0,0⟩ (0):=by
 have z:R8 7:=⟨by decide,by decide⟩;have C : Bytes (7::r):=Bytes.cons ⟨z.1,z.2⟩ hb;have F:r.length=1:=h;have D:decide ((0:Int)<=1/\(1:Int)<((7::r).length:Int))=true:=decide_eq_true ⟨by decide,by simp only[List.length_cons];omega⟩;have A:((7::r)[Int.toNat 1]? : Option Int)=some (fl r 0 1):=Vx (a:=0) (by omega);refine OD (q:=(·.q0)) (f:=UR) z hb hf rfl (by decide) (by decide) (Zha hf) (by rw[Gq];rfl) h (by decide) (L9 _ _) rfl ?_ (TS (CV.UB _ (Md hb 0)))
 iterate 10 (refine fe ?_;simp(disch:=decide) only[Jg,DN,hf,D,A,Option.bind_some,cond_true,cond_false,Int.reduceAdd,Fe])
theorem Zh0 (k:Int) (hf:DJ k=some ⟨true,false,false,false,false,false,false,false,true,false,false⟩):JP k=some (1+((Cf [8]:Nat):Int)):=by
 iterate 9 (try (refine fe ?_;simp(disch:=decide) only[Ji,DN,hf,Option.bind_some,cond_true,cond_false,Int.reduceAdd,Fe]))
 rfl
theorem Z4J (k:Int) (hk:k=8\/k=9) (r:List Int) (hb:Bytes r) (hf:DJ k=some ⟨true,false,false,false,false,false,false,false,true,false,false⟩) (h:r.length=Cf [8]):DE k r ⟨k,Be,0,0,0,0,0,0,fl r 0 8,0,0⟩ (0):=by
 have z:R8 k:=⟨by rcases hk with rfl|rfl<;>decide,by rcases hk with rfl|rfl<;>decide⟩;have A : Bytes (k::r):=Bytes.cons ⟨z.1,z.2⟩ hb;have D:r.length=8:=h;have C:GX (k::r) 1 8=some (fl r 0 8):=nm k r A 0 8 (by decide) (by omega) (by omega);refine OD (q:=(·.q0)) (f:=Ov) z hb hf rfl (by decide) (by decide) (Zh0 k hf) (by rcases hk with rfl|rfl<;>(rw[Gq];rfl)) h (by decide) (LW _ _) rfl ?_ (TS (CV.Y2 _ _ hk (gb8 hb 0)))
 iterate 10 (refine fe ?_;simp(disch:=decide) only[Jg,DN,hf,C,Option.bind_some,cond_true,cond_false,Int.reduceAdd,Fe])
theorem Zhy (hf:DJ 12=some ⟨true,false,false,false,false,false,false,false,false,true,false⟩):JP 12=some (1+((Cf [1]:Nat):Int)):=by
 iterate 9 (try (refine fe ?_;simp(disch:=decide) only[Ji,DN,hf,Option.bind_some,cond_true,cond_false,Int.reduceAdd,Fe]))
 rfl
theorem Zhc (r:List Int) (hb:Bytes r) (hf:DJ 12=some ⟨true,false,false,false,false,false,false,false,false,true,false⟩) (h:r.length=Cf [1]):DE 12 r ⟨12,Be,0,0,0,0,0,0,0,AQ (fl r 0 1),0⟩ (0):=by
 have z:R8 12:=⟨by decide,by decide⟩;have C : Bytes (12::r):=Bytes.cons ⟨z.1,z.2⟩ hb;have F:r.length=1:=h;have D:decide ((0:Int)<=1/\(1:Int)<((12::r).length:Int))=true:=decide_eq_true ⟨by decide,by simp only[List.length_cons];omega⟩;have A:((12::r)[Int.toNat 1]? : Option Int)=some (fl r 0 1):=Vx (a:=0) (by omega);refine OD (q:=(·.q0)) (f:=UK) z hb hf rfl (by decide) (by decide) (Zhy hf) (by rw[Gq];rfl) h (by decide) (La _ _) rfl ?_ (TS (CV.WE _ (Md hb 0)))
 iterate 10 (refine fe ?_;simp(disch:=decide) only[Jg,DN,hf,D,A,Option.bind_some,cond_true,cond_false,Int.reduceAdd,Fe])
theorem ZhC (hf:DJ 13=some ⟨true,false,false,false,true,true,false,false,false,false,false⟩):JP 13=some (1+((Cf [1,1]:Nat):Int)):=by
 iterate 9 (try (refine fe ?_;simp(disch:=decide) only[Ji,DN,hf,Option.bind_some,cond_true,cond_false,Int.reduceAdd,Fe]))
 rfl
theorem Zhu (r:List Int) (hb:Bytes r) (hf:DJ 13=some ⟨true,false,false,false,true,true,false,false,false,false,false⟩) (h:r.length=Cf [1,1]):DE 13 r ⟨13,Be,0,0,AQ (fl r 0 1),AQ (fl r 1 1),0,0,0,0,0⟩ (0):=by
 have z:R8 13:=⟨by decide,by decide⟩;have D : Bytes (13::r):=Bytes.cons ⟨z.1,z.2⟩ hb;have I:r.length=2:=h;have F:decide ((0:Int)<=1/\(1:Int)<((13::r).length:Int))=true:=decide_eq_true ⟨by decide,by simp only[List.length_cons];omega⟩;have A:((13::r)[Int.toNat 1]? : Option Int)=some (fl r 0 1):=Vx (a:=0) (by omega);have G:decide ((0:Int)<=2/\(2:Int)<((13::r).length:Int))=true:=decide_eq_true ⟨by decide,by simp only[List.length_cons];omega⟩;have C:((13::r)[Int.toNat 2]? : Option Int)=some (fl r 1 1):=Vx (a:=1) (by omega);refine OD (q:=(·.q0)) (f:=UY) z hb hf rfl (by decide) (by decide) (ZhC hf) (by rw[Gq];rfl) h (by decide) (L6 _ _ _) rfl ?_ (TS (CV.UC _ _ (Md hb 0) (Md hb 1)))
 iterate 10 (refine fe ?_;simp(disch:=decide) only[Jg,DN,hf,F,A,G,C,Option.bind_some,cond_true,cond_false,Int.reduceAdd,Fe])
theorem Zh9 (hf:DJ 15=some ⟨true,true,false,false,false,false,false,false,false,false,false⟩):JP 15=some (1+((Cf [1,2,2,2,2]:Nat):Int)):=by
 iterate 9 (try (refine fe ?_;simp(disch:=decide) only[Ji,DN,hf,Option.bind_some,cond_true,cond_false,Int.reduceAdd,Fe]))
 rfl
theorem Zhn (r:List Int) (hb:Bytes r) (hf:DJ 15=some ⟨true,true,false,false,false,false,false,false,false,false,false⟩) (h:r.length=Cf [1,2,2,2,2]):DE 15 r ⟨15,⟨AQ (fl r 0 1),AQ (fl r 1 2),AQ (fl r 3 2),AQ (fl r 5 2),AQ (fl r 7 2)⟩,0,0,0,0,0,0,0,0,0⟩ (He ⟨AQ (fl r 0 1),AQ (fl r 1 2),AQ (fl r 3 2),AQ (fl r 5 2),AQ (fl r 7 2)⟩):=by
 have z:R8 15:=⟨by decide,by decide⟩;have A : Bytes (15::r):=Bytes.cons ⟨z.1,z.2⟩ hb;have C:r.length=9:=h;have tt:=tu 15 r A (by omega) (by omega);refine OD (q:=(·.q0)) (f:=U4) z hb hf rfl (by decide) (by decide) (Zh9 hf) (by rw[Gq];rfl) h (by decide) (KX _ _ _ _ _ _) rfl ?_ (ZFH _ (up_r hb) hf)
 iterate 10 (refine fe ?_;simp(disch:=decide) only[Jg,DN,hf,tt,Option.bind_some,cond_true,cond_false,Int.reduceAdd,Fe])
theorem Zhz (k:Int) (hf:DJ k=some ⟨true,false,false,false,false,false,false,false,false,false,true⟩):JP k=some (1+((Cf [1]:Nat):Int)):=by
 iterate 9 (try (refine fe ?_;simp(disch:=decide) only[Ji,DN,hf,Option.bind_some,cond_true,cond_false,Int.reduceAdd,Fe]))
 rfl
theorem Z5t (k:Int) (hk:k=20\/k=21) (r:List Int) (hb:Bytes r) (hf:DJ k=some ⟨true,false,false,false,false,false,false,false,false,false,true⟩) (h:r.length=Cf [1]):DE k r ⟨k,Be,0,0,0,0,0,0,0,0,AQ (fl r 0 1)⟩ (Ig (AQ (fl r 0 1)) 27 251):=by
 have z:R8 k:=⟨by rcases hk with rfl|rfl<;>decide,by rcases hk with rfl|rfl<;>decide⟩;have C : Bytes (k::r):=Bytes.cons ⟨z.1,z.2⟩ hb;have F:r.length=1:=h;have D:decide ((0:Int)<=1/\(1:Int)<((k::r).length:Int))=true:=decide_eq_true ⟨by decide,by simp only[List.length_cons];omega⟩;have A:((k::r)[Int.toNat 1]? : Option Int)=some (fl r 0 1):=Vx (a:=0) (by omega);refine OD (q:=(·.q0)) (f:=Oy) z hb hf rfl (by decide) (by decide) (Zhz k hf) (by rcases hk with rfl|rfl<;>(rw[Gq];rfl)) h (by decide) (KU _ _) rfl ?_ (ZGg k _ hk (Md hb 0) hf)
 iterate 10 (refine fe ?_;simp(disch:=decide) only[Jg,DN,hf,D,A,Option.bind_some,cond_true,cond_false,Int.reduceAdd,Fe])
theorem wlen {k n:Int} (hk:k=20\/k=21) (h:Ig n 27 251=0):CV ⟨k,Be,0,0,0,0,0,0,0,0,n⟩:=by
 unfold Ig at h
 by_cases q:n<27
 ·rw[decide_eq_true q]at h;cases h
 ·by_cases z:n>251
  ·rw[decide_eq_false q,decide_eq_true z]at h;cases h
  ·exact CV.len k n hk (by omega) (by omega)
theorem Zfz (b:List Int) (hb:Bytes b) (hl:b.length<=90000):∃x,LV b=some x/\JD b=some x/\(x.2=0->CV x.1)/\(x.2=12->1<=b.length):=by
 match b,hb,hl with
 | [],_,_=>exact⟨(EO,3),fe rfl,fe rfl,fun h=>absurd h (by decide),fun h=>absurd h (by decide)⟩
 | k::r,D,G=>
  have z:R8 k:=⟨(D k List.mem_cons_self).1,(D k List.mem_cons_self).2⟩;have hb:Bytes r:=fun x hx=>D x (List.mem_cons_of_mem _ hx);have hl:r.length<=90000:=by simp only[List.length_cons]at G;omega
  have A:∀{c:AO} {e:Int},DE k r c e->(e=0->CV c)->∃x,LV (k::r)=some x/\JD (k::r)=some x/\(x.2=0->CV x.1)/\(x.2=12->1<=(k::r).length):=fun {c e} h hc=>by
   refine⟨_,h.1,h.2,?_,fun _=>by simp only[List.length_cons];omega⟩
   by_cases F:e=0
   ·subst F;exact fun _=>hc rfl
   ·rw[show (e != 0)=true by simpa using F];exact fun h=>absurd h F
  have C:(∃x,LV (k::r)=some x/\JD (k::r)=some x/\x.2≠0)->∃x,LV (k::r)=some x/\JD (k::r)=some x/\(x.2=0->CV x.1)/\(x.2=12->1<=(k::r).length):=fun⟨x,N,O,Q⟩=>⟨x,N,O,fun h=>absurd h Q,fun _=>by simp only[List.length_cons];omega⟩;rcases kC k with ⟨hf,hk⟩|⟨hf,hk⟩|⟨hf,hk⟩|⟨hf,hk⟩|⟨hf,hk⟩|⟨hf,hk⟩|⟨hf,hk⟩|⟨hf,hk⟩|⟨hf,hk⟩|⟨hf,hk⟩|⟨hf,hk⟩|⟨hf,hk⟩|⟨hf,hk⟩
  ·subst hk;by_cases h:r.length=Cf [1,2,2,2,2,2]
   ·exact A (Zhe r hb hf h) (fun h=>CV.upd _ _ h (zS _))
   ·exact C (OA (q:=(·.q0)) (f:=U6) z hb hf rfl (by decide) (by decide) (Zh4 hf) hl (by rw[Gq];rfl) h)
  ·subst hk;by_cases h:r.length=Cf [5,2]
   ·exact A (Zhh r hb hf h) (fun h=>CV.map _ _ (gb5 hb 0) h (zS _))
   ·exact C (OA (q:=(·.q0)) (f:=U5) z hb hf rfl (by decide) (by decide) (Zh6 hf) hl (by rw[Gq];rfl) h)
  ·subst hk;by_cases h:r.length=Cf [1]
   ·exact A (Zgz r hb hf h) (fun _=>CV.term _ (Md hb 0))
   ·exact C (OA (q:=(·.q0)) (f:=UW) z hb hf rfl (by decide) (by decide) (ZgJ hf) hl (by rw[Gq];rfl) h)
  ·subst hk;by_cases h:r.length=Cf [8,8]
   ·exact A (Zho r hb hf h) (fun _=>CV.enc _ _ (gb8 hb 0) (gb8 hb 8))
   ·exact C (OA (q:=(·.q0)) (f:=UX) z hb hf rfl (by decide) (by decide) (Zht hf) hl (by rw[Gq];rfl) h)
  ·subst hk;by_cases h:r.length=Cf [8]
   ·exact A (ZhA r hb hf h) (fun _=>CV.ans _ (gb8 hb 0))
   ·exact C (OA (q:=(·.q0)) (f:=UU) z hb hf rfl (by decide) (by decide) (Zhm hf) hl (by rw[Gq];rfl) h)
  ·by_cases h:r.length=Cf []
   ·exact A (ZhW k hk r hb hf h) (fun _=>CV.plain _ hk)
   ·exact C (OA (q:=(·.q0)) (f:=Jd) z hb hf rfl (by decide) (by decide) (Zi3 k hf) hl (by rcases hk with rfl|rfl|rfl|rfl<;>(rw[Gq];rfl)) h)
  ·subst hk;by_cases h:r.length=Cf [1]
   ·exact A (ZhF r hb hf h) (fun _=>CV.UB _ (Md hb 0))
   ·exact C (OA (q:=(·.q0)) (f:=UR) z hb hf rfl (by decide) (by decide) (Zha hf) hl (by rw[Gq];rfl) h)
  ·by_cases h:r.length=Cf [8]
   ·exact A (Z4J k hk r hb hf h) (fun _=>CV.Y2 _ _ hk (gb8 hb 0))
   ·exact C (OA (q:=(·.q0)) (f:=Ov) z hb hf rfl (by decide) (by decide) (Zh0 k hf) hl (by rcases hk with rfl|rfl<;>(rw[Gq];rfl)) h)
  ·subst hk;by_cases h:r.length=Cf [1]
   ·exact A (Zhc r hb hf h) (fun _=>CV.WE _ (Md hb 0))
   ·exact C (OA (q:=(·.q0)) (f:=UK) z hb hf rfl (by decide) (by decide) (Zhy hf) hl (by rw[Gq];rfl) h)
  ·subst hk;by_cases h:r.length=Cf [1,1]
   ·exact A (Zhu r hb hf h) (fun _=>CV.UC _ _ (Md hb 0) (Md hb 1))
   ·exact C (OA (q:=(·.q0)) (f:=UY) z hb hf rfl (by decide) (by decide) (ZhC hf) hl (by rw[Gq];rfl) h)
  ·subst hk;by_cases h:r.length=Cf [1,2,2,2,2]
   ·exact A (Zhn r hb hf h) (fun h=>CV.par _ h)
   ·exact C (OA (q:=(·.q0)) (f:=U4) z hb hf rfl (by decide) (by decide) (Zh9 hf) hl (by rw[Gq];rfl) h)
  ·by_cases h:r.length=Cf [1]
   ·exact A (Z5t k hk r hb hf h) (fun h=>wlen hk h)
   ·exact C (OA (q:=(·.q0)) (f:=Oy) z hb hf rfl (by decide) (by decide) (Zhz k hf) hl (by rcases hk with rfl|rfl<;>(rw[Gq];rfl)) h)
  ·have hw:AQ k=k:=Dy (by have:=z.1;omega) (by have:=z.2;omega);have I:(((k::r).length:Int)==0)=false:=beq_false_of_ne (by simp only[List.length_cons];omega);have J:decide ((0:Int)<=0/\(0:Int)<((k::r).length:Int))=true:=decide_eq_true ⟨by decide,by simp only[List.length_cons];omega⟩;have M:((k::r)[Int.toNat 0]? : Option Int)=some k:=rfl;refine⟨(EO,12),?_,fe ?_,fun h=>absurd h (by decide),fun _=>by simp only[List.length_cons];omega⟩
   ·rw[Gq,hw,beq_false_of_ne (show k≠5 by omega),beq_false_of_ne (show k≠6 by omega),beq_false_of_ne (show k≠18 by omega),beq_false_of_ne (show k≠19 by omega),beq_false_of_ne (show k≠8 by omega),beq_false_of_ne (show k≠9 by omega),beq_false_of_ne (show k≠20 by omega),beq_false_of_ne (show k≠21 by omega),beq_false_of_ne (show k≠0 by omega),beq_false_of_ne (show k≠1 by omega),beq_false_of_ne (show k≠15 by omega),beq_false_of_ne (show k≠2 by omega),beq_false_of_ne (show k≠3 by omega),beq_false_of_ne (show k≠4 by omega),beq_false_of_ne (show k≠7 by omega),beq_false_of_ne (show k≠12 by omega),beq_false_of_ne (show k≠13 by omega)];rfl
   ·simp only[rX,DN,I,J,M,hw,hf,Option.bind_some,Bool.not_false,cond_true,cond_false]
theorem Ym {n:Nat} {v:Int} (t:List Int) (h:0<=v) (q : v<256 ^ n):fl (num n v++t) 0 n=v:=by
 unfold fl;rw[List.drop_zero,List.take_append_of_le_length (by rw[EL];exact Nat.le_refl _),List.take_of_length_le (by rw[EL];exact Nat.le_refl _),ZDa n v h q]
theorem QM (m:Nat) (v:Int) (t:List Int) (a n:Nat):fl (num m v++t) (m+a) n=fl t a n:=by
 unfold fl;rw[List.drop_append,List.drop_of_length_le (by rw[EL];omega),EL,List.nil_append,Nat.add_sub_cancel_left]
theorem Kz {k:Int} {r:List Int} {c:AO} {e:Int} (h:DE k r c e) (q:e=0):∃c,JD (k::r)=some (c,0):=by
 subst q;exact⟨c,h.2⟩
theorem Zi0 (u:D5) (h:He u=0) (t:List Int):(⟨AQ (fl (updB u++t) 0 1),AQ (fl (updB u++t) 1 2),AQ (fl (updB u++t) 3 2),AQ (fl (updB u++t) 5 2),AQ (fl (updB u++t) 7 2)⟩:D5)=u:=by
 obtain⟨b1,b2,b3,b4,b5,b6,b7,b8,b9,b10⟩:=Z5P h;have w:∀x:Int,0<=x->x<=3200->IntKind.wrap .u64 x=x:=fun x z A=>wu64 z (by omega);have e:updB u++t=num 1 u.EK++(num 2 u.Dx++(num 2 u.D9++(num 2 u.Dh++(num 2 u.ER++t)))):=by
  unfold updB;rw[w _ (by omega) (by omega),w _ b3 b4,w _ (by omega) b6,w _ b7 (by omega),w _ (by omega) b10];simp only[List.append_assoc]
 have q:∀x:Int,x<=3200->x<256 ^ 2:=fun x h=>Int.lt_of_le_of_lt h (by decide);have f0:=Ym (n:=1) (v:=u.EK) (num 2 u.Dx++(num 2 u.D9++(num 2 u.Dh++(num 2 u.ER++t)))) (by omega) (Int.lt_of_le_of_lt b2 (by decide));have f1:=(QM 1 u.EK (num 2 u.Dx++(num 2 u.D9++(num 2 u.Dh++(num 2 u.ER++t)))) 0 2).trans (Ym _ b3 (q _ b4));have f3:=(QM 1 u.EK (num 2 u.Dx++(num 2 u.D9++(num 2 u.Dh++(num 2 u.ER++t)))) (2+0) 2).trans ((QM 2 u.Dx _ 0 2).trans (Ym _ (by omega) (q _ b6)));have f5:=(QM 1 u.EK (num 2 u.Dx++(num 2 u.D9++(num 2 u.Dh++(num 2 u.ER++t)))) (2+(2+0)) 2).trans ((QM 2 u.Dx _ (2+0) 2).trans ((QM 2 u.D9 _ 0 2).trans (Ym _ b7 (q _ (by omega)))));have f7:=(QM 1 u.EK (num 2 u.Dx++(num 2 u.D9++(num 2 u.Dh++(num 2 u.ER++t)))) (2+(2+(2+0))) 2).trans ((QM 2 u.Dx _ (2+(2+0)) 2).trans ((QM 2 u.D9 _ (2+0) 2).trans ((QM 2 u.Dh _ 0 2).trans (Ym _ (by omega) (q _ b10)))));rw[e];rcases u with ⟨a,b,c,d,x⟩
 simp only at *;rw[f0,show fl _ 1 2=b from f1,show fl _ 3 2=c from f3,show fl _ 5 2=d from f5,show fl _ 7 2=x from f7,Dy (by omega) (by omega),Dy (by omega) (by omega),Dy (by omega) (by omega),Dy (by omega) (by omega),Dy (by omega) (by omega)]
theorem N9 (c:AO) (u:CE) (h:CV c) (hf:DJ c.Kind=some u) (hm:E5 c.Map) (hs:E5 c.Bj) (z:E5 c.Mark) (C:E5 c.Bv) (A:Bytes (BD c u)->∃q,JD (BD c u)=some (q,0)) :
  ∃x,Ug c=some (x,0)/\1<=x.length/\x.length<=60/\Bytes x/\∃q,JD x=some (q,0):=
 ⟨_,Ztc c u hf (Zct h) hm hs z C,(xP c u).1,(xP c u).2.1,(xP c u).2.2,A (xP c u).2.2⟩
theorem Mc {x:Int} {xs:List Int} (h:Bytes (x::xs)):Bytes xs:=fun y q=>h y (List.mem_cons_of_mem _ q)
theorem ZEo {c:AO} (h:CV c):∃x,Ug c=some (x,0)/\1<=x.length/\x.length<=60/\Bytes x/\∃I,JD x=some (I,0):=by
 have z:E5 0:=⟨by decide,by decide⟩;have q1:∀x:Int,[x].length=Cf [1]:=fun _=>rfl;rcases kC c.Kind with ⟨hf,hk⟩|⟨hf,hk⟩|⟨hf,hk⟩|⟨hf,hk⟩|⟨hf,hk⟩|⟨hf,hk⟩|⟨hf,hk⟩|⟨hf,hk⟩|⟨hf,hk⟩|⟨hf,hk⟩|⟨hf,hk⟩|⟨hf,hk⟩|⟨hf,hk⟩
 all_goals
  have A :=h;cases h<;>first|(exfalso;dsimp only at hk;omega)|skip
 ·rename_i u i q C;refine N9 _ _ A hf z z z z fun hb=>?_;refine Kz (Zhe (updB u++num 2 (IntKind.wrap .u64 i)) (Mc hb) hf (by rw[List.length_append,jT,EL];rfl)) ?_;rw[Zi0 u q];exact q
 ·rename_i m i q C G;refine N9 _ _ A hf q z z z fun hb=>?_;refine Kz (Zhh (num 5 m++num 2 (IntKind.wrap .u64 i)) (Mc hb) hf (by rw[List.length_append,EL,EL];rfl)) ?_;rw[Ym _ q.1 (Int.lt_of_lt_of_le (ZFL C) (by decide))];exact C
 ·rename_i r q;exact N9 _ _ A hf z z z z fun hb=>Kz (Zgz _ (Mc hb) hf (q1 _)) rfl
 ·rename_i s m q C;exact N9 _ _ A hf z q C z fun hb=>Kz (Zho (num 8 s++num 8 m) (Mc hb) hf (by rw[List.length_append,EL,EL];rfl)) rfl
 ·rename_i s q;refine N9 _ _ A hf z q z z fun hb=>?_;refine Kz (ZhA (num 8 s) (Mc hb) hf (by rw[EL];rfl)) rfl
 ·rename_i k D;exact N9 _ _ A hf z z z z fun hb=>by
   dsimp only at hk hf;rcases hk with rfl|rfl|rfl|rfl<;>exact Kz (ZhW _ (by decide) [] Bytes.nil hf rfl) rfl
 ·rename_i r q;exact N9 _ _ A hf z z z z fun hb=>Kz (ZhF _ (Mc hb) hf (q1 _)) rfl
 ·rename_i k f D C;exact N9 _ _ A hf z z z C fun hb=>by
   dsimp only at hk hf;rcases hk with rfl|rfl
   ·exact Kz (Z4J 8 (.inl rfl) (num 8 f) (Mc hb) hf (by rw[EL];rfl)) rfl
   ·exact Kz (Z4J 9 (.inr rfl) (num 8 f) (Mc hb) hf (by rw[EL];rfl)) rfl
 ·rename_i v q;exact N9 _ _ A hf z z z z fun hb=>Kz (Zhc _ (Mc hb) hf (q1 _)) rfl
 ·rename_i r k q C;exact N9 _ _ A hf z z z z fun hb=>Kz (Zhu _ (Mc hb) hf rfl) rfl
 ·rename_i u q;refine N9 _ _ A hf z z z z fun hb=>?_;refine Kz (Zhn (updB u++[]) (Mc hb) hf (by rw[List.length_append,jT];rfl)) ?_;rw[Zi0 u q];exact q
 ·rename_i k n D C G;refine N9 _ _ A hf z z z z fun hb=>?_;dsimp only at hk hf;have e:∀x:Int,fl [IntKind.wrap .u8 x] 0 1=IntKind.wrap .u8 x:=fun x=>(Option.some.inj (Vx (r:=[IntKind.wrap .u8 x]) (a:=0) (Nat.zero_lt_succ _))).symm;have F:Ig (AQ (fl [IntKind.wrap .u8 n] 0 1)) 27 251=0:=by rw[e,Tz (by omega) (by omega),Dy (by omega) (by omega)];exact Z5R C G
  rcases hk with rfl|rfl
  ·exact Kz (Z5t 20 (.inl rfl) [IntKind.wrap .u8 n] (Mc hb) hf rfl) F
  ·exact Kz (Z5t 21 (.inr rfl) [IntKind.wrap .u8 n] (Mc hb) hf rfl) F
theorem Zcb (z:AO) (q:CY z):∃r,JO z=some r/\(r=0->CV z):=Zrr z q.1 q.2.1 q.2.2.1 q.2.2.2.1 q.2.2.2.2.1
theorem Zsp (q:AO) (z:CV q):∃r,Ug q=some r/\(r.1.length<=60/\DZ r.1/\(r.2=0->1<=r.1.length/\mG r.1)):=by
 obtain⟨x,A,C,D,F,c,G⟩:=ZEo z;exact⟨(x,0),A,D,F,fun _=>⟨C,c,G⟩⟩
theorem CZ:(∀(α:Type) (a b:List α),(a++b).length=a.length+b.length)/\(∀(α:Type) (a:α) (l:List α),(a::l).length=l.length+1)/\(∀α:Type,([]:List α).length=0)/\(∀(α:Type) (n:Nat) (l:List α),(l.take n).length=min n l.length)/\(∀(α:Type) (n:Nat) (l:List α),(l.drop n).length=l.length - n)/\(∀(α:Type) (l:List α) (i:Nat) (a:α),(l.set i a).length=l.length)/\(∀(α:Type) (n:Nat) (a:α),(List.replicate n a).length=n):=
 ⟨fun _ _ _=>List.length_append,fun _ _ _=>List.length_cons,fun _=>List.length_nil,fun _ _ _=>List.length_take,fun _ _ _=>List.length_drop,fun _ _ _ _=>List.length_set,fun _ _ _=>List.length_replicate⟩
theorem Ei:(∀a b:Bool,((a&&b)=true)=(a=true/\b=true))/\(∀a b:Bool,((a||b)=true)=(a=true\/b=true))/\(∀(p:Prop) [Decidable p],(decide p=true)=p)/\(∀(α:Type) [BEq α] [LawfulBEq α] (a b:α),((a==b)=true)=(a=b))/\(∀(α:Type) [BEq α] [LawfulBEq α] (a b:α),((a != b)=true)=(a≠b))/\(∀(α:Type) [BEq α] [ReflBEq α] (a:α),(a==a)=true)/\(∀p:Prop,(p/\p)=p)/\(∀p:Prop,(p/\True)=p)/\(∀p:Prop,(True/\p)=p)/\(∀(α q:Type) (f:α->q) (l:List α),(l.map f).length=l.length):=
 ⟨Bool.and_eq_true,Bool.or_eq_true,fun _ _=>decide_eq_true_eq,fun _ _ _ _ _=>propext beq_iff_eq,fun _ _ _ _ _=>propext bne_iff_ne,fun _ _ _ a=>beq_self_eq_true a,and_self,and_true,true_and,fun _ _ _ _=>List.length_map _⟩
theorem Ht:(∀(p:Prop) [Decidable p],(decide p=true)=p)/\(∀(p:Prop) [Decidable p],(decide p=false)=¬p)/\(∀b:Bool,((!b)=true)=(b=false))/\(∀b:Bool,((!b)=false)=(b=true))/\(∀b:Bool,(¬b=true)=(b=false))/\(∀b:Bool,(¬b=false)=(b=true))/\(∀(α:Type) [BEq α] [LawfulBEq α] (a b:α),((a==b)=true)=(a=b))/\(∀(α:Type) [BEq α] [LawfulBEq α] (a b:α),((a != b)=true)=(a≠b)) /\
  (∀(α:Type) [BEq α] [LawfulBEq α] (a b:α),((a==b)=false)=(a≠b))/\(∀(α:Type) [BEq α] [LawfulBEq α] (a b:α),((a != b)=false)=(a=b))/\(∀(α:Type) (a b:α),(a≠b)=¬a=b)/\(∀a b:Bool,((a&&b)=true)=(a=true/\b=true))/\(∀a b:Bool,((a||b)=true)=(a=true\/b=true))/\(∀p:Prop,(¬¬p)=p):=
 ⟨fun _ _=>decide_eq_true_eq,fun _ _=>propext decide_eq_false_iff_not,fun b=>by cases b<;>simp,fun b=>by cases b<;>simp,fun b=>by cases b<;>simp,fun b=>by cases b<;>simp,fun _ _ _ _ _=>propext beq_iff_eq,fun _ _ _ _ _=>propext bne_iff_ne,fun _ _ _ _ _=>propext beq_eq_false_iff_ne,fun _ _ _ _ _=>propext bne_eq_false_iff_eq,fun _ _ _=>rfl,Bool.and_eq_true,Bool.or_eq_true,fun _=>propext Classical.not_not⟩
theorem Zgi {L:Type} {l:List (Aq)} {i:Int} {k:Aq->Tr U L} {Q:L->Prop} (h:0<=i/\i<(l.length:Int)) (g:∀v:Aq,v∈l->Tot (k v) Q):Tot (Tr.bind (U:=U) 68 (l[Int.toNat i]? : Option (Aq)) k) Q:=PU (U:=U) (t:=68) h g
theorem Z4j {L:Type} {l:List (AO)} {i:Int} {k:AO->Tr U L} {Q:L->Prop} (h:0<=i/\i<(l.length:Int)) (g:∀v:AO,v∈l->Tot (k v) Q):Tot (Tr.bind (U:=U) 156 (l[Int.toNat i]? : Option (AO)) k) Q:=PU (U:=U) (t:=156) h g
theorem Z4m {L:Type} {l:List (BG)} {i:Int} {k:BG->Tr U L} {Q:L->Prop} (h:0<=i/\i<(l.length:Int)) (g:∀v:BG,v∈l->Tot (k v) Q):Tot (Tr.bind (U:=U) 138 (l[Int.toNat i]? : Option (BG)) k) Q:=PU (U:=U) (t:=138) h g
theorem ZgV {L:Type} {l:List (BJ)} {i:Int} {k:BJ->Tr U L} {Q:L->Prop} (h:0<=i/\i<(l.length:Int)) (g:∀v:BJ,v∈l->Tot (k v) Q):Tot (Tr.bind (U:=U) 99 (l[Int.toNat i]? : Option (BJ)) k) Q:=PU (U:=U) (t:=99) h g
theorem Zhi {L:Type} {l:List (Int)} {i:Int} {k:Int->Tr U L} {Q:L->Prop} (h:0<=i/\i<(l.length:Int)) (g:∀v:Int,v∈l->Tot (k v) Q):Tot (Tr.bind (U:=U) 3 (l[Int.toNat i]? : Option (Int)) k) Q:=PU (U:=U) (t:=3) h g
theorem TK {L:Type} {l:List (Int)} {i:Int} {k:Int->Tr U L} {Q:L->Prop} (h:0<=i/\i<(l.length:Int)) (g:∀v:Int,v∈l->Tot (k v) Q):Tot (Tr.bind (U:=U) 5 (l[Int.toNat i]? : Option (Int)) k) Q:=PU (U:=U) (t:=5) h g
theorem ZDH {L:Type} {l:List (Int)} {i:Int} {k:Int->Tr U L} {Q:L->Prop} (h:0<=i/\i<(l.length:Int)) (g:∀v:Int,v∈l->Tot (k v) Q):Tot (Tr.bind (U:=U) 25 (l[Int.toNat i]? : Option (Int)) k) Q:=PU (U:=U) (t:=25) h g
theorem ZfN {L:Type} {l:List (Am)} {i:Int} {k:Am->Tr U L} {Q:L->Prop} (h:0<=i/\i<(l.length:Int)) (g:∀v:Am,v∈l->Tot (k v) Q):Tot (Tr.bind (U:=U) 148 (l[Int.toNat i]? : Option (Am)) k) Q:=PU (U:=U) (t:=148) h g
theorem ZD5 {L:Type} {l:List (Hg)} {i:Int} {k:Hg->Tr U L} {Q:L->Prop} (h:0<=i/\i<(l.length:Int)) (g:∀v:Hg,v∈l->Tot (k v) Q):Tot (Tr.bind (U:=U) 83 (l[Int.toNat i]? : Option (Hg)) k) Q:=PU (U:=U) (t:=83) h g
theorem ZCv {L:Type} {l:List (FD)} {i:Int} {k:FD->Tr U L} {Q:L->Prop} (h:0<=i/\i<(l.length:Int)) (g:∀v:FD,v∈l->Tot (k v) Q):Tot (Tr.bind (U:=U) 113 (l[Int.toNat i]? : Option (FD)) k) Q:=PU (U:=U) (t:=113) h g
theorem Hm:(∀(q z G:Int),∃r,PH q z G=some r/\True) /\
  (∀(q z G:Int),∃r,XC q z G=some r/\True) /\
  (∃r,Z3D=some r/\(r=KZ)) /\
  (∀(q:Int),∃r,vW q=some r/\True) /\
  (∀(q z G:Int),CU z->∃r,Z3E q z G=some r/\BM r) /\
  (∃r,Z2m=some r/\(r.length<=37)) /\
  (∀(q:ET) (z:Bool),∃r,uX q z=some r/\True) /\
  (∀(q:BQ),Dl q->∃r,Z36 q=some r/\True) /\
  (∀(q:Int),∃r,aY q=some r/\True) /\
  (∀(q:Int),∃r,fG q=some r/\True) /\
  (∀(q z:Int),∃r,vH q z=some r/\True) /\
  (∀(q:A7),BM q->∃r,tC q=some r/\True) /\
  (∀(q:Int),∃r,Z1z q=some r/\True) /\
  (∀(q:Int),∃r,DJ q=some r/\EJ r) /\
  (∀(q:Int),∃r,XG q=some r/\True) /\
  (∀(q z:Int),0<=z->z<=8->∃r,IL q z=some r/\(r.q0.length:Int)=z/\DZ r.q0) /\
  (∀(q:Int),∃r,Xl q=some r/\((r=true->Ee q))) /\
  (∀(q:Aq),∃r,pM q=some r/\((r=0->1<=q.BP/\q.BP<=3/\(1<=q.Payload.length\/q.BP=1)/\q.Payload.length<=255))) /\
  (∀(q:Aq),∃r,bJ q=some r/\((r=false->q.BP=1->1<=q.Payload.length))) /\
  (∃r,Z2A=some r/\(r=⟨1,[]⟩)) /\
  (∀(q:Aq),∃r,PK q=some r/\((r=false->q.BP=1->1<=q.Payload.length))) /\
  (∀(q:BI) (z:List Int),∃r,iC q z=some r/\r = { q with Ap:={ q.Ap with Payload:=z } }) /\
  (∀(q z:Int),0<=z->z<=32->∃r,PL q z=some r/\True) /\
  (∀(q z:Int),0<=q->q<=8->∃r,MG q z=some r/\(r.q0.length:Int)=q/\DZ r.q0):=by
 refine⟨fun q z G=>Cc (True) ?_ fun hp=>?_,
  fun q z G=>Cc (True) ?_ fun hp=>?_,
  Cc (True) ?_ fun hp=>?_,
  fun q=>Cc (True) ?_ fun hp=>?_,
  fun q z G I=>Cc (CU z) ?_ fun hp=>?_,
  Cc (True) ?_ fun hp=>?_,
  fun q z=>Cc (True) ?_ fun hp=>?_,
  fun q I=>Cc (Dl q) ?_ fun hp=>?_,
  fun q=>CW (fun(p:bG)=>match p with | .b0 ..=>True | .b1 _ _ F=>0<=F/\F<=8) (fun(p:bG)=>match p with | .b0 ..=>(1,0,0) | .b1 _ _ F=>(0,(8 - F).toNat,0)) ?_ _ ?_,
  fun q=>Cc (True) ?_ fun hp=>?_,
  fun q z=>Cc (True) ?_ fun hp=>?_,
  fun q I=>Cc (BM q) ?_ fun hp=>?_,
  fun q=>Cc (True) ?_ fun hp=>?_,
  fun q=>CW (fun(p:cZ)=>True) (fun(p:cZ)=>match p with | .b0 ..=>(0,0,3) | .b2 ..=>(0,0,2) | .b4 ..=>(0,0,1)|_=>(0,0,0)) ?_ _ ?_,
  fun q=>Cc (True) ?_ fun hp=>?_,
  fun q z I J=>CW (fun(p:jG)=>match p with | .b0 _ D=>D=z/\0<=D/\D<=8 | .b1 _ D F C=>D=z/\0<=D/\D<=8/\0<=C/\C<=D/\(F.length:Int)=C/\DZ F) (fun(p:jG)=>match p with | .b0 ..=>(1,0,0) | .b1 _ D _ C=>(0,(D - C).toNat,0)) ?_ _ ?_,
  fun q=>Cc (q=q) ?_ fun hp=>?_,
  fun q=>CW (fun(p:aH)=>match p with | .b0 A=>A=q | .b1 A=>A=q/\1<=A.BP/\A.BP<=3 | .b2 A=>(A=q/\1<=A.BP/\A.BP<=3/\(1<=A.Payload.length\/A.BP=1))) (fun(p:aH)=>match p with | .b0 ..=>(0,0,2) | .b1 ..=>(0,0,1) | .b2 ..=>(0,0,0)) ?_ _ ?_,
  fun q=>Cc (q=q) ?_ fun hp=>?_,
  Cc (True) ?_ fun hp=>?_,
  fun q=>Cc (q=q) ?_ fun hp=>?_,
  fun q z=>Cc (q=q/\z=z) ?_ fun hp=>?_,
  fun q z I J=>Cc (0<=z/\z<=32) ?_ fun hp=>?_,
  fun q z I J=>CW (fun(p:iZ)=>match p with | .b0 A _=>A=q/\0<=A/\A<=8 | .b1 A _ F C=>A=q/\0<=A/\A<=8/\0<=C/\C<=A/\(F.length:Int)=C/\DZ F) (fun(p:iZ)=>match p with | .b0 ..=>(1,0,0) | .b1 A _ _ C=>(0,(A - C).toNat,0)) ?_ _ ?_⟩
 all_goals try (intro p hp;cases p)
 all_goals
  try dsimp only at hp
  try exact False.elim hp
  try have hx:=hp
  try dsimp only[BR,Dl,BM,EE,Cb,F6,Fj,FB]at hx
  try (repeat with_reducible (have M:=And.left hp;replace hp:=And.right hp))
  try simp only[Z2k,Zal,ZeB,ZeN,Zev,Zcl,Ze5,ZdV,aX,Z2J,Ze6,ZcN,ZaU,PG,Z1Z,Xf,Z3S,U1,Z1G,ZcD,Z2B,ZdZ,ZdO,Xh]
  try dsimp only
  repeat' first|(refine FP ?_;dsimp only;try simp(disch:=omega) only[Ce,CZ,List.nil_append,List.drop_zero])|(refine GH (fun h=>?_) (fun h=>?_)<;>(try simp only[Ht,reduceCtorEq]at h;try simp(disch:=omega) only[Ce]at h))|refine EU ?_ ?_|refine Ii ?_|with_reducible apply And.intro|rfl|assumption|exact True.intro|omega|exact decide_eq_true (IP _).1|exact IM (by assumption) (by omega)|exact Ih (by assumption) (by omega)|(refine Gu.2 ?_;first|omega|grind)|(apply IX;first|omega|(simp only[CZ];omega))|(simp only[Ei,CZ,D6,maxLen_eq,kL,kA]<;>omega)|(simp(disch:=omega) only[Ce,decide_eq_true_eq,bne_iff_ne,ne_eq];(repeat' split)<;>omega)|(simp[EJ,Fq];done)|grind|(simp only[Ei,CZ,D6,maxLen_eq,kL,kA]<;>grind)|grind [Ee]
def Zbx:=Hm.1
def Zqm:=Hm.2.1
def Zze:=Hm.2.2.1
def Zfs:=Hm.2.2.2.1
def Zzv:=Hm.2.2.2.2.1
def Zu6:=Hm.2.2.2.2.2.1
def ZxM:=Hm.2.2.2.2.2.2.1
def ZxY:=Hm.2.2.2.2.2.2.2.1
def Zpv:=Hm.2.2.2.2.2.2.2.2.1
def Zcv:=Hm.2.2.2.2.2.2.2.2.2.1
def Zww:=Hm.2.2.2.2.2.2.2.2.2.2.1
def ZvG:=Hm.2.2.2.2.2.2.2.2.2.2.2.1
def ZqX:=Hm.2.2.2.2.2.2.2.2.2.2.2.2.1
def rW:=Hm.2.2.2.2.2.2.2.2.2.2.2.2.2.1
def ZzG:=Hm.2.2.2.2.2.2.2.2.2.2.2.2.2.2.2.1
def Zz6:=Hm.2.2.2.2.2.2.2.2.2.2.2.2.2.2.2.2.1
def Znl:=Hm.2.2.2.2.2.2.2.2.2.2.2.2.2.2.2.2.2.1
def Zq6:=Hm.2.2.2.2.2.2.2.2.2.2.2.2.2.2.2.2.2.2.1
def ZtK:=Hm.2.2.2.2.2.2.2.2.2.2.2.2.2.2.2.2.2.2.2.1
def Z2X:=Hm.2.2.2.2.2.2.2.2.2.2.2.2.2.2.2.2.2.2.2.2.1
def Zwl:=Hm.2.2.2.2.2.2.2.2.2.2.2.2.2.2.2.2.2.2.2.2.2.1
def ZvW:=Hm.2.2.2.2.2.2.2.2.2.2.2.2.2.2.2.2.2.2.2.2.2.2.1
def Z45:=Hm.2.2.2.2.2.2.2.2.2.2.2.2.2.2.2.2.2.2.2.2.2.2.2
end Go.Proofs.YtjodhcdmhobmoaaGreatDoor
