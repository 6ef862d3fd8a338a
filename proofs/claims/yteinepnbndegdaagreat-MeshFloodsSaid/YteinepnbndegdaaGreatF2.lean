/- A part of it. -/
import Derived.Test.YteinepnbndegdaaGreatF1
import Derived.Test.YteinepnbndegdaaGreatBAv
set_option linter.unusedVariables false
set_option linter.unusedSimpArgs false
namespace Go.Proofs.YteinepnbndegdaaGreat
open Tryz
open Go Go.Proofs.YteinepnbndegdaaGreat.Le
set_option maxRecDepth 100000
noncomputable section
def Zjz (_:List (List Int)):Option (List (List Int)):=none
theorem Zi9:AA1 93 [133] 133 (fun x=>Zjz x.1) rfl:=⟨⟨_,func93,rfl,by kernel_rfl⟩,fun _ _ h=>nomatch h⟩
inductive zZ where
 | b0 (a:Ae)
 | b1 (a:List DJ) (b c:Int) (d e:Ae)
 | b2 (a:List D9) (b c:Int) (d e:Ae)
 | b3 (a:List Gh) (b c:Int) (d e:Ae)
 | b4 (a:List BL) (b c:Int) (d e:Ae)
def Kq:zZ->Tr U (Oo⊕zZ)
 | .b0 a=>let f:=([]:List Ar);.bind 1402 (Lu a.Ah) (fun(c:NY)=>.bind 1403 (QC a.Cache) (fun(d:RD)=>.bind 1404 (O7 a.Ai) (fun(e:QA)=>.bind 1405 (TW a.A7.Out) (fun(b:WN)=>kl b.q0 (.chk (kL b.q0&&(kL c.q0&&(kL d.q0&&(kL e.q0&&(kL b.q0&&(true&&(true&&(true&&(true&&(true&&(true&&(true&&(true&&true))))))))))))) (Ac (.b1 b.q0 (↑b.q0.length:Int) (0:Int) ({ a with Ah:=c.q0,Cache:=d.q0,Ai:=e.q0,A7:=(⟨b.q0,a.A7.In⟩:BV) }:Ae) (⟨0,0,0,dP,ED,0,false,false,([]:List Int),f,f,(⟨([]:List DJ),([]:List D9)⟩:BV),Gu,En,([]:List BL),0,false⟩:Ae))))))))
 | .b1 d e f c a=>.br (decide (f<e)) (.fail) (.bind 1406 (TY c.A7.In) (fun(b:WJ)=>kl b.q0 (.chk (kL b.q0&&(kL c.Ah&&(kL c.Cache&&(kL c.Ai&&(kL d&&(kL b.q0&&(kL a.Ah&&(kL a.Cache&&(kL a.Ai&&(kL a.A7.Out&&(kL a.A7.In&&(kL a.AB.Aa&&(kL a.AB.AO&&(kL a.Low.AO&&kL a.Out)))))))))))))) (Ac (.b2 b.q0 (↑b.q0.length:Int) (0:Int) ({ c with A7:=(⟨d,b.q0⟩:BV) }:Ae) a)))))
 | .b2 d f g b a=>.br (decide (g<f)) (.fail) (.bind 1402 (Lu b.AB.AO) (fun(e:NY)=>.bind 1407 (Tt b.AB.Aa) (fun(c:WQ)=>kl c.q0 (.chk (kL c.q0&&(kL b.Ah&&(kL b.Cache&&(kL b.Ai&&(kL b.A7.Out&&(kL d&&(kL c.q0&&(kL e.q0&&(kL a.Ah&&(kL a.Cache&&(kL a.Ai&&(kL a.A7.Out&&(kL a.A7.In&&(kL a.AB.Aa&&(kL a.AB.AO&&(kL a.Low.AO&&kL a.Out)))))))))))))))) (Ac (.b3 c.q0 (↑c.q0.length:Int) (0:Int) ({ b with A7:=(⟨b.A7.Out,d⟩:BV),AB:=({ b.AB with Aa:=c.q0,AO:=e.q0 }:EG) }:Ae) a))))))
 | .b3 d f g a b=>.br (decide (g<f)) (.fail) (.bind 1402 (Lu a.Low.AO) (fun(e:NY)=>.bind 1408 (UC a.Out) (fun(c:WR)=>kl c.q0 (.chk (kL c.q0&&(kL a.Ah&&(kL a.Cache&&(kL a.Ai&&(kL a.A7.Out&&(kL a.A7.In&&(kL d&&(kL a.AB.AO&&(kL e.q0&&(kL c.q0&&(kL b.Ah&&(kL b.Cache&&(kL b.Ai&&(kL b.A7.Out&&(kL b.A7.In&&(kL b.AB.Aa&&(kL b.AB.AO&&(kL b.Low.AO&&kL b.Out)))))))))))))))))) (Ac (.b4 c.q0 (↑c.q0.length:Int) (0:Int) ({ a with AB:=({ a.AB with Aa:=d }:EG),Low:=({ a.Low with AO:=e.q0 }:Df),Out:=c.q0 }:Ae) b))))))
 | .b4 b g c a d=>let j:=Int.toNat c;.br (decide (c<g)) (kl b (.chk (kI c b) (kl b (.bind 120 (b[j]?) (fun(h:BL)=>.bind 1400 (UF h.Bytes) (fun(e:UK)=>kl b (.chk (kI c b) (.chk (b.length==b.length&&decide (0<=j)) (.bind 120 (b[j]?) (fun(f:BL)=>let i:=(b.set j ({ f with Bytes:=e.q0 }:BL));let k:=i.length==b.length;kl e.q0 (.chk (k&&(kL a.Ah&&(kL a.Cache&&(kL a.Ai&&(kL a.A7.Out&&(kL a.A7.In&&(kL a.AB.Aa&&(kL a.AB.AO&&(kL a.Low.AO&&(k&&(kL d.Ah&&(kL d.Cache&&(kL d.Ai&&(kL d.A7.Out&&(kL d.A7.In&&(kL d.AB.Aa&&(kL d.AB.AO&&(kL d.Low.AO&&kL d.Out)))))))))))))))))) (Ac (.b4 i g (Ad (c+1)) ({ a with Out:=i }:Ae) d))))))))))))) (.chk (kL a.Ah&&(kL a.Cache&&(kL a.Ai&&(kL a.A7.Out&&(kL a.A7.In&&(kL a.AB.Aa&&(kL a.AB.AO&&(kL a.Low.AO&&kL b)))))))) (AZ (⟨({ a with Out:=b }:Ae)⟩:Oo)))
def QT (a:Ae):Option Oo:=AY Kq (.b0 a)
def Z6a:Shape:=⟨[.agg [.v 76 46 true]],[]⟩
def ZhT:Shape:=⟨[(WC 0)],[.row 39 true,.row 49 true,.row 138 true,.row 149 true,.row 135 true,.row 158 true,.row 39 true,.row 39 true,.row 120 true]⟩
noncomputable def Zm0:HMod U:=⟨[k1],[],Z6a,ZhT,true,1435,fun(y:Oo)=>(((TM y.q0),()),(WH y.q0)),fun x=>QT x.1.1.1,okS rfl⟩
def Z6h:Lay:=⟨[1,2,31,32,33],[KP,KP,[.own 149 10],KP,KP],[.var [.keep,.keep,.keep,.keep,.keep,.keep,.keep,.keep,.keep,.keep,.keep,.keep,.keep,.keep,.keep,.keep,.keep,.keep,.keep,.keep,.own 39 1,.own 49 3,.own 138 3,.own 149 10,.s 135 11,.keep,.s 158 18,.s 39 1,.keep,.keep,.keep,.keep,.keep,.keep,.keep,.keep,.keep,.keep,.keep,.s 39 1,.keep,.keep,.keep,.s 120 3,.keep,.keep],.var k9,.row true,.row true,.row true,.row true,.row true,.row true,.row true,.row true,.row true,.row true,.row true,.row true,.row true],⟨[PQ 0,PQ 1,.one (.own 149 2),OV 3,OV 3],[.var 76 46 (.agg [VC 39 1,VC 41 1,VC 41 1,.v 59 11 true,.v 61 3 true,VC 47 1,VC 4 1,VC 4 1,.own 39 3,.own 49 4,.own 138 5,.own 149 2,VC 66 1,.v 71 8 true,.v 73 10 true,VC 74 1,VC 47 1,VC 4 1]),.var 76 46 (WC 6),.row 149 true,.row 39 true,.row 49 true,.row 138 true,.row 39 true,.row 49 true,.row 138 true,.row 149 true,.row 135 true,.row 158 true,.row 39 true,.row 39 true,.row 120 true]⟩⟩
def Z6e:Lay:=⟨[1,2,56,57,58],[KP,KP,[.own 135 11],KP,KP],[.var k18,.var k9,.row true,.row true,.row true,.row true,.row true,.row true,.row true,.row true,.row true,.row true,.row true,.row true,.row true,.row true],⟨[PQ 0,PQ 1,.one (.own 135 2),OV 3,OV 3],[.var 76 46 (.agg [VC 39 1,VC 41 1,VC 41 1,.v 59 11 true,.v 61 3 true,VC 47 1,VC 4 1,VC 4 1,.own 39 3,.own 49 4,.own 138 5,.own 149 6,.own 135 2,.v 71 8 true,.v 73 10 true,VC 74 1,VC 47 1,VC 4 1]),.var 76 46 (WC 7),.row 135 true,.row 39 true,.row 49 true,.row 138 true,.row 149 true,.row 39 true,.row 49 true,.row 138 true,.row 149 true,.row 135 true,.row 158 true,.row 39 true,.row 39 true,.row 120 true]⟩⟩
def Z6r:Lay:=⟨[1,2,87,88,89],[KP,KP,[.own 158 18],KP,KP],[.var [.keep,.keep,.keep,.keep,.keep,.keep,.keep,.keep,.keep,.keep,.keep,.keep,.keep,.keep,.keep,.keep,.keep,.keep,.keep,.keep,.own 39 1,.own 49 3,.own 138 3,.own 149 10,.own 135 11,.keep,.own 158 18,.own 39 1,.keep,.keep,.keep,.keep,.keep,.keep,.keep,.keep,.keep,.keep,.keep,.s 39 1,.keep,.keep,.keep,.s 120 3,.keep,.keep],.var k9,.row true,.row true,.row true,.row true,.row true,.row true,.row true,.row true,.row true,.row true,.row true,.row true,.row true,.row true,.row true,.row true],⟨[PQ 0,PQ 1,.one (.own 158 2),OV 3,OV 3],[.var 76 46 (.agg [VC 39 1,VC 41 1,VC 41 1,.v 59 11 true,.v 61 3 true,VC 47 1,VC 4 1,VC 4 1,.own 39 3,.own 49 4,.own 138 5,.own 149 6,.own 135 7,VC 39 1,.own 158 2,.own 39 8,VC 3 1,VC 4 1,VC 3 1,VC 3 1,VC 3 1,.v 73 10 true,VC 74 1,VC 47 1,VC 4 1]),.var 76 46 (WC 9),.row 158 true,.row 39 true,.row 49 true,.row 138 true,.row 149 true,.row 135 true,.row 39 true,.row 39 true,.row 49 true,.row 138 true,.row 149 true,.row 135 true,.row 158 true,.row 39 true,.row 39 true,.row 120 true]⟩⟩
def Z6k:Lay:=⟨[1,2,113,114,115],[KP,KP,[.own 120 3],KP,KP],[.var k9,.var k9,.row true,.row true,.row true,.row true,.row true,.row true,.row true,.row true,.row true,.row true,.row true,.row true,.row true,.row true,.row true,.row true,.row true,.row true],⟨[PQ 0,PQ 1,.one (.own 120 2),OV 3,OV 3],[.var 76 46 (.agg [VC 39 1,VC 41 1,VC 41 1,.v 59 11 true,.v 61 3 true,VC 47 1,VC 4 1,VC 4 1,.own 39 3,.own 49 4,.own 138 5,.own 149 6,.own 135 7,VC 39 1,.own 158 8,.own 39 9,VC 3 1,VC 4 1,VC 3 1,VC 3 1,VC 3 1,VC 3 1,VC 39 1,VC 3 1,VC 3 1,VC 3 1,VC 3 1,.own 39 10,VC 3 1,VC 4 1,VC 3 1,.own 120 2,VC 47 1,VC 4 1]),.var 76 46 (WC 11),.row 120 true,.row 39 true,.row 49 true,.row 138 true,.row 149 true,.row 135 true,.row 158 true,.row 39 true,.row 39 true,.row 39 true,.row 49 true,.row 138 true,.row 149 true,.row 135 true,.row 158 true,.row 39 true,.row 39 true,.row 120 true]⟩⟩
def Zkn:zZ->BN U
 | .b0 a=>DZ f55 Z6a (((a,()),()),())
 | .b1 c d e a b=>BB f55 [1,1,1,1,1,0,1,0,0,0] Z6h (((),((),((),((d,()),((e,()),()))))),((a.Address,(a.Device,(a.App,(a.Keys,(a.IV,(a.Seq,(a.Fz,(a.Hg,(a.A7.In,(a.AB,(a.Low,(a.Out,(a.G8,(a.Up,())))))))))))))),((TM b),(c,(a.Ah,(a.Cache,(a.Ai,(WH b))))))))
 | .b2 c d e a b=>BB f55 [1,1,1,1,1,1,1,0,1,0,0,0] Z6e (((),((),((),((d,()),((e,()),()))))),((tu8 a),((TM b),(c,(a.Ah,(a.Cache,(a.Ai,(a.A7.Out,(WH b)))))))))
 | .b3 c d e a b=>BB f55 [1,1,1,1,1,1,1,1,1,1,0,1,0,0,0] Z6r (((),((),((),((d,()),((e,()),()))))),((a.Address,(a.Device,(a.App,(a.Keys,(a.IV,(a.Seq,(a.Fz,(a.Hg,(a.AB.Low,(a.AB.Ed,(a.AB.Sent,(a.AB.Hz,(a.AB.Counter,(a.AB.Dropped,(a.Low,(a.Out,(a.G8,(a.Up,())))))))))))))))))),((TM b),(c,(a.Ah,(a.Cache,(a.Ai,(a.A7.Out,(a.A7.In,(a.AB.AO,(WH b)))))))))))
 | .b4 c d e a b=>BB f55 [1,1,1,1,1,1,1,1,1,1,1,1,1,0,1,0,0,0] Z6k (((),((),((),((d,()),((e,()),()))))),((TM a),((TM b),(c,(a.Ah,(a.Cache,(a.Ai,(a.A7.Out,(a.A7.In,(a.AB.Aa,(a.AB.AO,(a.Low.AO,(WH b)))))))))))))
theorem fP:Bi Tryz.prog B0 55 Zm0:=okR (mc Zi9 (mc vP Az)) (hc [] UA (hc [] qE (hc [] aC (hc [] Yv (hc [] Z2q (hc [] Z2s (hc [] Z2T (hc [] Z33 Aw)))))))) (al [(6,Z6h),(12,Z6e),(19,Z6r),(26,Z6k),(7,LX),(13,LX),(20,LX)]) [k9] [.row true,.row true,.row true,.row true,.row true,.row true,.row true,.row true,.row true] 0 Zkn func55 (fun p=>by cases p<;>kernel_rfl) (by kernel_rfl) fun x=>by kernel_rfl
inductive zI where
 | b0 (a:Ae) (b:Int) (c:DV) (d:Int)
def Z7v:zI->Tr U (Uo⊕zI)
 | .b0 c d e f=>.bind 1435 (QT c) (fun(b:Oo)=>.chk (kL b.q0.Ah&&(kL b.q0.Cache&&(kL b.q0.Ai&&(kL b.q0.A7.Out&&(kL b.q0.A7.In&&(kL b.q0.AB.Aa&&(kL b.q0.AB.AO&&(kL b.q0.Low.AO&&(kL b.q0.Out&&true))))))))) (.bind 1436 (vZ (⟨b.q0,d⟩:BJ) e f ([]:List BH)) (fun(a:U3)=>.chk (kL a.q0.Node.Ah&&(kL a.q0.Node.Cache&&(kL a.q0.Node.Ai&&(kL a.q0.Node.AB.Aa&&(kL a.q0.Node.AB.AO&&(kL a.q0.Node.Low.AO&&(kL a.q0.Node.Out&&(kL a.q3&&(kL a.q0.Node.AB.Aa&&kL a.q0.Node.AB.AO))))))))) (AZ (⟨a.q0.Node,a.q3,a.q1,a.q2⟩:Uo)))))
def zT (a:Ae) (b:Int) (c:DV) (d:Int):Option Uo:=AY Z7v (.b0 a b c d)
def Z6c:Shape:=⟨[.agg [.v 76 46 true],OV 3,.one (.fn 53 [] [0,1])],[VA 43 10,.var 34 1 (OV 34)]⟩
def Zix:Shape:=⟨[.agg [VC 39 1,VC 41 1,VC 41 1,.v 59 11 true,.v 61 3 true,VC 47 1,VC 4 1,VC 4 1,.own 39 2,.own 49 3,.own 138 4,.v 68 2 true,VC 39 1,.own 158 5,.own 39 6,VC 3 1,VC 4 1,VC 3 1,VC 3 1,VC 3 1,VC 3 1,VC 39 1,VC 3 1,VC 3 1,VC 3 1,VC 3 1,.own 39 7,VC 3 1,VC 4 1,VC 3 1,.own 120 8,VC 47 1,VC 4 1],.one (.own 53 9)],[VA 43 10,.var 34 1 (OV 34),.row 39 true,.row 49 true,.row 138 true,.row 158 false,.row 39 false,.row 39 true,.row 120 true,.row 53 true]⟩
noncomputable def ZkW:HMod U:=⟨[k1,KP,KP],[.var k8,.var KP],Z6c,Zix,false,1434,fun(y:Uo)=>(((y.q0.Address,(y.q0.Device,(y.q0.App,(y.q0.Keys,(y.q0.IV,(y.q0.Seq,(y.q0.Fz,(y.q0.Hg,(y.q0.A7,(y.q0.AB.Low,(y.q0.AB.Ed,(y.q0.AB.Sent,(y.q0.AB.Hz,(y.q0.AB.Counter,(y.q0.AB.Dropped,(y.q0.Low.EP,(y.q0.Low.AB,(y.q0.Low.Ed,(y.q0.Low.Counter,(y.q0.Low.Em,(y.q0.Low.IB,(y.q0.Low.Told,(y.q0.Low.More,(y.q0.Low.Last,(y.q0.G8,(y.q0.Up,())))))))))))))))))))))))))),((),())),((y.q2,()),((y.q3,()),(y.q0.Ah,(y.q0.Cache,(y.q0.Ai,(y.q0.AB.Aa,(y.q0.AB.AO,(y.q0.Low.AO,(y.q0.Out,(y.q1,()))))))))))),fun x=>zT x.1.1.1 x.1.2.1.1 x.2.1.1 x.2.2.1.1,okS rfl⟩
def Zkf:zI->BN U
 | .b0 a b c d=>DZ f52 Z6c (((a,()),((b,()),((),()))),((c,()),((d,()),())))
theorem Zkg:Bi Tryz.prog B0 52 ZkW:=okR Az (hc [] Zgz (hc [] fP Aw)) AN [[.keep,.keep,.keep,.keep,.keep,.keep,.keep,.keep,.keep,.keep,.keep,.keep,.keep,.keep,.keep,.keep,.keep,.keep,.keep,.keep,.own 39 1,.own 49 3,.own 138 3,.s 149 10,.s 135 11,.keep,.own 158 18,.own 39 1,.keep,.keep,.keep,.keep,.keep,.keep,.keep,.keep,.keep,.keep,.keep,.own 39 1,.keep,.keep,.keep,.own 120 3,.keep,.keep],[.own 53 11]] [.var k8,.var KP,.row true,.row true,.row true,.row false,.row false,.row true,.row true,.row true] 2 Zkf func52 (fun p=>by cases p<;>kernel_rfl) (by kernel_rfl) fun x=>by kernel_rfl
def Z6f:S1 (Ae×DV×Int×Unit) (Ae×(List BH)×Int)
 | (c,d,e,_)=>.bind 1434 (zT c e d (0:Int)) (fun(a:Uo)=>.br (a.q3 != 0) (.bind 1435 (QT c) (fun(b:Oo)=>kl b.q0.Ah (kl b.q0.Cache (kl b.q0.Ai (kl b.q0.A7.Out (kl b.q0.A7.In (kl b.q0.AB.Aa (kl b.q0.AB.AO (kl b.q0.Low.AO (kl b.q0.Out (.chk true (AZ (b.q0,([]:List BH),a.q3))))))))))))) (kl a.q0.Ah (kl a.q0.Cache (kl a.q0.Ai (kl a.q0.AB.Aa (kl a.q0.AB.AO (kl a.q0.Low.AO (kl a.q0.Out (kl a.q1 (AZ (a.q0,a.q1,(0:Int))))))))))))
def yN (a:Ae) (b:DV) (c:Int):Option (Ae×(List BH)×Int):=AY Z6f (a,b,c,())
theorem Ziv:AA1 28 [76,43,3] 101 (fun x=>yN x.1 x.2.1 x.2.2.1) rfl:=ok1 Az (hc [53] Zkg (hc [] fP Aw)) func28 (fun _=>by kernel_rfl) (by kernel_rfl)
inductive vY where
 | b0 (a:Aq)
 | b1 (a b:Int) (c d:Aq) (e:List Ae)
 | b2 (a b:Int) (c d:Aq) (e:List Ae) (f:List BR) (g:List DK) (h:List CS)
 | b3 (a b:Int) (c d:Aq) (e:List Ae) (f:List BR) (g:List DK) (h:List CS) (i:List EE)
def Ob:vY->Tr U (QN⊕vY)
 | .b0 a=>kl a.Ak (.bind 1396 (UE a.Ak) (fun(b:WV)=>kl b.q0 (.chk (kL a.Ak&&(kL a.BA&&(kL a.BG&&(kL a.Flight&&(kL a.Notes&&(kL b.q0&&(kL a.BA&&(kL a.BG&&(kL a.Flight&&(kL a.Notes&&(true&&(true&&(true&&(true&&true)))))))))))))) (Ac (.b1 (↑b.q0.length:Int) (0:Int) ({ a with Ak:=b.q0 }:Aq) Ib a.Ak)))))
 | .b1 f c a b d=>let o:=kI c a.Ak;let m:=Int.toNat c;let l:=kL a.Notes&&(kL b.Ak&&(kL b.BA&&(kL b.BG&&(kL b.Flight&&kL b.Notes))));.br (decide (c<f)) (kl a.Ak (.chk o (kl a.Ak (.bind 76 (a.Ak[m]?) (fun(j:Ae)=>.bind 76 (Om j) (fun(g:Ae)=>let n:=a.Ak.set m g;kl a.Ak (.chk o (.chk (a.Ak.length==a.Ak.length&&decide (0<=m)) (.bind 76 (a.Ak[m]?) (fun(k:Ae)=>.chk (kL d&&(kL a.BA&&(kL a.BG&&(kL a.Flight&&(kL a.Notes&&((n.length==a.Ak.length)&&(kL a.BA&&(kL a.BG&&(kL a.Flight&&l))))))))) (Ac (.b1 f (Ad (c+1)) ({ a with Ak:=n }:Aq) b d)))))))))))) (kl a.BA (.bind 1397 (UG a.BA) (fun(h:WW)=>kl a.BG (.bind 1398 (UM a.BG) (fun(i:WT)=>kl a.Flight (.bind 1399 (UQ a.Flight) (fun(e:WZ)=>kl e.q0 (.chk (kL d&&(kL a.BA&&(kL a.BG&&(kL a.Flight&&(kL a.Notes&&(kL a.Ak&&(kL h.q0&&(kL i.q0&&(kL e.q0&&l))))))))) (Ac (.b2 (↑e.q0.length:Int) (0:Int) ({ a with BA:=h.q0,BG:=i.q0,Flight:=e.q0 }:Aq) b d a.BA a.BG a.Flight))))))))))
 | .b2 h i a b d e f g=>.br (decide (i<h)) (.fail) (kl a.Notes (.bind 1401 (TZ a.Notes) (fun(c:WO)=>kl c.q0 (.chk (kL d&&(kL e&&(kL f&&(kL g&&(kL a.Notes&&(kL a.Ak&&(kL a.BA&&(kL a.BG&&(kL a.Flight&&(kL c.q0&&(kL b.Ak&&(kL b.BA&&(kL b.BG&&(kL b.Flight&&kL b.Notes)))))))))))))) (Ac (.b3 (↑c.q0.length:Int) (0:Int) ({ a with Notes:=c.q0 }:Aq) b d e f g a.Notes))))))
 | .b3 g h a i b c d e f=>.br (decide (h<g)) (.fail) (.chk (kL a.Ak&&(kL a.BA&&(kL a.BG&&(kL a.Flight&&(kL a.Notes&&(kL b&&(kL c&&(kL d&&(kL e&&kL f))))))))) (AZ (⟨a,b,c,d,e,f⟩:QN)))
def dU (a:Aq):Option QN:=AY Ob (.b0 a)
def Z4k:Shape:=⟨[(ET 0)],[.row 76 false,.row 79 false,.row 113 false,.row 106 false,.row 55 false]⟩
def Zf8:Shape:=⟨[(ET 5)],[.row 76 false,.row 79 false,.row 113 false,.row 106 false,.row 55 false,.row 76 true,.row 79 true,.row 113 true,.row 106 true,.row 55 true]⟩
noncomputable def ZhD:HMod U:=⟨[[.own 76 46,.own 79 2,.own 113 2,.keep,.keep,.own 106 4,.own 55 13]],[.row false,.row false,.row false,.row false,.row false],Z4k,Zf8,true,1418,fun(y:QN)=>(((y.q0.Count,(y.q0.Now,())),()),(y.q1,(y.q2,(y.q3,(y.q4,(y.q5,(JO y.q0))))))),fun x=>dU (match x with|⟨⟨⟨C,G,_⟩,_⟩,z,D,v4,I,J,_⟩=>(⟨z,D,v4,C,G,I,J⟩:Aq)),okS rfl⟩
def Z4r:Lay:=⟨[1,2,12,13],[KP,KP,KP,KP],[.row false,.row false,.row false,.row false,.row false,.var [.own 76 46,.own 79 2,.own 113 2,.keep,.keep,.own 106 4,.own 55 13],.var [.own 76 46,.own 79 2,.own 113 2,.keep,.keep,.own 106 4,.own 55 13],.row true,.row true,.row true,.row true,.row true,.row true],⟨[PQ 5,PQ 6,OV 3,OV 3],[.row 76 false,.row 79 false,.row 113 false,.row 106 false,.row 55 false,.var 33 7 (ag4 7 1 2 3 4),.var 33 7 (ET 8),.row 76 true,.row 76 true,.row 79 true,.row 113 true,.row 106 true,.row 55 true]⟩⟩
def Z4p:Lay:=⟨[1,2,41,42],[KP,KP,KP,KP],[.row false,.row false,.row false,.row false,.row false,.var [.own 76 46,.own 79 2,.own 113 2,.keep,.keep,.own 106 4,.own 55 13],.var [.own 76 46,.own 79 2,.own 113 2,.keep,.keep,.own 106 4,.own 55 13],.row true,.row true,.row true,.row true,.row true,.row true,.row true,.row true,.row true],⟨[PQ 5,PQ 6,OV 3,OV 3],[.row 76 false,.row 79 false,.row 113 false,.row 106 false,.row 55 false,.var 33 7 (ag4 7 8 9 10 4),.var 33 7 (ET 11),.row 76 true,.row 79 true,.row 113 true,.row 106 true,.row 76 true,.row 79 true,.row 113 true,.row 106 true,.row 55 true]⟩⟩
def Z4c:Lay:=⟨[1,2,64,65],[KP,KP,KP,KP],[.row false,.row false,.row false,.row false,.row false,.var [.own 76 46,.own 79 2,.own 113 2,.keep,.keep,.own 106 4,.own 55 13],.var [.own 76 46,.own 79 2,.own 113 2,.keep,.keep,.own 106 4,.own 55 13],.row true,.row true,.row true,.row true,.row true,.row true,.row true,.row true,.row true,.row true],⟨[PQ 5,PQ 6,OV 3,OV 3],[.row 76 false,.row 79 false,.row 113 false,.row 106 false,.row 55 false,.var 33 7 (ET 7),.var 33 7 (ET 12),.row 76 true,.row 79 true,.row 113 true,.row 106 true,.row 55 true,.row 76 true,.row 79 true,.row 113 true,.row 106 true,.row 55 true]⟩⟩
def ZgN:vY->BN U
 | .b0 a=>DZ f18 Z4k (((a.Count,(a.Now,())),()),(a.Ak,(a.BA,(a.BG,(a.Flight,(a.Notes,()))))))
 | .b1 c d a b e=>BB f18 [1,1,0,1,0,0,0] Z4r (((),((),((c,()),((d,()),())))),(e,(a.BA,(a.BG,(a.Flight,(a.Notes,((a.Count,(a.Now,())),((b.Count,(b.Now,())),(a.Ak,(JO b))))))))))
 | .b2 c d a b e f g h=>BB f18 [1,1,1,1,1,1,0,1,0,0,0] Z4p (((),((),((c,()),((d,()),())))),(e,(f,(g,(h,(a.Notes,((a.Count,(a.Now,())),((b.Count,(b.Now,())),(a.Ak,(a.BA,(a.BG,(a.Flight,(JO b)))))))))))))
 | .b3 c d a b e f g h i=>BB f18 [1,1,1,1,1,1,1,1,0,1,0,0,0] Z4c (((),((),((c,()),((d,()),())))),(e,(f,(g,(h,(i,((a.Count,(a.Now,())),((b.Count,(b.Now,())),(a.Ak,(a.BA,(a.BG,(a.Flight,(a.Notes,(JO b))))))))))))))
theorem ZgW:Bi Tryz.prog B0 18 ZhD:=okR (mc Z6H Az) (hc [] Z3s (hc [] Z3x (hc [] Z3v (hc [] Z3D (hc [] UA (hc [] Z2o Aw)))))) (al [(3,Z4r),(11,Z4p),(17,Z4c),(12,LX),(18,LX)]) [[.own 76 46,.own 79 2,.own 113 2,.keep,.keep,.own 106 4,.own 55 13]] [.row false,.row false,.row false,.row false,.row false,.row true,.row true,.row true,.row true,.row true] 5 ZgN func18 (fun p=>by cases p<;>kernel_rfl) (by kernel_rfl) fun x=>by kernel_rfl
def Ziy:S1 (EG×Int×Unit) Bool
 | (a,b,_)=>AZ (decide (b>=(Ad (a.Hz+200))))
def Z5H (a:EG) (b:Int):Option Bool:=AY Ziy (a,b,())
theorem Zhx:AA1 145 [71,3] 4 (fun x=>Z5H x.1 x.2.1) rfl:=ok1 Az Aw func145 (fun _=>by kernel_rfl) (by kernel_rfl)
def Zi6:S1 (EG×Int×Unit) Bool
 | (a,b,_)=>.br (a.Low != 0) (.bind 4 (Z5H a b) (fun(c:Bool)=>AZ c)) (AZ false)
def wW (a:EG) (b:Int):Option Bool:=AY Zi6 (a,b,())
theorem Zhb:AA1 101 [71,3] 4 (fun x=>wW x.1 x.2.1) rfl:=ok1 (mc Zhx Az) Aw func101 (fun _=>by kernel_rfl) (by kernel_rfl)
inductive wR where
 | b0 (a:CY) (b:Int)
def Zil:wR->Tr U ((CY×Int)⊕wR)
 | .b0 a b=>.br (!a.GI) (AZ (a,9)) (.fail)
def xE (a:CY) (b:Int):Option (CY×Int):=AY Zil (.b0 a b)
def Zhg:wR->BN U
 | .b0 a b=>CU f104 [61,3] (a,b,())
theorem Zhh:AA1 104 [61,3] 184 (fun x=>xE x.1 x.2.1) rfl:=Cb Az Aw (al [(3,LX)]) Zhg func104 (fun p=>by cases p<;>kernel_rfl) (by kernel_rfl) fun _=>rfl
inductive uQ where
 | b0 (a:Bh) (b:Fb)
 | b1 (a:Int) (b:Bh) (c:Fb)
 | b2 (a:Int) (b:Bh) (c:Fb)
def UX:uQ->Tr U ((List Int)⊕uQ)
 | .b0 b a=>.br a.Zaj (Ac (.b1 (1:Int) b a)) (Ac (.b1 (0:Int) b a))
 | .b1 b c a=>.br a.GI (Ac (.b2 (bits .or .u64 b (2:Int)) c a)) (Ac (.b2 b c a))
 | .b2 b c d=>.chk true (.bind 270 (MK ([(⟨1,b⟩:DF),(⟨4,(IntKind.wrap .u64 (d.Index))⟩:DF)])) (fun(a:(List Int)×Int)=>.bind 40 (Rh c.JY a.1) (fun(e:Int)=>.chk true (.bind 270 (MK ([(⟨8,e⟩:DF)])) (fun(f:(List Int)×Int)=>.chk true (.bind 27 (Hw ([a.1,f.1])) (fun(g:List Int)=>AZ g)))))))
def Ws (a:Bh) (b:Fb):Option (List Int):=AY UX (.b0 a b)
def bJ:Lay:=LT [2,3,5] [.p 0,.p 1,.v 40] [.s 57,.s 221]
def Zfo:uQ->BN U
 | .b0 a b=>CU f128 [57,221] (a,b,())
 | .b1 a b c=>AA3 f128 [1,1,1,0,0] bJ (a,b,c,())
 | .b2 a b c=>AA3 f128 [1,1,1,1,0] bJ (a,b,c,())
theorem Z40:AA1 128 [57,221] 27 (fun x=>Ws x.1 x.2.1) rfl:=Cb (mc MG (mc eF (mc zN Az))) Aw (al [(4,bJ),(6,bJ)]) Zfo func128 (fun p=>by cases p<;>kernel_rfl) (by kernel_rfl) fun _=>rfl
inductive qR where
 | b0 (a:BJ) (b:List BH)
def Z35:qR->Tr U (Tj⊕qR)
 | .b0 a c=>.bind 57 (Tc (dS a)) (fun(d:Bh)=>.bind 27 (Ws d (⟨(a.Node.Keys.EP==2),a.Node.IV.GI,a.Node.IV.Index⟩:Fb)) (fun(b:List Int)=>let e:=a.Node.Out++[(⟨a.DL,b,0⟩:BL)];.chk true (kl a.Node.Out (.chk (kA (a.Node.Out.length+1) 40) (.chk (kL a.Node.Ah&&(kL a.Node.Cache&&(kL a.Node.Ai&&(kL a.Node.AB.Aa&&(kL a.Node.AB.AO&&((e.length==e.length)&&(kL a.Node.AB.Aa&&(kL a.Node.AB.AO&&kL c)))))))) (AZ (⟨(⟨({ a.Node with Out:=e }:Ae),a.DL⟩:BJ),c⟩:Tj)))))))
def qG (a:BJ) (b:List BH):Option Tj:=AY Z35 (.b0 a b)
def Z2B:Shape:=⟨[PQ 0],[.var 177 48 (.agg [VC 39 1,VC 41 1,VC 41 1,.v 59 11 true,.v 61 3 true,VC 47 1,VC 4 1,VC 4 1,.own 39 1,.own 49 2,.own 138 3,.v 68 2 true,VC 39 1,.own 158 4,.own 39 5,VC 3 1,VC 4 1,VC 3 1,VC 3 1,VC 3 1,.v 73 10 true,.own 120 6,VC 47 1,VC 4 1,VC 3 1,.fn 83 [] [7]]),.row 39 true,.row 49 true,.row 138 true,.row 158 false,.row 39 false,.row 120 true,.var 100 1 (.one (.own 53 8)),.row 53 true]⟩
def ZcK:Shape:=⟨[],[.var 177 48 (.agg [VC 39 1,VC 41 1,VC 41 1,.v 59 11 true,.v 61 3 true,VC 47 1,VC 4 1,VC 4 1,.own 39 1,.own 49 2,.own 138 3,.v 68 2 true,VC 39 1,.own 158 4,.own 39 5,VC 3 1,VC 4 1,VC 3 1,VC 3 1,VC 3 1,.v 73 10 true,.own 120 6,VC 47 1,VC 4 1,VC 3 1,.fn 83 [] [7]]),.row 39 true,.row 49 true,.row 138 true,.row 158 false,.row 39 false,.row 120 true,.var 100 1 (.one (.own 53 8)),.row 53 true]⟩
noncomputable def ZdB:HMod U:=⟨[KP],[.var k5,.row true,.row true,.row true,.row false,.row false,.row true,.var [.own 53 11],.row true],Z2B,ZcK,false,1453,fun(y:Tj)=>((),((NM y.q0),(y.q0.Node.Ah,(y.q0.Node.Cache,(y.q0.Node.Ai,(y.q0.Node.AB.Aa,(y.q0.Node.AB.AO,(y.q0.Node.Out,((),(y.q1,())))))))))),fun x=>qG (match x with|⟨_,⟨v0,v2,v4,v6,v8,z,D,G,I,J,M,Q,R,S,Y,v21,v22,v23,v24,_⟩,v1,v3,v5,v7,v9,C,_⟩=>(⟨(⟨v0,v2,v4,v6,v8,z,D,G,v1,v3,v5,I,(⟨J,v7,v9,M,Q,R,S,Y⟩:EG),v21,C,v22,v23⟩:Ae),v24⟩:BJ)) x.2.2.2.2.2.2.2.2.2.1,okS rfl⟩
def Zdi:qR->BN U
 | .b0 a b=>DZ f88 Z2B (((),()),((NM a),(a.Node.Ah,(a.Node.Cache,(a.Node.Ai,(a.Node.AB.Aa,(a.Node.AB.AO,(a.Node.Out,((),(b,()))))))))))
theorem Zdf:Bi Tryz.prog B0 88 ZdB:=okR (mc Yq (mc Z40 Az)) Aw AN [] [.var k5,.row true,.row true,.row true,.row false,.row false,.row true,.var [.own 53 11],.row true] 9 Zdi func88 (fun p=>by cases p<;>kernel_rfl) (by kernel_rfl) fun x=>by kernel_rfl
inductive wH where
 | b0 (a:Df) (b:Int)
 | b1 (a:Int) (b:Bool) (c d:Df)
 | b2 (a:Int) (b c:Df)
def Ub:wH->Tr U ((Df×(List Bc))⊕wH)
 | .b0 a c=>.bind 1402 (Lu a.AO) (fun(b:NY)=>let d:=({ a with AO:=b.q0 }:Df);.br (a.EP==3) (kl b.q0 (Ac (.b1 c (decide (c>=(Ad (a.Last+200)))) d En))) (kl b.q0 (Ac (.b1 c false d En))))
 | .b1 b d a c=>let e:=kl a.AO (Ac (wH.b2 b a c));.br d (.fail) (.br (a.EP==2) (.br (decide (a.Em<=b)) (.br (decide (a.IB>=6)) (.fail) e) e) e)
 | .b2 b a c=>let d:=kl a.AO (.chk true (AZ (a,([]:List Bc))));.br (a.EP==0) d (.br (decide (a.Em>b)) d (.fail))
def wQ (a:Df) (b:Int):Option (Df×(List Bc)):=AY Ub (.b0 a b)
def Z4B:Lay:=⟨[1,2,4,6],[KP,KP,KP,KP],[.var k20,.var k16,.row true],⟨[OV 3,PQ 0,PQ 1,OV 4],[.var 73 10 (ag5 2),VA 73 10,.row 39 true]⟩⟩
def Z4t:Lay:=⟨[1,2,4],[KP,KP,KP],[.var k20,.var k16,.row true],⟨[OV 3,PQ 0,PQ 1],[.var 73 10 (ag5 2),VA 73 10,.row 39 true]⟩⟩
def Zhr:wH->BN U
 | .b0 a b=>CU f146 [73,3] (a,b,())
 | .b1 b c a d=>BB f146 [1,1,1,0,0] Z4B (((b,()),((),((),((c,()),())))),((tu11 a),((d,()),(a.AO,()))))
 | .b2 b a c=>BB f146 [1,1,1,1,0,0] Z4t (((b,()),((),((),()))),((tu11 a),((c,()),(a.AO,()))))
theorem Zh3:AA1 146 [73,3] 245 (fun x=>wQ x.1 x.2.1) rfl:=Cb Az (hc [] qE Aw) (al [(3,Z4B),(5,Z4t),(4,LX),(7,LX)]) Zhr func146 (fun p=>by cases p<;>kernel_rfl) (by kernel_rfl) fun _=>rfl
inductive pW where
 | b0 (a:BJ) (b:List BH)
 | b1 (a:List Bc) (b:BJ) (c:List BH) (d:Df) (e:List Int)
 | b2 (a:List Bc) (b c:Int) (d:BJ) (e:List BH) (f:Df) (g:List Int)
def Td:pW->Tr U (Tf⊕pW)
 | .b0 a c=>kl a.Node.Low.AO (.bind 245 (wQ a.Node.Low a.DL) (fun(b:Df×(List Bc))=>let d:=Tr.chk (kL a.Node.Ah&&(kL a.Node.Cache&&(kL a.Node.Ai&&(kL a.Node.A7.Out&&(kL a.Node.A7.In&&(kL a.Node.AB.Aa&&(kL a.Node.AB.AO&&(kL a.Node.Out&&(kL a.Node.AB.Aa&&(kL a.Node.AB.AO&&(kL a.Node.Low.AO&&kL c))))))))))) (Ac (pW.b1 b.2 (⟨({ a.Node with Low:=b.1 }:Ae),a.DL⟩:BJ) c b.1 a.Node.Low.AO));.br (a.Node.Low.EP==3) (.br (b.1.EP==1) (.fail) (.br (b.1.EP==2) (.fail) d)) d))
 | .b1 b a c e d=>.chk (kL a.Node.Ah&&(kL a.Node.Cache&&(kL a.Node.Ai&&(kL a.Node.A7.Out&&(kL a.Node.A7.In&&(kL a.Node.AB.Aa&&(kL a.Node.AB.AO&&(kL a.Node.Out&&(kL a.Node.AB.Aa&&(kL a.Node.AB.AO&&(kL d&&kL c))))))))))) (Ac (.b2 b (↑b.length:Int) (0:Int) a c e d))
 | .b2 f d e a b g c=>.br (decide (e<d)) (.fail) (.chk (kL a.Node.Ah&&(kL a.Node.Cache&&(kL a.Node.Ai&&(kL a.Node.A7.Out&&(kL a.Node.A7.In&&(kL a.Node.AB.Aa&&(kL a.Node.AB.AO&&(kL a.Node.Out&&(kL a.Node.AB.Aa&&(kL a.Node.AB.AO&&(kL c&&kL b))))))))))) (AZ (⟨a,b,c⟩:Tf)))
def qC (a:BJ) (b:List BH):Option Tf:=AY Td (.b0 a b)
def Z2u:Shape:=⟨[PQ 0],[.var 177 48 (.agg [VC 39 1,VC 41 1,VC 41 1,.v 59 11 true,.v 61 3 true,VC 47 1,VC 4 1,VC 4 1,.own 39 1,.own 49 2,.own 138 3,.own 149 4,.own 135 5,VC 39 1,.own 158 6,.own 39 7,VC 3 1,VC 4 1,VC 3 1,VC 3 1,VC 3 1,VC 3 1,VC 39 1,VC 3 1,VC 3 1,VC 3 1,VC 3 1,.own 39 8,VC 3 1,VC 4 1,VC 3 1,.own 120 9,VC 47 1,VC 4 1,VC 3 1,.fn 83 [] [10]]),.row 39 true,.row 49 true,.row 138 true,.row 149 true,.row 135 true,.row 158 false,.row 39 false,.row 39 true,.row 120 true,.var 100 1 (.one (.own 53 11)),.row 53 true]⟩
def Zcu:Shape:=⟨[],[.var 177 48 (.agg [VC 39 1,VC 41 1,VC 41 1,.v 59 11 true,.v 61 3 true,VC 47 1,VC 4 1,VC 4 1,.own 39 1,.own 49 2,.own 138 3,.own 149 4,.own 135 5,VC 39 1,.own 158 6,.own 39 7,VC 3 1,VC 4 1,VC 3 1,VC 3 1,VC 3 1,.v 73 10 true,.own 120 9,VC 47 1,VC 4 1,VC 3 1,.fn 83 [] [10]]),.row 39 true,.row 49 true,.row 138 true,.row 149 true,.row 135 true,.row 158 false,.row 39 false,.row 39 false,.row 120 true,.var 100 1 (.one (.own 53 11)),.row 53 true]⟩
noncomputable def Zd8:HMod U:=⟨[KP],[.var k2,.row true,.row true,.row true,.row true,.row true,.row false,.row false,.row true,.row true,.var [.own 53 11],.row true],Z2u,Zcu,false,1451,fun(y:Tf)=>((),((oD y.q0),(y.q0.Node.Ah,(y.q0.Node.Cache,(y.q0.Node.Ai,(y.q0.Node.A7.Out,(y.q0.Node.A7.In,(y.q0.Node.AB.Aa,(y.q0.Node.AB.AO,(y.q2,(y.q0.Node.Out,((),(y.q1,()))))))))))))),fun x=>qC (match x with|⟨_,⟨v0,v2,v4,v6,v8,z,D,I,M,R,S,Y,v21,v22,v23,v24,v25,v26,v27,v28,v29,v30,v31,v32,v33,v34,_⟩,v1,v3,v5,v7,v9,C,G,J,Q,_⟩=>(⟨(⟨v0,v2,v4,v6,v8,z,D,I,v1,v3,v5,(⟨v7,v9⟩:BV),(⟨M,C,G,R,S,Y,v21,v22⟩:EG),(⟨v23,v24,v25,v26,v27,v28,J,v29,v30,v31⟩:Df),Q,v32,v33⟩:Ae),v34⟩:BJ)) x.2.2.2.2.2.2.2.2.2.2.2.2.1,okS rfl⟩
def Z2p:Lay:=⟨[0,3,4],[KP,KP,[.s 156 10]],[.var k17,.row true,.row true,.row true,.row true,.row true,.row false,.row false,.row false,.row true,.var [.own 53 11],.row true,.var k16],⟨[PQ 0,PQ 12,OV 213],[.var 177 48 (.agg [VC 39 1,VC 41 1,VC 41 1,.v 59 11 true,.v 61 3 true,VC 47 1,VC 4 1,VC 4 1,.own 39 1,.own 49 2,.own 138 3,.own 149 4,.own 135 5,VC 39 1,.own 158 6,.own 39 7,VC 3 1,VC 4 1,VC 3 1,VC 3 1,VC 3 1,.v 73 10 true,.own 120 9,VC 47 1,VC 4 1,VC 3 1,.fn 83 [] [10]]),.row 39 true,.row 49 true,.row 138 true,.row 149 true,.row 135 true,.row 158 false,.row 39 false,.row 39 false,.row 120 true,.var 100 1 (.one (.own 53 11)),.row 53 true,VA 73 10]⟩⟩
def Z2r:Lay:=⟨[0,3,52,53,54],[KP,KP,[.s 156 10],KP,KP],[.var k17,.row true,.row true,.row true,.row true,.row true,.row false,.row false,.row false,.row true,.var [.own 53 11],.row true,.var k16],⟨[PQ 0,PQ 12,OV 213,OV 3,OV 3],[.var 177 48 (.agg [VC 39 1,VC 41 1,VC 41 1,.v 59 11 true,.v 61 3 true,VC 47 1,VC 4 1,VC 4 1,.own 39 1,.own 49 2,.own 138 3,.own 149 4,.own 135 5,VC 39 1,.own 158 6,.own 39 7,VC 3 1,VC 4 1,VC 3 1,VC 3 1,VC 3 1,.v 73 10 true,.own 120 9,VC 47 1,VC 4 1,VC 3 1,.fn 83 [] [10]]),.row 39 true,.row 49 true,.row 138 true,.row 149 true,.row 135 true,.row 158 false,.row 39 false,.row 39 false,.row 120 true,.var 100 1 (.one (.own 53 11)),.row 53 true,VA 73 10]⟩⟩
def ZcV:pW->BN U
 | .b0 a b=>DZ f102 Z2u (((),()),((IL a),(a.Node.Ah,(a.Node.Cache,(a.Node.Ai,(a.Node.A7.Out,(a.Node.A7.In,(a.Node.AB.Aa,(a.Node.AB.AO,(a.Node.Low.AO,(a.Node.Out,((),(b,())))))))))))))
 | .b1 b a c d e=>BB f102 [1,1,1,1,0] Z2p (((),((),((b,()),()))),((oD a),(a.Node.Ah,(a.Node.Cache,(a.Node.Ai,(a.Node.A7.Out,(a.Node.A7.In,(a.Node.AB.Aa,(a.Node.AB.AO,(e,(a.Node.Out,((),(c,((d,()),()))))))))))))))
 | .b2 b c d a e f g=>BB f102 [1,1,1,1,1,0,0,0] Z2r (((),((),((b,()),((c,()),((d,()),()))))),((oD a),(a.Node.Ah,(a.Node.Cache,(a.Node.Ai,(a.Node.A7.Out,(a.Node.A7.In,(a.Node.AB.Aa,(a.Node.AB.AO,(g,(a.Node.Out,((),(e,((f,()),()))))))))))))))
theorem ZcS:Bi Tryz.prog B0 102 Zd8:=okR (mc Yq (mc Zh3 Az)) Aw (al [(5,Z2p),(6,Z2r),(4,LX),(7,LX)]) [] [.var k17,.row true,.row true,.row true,.row true,.row true,.row false,.row false,.row false,.row true,.var [.own 53 11],.row true] 12 ZcV func102 (fun p=>by cases p<;>kernel_rfl) (by kernel_rfl) fun x=>by kernel_rfl
end
noncomputable section
def Zer (_:DJ) (_:Int):Option Bc:=none
theorem ZdX:AA1 163 [149,3] 156 (fun x=>Zer x.1 x.2.1) rfl:=⟨⟨_,func163,rfl,by kernel_rfl⟩,fun _ _ h=>nomatch h⟩
inductive tH where
 | b0 (a:BV) (b:Int)
 | b1 (a:Int) (b:List EF) (c:List Int) (d e:List DJ) (f g:Int) (h i:BV)
def bZ:tH->Tr U ((BV×(List EF)×(List Int))⊕tH)
 | .b0 b c=>let d:=([]:List DJ);.bind 1447 (UR b) (fun(a:Oa)=>kl a.q0.Out (.chk (true&&(true&&(true&&(kL a.q0.Out&&(kL a.q0.Out&&kL a.q0.In))))) (Ac (.b1 c ([]:List EF) ([]:List Int) d a.q0.Out (↑a.q0.Out.length:Int) (0:Int) a.q0 (⟨d,([]:List D9)⟩:BV)))))
 | .b1 g a b c h e f d i=>.br (decide (f<e)) (.fail) (kl c (kl d.In (kl a (kl b (AZ ((⟨c,d.In⟩:BV),a,b))))))
def tC (a:BV) (b:Int):Option (BV×(List EF)×(List Int)):=AY bZ (.b0 a b)
def Z3H:Lay:=⟨[1,2,4,5,6,7,15,16,17],[KP,KP,KP,[.own 219 13],[.own 39 1],[.own 149 10],[.own 149 10],KP,KP],[.var [.own 149 10,.own 135 11],.var [.s 149 10,.s 135 11],.row true,.row true,.row true,.row true,.row true],⟨[OV 3,PQ 0,PQ 1,.one (.own 219 2),.one (.own 39 3),.one (.own 149 4),.one (.own 149 5),OV 3,OV 3],[.var 68 2 (Qs 5),VA 68 2,.row 219 true,.row 39 true,.row 149 true,.row 149 true,.row 135 true]⟩⟩
def ZeW:tH->BN U
 | .b0 a b=>CU f147 [68,3] (a,b,())
 | .b1 a b c d e f g h i=>AA3 f147 [1,1,1,0,1,0,0,0] Z3H (a,f,g,i,b,c,d,e,h.In,())
theorem ZeH:AA1 147 [68,3] 248 (fun x=>tC x.1 x.2.1) rfl:=Cb (mc ZdX Az) (hc [] bK Aw) (al [(4,Z3H),(5,LX)]) ZeW func147 (fun p=>by cases p<;>kernel_rfl) (by kernel_rfl) fun _=>rfl
inductive uU where
 | b0 (a:BV) (b:Int)
 | b1 (a:Int) (b:List EF) (c d:Int) (e f:BV)
def dC:uU->Tr U ((BV×(List EF))⊕uU)
 | .b0 b c=>.bind 1447 (UR b) (fun(a:Oa)=>kl a.q0.In (.chk (true&&(kL a.q0.Out&&kL a.q0.In)) (Ac (.b1 c ([]:List EF) (↑a.q0.In.length:Int) (0:Int) a.q0 (⟨([]:List DJ),([]:List D9)⟩:BV)))))
 | .b1 e b c d a f=>.br (decide (d<c)) (.fail) (kl a.Out (kl a.In (kl b (AZ (a,b)))))
def uN (a:BV) (b:Int):Option (BV×(List EF)):=AY dC (.b0 a b)
def Z3W:Lay:=⟨[1,2,4,6,14,15],[KP,KP,KP,[.own 219 13],KP,KP],[.var [.own 149 10,.own 135 11],.var [.s 149 10,.s 135 11],.row true,.row true,.row true],⟨[OV 3,PQ 0,PQ 1,.one (.own 219 2),OV 3,OV 3],[.var 68 2 (Qs 3),VA 68 2,.row 219 true,.row 149 true,.row 135 true]⟩⟩
def Zf4:uU->BN U
 | .b0 a b=>CU f148 [68,3] (a,b,())
 | .b1 b c d e a f=>AA3 f148 [1,1,1,0,1,0,0,0] Z3W (b,d,e,f,c,a.Out,a.In,())
theorem Zfe:AA1 148 [68,3] 250 (fun x=>uN x.1 x.2.1) rfl:=Cb Az (hc [] bK Aw) (al [(4,Z3W),(5,LX)]) Zf4 func148 (fun p=>by cases p<;>kernel_rfl) (by kernel_rfl) fun _=>rfl
inductive qO where
 | b0 (a:BJ) (b:List BH)
 | b1 (a:List Int) (b:List EF) (c d:Int) (e:BJ) (f:List BH) (g:BV) (h:List DJ) (i:List D9)
 | b2 (a:List Int) (b c:Int) (d:BJ) (e:List BH) (f:BV) (g:List DJ) (h:List D9)
 | b3 (a:List EF) (b c:Int) (d:BJ) (e:List BH) (f:List DJ) (g:List D9)
def QB:qO->Tr U (Tu⊕qO)
 | .b0 a c=>kl a.Node.A7.Out (kl a.Node.A7.In (.bind 248 (tC a.Node.A7 a.DL) (fun(b:BV×(List EF)×(List Int))=>.chk (kL a.Node.Ah&&(kL a.Node.Cache&&(kL a.Node.Ai&&(kL a.Node.AB.Aa&&(kL a.Node.AB.AO&&(kL a.Node.Out&&(kL a.Node.A7.Out&&(kL a.Node.A7.In&&(kL a.Node.AB.Aa&&(kL a.Node.AB.AO&&kL c)))))))))) (Ac (.b1 b.2.2 b.2.1 (↑b.2.1.length:Int) (0:Int) (⟨({ a.Node with A7:=b.1 }:Ae),a.DL⟩:BJ) c b.1 a.Node.A7.Out a.Node.A7.In)))))
 | .b1 b i f g a c h d e=>.br (decide (g<f)) (.fail) (.chk (kL a.Node.Ah&&(kL a.Node.Cache&&(kL a.Node.Ai&&(kL a.Node.AB.Aa&&(kL a.Node.AB.AO&&(kL a.Node.Out&&(kL d&&(kL e&&(kL a.Node.AB.Aa&&(kL a.Node.AB.AO&&kL c)))))))))) (Ac (.b2 b (↑b.length:Int) (0:Int) a c h d e)))
 | .b2 h f g a c i d e=>.br (decide (g<f)) (.fail) (.bind 250 (uN a.Node.A7 a.DL) (fun(b:BV×(List EF))=>.chk (kL a.Node.Ah&&(kL a.Node.Cache&&(kL a.Node.Ai&&(kL a.Node.AB.Aa&&(kL a.Node.AB.AO&&(kL a.Node.Out&&(kL d&&(kL e&&(kL a.Node.AB.Aa&&(kL a.Node.AB.AO&&kL c)))))))))) (Ac (.b3 b.2 (↑b.2.length:Int) (0:Int) (⟨({ a.Node with A7:=b.1 }:Ae),a.DL⟩:BJ) c d e))))
 | .b3 g e f a b c d=>.br (decide (f<e)) (.fail) (.chk (kL a.Node.Ah&&(kL a.Node.Cache&&(kL a.Node.Ai&&(kL a.Node.AB.Aa&&(kL a.Node.AB.AO&&(kL a.Node.Out&&(kL c&&(kL d&&(kL a.Node.AB.Aa&&(kL a.Node.AB.AO&&kL b)))))))))) (AZ (⟨a,b,c,d⟩:Tu)))
def qX (a:BJ) (b:List BH):Option Tu:=AY QB (.b0 a b)
def Z2z:Shape:=⟨[PQ 0],[.var 177 48 (.agg [VC 39 1,VC 41 1,VC 41 1,.v 59 11 true,.v 61 3 true,VC 47 1,VC 4 1,VC 4 1,.own 39 1,.own 49 2,.own 138 3,.own 149 4,.own 135 5,VC 39 1,.own 158 6,.own 39 7,VC 3 1,VC 4 1,VC 3 1,VC 3 1,VC 3 1,.v 73 10 true,.own 120 8,VC 47 1,VC 4 1,VC 3 1,.fn 83 [] [9]]),.row 39 true,.row 49 true,.row 138 true,.row 149 true,.row 135 true,.row 158 false,.row 39 false,.row 120 true,.var 100 1 (.one (.own 53 10)),.row 53 true]⟩
def ZcH:Shape:=⟨[],[.var 177 48 (.agg [VC 39 1,VC 41 1,VC 41 1,.v 59 11 true,.v 61 3 true,VC 47 1,VC 4 1,VC 4 1,.own 39 1,.own 49 2,.own 138 3,.v 68 2 true,VC 39 1,.own 158 6,.own 39 7,VC 3 1,VC 4 1,VC 3 1,VC 3 1,VC 3 1,.v 73 10 true,.own 120 8,VC 47 1,VC 4 1,VC 3 1,.fn 83 [] [9]]),.row 39 true,.row 49 true,.row 138 true,.row 149 false,.row 135 false,.row 158 false,.row 39 false,.row 120 true,.var 100 1 (.one (.own 53 10)),.row 53 true]⟩
noncomputable def ZdM:HMod U:=⟨[KP],[.var k17,.row true,.row true,.row true,.row true,.row true,.row false,.row false,.row true,.var [.own 53 11],.row true],Z2z,ZcH,false,1452,fun(y:Tu)=>((),((NM y.q0),(y.q0.Node.Ah,(y.q0.Node.Cache,(y.q0.Node.Ai,(y.q2,(y.q3,(y.q0.Node.AB.Aa,(y.q0.Node.AB.AO,(y.q0.Node.Out,((),(y.q1,())))))))))))),fun x=>qX (match x with|⟨_,⟨v0,v2,v4,v6,v8,z,D,I,M,Q,R,S,Y,v21,v22,v23,v24,v25,_⟩,v1,v3,v5,v7,v9,C,G,J,_⟩=>(⟨(⟨v0,v2,v4,v6,v8,z,D,I,v1,v3,v5,(⟨v7,v9⟩:BV),(⟨M,C,G,Q,R,S,Y,v21⟩:EG),v22,J,v23,v24⟩:Ae),v25⟩:BJ)) x.2.2.2.2.2.2.2.2.2.2.2.1,okS rfl⟩
def Z2C:Lay:=⟨[0,2,4,31,32,33],[KP,KP,[.s 39 1],[.s 219 13],KP,KP],[.var k5,.row true,.row true,.row true,.row false,.row false,.row false,.row false,.row true,.var [.own 53 11],.row true,.var [.s 149 10,.s 135 11]],⟨[PQ 0,PQ 11,OV 62,OV 247,OV 3,OV 3],[.var 177 48 (.agg [VC 39 1,VC 41 1,VC 41 1,.v 59 11 true,.v 61 3 true,VC 47 1,VC 4 1,VC 4 1,.own 39 1,.own 49 2,.own 138 3,.v 68 2 true,VC 39 1,.own 158 6,.own 39 7,VC 3 1,VC 4 1,VC 3 1,VC 3 1,VC 3 1,.v 73 10 true,.own 120 8,VC 47 1,VC 4 1,VC 3 1,.fn 83 [] [9]]),.row 39 true,.row 49 true,.row 138 true,.row 149 false,.row 135 false,.row 158 false,.row 39 false,.row 120 true,.var 100 1 (.one (.own 53 10)),.row 53 true,VA 68 2]⟩⟩
def Z2O:Lay:=⟨[0,2,43,44,45],[KP,KP,[.s 39 1],KP,KP],[.var k5,.row true,.row true,.row true,.row false,.row false,.row false,.row false,.row true,.var [.own 53 11],.row true,.var [.s 149 10,.s 135 11]],⟨[PQ 0,PQ 11,OV 62,OV 3,OV 3],[.var 177 48 (.agg [VC 39 1,VC 41 1,VC 41 1,.v 59 11 true,.v 61 3 true,VC 47 1,VC 4 1,VC 4 1,.own 39 1,.own 49 2,.own 138 3,.v 68 2 true,VC 39 1,.own 158 6,.own 39 7,VC 3 1,VC 4 1,VC 3 1,VC 3 1,VC 3 1,.v 73 10 true,.own 120 8,VC 47 1,VC 4 1,VC 3 1,.fn 83 [] [9]]),.row 39 true,.row 49 true,.row 138 true,.row 149 false,.row 135 false,.row 158 false,.row 39 false,.row 120 true,.var 100 1 (.one (.own 53 10)),.row 53 true,VA 68 2]⟩⟩
def Z2K:Lay:=⟨[0,75,76,77],[KP,[.s 219 13],KP,KP],[.var k5,.row true,.row true,.row true,.row false,.row false,.row false,.row false,.row true,.var [.own 53 11],.row true],⟨[PQ 0,OV 247,OV 3,OV 3],[.var 177 48 (.agg [VC 39 1,VC 41 1,VC 41 1,.v 59 11 true,.v 61 3 true,VC 47 1,VC 4 1,VC 4 1,.own 39 1,.own 49 2,.own 138 3,.v 68 2 true,VC 39 1,.own 158 6,.own 39 7,VC 3 1,VC 4 1,VC 3 1,VC 3 1,VC 3 1,.v 73 10 true,.own 120 8,VC 47 1,VC 4 1,VC 3 1,.fn 83 [] [9]]),.row 39 true,.row 49 true,.row 138 true,.row 149 false,.row 135 false,.row 158 false,.row 39 false,.row 120 true,.var 100 1 (.one (.own 53 10)),.row 53 true]⟩⟩
def Zd0:qO->BN U
 | .b0 a b=>DZ f103 Z2z (((),()),((oD a),(a.Node.Ah,(a.Node.Cache,(a.Node.Ai,(a.Node.A7.Out,(a.Node.A7.In,(a.Node.AB.Aa,(a.Node.AB.AO,(a.Node.Out,((),(b,()))))))))))))
 | .b1 b c d e a f g h i=>BB f103 [1,1,0,1,0,0,0] Z2C (((),((),((b,()),((c,()),((d,()),((e,()),())))))),((NM a),(a.Node.Ah,(a.Node.Cache,(a.Node.Ai,(h,(i,(a.Node.AB.Aa,(a.Node.AB.AO,(a.Node.Out,((),(f,((g,()),())))))))))))))
 | .b2 b c d a e f g h=>BB f103 [1,1,1,0,1,0,0,0] Z2O (((),((),((b,()),((c,()),((d,()),()))))),((NM a),(a.Node.Ah,(a.Node.Cache,(a.Node.Ai,(g,(h,(a.Node.AB.Aa,(a.Node.AB.AO,(a.Node.Out,((),(e,((f,()),())))))))))))))
 | .b3 b c d a e f g=>BB f103 [1,1,1,1,1,1,1,0,0,0] Z2K (((),((b,()),((c,()),((d,()),())))),((NM a),(a.Node.Ah,(a.Node.Cache,(a.Node.Ai,(f,(g,(a.Node.AB.Aa,(a.Node.AB.AO,(a.Node.Out,((),(e,()))))))))))))
theorem Zd7:Bi Tryz.prog B0 103 ZdM:=okR (mc Yq (mc ZeH (mc Zfe Az))) Aw (al [(3,Z2C),(8,Z2O),(15,Z2K),(4,LX),(9,LX),(16,LX)]) [] [.var k5,.row true,.row true,.row true,.row false,.row false,.row false,.row false,.row true,.var [.own 53 11],.row true] 11 Zd0 func103 (fun p=>by cases p<;>kernel_rfl) (by kernel_rfl) fun x=>by kernel_rfl
inductive rU where
 | b0 (a:BJ) (b:List BH)
 | b1 (a:BJ) (b:List BH) (c:List DJ) (d:List D9) (e:List Int)
 | b2 (a b c:List BL) (d e:Int) (f:BJ) (g:List BH) (h:List DJ) (i:List D9) (j:List Int)
 | b3 (a b c:List BL) (d e:Int) (f:BJ) (g:List BH) (h:List DJ) (i:List D9) (j:List Int)
def MB:rU->Tr U (UN⊕rU)
 | .b0 c d=>.br (!c.Node.Up) (.fail) (kl c.Node.AB.Aa (kl c.Node.AB.AO (.bind 4 (wW c.Node.AB c.DL) (fun(e:Bool)=>.br e (.fail) (.chk (kL c.Node.Ah&&(kL c.Node.Cache&&(kL c.Node.Ai&&(kL c.Node.A7.Out&&(kL c.Node.A7.In&&(kL c.Node.AB.Aa&&(kL c.Node.AB.AO&&(kL c.Node.Low.AO&&(kL c.Node.Out&&(kL c.Node.AB.Aa&&(kL c.Node.AB.AO&&kL d))))))))))) (.bind 1451 (qC c d) (fun(b:Tf)=>.chk (kL b.q0.Node.Ah&&(kL b.q0.Node.Cache&&(kL b.q0.Node.Ai&&(kL b.q0.Node.A7.Out&&(kL b.q0.Node.A7.In&&(kL b.q0.Node.AB.Aa&&(kL b.q0.Node.AB.AO&&(kL b.q0.Node.Out&&(kL b.q0.Node.AB.Aa&&(kL b.q0.Node.AB.AO&&kL b.q1)))))))))) (.bind 1452 (qX b.q0 b.q1) (fun(a:Tu)=>let k:=dI a.q0.Node.IV a.q0.DL;let j:=decide (a.q0.Node.Seq>=8388608);let i:=Tr.chk (kL a.q0.Node.Ah&&(kL a.q0.Node.Cache&&(kL a.q0.Node.Ai&&(kL a.q0.Node.AB.Aa&&(kL a.q0.Node.AB.AO&&(kL a.q0.Node.Out&&(kL a.q2&&(kL a.q3&&(kL a.q0.Node.AB.Aa&&(kL a.q0.Node.AB.AO&&(kL b.q2&&kL a.q1))))))))))) (Ac (rU.b1 a.q0 a.q1 a.q2 a.q3 b.q2));.bind 184 (xE a.q0.Node.IV a.q0.DL) (fun(f:CY×Int)=>.br a.q0.Node.IV.GI (.br (f.2==0) (.fail) (.bind 184 k (fun(g:CY×Int)=>.br j (.br (g.2==0) (.fail) i) i))) (.bind 184 k (fun(h:CY×Int)=>.br j (.br (h.2==0) (.fail) i) i))))))))))))
 | .b1 a c d e f=>let g:=([]:List BL);.br ((Int.tmod (Ad (a.DL - (Ad (a.Node.Address)))) (100:Int))==0) (.chk (kL a.Node.Ah&&(kL a.Node.Cache&&(kL a.Node.Ai&&(kL a.Node.AB.Aa&&(kL a.Node.AB.AO&&(kL a.Node.Out&&(kL a.Node.AB.Aa&&(kL a.Node.AB.AO&&kL c)))))))) (.bind 1453 (qG a c) (fun(b:Tj)=>kl b.q0.Node.Out (.chk (true&&(true&&(kL b.q0.Node.Out&&(kL b.q0.Node.Ah&&(kL b.q0.Node.Cache&&(kL b.q0.Node.Ai&&(kL b.q0.Node.AB.Aa&&(kL b.q0.Node.AB.AO&&(kL b.q0.Node.Out&&(kL d&&(kL e&&(kL b.q0.Node.AB.Aa&&(kL b.q0.Node.AB.AO&&(kL f&&kL b.q1)))))))))))))) (Ac (.b2 g g b.q0.Node.Out (↑b.q0.Node.Out.length:Int) (0:Int) b.q0 b.q1 d e f)))))) (kl a.Node.Out (.chk (true&&(true&&(kL a.Node.Out&&(kL a.Node.Ah&&(kL a.Node.Cache&&(kL a.Node.Ai&&(kL a.Node.AB.Aa&&(kL a.Node.AB.AO&&(kL a.Node.Out&&(kL d&&(kL e&&(kL a.Node.AB.Aa&&(kL a.Node.AB.AO&&(kL f&&kL c)))))))))))))) (Ac (.b2 g g a.Node.Out (↑a.Node.Out.length:Int) (0:Int) a c d e f))))
 | .b2 c d b k i a e f g h=>let n:=(⟨({ a.Node with Out:=b }:Ae),a.DL⟩:BJ);let m:=kL f&&(kL g&&(kL a.Node.AB.Aa&&(kL a.Node.AB.AO&&(kL h&&kL e))));let l:=kL b&&(kL a.Node.Ah&&(kL a.Node.Cache&&(kL a.Node.Ai&&(kL a.Node.AB.Aa&&(kL a.Node.AB.AO&&(kL b&&m))))));.br (decide (i<k)) (kl b (.chk (kI i b) (kl b (.bind 120 (b[(Int.toNat i)]?) (fun(j:BL)=>.br (decide (j.Em<=a.DL)) (.chk true (kl c (.chk (kA (c.length+1) 40) (.chk (kL (c++[j])&&(kL d&&l)) (Ac (.b3 (c++[j]) d b k i n e f g h)))))) (.chk true (kl d (.chk (kA (d.length+1) 40) (.chk (kL c&&(kL (d++[j])&&l)) (Ac (.b3 c (d++[j]) b k i n e f g h))))))))))) (.chk (kL c&&(kL a.Node.Ah&&(kL a.Node.Cache&&(kL a.Node.Ai&&(kL a.Node.AB.Aa&&(kL a.Node.AB.AO&&(kL d&&m))))))) (AZ (⟨c,(⟨({ a.Node with Out:=d }:Ae),a.DL⟩:BJ),e,f,g,h,b⟩:UN)))
 | .b3 c d b i j a e f g h=>.chk (kL c&&(kL d&&(kL b&&(kL a.Node.Ah&&(kL a.Node.Cache&&(kL a.Node.Ai&&(kL a.Node.AB.Aa&&(kL a.Node.AB.AO&&(kL b&&(kL f&&(kL g&&(kL a.Node.AB.Aa&&(kL a.Node.AB.AO&&(kL h&&kL e)))))))))))))) (Ac (.b2 c d b i (Ad (j+1)) (⟨({ a.Node with Out:=b }:Ae),a.DL⟩:BJ) e f g h))
def rX (a:BJ) (b:List BH):Option UN:=AY MB (.b0 a b)
def Z2Y:Shape:=⟨[PQ 0],[.var 177 48 (.agg [VC 39 1,VC 41 1,VC 41 1,.v 59 11 true,.v 61 3 true,VC 47 1,VC 4 1,VC 4 1,.own 39 1,.own 49 2,.own 138 3,.own 149 4,.own 135 5,VC 39 1,.own 158 6,.own 39 7,VC 3 1,VC 4 1,VC 3 1,VC 3 1,VC 3 1,VC 3 1,VC 39 1,VC 3 1,VC 3 1,VC 3 1,VC 3 1,.own 39 8,VC 3 1,VC 4 1,VC 3 1,.own 120 9,VC 47 1,VC 4 1,VC 3 1,.fn 83 [] [10]]),.row 39 true,.row 49 true,.row 138 true,.row 149 true,.row 135 true,.row 158 true,.row 39 true,.row 39 true,.row 120 true,.var 100 1 (.one (.own 53 11)),.row 53 true]⟩
def Zdo:Shape:=⟨[.one (.own 120 12)],[.var 177 48 (.agg [VC 39 1,VC 41 1,VC 41 1,.v 59 11 true,.v 61 3 true,VC 47 1,VC 4 1,VC 4 1,.own 39 1,.own 49 2,.own 138 3,.v 68 2 true,VC 39 1,.own 158 6,.own 39 7,VC 3 1,VC 4 1,VC 3 1,VC 3 1,VC 3 1,.v 73 10 true,.own 120 13,VC 47 1,VC 4 1,VC 3 1,.fn 83 [] [10]]),.row 39 true,.row 49 true,.row 138 true,.row 149 false,.row 135 false,.row 158 false,.row 39 false,.row 39 false,.row 120 true,.var 100 1 (.one (.own 53 11)),.row 53 true,.row 120 true,.row 120 true]⟩
noncomputable def Zev:HMod U:=⟨[KP],[.var k2,.row true,.row true,.row true,.row true,.row true,.row true,.row true,.row true,.row true,.var [.own 53 11],.row true],Z2Y,Zdo,true,1450,fun(y:UN)=>(((),()),((NM y.q1),(y.q1.Node.Ah,(y.q1.Node.Cache,(y.q1.Node.Ai,(y.q3,(y.q4,(y.q1.Node.AB.Aa,(y.q1.Node.AB.AO,(y.q5,(y.q6,((),(y.q2,(y.q0,(y.q1.Node.Out,()))))))))))))))),fun x=>rX (match x with|⟨_,⟨v0,v2,v4,v6,v8,z,D,I,M,R,S,Y,v21,v22,v23,v24,v25,v26,v27,v28,v29,v30,v31,v32,v33,v34,_⟩,v1,v3,v5,v7,v9,C,G,J,Q,_⟩=>(⟨(⟨v0,v2,v4,v6,v8,z,D,I,v1,v3,v5,(⟨v7,v9⟩:BV),(⟨M,C,G,R,S,Y,v21,v22⟩:EG),(⟨v23,v24,v25,v26,v27,v28,J,v29,v30,v31⟩:Df),Q,v32,v33⟩:Ae),v34⟩:BJ)) x.2.2.2.2.2.2.2.2.2.2.2.2.1,okS rfl⟩
def Z3b:Lay:=⟨[0],[KP],[.var k5,.row true,.row true,.row true,.row false,.row false,.row false,.row false,.row false,.row true,.var [.own 53 11],.row true],⟨[PQ 0],[.var 177 48 (.agg [VC 39 1,VC 41 1,VC 41 1,.v 59 11 true,.v 61 3 true,VC 47 1,VC 4 1,VC 4 1,.own 39 1,.own 49 2,.own 138 3,.v 68 2 true,VC 39 1,.own 158 6,.own 39 7,VC 3 1,VC 4 1,VC 3 1,VC 3 1,VC 3 1,.v 73 10 true,.own 120 9,VC 47 1,VC 4 1,VC 3 1,.fn 83 [] [10]]),.row 39 true,.row 49 true,.row 138 true,.row 149 false,.row 135 false,.row 158 false,.row 39 false,.row 39 false,.row 120 true,.var 100 1 (.one (.own 53 11)),.row 53 true]⟩⟩
def aB:Lay:=⟨[0,7,8,129,130,131],[KP,[.own 120 3],[.own 120 3],[.own 120 3],KP,KP],[.var k5,.row true,.row true,.row true,.row false,.row false,.row false,.row false,.row false,.row true,.var [.own 53 11],.row true,.row true,.row true],⟨[PQ 0,.one (.own 120 12),.one (.own 120 13),.one (.own 120 9),OV 3,OV 3],[.var 177 48 (.agg [VC 39 1,VC 41 1,VC 41 1,.v 59 11 true,.v 61 3 true,VC 47 1,VC 4 1,VC 4 1,.own 39 1,.own 49 2,.own 138 3,.v 68 2 true,VC 39 1,.own 158 6,.own 39 7,VC 3 1,VC 4 1,VC 3 1,VC 3 1,VC 3 1,.v 73 10 true,.own 120 9,VC 47 1,VC 4 1,VC 3 1,.fn 83 [] [10]]),.row 39 true,.row 49 true,.row 138 true,.row 149 false,.row 135 false,.row 158 false,.row 39 false,.row 39 false,.row 120 true,.var 100 1 (.one (.own 53 11)),.row 53 true,.row 120 true,.row 120 true]⟩⟩
def Ze1:rU->BN U
 | .b0 a b=>DZ f75 Z2Y (((),()),((IL a),(a.Node.Ah,(a.Node.Cache,(a.Node.Ai,(a.Node.A7.Out,(a.Node.A7.In,(a.Node.AB.Aa,(a.Node.AB.AO,(a.Node.Low.AO,(a.Node.Out,((),(b,())))))))))))))
 | .b1 a b c d e=>BB f75 [1,1,1,1,1,1,1,0,0] Z3b (((),()),((NM a),(a.Node.Ah,(a.Node.Cache,(a.Node.Ai,(c,(d,(a.Node.AB.Aa,(a.Node.AB.AO,(e,(a.Node.Out,((),(b,())))))))))))))
 | .b2 b c d e f a g h i j=>BB f75 [1,1,1,1,1,1,1,1,1,0,1,0,0,0] aB (((),((),((),((),((e,()),((f,()),())))))),((NM a),(a.Node.Ah,(a.Node.Cache,(a.Node.Ai,(h,(i,(a.Node.AB.Aa,(a.Node.AB.AO,(j,(d,((),(g,(b,(c,())))))))))))))))
 | .b3 b c d e f a g h i j=>BB f75 [1,1,1,1,1,1,1,1,1,0,1,0,0,1,1,1] aB (((),((),((),((),((e,()),((f,()),())))))),((NM a),(a.Node.Ah,(a.Node.Cache,(a.Node.Ai,(h,(i,(a.Node.AB.Aa,(a.Node.AB.AO,(j,(d,((),(g,(b,(c,())))))))))))))))
theorem Ze4:Bi Tryz.prog B0 75 Zev:=okR (mc Z4q (mc Zhb (mc Zhh Az))) (hc [] Zdf (hc [] ZcS (hc [] Zd7 Aw))) (al [(14,Z3b),(18,aB),(23,aB),(2,LX),(4,LX),(10,LX),(13,LX)]) [[.own 120 3]] [.var k5,.row true,.row true,.row true,.row false,.row false,.row false,.row false,.row false,.row true,.var [.own 53 11],.row true,.row true,.row true] 12 Ze1 func75 (fun p=>by cases p<;>kernel_rfl) (by kernel_rfl) fun x=>by kernel_rfl
inductive xG where
 | b0 (a:BJ) (b:List BL) (c:List BH)
def Z5B:xG->Tr U (U9⊕xG)
 | .b0 b d c=>.chk (kL b.Node.Ah&&(kL b.Node.Cache&&(kL b.Node.Ai&&(kL b.Node.A7.Out&&(kL b.Node.A7.In&&(kL b.Node.AB.Aa&&(kL b.Node.AB.AO&&(kL b.Node.Low.AO&&(kL b.Node.Out&&kL c))))))))) (.bind 1450 (rX b c) (fun(a:UN)=>.chk (kL a.q1.Node.Ah&&(kL a.q1.Node.Cache&&(kL a.q1.Node.Ai&&(kL a.q1.Node.AB.Aa&&(kL a.q1.Node.AB.AO&&(kL a.q1.Node.Out&&(kL a.q0&&(kL a.q3&&(kL a.q4&&(kL a.q1.Node.AB.Aa&&(kL a.q1.Node.AB.AO&&(kL a.q5&&kL a.q2)))))))))))) (AZ (⟨a.q1,a.q0,a.q2,a.q3,a.q4,a.q5,a.q6,d⟩:U9))))
def wL (a:BJ) (b:List BL) (c:List BH):Option U9:=AY Z5B (.b0 a b c)
def Z4N:Shape:=⟨[PQ 0,PQ 1],[.var 177 48 (.agg [VC 39 1,VC 41 1,VC 41 1,.v 59 11 true,.v 61 3 true,VC 47 1,VC 4 1,VC 4 1,.own 39 2,.own 49 3,.own 138 4,.own 149 5,.own 135 6,VC 39 1,.own 158 7,.own 39 8,VC 3 1,VC 4 1,VC 3 1,VC 3 1,VC 3 1,VC 3 1,VC 39 1,VC 3 1,VC 3 1,VC 3 1,VC 3 1,.own 39 9,VC 3 1,VC 4 1,VC 3 1,.own 120 10,VC 47 1,VC 4 1,VC 3 1,.fn 83 [] [11]]),.var 74 1 (.one (.own 120 12)),.row 39 true,.row 49 true,.row 138 true,.row 149 true,.row 135 true,.row 158 true,.row 39 true,.row 39 true,.row 120 true,.var 100 1 (.one (.own 53 13)),.row 120 true,.row 53 true]⟩
def ZfY:Shape:=⟨[],[.var 177 48 (.agg [VC 39 1,VC 41 1,VC 41 1,.v 59 11 true,.v 61 3 true,VC 47 1,VC 4 1,VC 4 1,.own 39 2,.own 49 3,.own 138 4,.v 68 2 true,VC 39 1,.own 158 7,.own 39 8,VC 3 1,VC 4 1,VC 3 1,VC 3 1,VC 3 1,.v 73 10 true,.own 120 14,VC 47 1,VC 4 1,VC 3 1,.fn 83 [] [11]]),.var 74 1 (.one (.own 120 15)),.row 39 true,.row 49 true,.row 138 true,.row 149 false,.row 135 false,.row 158 false,.row 39 false,.row 39 false,.row 120 true,.var 100 1 (.one (.own 53 13)),.row 120 true,.row 53 true,.row 120 true,.row 120 true]⟩
noncomputable def Zi8:HMod U:=⟨[KP,KP],[.var k2,.var [.own 120 3],.row true,.row true,.row true,.row true,.row true,.row true,.row true,.row true,.row true,.var [.own 53 11],.row true,.row true],Z4N,ZfY,false,1449,fun(y:U9)=>((),((NM y.q0),((),(y.q0.Node.Ah,(y.q0.Node.Cache,(y.q0.Node.Ai,(y.q3,(y.q4,(y.q0.Node.AB.Aa,(y.q0.Node.AB.AO,(y.q5,(y.q6,((),(y.q7,(y.q2,(y.q0.Node.Out,(y.q1,()))))))))))))))))),fun x=>wL (match x with|⟨_,⟨v0,v1,v3,v5,v7,v9,C,G,J,Q,S,Y,v21,v22,v23,v24,v25,v26,v27,v28,v29,v30,v31,v32,v33,v34,_⟩,_,v2,v4,v6,v8,z,D,I,M,R,_⟩=>(⟨(⟨v0,v1,v3,v5,v7,v9,C,G,v2,v4,v6,(⟨v8,z⟩:BV),(⟨J,D,I,Q,S,Y,v21,v22⟩:EG),(⟨v23,v24,v25,v26,v27,v28,M,v29,v30,v31⟩:Df),R,v32,v33⟩:Ae),v34⟩:BJ)) x.2.2.2.2.2.2.2.2.2.2.2.2.2.1 x.2.2.2.2.2.2.2.2.2.2.2.2.2.2.1,okS rfl⟩
def ZgY:xG->BN U
 | .b0 a b c=>DZ f74 Z4N (((),((),())),((IL a),((),(a.Node.Ah,(a.Node.Cache,(a.Node.Ai,(a.Node.A7.Out,(a.Node.A7.In,(a.Node.AB.Aa,(a.Node.AB.AO,(a.Node.Low.AO,(a.Node.Out,((),(b,(c,())))))))))))))))
theorem Zh4:Bi Tryz.prog B0 74 Zi8:=okR Az (hc [] Ze4 Aw) AN [] [.var k5,.var [.own 120 3],.row true,.row true,.row true,.row false,.row false,.row false,.row false,.row false,.row true,.var [.own 53 11],.row true,.row true,.row true,.row true] 14 ZgY func74 (fun p=>by cases p<;>kernel_rfl) (by kernel_rfl) fun x=>by kernel_rfl
inductive xW where
 | b0 (a:Ae) (b:Int) (c:List BL)
def Z6o:xW->Tr U (Ug⊕xW)
 | .b0 d e c=>.bind 1435 (QT d) (fun(b:Oo)=>.chk (kL b.q0.Ah&&(kL b.q0.Cache&&(kL b.q0.Ai&&(kL b.q0.A7.Out&&(kL b.q0.A7.In&&(kL b.q0.AB.Aa&&(kL b.q0.AB.AO&&(kL b.q0.Low.AO&&(kL b.q0.Out&&(kL c&&true)))))))))) (.bind 1449 (wL (⟨b.q0,e⟩:BJ) c ([]:List BH)) (fun(a:U9)=>.chk (kL a.q0.Node.Ah&&(kL a.q0.Node.Cache&&(kL a.q0.Node.Ai&&(kL a.q0.Node.AB.Aa&&(kL a.q0.Node.AB.AO&&(kL a.q0.Node.Out&&(kL a.q2&&(kL a.q1&&(kL a.q0.Node.AB.Aa&&kL a.q0.Node.AB.AO))))))))) (AZ (⟨a.q0.Node,a.q2,a.q1,a.q7⟩:Ug)))))
def yD (a:Ae) (b:Int) (c:List BL):Option Ug:=AY Z6o (.b0 a b c)
def Z5w:Shape:=⟨[.agg [.v 76 46 true],OV 3,.one (.fn 74 [] [0])],[.var 74 1 (.one (.own 120 1)),.row 120 true]⟩
def Zgq:Shape:=⟨[.agg [VC 39 1,VC 41 1,VC 41 1,.v 59 11 true,.v 61 3 true,VC 47 1,VC 4 1,VC 4 1,.own 39 2,.own 49 3,.own 138 4,.v 68 2 true,VC 39 1,.own 158 5,.own 39 6,VC 3 1,VC 4 1,VC 3 1,VC 3 1,VC 3 1,.v 73 10 true,.own 120 7,VC 47 1,VC 4 1],.one (.own 53 8)],[.var 74 1 (.one (.own 120 9)),.row 120 true,.row 39 true,.row 49 true,.row 138 true,.row 158 false,.row 39 false,.row 120 true,.row 53 true,.row 120 true]⟩
noncomputable def Zju:HMod U:=⟨[k1,KP,KP],[.var [.own 120 3],.row true],Z5w,Zgq,false,1448,fun(y:Ug)=>(((y.q0.Address,(y.q0.Device,(y.q0.App,(y.q0.Keys,(y.q0.IV,(y.q0.Seq,(y.q0.Fz,(y.q0.Hg,(y.q0.A7,(y.q0.AB.Low,(y.q0.AB.Ed,(y.q0.AB.Sent,(y.q0.AB.Hz,(y.q0.AB.Counter,(y.q0.AB.Dropped,(y.q0.Low,(y.q0.G8,(y.q0.Up,())))))))))))))))))),((),())),((),(y.q3,(y.q0.Ah,(y.q0.Cache,(y.q0.Ai,(y.q0.AB.Aa,(y.q0.AB.AO,(y.q0.Out,(y.q1,(y.q2,()))))))))))),fun x=>yD x.1.1.1 x.1.2.1.1 x.2.2.1,okS rfl⟩
def ZiI:xW->BN U
 | .b0 a b c=>DZ f52 Z5w (((a,()),((b,()),((),()))),((),(c,())))
theorem ZiM:Bi Tryz.prog B0 52 Zju:=okR Az (hc [] fP (hc [] Zh4 Aw)) AN [[.keep,.keep,.keep,.keep,.keep,.keep,.keep,.keep,.keep,.keep,.keep,.keep,.keep,.keep,.keep,.keep,.keep,.keep,.keep,.keep,.own 39 1,.own 49 3,.own 138 3,.s 149 10,.s 135 11,.keep,.own 158 18,.own 39 1,.keep,.keep,.keep,.keep,.keep,.keep,.keep,.keep,.keep,.keep,.keep,.s 39 1,.keep,.keep,.keep,.own 120 3,.keep,.keep],[.own 53 11]] [.var [.own 120 3],.row true,.row true,.row true,.row true,.row false,.row false,.row true,.row true,.row true] 2 ZiI func52 (fun p=>by cases p<;>kernel_rfl) (by kernel_rfl) fun x=>by kernel_rfl
def Z6F:S1 (Ae×Int×Unit) (Ae×(List BL)×(List BH))
 | (b,c,_)=>.chk true (.bind 1448 (yD b c ([]:List BL)) (fun(a:Ug)=>kl a.q0.Ah (kl a.q0.Cache (kl a.q0.Ai (kl a.q0.AB.Aa (kl a.q0.AB.AO (kl a.q0.Out (kl a.q2 (kl a.q1 (AZ (a.q0,a.q2,a.q1)))))))))))
def fU (a:Ae) (b:Int):Option (Ae×(List BL)×(List BH)):=AY Z6F (a,b,())
theorem Zjt:AA1 44 [76,3] 117 (fun x=>fU x.1 x.2.1) rfl:=ok1 Az (hc [74] ZiM Aw) func44 (fun _=>by kernel_rfl) (by kernel_rfl)
inductive wJ where
 | b0 (a:Int) (b:List BH) (c:Aq)
 | b1 (a:Int) (b:List BH) (c d:Int) (e:Aq)
def Oe:wJ->Tr U (QO⊕wJ)
 | .b0 c b a=>.chk (kL a.Ak&&(kL a.BA&&(kL a.BG&&(kL a.Flight&&(kL a.Notes&&kL a.BG))))) (Ac (.b1 c b (↑b.length:Int) (0:Int) a))
 | .b1 c f g d a=>.br (decide (d<g)) (.chk (kI d f) (.bind 53 (f[(Int.toNat d)]?) (fun(b:BH)=>.bind 1400 (UF b.Ik.Bytes) (fun(e:UK)=>let h:=a.Notes++[(⟨c,a.Now,({ b with Ik:=({ b.Ik with Bytes:=e.q0 }:Dw) }:BH)⟩:EE)];kl e.q0 (.chk true (kl a.Notes (.chk (kA (a.Notes.length+1) 96) (.chk (kL a.Ak&&(kL a.BA&&(kL a.BG&&(kL a.Flight&&((h.length==h.length)&&kL a.BG))))) (Ac (.b1 c f g (Ad (d+1)) ({ a with Notes:=h }:Aq))))))))))) (.chk (kL a.Ak&&(kL a.BA&&(kL a.BG&&(kL a.Flight&&(kL a.Notes&&kL a.BG))))) (AZ (⟨a⟩:QO)))
def Uc (a:Int) (b:List BH) (c:Aq):Option QO:=AY Oe (.b0 a b c)
def Z4V:Shape:=⟨[PQ 0,OV 3,OV 100],[.var 33 7 (ET 1),.row 76 true,.row 79 true,.row 113 false,.row 106 true,.row 55 true]⟩
def Zge:Shape:=⟨[],[.var 33 7 (ET 1),.row 76 true,.row 79 true,.row 113 false,.row 106 true,.row 55 true]⟩
noncomputable def Zi2:HMod U:=⟨[KP,KP,[.s 53 11]],[.var [.own 76 46,.own 79 2,.own 113 2,.keep,.keep,.own 106 4,.own 55 13],.row true,.row true,.row false,.row true,.row true],Z4V,Zge,false,1429,fun(y:QO)=>((),(NS y.q0)),fun x=>Uc x.1.2.1.1 x.1.2.2.1.1 (match x with|⟨_,⟨z,D,_⟩,C,G,v4,I,J,_⟩=>(⟨C,G,v4,z,D,I,J⟩:Aq)),okS rfl⟩
def Z4X:Lay:=⟨[0,1,8,9,10],[KP,KP,[.s 53 11],KP,KP],[.var [.own 76 46,.own 79 2,.own 113 2,.keep,.keep,.own 106 4,.own 55 13],.row true,.row true,.row false,.row true,.row true],⟨[PQ 0,OV 3,OV 100,OV 3,OV 3],[.var 33 7 (ET 1),.row 76 true,.row 79 true,.row 113 false,.row 106 true,.row 55 true]⟩⟩
def Zhe:wJ->BN U
 | .b0 a b c=>DZ f29 Z4V (((),((a,()),((b,()),()))),(NS c))
 | .b1 a b c d e=>BB f29 [1,0,0,0] Z4X (((),((a,()),((b,()),((c,()),((d,()),()))))),(NS e))
theorem RJ:Bi Tryz.prog B0 29 Zi2:=okR Az (hc [] UA Aw) (al [(1,Z4X)]) [] [.var [.own 76 46,.own 79 2,.own 113 2,.keep,.keep,.own 106 4,.own 55 13],.row true,.row true,.row false,.row true,.row true] 6 Zhe func29 (fun p=>by cases p<;>kernel_rfl) (by kernel_rfl) fun x=>by kernel_rfl
end
noncomputable section
inductive uV where
 | b0 (a:List Bh) (b:List Int)
 | b1 (a:List Int) (b:List Bh) (c d:Int) (e f:Fb)
def dD:uV->Tr U ((Fb×Int×Int)⊕uV)
 | .b0 c a=>let i:=(↑a.length:Int);let h:=Int.toNat 0;.br (decide (i<13)) (.fail) (.br (decide (i>13)) (.fail) (.chk (kI (0:Int) a) (.bind 5 (a[h]?) (fun(d:Int)=>.br (decide (d>3)) (.fail) (.chk true (.bind 279 (RS a ([(1:Int),(4:Int)])) (fun(b:(List Int)×(List Int)×Int)=>let j:=(kI (0:Int) b.1);.chk j (.bind 40 (b.1[h]?) (fun(e:Int)=>.chk j (.bind 40 (b.1[h]?) (fun(f:Int)=>.chk (kI (1:Int) b.1) (.bind 40 (b.1[(Int.toNat 1)]?) (fun(g:Int)=>Ac (.b1 a c (↑c.length:Int) (0:Int) Zjl (⟨((bits .and .u64 e (1:Int)) != 0),((bits .and .u64 f (2:Int)) != 0),(IntKind.wrap .u32 (g))⟩:Fb)))))))))))))))
 | .b1 b c f a h d=>.br (decide (a<f)) (.chk (kI a c) (.bind 57 (c[(Int.toNat a)]?) (fun(g:Bh)=>.bind 27 (Ws g d) (fun(e:List Int)=>.chk (Nq U 5 e) (.chk (Nq U 5 b) (.br ((strOf U 5 e).toList==(strOf U 5 b).toList) (AZ (d,a,(0:Int))) (.fail))))))) (.fail)
def uT (a:List Bh) (b:List Int):Option (Fb×Int×Int):=AY dD (.b0 a b)
def Z3V:Lay:=LT [1,4,10,51,52,53] [.v 27,.p 0,.p 1,.v 228,.v 3,.v 3] [.s 221,.s 221]
def ZfH:uV->BN U
 | .b0 a b=>CU f132 [228,27] (a,b,())
 | .b1 a b c d e f=>AA3 f132 [1,1,1,1,0,1,0,0,0] Z3V (a,b,c,d,e,f,())
theorem Zf3:AA1 132 [228,27] 226 (fun x=>uT x.1 x.2.1) rfl:=Cb (mc Z40 (mc wF Az)) Aw (al [(10,Z3V),(2,LX),(4,LX),(6,LX),(14,LX),(15,LX)]) ZfH func132 (fun p=>by cases p<;>kernel_rfl) (by kernel_rfl) fun _=>rfl
inductive uH where
 | b0 (a:CY) (b:Fb) (c:Int)
 | b1 (a:Int) (b:CY) (c:Fb) (d e:CY)
def Z4e:uH->Tr U (CY⊕uH)
 | .b0 c a b=>let e:=Ac (uH.b1 b c a ED (⟨a.Index,a.GI,b⟩:CY));.br (a.Index==c.Index) (.br c.GI (.br (!a.GI) (.bind 4 (dE c b) (fun(d:Bool)=>.br d (.fail) e)) e) e) e
 | .b1 c a b d e=>.br (decide (b.Index<=a.Index)) (AZ a) (.br (decide ((IntKind.wrap .u32 (b.Index - a.Index))>42)) (AZ a) (.fail))
def uP (a:CY) (b:Fb) (c:Int):Option CY:=AY Z4e (.b0 a b c)
def Z3R:Lay:=LT [2,3,4,6,7] [.v 3,.p 0,.p 1,.p 2,.p 3] [.s 61,.s 221,.s 61,.s 61]
def Zfs:uH->BN U
 | .b0 a b c=>CU f175 [61,221,3] (a,b,c,())
 | .b1 a b c d e=>AA3 f175 [1,1,0,0,1,1,0] Z3R (a,b,c,d,e,())
theorem ZfE:AA1 175 [61,221,3] 61 (fun x=>uP x.1 x.2.1 x.2.2.1) rfl:=Cb (mc Z3Z Az) Aw (al [(4,Z3R),(3,LX),(6,LX)]) Zfs func175 (fun p=>by cases p<;>kernel_rfl) (by kernel_rfl) fun _=>rfl
inductive vT where
 | b0 (a:EM) (b:CY) (c:Fb) (d e:Int)
 | b1 (a b:Int) (c:List Bh) (d:EM) (e:CY) (f:Fb) (g:EM) (h:CY)
 | b2 (a:Int) (b:EM) (c:CY) (d:Fb) (e:EM) (f:CY)
def U8:vT->Tr U ((EM×CY)⊕vT)
 | .b0 b d e a f=>.bind 228 (O9 b) (fun(c:List Bh)=>.br (decide (a<0)) (.fail) (.br (decide (a>=(↑c.length:Int))) (.fail) (Ac (.b1 a f c b d e dP ED))))
 | .b1 d e c a f g h i=>let j:=Ac (vT.b2 e a f g h i);.br (decide ((↑c.length:Int)>1)) (.chk (kI d c) (.bind 57 (c[(Int.toNat d)]?) (fun(b:Bh)=>.br ((b.Key==a.New.Key)&&((b.C9==a.New.C9)&&((b.LC==a.New.LC)&&((b.Hide==a.New.Hide)&&((b.JY==a.New.JY)&&true))))) (.fail) j))) j
 | .b2 a b c d f g=>.bind 61 (uP c d a) (fun(e:CY)=>AZ (b,e))
def wE (a:EM) (b:CY) (c:Fb) (d e:Int):Option (EM×CY):=AY U8 (.b0 a b c d e)
def Z4g:Lay:=LT [3,4,5,6,7,10,11,12] [.v 3,.v 3,.p 0,.p 1,.p 2,.p 3,.p 4,.v 228] [.s 59,.s 61,.s 221,.s 59,.s 61]
def Z4l:Lay:=LT [4,5,6,7,10,11] [.v 3,.p 0,.p 1,.p 2,.p 3,.p 4] [.s 59,.s 61,.s 221,.s 59,.s 61]
def ZgO:vT->BN U
 | .b0 a b c d e=>CU f134 [59,61,221,3,3] (a,b,c,d,e,())
 | .b1 a b c d e f g h=>AA3 f134 [1,1,1,0,0] Z4g (a,b,c,d,e,f,g,h,())
 | .b2 a b c d e f=>AA3 f134 [1,1,1,1,0] Z4l (a,b,c,d,e,f,())
theorem ZgV:AA1 134 [59,61,221,3,3] 230 (fun x=>wE x.1 x.2.1 x.2.2.1 x.2.2.2.1 x.2.2.2.2.1) rfl:=Cb (mc aQ (mc ZfE Az)) Aw (al [(4,Z4g),(9,Z4l),(3,LX),(5,LX)]) ZgO func134 (fun p=>by cases p<;>kernel_rfl) (by kernel_rfl) fun _=>rfl
inductive rJ where
 | b0 (a:List Ar) (b:Ar)
 | b1 (a:List Ar) (b c:Int) (d:Ar)
def aP:rJ->Tr U (Int⊕rJ)
 | .b0 a b=>Ac (.b1 a (↑a.length:Int) (0:Int) b)
 | .b1 c e a b=>.br (decide (a<e)) (.chk (kI a c) (.bind 49 (c[(Int.toNat a)]?) (fun(d:Ar)=>.br ((b.Src==d.Src)&&((b.IV==d.IV)&&((b.Seq==d.Seq)&&true))) (AZ a) (Ac (.b1 c e (Ad (a+1)) b))))) (AZ (-1:Int))
def aK (a:List Ar) (b:Ar):Option Int:=AY aP (.b0 a b)
def Z2Q:Lay:=LT [0,3,7,8] [.v 63,.p 0,.v 3,.v 3] [.s 49]
def ZdH:rJ->BN U
 | .b0 a b=>CU f226 [63,49] (a,b,())
 | .b1 a b c d=>AA3 f226 [1,0,1,0,0,0] Z2Q (a,b,c,d,())
theorem Zdt:AA1 226 [63,49] 3 (fun x=>aK x.1 x.2.1) rfl:=Cb Az Aw (al [(2,Z2Q)]) ZdH func226 (fun p=>by cases p<;>kernel_rfl) (by kernel_rfl) fun _=>rfl
def pO:S1 ((List Ar)×Ar×Unit) Bool
 | (a,b,_)=>.bind 3 (aK a b) (fun(c:Int)=>AZ (decide (c>=0)))
def Yt (a:List Ar) (b:Ar):Option Bool:=AY pO (a,b,())
theorem ZcB:AA1 181 [63,49] 4 (fun x=>Yt x.1 x.2.1) rfl:=ok1 (mc Zdt Az) Aw func181 (fun _=>by kernel_rfl) (by kernel_rfl)
def wM:S1 ((List Ar)×Ar×Unit) Bool
 | (a,b,_)=>.bind 4 (Yt a b) (fun(c:Bool)=>AZ c)
def RP (a:List Ar) (b:Ar):Option Bool:=AY wM (a,b,())
theorem Z4Y:AA1 137 [63,49] 4 (fun x=>RP x.1 x.2.1) rfl:=ok1 (mc ZcB Az) Aw func137 (fun _=>by kernel_rfl) (by kernel_rfl)
def Z22:S1 (JQ×Ar×Unit) JQ
 | (b,c,_)=>.bind 1403 (QC b.IQ) (fun(a:RD)=>let d:=a.q0++[c];.chk true (kl a.q0 (.chk (kA (a.q0.length+1) 12) (kl d (AZ (⟨d,b.Jj⟩:JQ))))))
def oL (a:JQ) (b:Ar):Option JQ:=AY Z22 (a,b,())
theorem Zc1:AA1 182 [292,49] 292 (fun x=>oL x.1 x.2.1) rfl:=ok1 Az (hc [] aC Aw) func182 (fun _=>by kernel_rfl) (by kernel_rfl)
def Z20:S1 (JQ×Unit) (List Ar)
 | (a,_)=>let d:=(↑a.IQ.length:Int);let e:=Ad (d - a.Jj);let c:=(if e>0 then e else (0:Int));let f:=Int.toNat c;.chk (decide (0<=c/\c<=d)) (.bind 1403 (QC ((a.IQ.drop f).take (a.IQ.length - f))) (fun(b:RD)=>kl b.q0 (AZ b.q0)))
def oI (a:JQ):Option (List Ar):=AY Z20 (a,())
theorem ZbU:AA1 183 [292] 63 (fun x=>oI x.1) rfl:=ok1 Az (hc [] aC Aw) func183 (fun _=>by kernel_rfl) (by kernel_rfl)
inductive uG where
 | b0 (a:List Ar) (b:Ar)
 | b1 (a:JQ)
def bW:uG->Tr U ((List Ar)⊕uG)
 | .b0 a b=>let e:=(⟨a,256⟩:JQ);.bind 4 (RP a b) (fun(c:Bool)=>.br (!c) (.bind 292 (oL e b) (fun(d:JQ)=>Ac (.b1 d))) (Ac (.b1 e)))
 | .b1 a=>.bind 63 (oI a) (fun(b:List Ar)=>AZ b)
def bU (a:List Ar) (b:Ar):Option (List Ar):=AY bW (.b0 a b)
def Z3I:Lay:=LT [5] [.p 0] [.s 292]
def Zf1:uG->BN U
 | .b0 a b=>CU f138 [63,49] (a,b,())
 | .b1 a=>AA3 f138 [1,1,1,0] Z3I (a,())
theorem ZeM:AA1 138 [63,49] 63 (fun x=>bU x.1 x.2.1) rfl:=Cb (mc Z4Y (mc Zc1 (mc ZbU Az))) Aw (al [(4,Z3I)]) Zf1 func138 (fun p=>by cases p<;>kernel_rfl) (by kernel_rfl) fun _=>rfl
def Z3M:S1 ((List Int)×Unit) (Bc×Int)
 | (a,_)=>let o:=(↑a.length:Int);let n:=Int.toNat 1;let m:=(kI (0:Int) a);let k:=a[(Int.toNat 0)]?;.chk m (.bind 5 k (fun(b:Int)=>let i:=(bits .and .u8 b (128:Int)) != 0;.chk m (.bind 5 k (fun(c:Int)=>let j:=(bits .and .u8 c (64:Int)) != 0;let h:=(⟨false,i,j,0,0,0,0,0,false,[]⟩:Bc);let q:=(h,(2:Int));.chk m (.bind 5 k (fun(f:Int)=>.br ((bits .andNot .u8 f (192:Int)) != 0) (AZ q) (.br (!i) (.chk (decide (0<=(1:Int)/\(1:Int)<=o)) (.chk true (.bind 27 (Hw ([((a.drop n).take (a.length - n))])) (fun(g:List Int)=>AZ ((⟨false,i,j,0,0,0,0,0,false,g⟩:Bc),(0:Int)))))) (.br (decide (o<4)) (AZ (h,(3:Int))) (.chk true (.bind 279 (RS a ([(1:Int),(3:Int)])) (fun(e:(List Int)×(List Int)×Int)=>.chk (kI (1:Int) e.1) (.bind 40 (e.1[n]?) (fun(d:Int)=>let p:=Ad (d);let l:=Ad (Int.tdiv p 8192);.br (decide (p>=8388608)) (AZ q) (AZ ((⟨false,i,j,(Int.tmod p 8192),(Int.tmod l (32:Int)),(Ad (Int.tdiv l (32:Int))),0,0,false,e.2.1⟩:Bc),(0:Int))))))))))))))))
def sS (a:List Int):Option (Bc×Int):=AY Z3M (a,())
theorem Zed:AA1 185 [27] 240 (fun x=>sS x.1) rfl:=ok1 (mc MG (mc wF Az)) Aw func185 (fun _=>by kernel_rfl) (by kernel_rfl)
inductive sJ where
 | b0 (a:Bool) (b:List Int)
 | b1 (a:List Int) (b:Bc)
 | b2 (a:Int) (b c:Bc)
def WY:sJ->Tr U ((Bc×Int)⊕sJ)
 | .b0 b a=>.br ((↑a.length:Int)==0) (.fail) (.br b (.fail) (Ac (.b1 a Zk0)))
 | .b1 c b=>.bind 240 (sS c) (fun(a:Bc×Int)=>.br (a.2==0) (.bind 34 (We a.1) (fun(d:Int)=>Ac (.b2 d b a.1))) (Ac (.b2 a.2 b a.1)))
 | .b2 a c b=>.br (a != 0) (.fail) (AZ (b,0))
def bG (a:Bool) (b:List Int):Option (Bc×Int):=AY WY (.b0 a b)
def Z3p:Lay:=⟨[1,4,6],[[.s 5 1],KP,KP],[.var k4],⟨[OV 27,PQ 0,.one (.fn 185 [] [])],[VA 156 10]⟩⟩
def Z3q:Lay:=LT [4,7,8] [.p 0,.p 1,.v 34] [.s 156,.s 156]
def Zeh:sJ->BN U
 | .b0 a b=>CU f140 [4,27] (a,b,())
 | .b1 a b=>AA3 f140 [1,1,1,1,0] Z3p (a,b,())
 | .b2 a b c=>AA3 f140 [1,1,1,1,1,1,0,0] Z3q (a,b,c,())
theorem Zeg:AA1 140 [4,27] 240 (fun x=>bG x.1 x.2.1) rfl:=Cb (mc Zed (mc sN Az)) Aw (al [(6,Z3p),(9,Z3q),(2,LX),(5,LX),(10,LX)]) Zeh func140 (fun p=>by cases p<;>kernel_rfl) (by kernel_rfl) fun _=>rfl
inductive qH where
 | b0 (a:EM) (b:CY) (c:BJ) (d:List BH)
 | b1 (a:BJ) (b:List BH) (c d:CY)
 | b2 (a:BJ) (b:List BH) (c d:CY)
def Tm:qH->Tr U (Tq⊕qH)
 | .b0 b c a d=>.br (b.EP != a.Node.Keys.EP) (.fail) (.chk (kL a.Node.Ah&&(kL a.Node.Cache&&(kL a.Node.Ai&&(kL a.Node.A7.Out&&(kL a.Node.A7.In&&(kL a.Node.AB.Aa&&(kL a.Node.AB.AO&&(kL a.Node.Low.AO&&(kL a.Node.Out&&kL d))))))))) (Ac (.b1 (⟨({ a.Node with Keys:=b,IV:=c }:Ae),a.DL⟩:BJ) d c a.Node.IV)))
 | .b1 a d b c=>.br (b.Index != c.Index) (.fail) (.br (!(b.GI==c.GI)) (.fail) (.chk (kL a.Node.Ah&&(kL a.Node.Cache&&(kL a.Node.Ai&&(kL a.Node.A7.Out&&(kL a.Node.A7.In&&(kL a.Node.AB.Aa&&(kL a.Node.AB.AO&&(kL a.Node.Low.AO&&(kL a.Node.Out&&kL d))))))))) (Ac (.b2 a d b c))))
 | .b2 a b c d=>.bind 47 (Uk c) (fun(e:Int)=>.bind 47 (Uk d) (fun(f:Int)=>.br (e != f) (.fail) (.chk (kL a.Node.Ah&&(kL a.Node.Cache&&(kL a.Node.Ai&&(kL a.Node.A7.Out&&(kL a.Node.A7.In&&(kL a.Node.AB.Aa&&(kL a.Node.AB.AO&&(kL a.Node.Low.AO&&(kL a.Node.Out&&kL b))))))))) (AZ (⟨a,b⟩:Tq)))))
def rC (a:EM) (b:CY) (c:BJ) (d:List BH):Option Tq:=AY Tm (.b0 a b c d)
def Z2D:Shape:=⟨[PQ 0,.agg [.v 59 11 true],.agg [.v 61 3 true]],[.var 177 48 (.agg [VC 39 1,VC 41 1,VC 41 1,.v 59 11 true,.v 61 3 true,VC 47 1,VC 4 1,VC 4 1,.own 39 1,.own 49 2,.own 138 3,.own 149 4,.own 135 5,VC 39 1,.own 158 6,.own 39 7,VC 3 1,VC 4 1,VC 3 1,VC 3 1,VC 3 1,VC 3 1,VC 39 1,VC 3 1,VC 3 1,VC 3 1,VC 3 1,.own 39 8,VC 3 1,VC 4 1,VC 3 1,.own 120 9,VC 47 1,VC 4 1,VC 3 1,.fn 83 [] [10]]),.row 39 true,.row 49 true,.row 138 true,.row 149 true,.row 135 true,.row 158 true,.row 39 true,.row 39 true,.row 120 true,.var 100 1 (.one (.own 53 11)),.row 53 true]⟩
def ZcA:Shape:=⟨[],[.var 177 48 (.agg [VC 39 1,VC 41 1,VC 41 1,.v 59 11 true,.v 61 3 true,VC 47 1,VC 4 1,VC 4 1,.own 39 1,.own 49 2,.own 138 3,.own 149 4,.own 135 5,VC 39 1,.own 158 6,.own 39 7,VC 3 1,VC 4 1,VC 3 1,VC 3 1,VC 3 1,VC 3 1,VC 39 1,VC 3 1,VC 3 1,VC 3 1,VC 3 1,.own 39 8,VC 3 1,VC 4 1,VC 3 1,.own 120 9,VC 47 1,VC 4 1,VC 3 1,.fn 83 [] [10]]),.row 39 true,.row 49 true,.row 138 true,.row 149 true,.row 135 true,.row 158 true,.row 39 true,.row 39 true,.row 120 true,.var 100 1 (.one (.own 53 11)),.row 53 true]⟩
noncomputable def ZdE:HMod U:=⟨[KP,k13,k0],[.var k2,.row true,.row true,.row true,.row true,.row true,.row true,.row true,.row true,.row true,.var [.own 53 11],.row true],Z2D,ZcA,false,1457,fun(y:Tq)=>((),((IL y.q0),(y.q0.Node.Ah,(y.q0.Node.Cache,(y.q0.Node.Ai,(y.q0.Node.A7.Out,(y.q0.Node.A7.In,(y.q0.Node.AB.Aa,(y.q0.Node.AB.AO,(y.q0.Node.Low.AO,(y.q0.Node.Out,((),(y.q1,()))))))))))))),fun x=>rC x.1.2.1.1 x.1.2.2.1.1 (match x with|⟨_,⟨v0,v2,v4,v6,v8,z,D,I,M,R,S,Y,v21,v22,v23,v24,v25,v26,v27,v28,v29,v30,v31,v32,v33,v34,_⟩,v1,v3,v5,v7,v9,C,G,J,Q,_⟩=>(⟨(⟨v0,v2,v4,v6,v8,z,D,I,v1,v3,v5,(⟨v7,v9⟩:BV),(⟨M,C,G,R,S,Y,v21,v22⟩:EG),(⟨v23,v24,v25,v26,v27,v28,J,v29,v30,v31⟩:Df),Q,v32,v33⟩:Ae),v34⟩:BJ)) x.2.2.2.2.2.2.2.2.2.2.2.2.1,okS rfl⟩
def Yu:Lay:=⟨[0,5,7],[KP,KP,KP],[.var k2,.row true,.row true,.row true,.row true,.row true,.row true,.row true,.row true,.row true,.var [.own 53 11],.row true,.var k0,.var k0],⟨[PQ 0,PQ 12,PQ 13],[.var 177 48 (.agg [VC 39 1,VC 41 1,VC 41 1,.v 59 11 true,.v 61 3 true,VC 47 1,VC 4 1,VC 4 1,.own 39 1,.own 49 2,.own 138 3,.own 149 4,.own 135 5,VC 39 1,.own 158 6,.own 39 7,VC 3 1,VC 4 1,VC 3 1,VC 3 1,VC 3 1,VC 3 1,VC 39 1,VC 3 1,VC 3 1,VC 3 1,VC 3 1,.own 39 8,VC 3 1,VC 4 1,VC 3 1,.own 120 9,VC 47 1,VC 4 1,VC 3 1,.fn 83 [] [10]]),.row 39 true,.row 49 true,.row 138 true,.row 149 true,.row 135 true,.row 158 true,.row 39 true,.row 39 true,.row 120 true,.var 100 1 (.one (.own 53 11)),.row 53 true,VA 61 3,VA 61 3]⟩⟩
def ZcY:qH->BN U
 | .b0 b c a d=>DZ f86 Z2D (((),((b,()),((c,()),()))),((IL a),(a.Node.Ah,(a.Node.Cache,(a.Node.Ai,(a.Node.A7.Out,(a.Node.A7.In,(a.Node.AB.Aa,(a.Node.AB.AO,(a.Node.Low.AO,(a.Node.Out,((),(d,())))))))))))))
 | .b1 a b c d=>BB f86 [1,1,1,1,0,0] Yu (((),((),((),()))),((IL a),(a.Node.Ah,(a.Node.Cache,(a.Node.Ai,(a.Node.A7.Out,(a.Node.A7.In,(a.Node.AB.Aa,(a.Node.AB.AO,(a.Node.Low.AO,(a.Node.Out,((),(b,((c,()),((d,()),())))))))))))))))
 | .b2 a b c d=>BB f86 [1,1,1,1,1,0] Yu (((),((),((),()))),((IL a),(a.Node.Ah,(a.Node.Cache,(a.Node.Ai,(a.Node.A7.Out,(a.Node.A7.In,(a.Node.AB.Aa,(a.Node.AB.AO,(a.Node.Low.AO,(a.Node.Out,((),(b,((c,()),((d,()),())))))))))))))))
theorem Zdm:Bi Tryz.prog B0 86 ZdE:=okR (mc wO Az) Aw (al [(5,Yu),(7,Yu),(4,LX),(6,LX),(8,LX)]) [] [.var k2,.row true,.row true,.row true,.row true,.row true,.row true,.row true,.row true,.row true,.var [.own 53 11],.row true] 12 ZcY func86 (fun p=>by cases p<;>kernel_rfl) (by kernel_rfl) fun x=>by kernel_rfl
def Z5I:S1 ((List Int)×Unit) (Int×Int×Int)
 | (a,_)=>let e:=(kI (0:Int) a);let d:=a[(Int.toNat 0)]?;.br ((↑a.length:Int)==0) (AZ ((0:Int),0,(3:Int))) (.chk e (.bind 5 d (fun(b:Int)=>.chk e (.bind 5 d (fun(c:Int)=>AZ ((Ad ((Int.fdiv b (2 ^ (7:Nat))))),(Ad ((bits .and .u8 c (127:Int)))),(0:Int)))))))
def RN (a:List Int):Option (Int×Int×Int):=AY Z5I (a,())
theorem Z5c:AA1 176 [27] 282 (fun x=>RN x.1) rfl:=ok1 Az Aw func176 (fun _=>by kernel_rfl) (by kernel_rfl)
inductive yB where
 | b0 (a:CY) (b:Int)
 | b1 (a:Int) (b:CY)
def xY:yB->Tr U ((Int×Bool)⊕yB)
 | .b0 b a=>let c:=Ac (yB.b1 a b);.br (a != 0) (.br (a != 1) (AZ ((0:Int),false)) c) c
 | .b1 b a=>.br ((IntKind.wrap .u32 (b))==(bits .and .u32 a.Index (1:Int))) (AZ (a.Index,true)) (.br (a.Index==0) (AZ ((0:Int),false)) (AZ ((IntKind.wrap .u32 (a.Index - 1)),true)))
def fB (a:CY) (b:Int):Option (Int×Bool):=AY xY (.b0 a b)
def Z50:Lay:=LT [1,2] [.v 3,.p 0] [.s 61]
def ZiO:yB->BN U
 | .b0 a b=>CU f177 [61,3] (a,b,())
 | .b1 a b=>AA3 f177 [1,0,0,1,1,0] Z50 (a,b,())
theorem Ziw:AA1 177 [61,3] 284 (fun x=>fB x.1 x.2.1) rfl:=Cb Az Aw (al [(3,Z50)]) ZiO func177 (fun p=>by cases p<;>kernel_rfl) (by kernel_rfl) fun _=>rfl
def Z7A:S1 (Int×Int×(List Int)×(List Int)×Unit) ((List Int)×Int)
 | (b,c,e,a,_)=>let n:=([]:List Int);let m:=(↑a.length:Int);let h:=Ad (m - 4);let j:=(decide (0<=h/\h<=m));let i:=Int.toNat h;let l:=(a.drop 0).take (i - 0);let k:=(a.drop i).take (a.length - i);.br (decide (h<0)) (.chk true (AZ (n,(3:Int)))) (.chk j (.bind 27 (gB b c e l) (fun(d:List Int)=>.chk (Nq U 5 d) (.chk j (.chk (Nq U 5 k) (.br (!((strOf U 5 d).toList==(strOf U 5 k).toList)) (.chk true (AZ (n,(15:Int)))) (.bind 27 (fH b c h) (fun(f:List Int)=>.bind 27 (eX l f) (fun(g:List Int)=>AZ (g,0))))))))))
def XP (a b:Int) (c d:List Int):Option ((List Int)×Int):=AY Z7A (a,b,c,d,())
theorem Z6S:AA1 224 [41,40,27,27] 270 (fun x=>XP x.1 x.2.1 x.2.2.1 x.2.2.2.1) rfl:=ok1 (mc Z5R (mc Z5S (mc Z6D Az))) Aw func224 (fun _=>by kernel_rfl) (by kernel_rfl)
inductive vJ where
 | b0 (a:Bh) (b:Int) (c:List Int)
 | b1 (a:CG)
 | b2 (a:Int) (b:List Int) (c:Bh) (d:CG)
def dJ:vJ->Tr U ((CG×Int)⊕vJ)
 | .b0 b c a=>let f:=Ac (vJ.b1 Oi);let e:=(↑a.length:Int);.br (decide (e<14)) (AZ (Oi,3)) (.br (decide (e>29)) (AZ (Oi,4)) (.bind 282 (RN a) (fun(d:Int×Int×Int)=>.br (d.2.1 != b.C9) f (.br (d.1 != (Ad ((bits .and .u32 c (1:Int))))) f (Ac (.b2 c a b Oi))))))
 | .b1 a=>AZ (Oi,17)
 | .b2 h c i r=>let C:=Int.toNat 2;let B:=Int.toNat 1;let y:=(decide (0<=(7:Int)/\(7:Int)<=(↑c.length:Int)));let w:=Int.toNat 7;let z:=(c.drop w).take (c.length - w);let t:=(c.drop B).take (w - B);.chk y (.chk y (.chk (decide (0<=(1:Int)/\(1:Int)<=(↑w:Int))) (.bind 5 (t[0]?) (fun(j:Int)=>.bind 5 (t[1]?) (fun(k:Int)=>.bind 5 (t[2]?) (fun(l:Int)=>.bind 5 (t[3]?) (fun(m:Int)=>.bind 5 (t[4]?) (fun(n:Int)=>.bind 5 (t[5]?) (fun(o:Int)=>.bind 335 (eG i h z) (fun(p:Dj)=>.bind 335 (bV (⟨j,k,l,m,n,o⟩:Dj) p) (fun(a:Dj)=>let v:=(bits .or .u16 (IntKind.wrap .u16 (a.x4)) (IntKind.wrap .u16 ((IntKind.wrap .u16 (a.x5))*2 ^ (8:Nat))));let u:=(bits .or .u32 (bits .or .u32 (IntKind.wrap .u32 (a.x1)) (IntKind.wrap .u32 ((IntKind.wrap .u32 (a.x2))*2 ^ (8:Nat)))) (IntKind.wrap .u32 ((IntKind.wrap .u32 (a.x3))*2 ^ (16:Nat))));.bind 40 (U0 (0:Int) v u h) (fun(q:Int)=>.bind 270 (XP i.LC q (List.take 1 [a.x0,a.x1,a.x2,a.x3,a.x4,a.x5]) z) (fun(b:(List Int)×Int)=>.br (b.2 != 0) (AZ (Oi,b.2)) (.chk (kI (0:Int) b.1) (.bind 5 (b.1[(Int.toNat 0)]?) (fun(d:Int)=>.chk (kI (1:Int) b.1) (.bind 5 (b.1[B]?) (fun(e:Int)=>.chk (decide (0<=(2:Int)/\(2:Int)<=(↑b.1.length:Int))) (.chk true (.bind 27 (Hw ([((b.1.drop C).take (b.1.length - C))])) (fun(f:List Int)=>let s:=(⟨h,i.C9,((bits .and .u8 a.x0 (128:Int)) != 0),(Ad ((bits .andNot .u8 a.x0 (128:Int)))),u,v,(bits .or .u16 (IntKind.wrap .u16 (d)) (IntKind.wrap .u16 ((IntKind.wrap .u16 (e))*2 ^ (8:Nat)))),f⟩:CG);.bind 34 (dO s) (fun(g:Int)=>.br (g != 0) (AZ (Oi,g)) (AZ (s,(0:Int)))))))))))))))))))))))))
def Wv (a:Bh) (b:Int) (c:List Int):Option (CG×Int):=AY dJ (.b0 a b c)
def Z43:Lay:=LT [6] [.p 0] [.s 154]
def Z48:Lay:=LT [1,2,3,6] [.v 47,.v 27,.p 0,.p 1] [.s 57,.s 154]
def ZfO:vJ->BN U
 | .b0 a b c=>CU f178 [57,47,27] (a,b,c,())
 | .b1 a=>AA3 f178 [1,1,1,0,1,0,0] Z43 (a,())
 | .b2 a b c d=>AA3 f178 [1,1,1,1,0] Z48 (a,b,c,d,())
theorem ZfN:AA1 178 [57,47,27] 286 (fun x=>Wv x.1 x.2.1 x.2.2.1) rfl:=Cb (mc MG (mc Z5c (mc uM (mc Z3Q (mc Z5x (mc Z6S (mc Z4W Az))))))) Aw (al [(7,Z43),(8,Z48)]) ZfO func178 (fun p=>by cases p<;>kernel_rfl) (by kernel_rfl) fun _=>rfl
def Zgi (_:Int) (_:Int) (_:Int) (_:Bh):Option Bh:=none
theorem Zff:AA1 179 [39,39,3,57] 57 (fun x=>Zgi x.1 x.2.1 x.2.2.1 x.2.2.2.1) rfl:=⟨⟨_,func179,rfl,by kernel_rfl⟩,fun _ _ h=>nomatch h⟩
inductive qW where
 | b0 (a:List Int) (b:BJ) (c:List BH)
 | b1 (a:List Int) (b:Int) (c d:List Bh) (e f:Int) (g:BJ) (h:List BH) (i:JS)
def aH:qW->Tr U (Tn⊕qW)
 | .b0 c a d=>.bind 282 (RN c) (fun(e:Int×Int×Int)=>.br (e.2.2 != 0) (.fail) (.bind 284 (fB a.Node.IV e.1) (fun(f:Int×Bool)=>.br (!f.2) (.fail) (.bind 228 (O9 a.Node.Keys) (fun(b:List Bh)=>.chk (kL a.Node.Ah&&(kL a.Node.Cache&&(kL a.Node.Ai&&(kL a.Node.A7.Out&&(kL a.Node.A7.In&&(kL a.Node.AB.Aa&&(kL a.Node.AB.AO&&(kL a.Node.Low.AO&&(kL a.Node.Out&&(kL d&&true)))))))))) (Ac (.b1 c f.1 b b (↑b.length:Int) (0:Int) a d Zjb)))))))
 | .b1 g h j c i b a d k=>.br (decide (b<i)) (.chk (kI b c) (.bind 57 (c[(Int.toNat b)]?) (fun(e:Bh)=>.bind 286 (Wv e h g) (fun(f:CG×Int)=>.br (f.2==0) (.chk (kL a.Node.Ah&&(kL a.Node.Cache&&(kL a.Node.Ai&&(kL a.Node.A7.Out&&(kL a.Node.A7.In&&(kL a.Node.AB.Aa&&(kL a.Node.AB.AO&&(kL a.Node.Low.AO&&(kL a.Node.Out&&kL d))))))))) (AZ (⟨(⟨f.1,e,false⟩:JS),true,a,d⟩:Tn))) (.fail))))) (.fail)
def qK (a:List Int) (b:BJ) (c:List BH):Option Tn:=AY aH (.b0 a b c)
def Z2E:Shape:=⟨[PQ 0,OV 27],[.var 177 48 (.agg [VC 39 1,VC 41 1,VC 41 1,.v 59 11 true,.v 61 3 true,VC 47 1,VC 4 1,VC 4 1,.own 39 1,.own 49 2,.own 138 3,.own 149 4,.own 135 5,VC 39 1,.own 158 6,.own 39 7,VC 3 1,VC 4 1,VC 3 1,VC 3 1,VC 3 1,VC 3 1,VC 39 1,VC 3 1,VC 3 1,VC 3 1,VC 3 1,.own 39 8,VC 3 1,VC 4 1,VC 3 1,.own 120 9,VC 47 1,VC 4 1,VC 3 1,.fn 83 [] [10]]),.row 39 true,.row 49 true,.row 138 true,.row 149 true,.row 135 true,.row 158 true,.row 39 true,.row 39 true,.row 120 true,.var 100 1 (.one (.own 53 11)),.row 53 true]⟩
def ZcI:Shape:=⟨[.agg [.v 233 14 true],OV 4],[.var 177 48 (.agg [VC 39 1,VC 41 1,VC 41 1,.v 59 11 true,.v 61 3 true,VC 47 1,VC 4 1,VC 4 1,.own 39 1,.own 49 2,.own 138 3,.own 149 4,.own 135 5,VC 39 1,.own 158 6,.own 39 7,VC 3 1,VC 4 1,VC 3 1,VC 3 1,VC 3 1,VC 3 1,VC 39 1,VC 3 1,VC 3 1,VC 3 1,VC 3 1,.own 39 8,VC 3 1,VC 4 1,VC 3 1,.own 120 9,VC 47 1,VC 4 1,VC 3 1,.fn 83 [] [10]]),.row 39 true,.row 49 true,.row 138 true,.row 149 true,.row 135 true,.row 158 true,.row 39 true,.row 39 true,.row 120 true,.var 100 1 (.one (.own 53 11)),.row 53 true]⟩
noncomputable def Zdr:HMod U:=⟨[KP,[.s 5 1]],[.var k2,.row true,.row true,.row true,.row true,.row true,.row true,.row true,.row true,.row true,.var [.own 53 11],.row true],Z2E,ZcI,false,1458,fun(y:Tn)=>(((y.q0,()),((y.q1,()),())),((IL y.q2),(y.q2.Node.Ah,(y.q2.Node.Cache,(y.q2.Node.Ai,(y.q2.Node.A7.Out,(y.q2.Node.A7.In,(y.q2.Node.AB.Aa,(y.q2.Node.AB.AO,(y.q2.Node.Low.AO,(y.q2.Node.Out,((),(y.q3,()))))))))))))),fun x=>qK x.1.2.1.1 (match x with|⟨_,⟨v0,v2,v4,v6,v8,z,D,I,M,R,S,Y,v21,v22,v23,v24,v25,v26,v27,v28,v29,v30,v31,v32,v33,v34,_⟩,v1,v3,v5,v7,v9,C,G,J,Q,_⟩=>(⟨(⟨v0,v2,v4,v6,v8,z,D,I,v1,v3,v5,(⟨v7,v9⟩:BV),(⟨M,C,G,R,S,Y,v21,v22⟩:EG),(⟨v23,v24,v25,v26,v27,v28,J,v29,v30,v31⟩:Df),Q,v32,v33⟩:Ae),v34⟩:BJ)) x.2.2.2.2.2.2.2.2.2.2.2.2.1,okS rfl⟩
def Z2y:Lay:=⟨[0,1,4,9,11,49,50,51],[KP,[.s 5 1],KP,KP,[.s 57 5],[.s 57 5],KP,KP],[.var k2,.row true,.row true,.row true,.row true,.row true,.row true,.row true,.row true,.row true,.var [.own 53 11],.row true,.var [.keep,.keep,.keep,.keep,.keep,.keep,.keep,.own 5 1,.keep,.keep,.keep,.keep,.keep,.keep],.row true],⟨[PQ 0,OV 27,PQ 12,OV 47,OV 228,OV 228,OV 3,OV 3],[.var 177 48 (.agg [VC 39 1,VC 41 1,VC 41 1,.v 59 11 true,.v 61 3 true,VC 47 1,VC 4 1,VC 4 1,.own 39 1,.own 49 2,.own 138 3,.own 149 4,.own 135 5,VC 39 1,.own 158 6,.own 39 7,VC 3 1,VC 4 1,VC 3 1,VC 3 1,VC 3 1,VC 3 1,VC 39 1,VC 3 1,VC 3 1,VC 3 1,VC 3 1,.own 39 8,VC 3 1,VC 4 1,VC 3 1,.own 120 9,VC 47 1,VC 4 1,VC 3 1,.fn 83 [] [10]]),.row 39 true,.row 49 true,.row 138 true,.row 149 true,.row 135 true,.row 158 true,.row 39 true,.row 39 true,.row 120 true,.var 100 1 (.one (.own 53 11)),.row 53 true,.var 233 14 (.agg [VC 47 1,VC 3 1,VC 4 1,VC 3 1,VC 47 1,VC 39 1,VC 39 1,.own 5 13,.v 57 5 true,VC 4 1]),.row 5 true]⟩⟩
def Zd5:qW->BN U
 | .b0 b a c=>DZ f135 Z2E (((),((b,()),())),((IL a),(a.Node.Ah,(a.Node.Cache,(a.Node.Ai,(a.Node.A7.Out,(a.Node.A7.In,(a.Node.AB.Aa,(a.Node.AB.AO,(a.Node.Low.AO,(a.Node.Out,((),(c,())))))))))))))
 | .b1 c d e f g h a i b=>BB f135 [1,1,1,1,1,1,0,1,0,0,0] Z2y (((),((c,()),((),((d,()),((e,()),((f,()),((g,()),((h,()),())))))))),((IL a),(a.Node.Ah,(a.Node.Cache,(a.Node.Ai,(a.Node.A7.Out,(a.Node.A7.In,(a.Node.AB.Aa,(a.Node.AB.AO,(a.Node.Low.AO,(a.Node.Out,((),(i,((b.DW.IV,(b.DW.C9,(b.DW.Control,(b.DW.EL,(b.DW.Seq,(b.DW.Src,(b.DW.Cf,(b.Z1l,(b.X7,()))))))))),(b.DW.Payload,())))))))))))))))
theorem Zd4:Bi Tryz.prog B0 135 Zdr:=okR (mc aQ (mc Z5c (mc Ziw (mc ZfN (mc Zff Az))))) Aw (al [(9,Z2y),(3,LX),(6,LX),(14,LX),(15,LX)]) [k11,KP] [.var k2,.row true,.row true,.row true,.row true,.row true,.row true,.row true,.row true,.row true,.var [.own 53 11],.row true] 12 Zd5 func135 (fun p=>by cases p<;>kernel_rfl) (by kernel_rfl) fun x=>by kernel_rfl
end
noncomputable section
inductive rM where
 | b0 (a:Bh) (b:CG) (c:Int) (d:BJ) (e:List BH)
def Z3w:rM->Tr U (Tv⊕rM)
 | .b0 e f c a d=>.bind 270 (Wx e f) (fun(b:(List Int)×Int)=>let g:=a.Node.Out++[(⟨c,b.1,0⟩:BL)];.br (b.2 != 0) (.fail) (.chk true (kl a.Node.Out (.chk (kA (a.Node.Out.length+1) 40) (.chk (kL a.Node.Ah&&(kL a.Node.Ai&&(kL a.Node.A7.Out&&(kL a.Node.A7.In&&(kL a.Node.AB.Aa&&(kL a.Node.AB.AO&&(kL a.Node.Low.AO&&((g.length==g.length)&&kL d)))))))) (AZ (⟨true,(⟨({ a.Node with Out:=g }:Ae),a.DL⟩:BJ),d⟩:Tv)))))))
def aI (a:Bh) (b:CG) (c:Int) (d:BJ) (e:List BH):Option Tv:=AY Z3w (.b0 a b c d e)
def Z2S:Shape:=⟨[PQ 0,.agg [.v 57 5 true],.agg [.v 154 8 true],OV 3],[.var 177 48 (.agg [VC 39 1,VC 41 1,VC 41 1,.v 59 11 true,.v 61 3 true,VC 47 1,VC 4 1,VC 4 1,.own 39 1,VC 63 1,.own 138 2,.own 149 3,.own 135 4,VC 39 1,.own 158 5,.own 39 6,VC 3 1,VC 4 1,VC 3 1,VC 3 1,VC 3 1,VC 3 1,VC 39 1,VC 3 1,VC 3 1,VC 3 1,VC 3 1,.own 39 7,VC 3 1,VC 4 1,VC 3 1,.own 120 8,VC 47 1,VC 4 1,VC 3 1,.fn 83 [] [9]]),.row 39 true,.row 138 true,.row 149 true,.row 135 true,.row 158 true,.row 39 true,.row 39 true,.row 120 true,.var 100 1 (.one (.own 53 10)),.row 53 true]⟩
def ZcP:Shape:=⟨[OV 4],[.var 177 48 (.agg [VC 39 1,VC 41 1,VC 41 1,.v 59 11 true,.v 61 3 true,VC 47 1,VC 4 1,VC 4 1,.own 39 1,VC 63 1,.own 138 2,.own 149 3,.own 135 4,VC 39 1,.own 158 5,.own 39 6,VC 3 1,VC 4 1,VC 3 1,VC 3 1,VC 3 1,VC 3 1,VC 39 1,VC 3 1,VC 3 1,VC 3 1,VC 3 1,.own 39 7,VC 3 1,VC 4 1,VC 3 1,.own 120 8,VC 47 1,VC 4 1,VC 3 1,.fn 83 [] [9]]),.row 39 true,.row 138 true,.row 149 true,.row 135 true,.row 158 true,.row 39 true,.row 39 true,.row 120 true,.var 100 1 (.one (.own 53 10)),.row 53 true]⟩
noncomputable def Ze9:HMod U:=⟨[KP,k10,k7,KP],[.var k6,.row true,.row true,.row true,.row true,.row true,.row true,.row true,.row true,.var [.own 53 11],.row true],Z2S,ZcP,true,1459,fun(y:Tv)=>(((y.q0,()),()),((NT y.q1),(y.q1.Node.Ah,(y.q1.Node.Ai,(y.q1.Node.A7.Out,(y.q1.Node.A7.In,(y.q1.Node.AB.Aa,(y.q1.Node.AB.AO,(y.q1.Node.Low.AO,(y.q1.Node.Out,((),(y.q2,())))))))))))),fun x=>aI x.1.2.1.1 x.1.2.2.1.1 x.1.2.2.2.1.1 (match x with|⟨_,⟨v0,v2,v4,v6,v8,z,D,I,M,Q,R,S,Y,v21,v22,v23,v24,v25,v26,v27,v28,v29,v30,v31,v32,v33,v34,_⟩,v1,v3,v5,v7,v9,C,G,J,_⟩=>(⟨(⟨v0,v2,v4,v6,v8,z,D,I,v1,M,v3,(⟨v5,v7⟩:BV),(⟨Q,v9,C,R,S,Y,v21,v22⟩:EG),(⟨v23,v24,v25,v26,v27,v28,G,v29,v30,v31⟩:Df),J,v32,v33⟩:Ae),v34⟩:BJ)) x.2.2.2.2.2.2.2.2.2.2.2.1,okS rfl⟩
def Zds:rM->BN U
 | .b0 b c d a e=>DZ f139 Z2S (((),((b,()),((c,()),((d,()),())))),((NT a),(a.Node.Ah,(a.Node.Ai,(a.Node.A7.Out,(a.Node.A7.In,(a.Node.AB.Aa,(a.Node.AB.AO,(a.Node.Low.AO,(a.Node.Out,((),(e,()))))))))))))
theorem Zdz:Bi Tryz.prog B0 139 Ze9:=okR (mc Z4j Az) Aw (al [(3,LX)]) [KP] [.var k6,.row true,.row true,.row true,.row true,.row true,.row true,.row true,.row true,.var [.own 53 11],.row true] 11 Zds func139 (fun p=>by cases p<;>kernel_rfl) (by kernel_rfl) fun x=>by kernel_rfl
inductive qV where
 | b0 (a:CG) (b:Bc) (c:BJ) (d:List BH)
def Z3f:qV->Tr U (Qy⊕qV)
 | .b0 c d a b=>let g:=Tr.chk (kL a.Node.Ah&&(kL a.Node.Ai&&(kL a.Node.A7.Out&&(kL a.Node.A7.In&&(kL a.Node.AB.Aa&&(kL a.Node.AB.AO&&(kL a.Node.Low.AO&&(kL a.Node.Out&&(kL a.Node.AB.Aa&&(kL a.Node.AB.AO&&kL b)))))))))) (AZ (⟨a,b⟩:Qy));kl a.Node.AB.Aa (kl a.Node.AB.AO (.bind 4 (dR a.Node.AB c.Cf) (fun(e:Bool)=>.br e (.bind 4 (uA d) (fun(f:Bool)=>.br (!f) (.fail) g)) g)))
def qZ (a:CG) (b:Bc) (c:BJ) (d:List BH):Option Qy:=AY Z3f (.b0 a b c d)
def Z2G:Shape:=⟨[PQ 0,.agg [.v 154 8 true],.agg [.v 156 10 true]],[.var 177 48 (.agg [VC 39 1,VC 41 1,VC 41 1,.v 59 11 true,.v 61 3 true,VC 47 1,VC 4 1,VC 4 1,.own 39 1,VC 63 1,.own 138 2,.own 149 3,.own 135 4,VC 39 1,.own 158 5,.own 39 6,VC 3 1,VC 4 1,VC 3 1,VC 3 1,VC 3 1,VC 3 1,VC 39 1,VC 3 1,VC 3 1,VC 3 1,VC 3 1,.own 39 7,VC 3 1,VC 4 1,VC 3 1,.own 120 8,VC 47 1,VC 4 1,VC 3 1,.fn 83 [] [9]]),.row 39 true,.row 138 true,.row 149 true,.row 135 true,.row 158 true,.row 39 true,.row 39 true,.row 120 true,.var 100 1 (.one (.own 53 10)),.row 53 true]⟩
def Zcv:Shape:=⟨[],[.var 177 48 (.agg [VC 39 1,VC 41 1,VC 41 1,.v 59 11 true,.v 61 3 true,VC 47 1,VC 4 1,VC 4 1,.own 39 1,VC 63 1,.own 138 2,.own 149 3,.own 135 4,VC 39 1,.own 158 5,.own 39 6,VC 3 1,VC 4 1,VC 3 1,VC 3 1,VC 3 1,VC 3 1,VC 39 1,VC 3 1,VC 3 1,VC 3 1,VC 3 1,.own 39 7,VC 3 1,VC 4 1,VC 3 1,.own 120 8,VC 47 1,VC 4 1,VC 3 1,.fn 83 [] [9]]),.row 39 true,.row 138 true,.row 149 true,.row 135 true,.row 158 false,.row 39 false,.row 39 true,.row 120 true,.var 100 1 (.one (.own 53 10)),.row 53 true]⟩
noncomputable def ZdG:HMod U:=⟨[KP,k7,k4],[.var k6,.row true,.row true,.row true,.row true,.row true,.row true,.row true,.row true,.var [.own 53 11],.row true],Z2G,Zcv,false,1460,fun(y:Qy)=>((),((NT y.q0),(y.q0.Node.Ah,(y.q0.Node.Ai,(y.q0.Node.A7.Out,(y.q0.Node.A7.In,(y.q0.Node.AB.Aa,(y.q0.Node.AB.AO,(y.q0.Node.Low.AO,(y.q0.Node.Out,((),(y.q1,())))))))))))),fun x=>qZ x.1.2.1.1 x.1.2.2.1.1 (match x with|⟨_,⟨v0,v2,v4,v6,v8,z,D,I,M,Q,R,S,Y,v21,v22,v23,v24,v25,v26,v27,v28,v29,v30,v31,v32,v33,v34,_⟩,v1,v3,v5,v7,v9,C,G,J,_⟩=>(⟨(⟨v0,v2,v4,v6,v8,z,D,I,v1,M,v3,(⟨v5,v7⟩:BV),(⟨Q,v9,C,R,S,Y,v21,v22⟩:EG),(⟨v23,v24,v25,v26,v27,v28,G,v29,v30,v31⟩:Df),J,v32,v33⟩:Ae),v34⟩:BJ)) x.2.2.2.2.2.2.2.2.2.2.2.1,okS rfl⟩
def Zdq:qV->BN U
 | .b0 b c a d=>DZ f141 Z2G (((),((b,()),((c,()),()))),((NT a),(a.Node.Ah,(a.Node.Ai,(a.Node.A7.Out,(a.Node.A7.In,(a.Node.AB.Aa,(a.Node.AB.AO,(a.Node.Low.AO,(a.Node.Out,((),(d,()))))))))))))
theorem Zd2:Bi Tryz.prog B0 141 ZdG:=okR (mc vP (mc Z4P (mc Z3N Az))) Aw (al [(2,LX)]) [] [.var k6,.row true,.row true,.row true,.row true,.row false,.row false,.row true,.row true,.var [.own 53 11],.row true] 11 Zdq func141 (fun p=>by cases p<;>kernel_rfl) (by kernel_rfl) fun x=>by kernel_rfl
inductive qM where
 | b0 (a:Int) (b:BJ) (c:List BH)
def Z2X:qM->Tr U (NW⊕qM)
 | .b0 c a b=>let h:=Yn a.Node.Ah c;let f:=kL a.Node.Ah&&(kL a.Node.Ai&&(kL a.Node.A7.Out&&(kL a.Node.A7.In&&(kL a.Node.AB.Aa&&(kL a.Node.AB.AO&&(kL a.Node.Low.AO&&(kL a.Node.Out&&(kL a.Node.Ah&&(kL a.Node.AB.Aa&&(kL a.Node.AB.AO&&kL b))))))))));let g:=Tr.chk f (AZ (⟨true,a,b⟩:NW));.br (c==a.Node.Address) g (.br (c==65535) g (.br (c==65534) (.br a.Node.Fz g (kl a.Node.Ah (.bind 4 h (fun(d:Bool)=>.chk f (AZ (⟨d,a,b⟩:NW)))))) (kl a.Node.Ah (.bind 4 h (fun(e:Bool)=>.chk f (AZ (⟨e,a,b⟩:NW)))))))
def qF (a:Int) (b:BJ) (c:List BH):Option NW:=AY Z2X (.b0 a b c)
def Z2w:Shape:=⟨[PQ 0,OV 39],[.var 177 48 (.agg [VC 39 1,VC 41 1,VC 41 1,.v 59 11 true,.v 61 3 true,VC 47 1,VC 4 1,VC 4 1,.own 39 1,VC 63 1,.own 138 2,.own 149 3,.own 135 4,VC 39 1,.own 158 5,.own 39 6,VC 3 1,VC 4 1,VC 3 1,VC 3 1,VC 3 1,VC 3 1,VC 39 1,VC 3 1,VC 3 1,VC 3 1,VC 3 1,.own 39 7,VC 3 1,VC 4 1,VC 3 1,.own 120 8,VC 47 1,VC 4 1,VC 3 1,.fn 83 [] [9]]),.row 39 true,.row 138 true,.row 149 true,.row 135 true,.row 158 false,.row 39 false,.row 39 true,.row 120 true,.var 100 1 (.one (.own 53 10)),.row 53 true]⟩
def ZcE:Shape:=⟨[OV 4],[.var 177 48 (.agg [VC 39 1,VC 41 1,VC 41 1,.v 59 11 true,.v 61 3 true,VC 47 1,VC 4 1,VC 4 1,.own 39 1,VC 63 1,.own 138 2,.own 149 3,.own 135 4,VC 39 1,.own 158 5,.own 39 6,VC 3 1,VC 4 1,VC 3 1,VC 3 1,VC 3 1,VC 3 1,VC 39 1,VC 3 1,VC 3 1,VC 3 1,VC 3 1,.own 39 7,VC 3 1,VC 4 1,VC 3 1,.own 120 8,VC 47 1,VC 4 1,VC 3 1,.fn 83 [] [9]]),.row 39 false,.row 138 true,.row 149 true,.row 135 true,.row 158 false,.row 39 false,.row 39 true,.row 120 true,.var 100 1 (.one (.own 53 10)),.row 53 true]⟩
noncomputable def ZdC:HMod U:=⟨[KP,KP],[.var k6,.row true,.row true,.row true,.row true,.row false,.row false,.row true,.row true,.var [.own 53 11],.row true],Z2w,ZcE,true,1464,fun(y:NW)=>(((y.q0,()),()),((NT y.q1),(y.q1.Node.Ah,(y.q1.Node.Ai,(y.q1.Node.A7.Out,(y.q1.Node.A7.In,(y.q1.Node.AB.Aa,(y.q1.Node.AB.AO,(y.q1.Node.Low.AO,(y.q1.Node.Out,((),(y.q2,())))))))))))),fun x=>qF x.1.2.1.1 (match x with|⟨_,⟨v0,v2,v4,v6,v8,z,D,I,M,Q,R,S,Y,v21,v22,v23,v24,v25,v26,v27,v28,v29,v30,v31,v32,v33,v34,_⟩,v1,v3,v5,v7,v9,C,G,J,_⟩=>(⟨(⟨v0,v2,v4,v6,v8,z,D,I,v1,M,v3,(⟨v5,v7⟩:BV),(⟨Q,v9,C,R,S,Y,v21,v22⟩:EG),(⟨v23,v24,v25,v26,v27,v28,G,v29,v30,v31⟩:Df),J,v32,v33⟩:Ae),v34⟩:BJ)) x.2.2.2.2.2.2.2.2.2.2.2.1,okS rfl⟩
def Zdh:qM->BN U
 | .b0 b a c=>DZ f142 Z2w (((),((b,()),())),((NT a),(a.Node.Ah,(a.Node.Ai,(a.Node.A7.Out,(a.Node.A7.In,(a.Node.AB.Aa,(a.Node.AB.AO,(a.Node.Low.AO,(a.Node.Out,((),(c,()))))))))))))
theorem Zdp:Bi Tryz.prog B0 142 ZdC:=okR (mc Z2l Az) Aw AN [KP] [.var k6,.row false,.row true,.row true,.row true,.row false,.row false,.row true,.row true,.var [.own 53 11],.row true] 11 Zdh func142 (fun p=>by cases p<;>kernel_rfl) (by kernel_rfl) fun x=>by kernel_rfl
def Zgs (_:Int):Option Int:=none
theorem ZfT:AA1 237 [3] 47 (fun x=>Zgs x.1) rfl:=⟨⟨_,func237,rfl,by kernel_rfl⟩,fun _ _ h=>nomatch h⟩
inductive rO where
 | b0 (a:BV) (b c:Int) (d:Ar) (e:Int) (f:Bc) (g:Int)
 | b1 (a b c d:Int) (e:List Dw) (f:Bool) (g:BV) (h:Ar) (i:Bc) (j:BV)
def aU:rO->Tr U ((BV×(List Dw)×Bool)⊕rO)
 | .b0 c d e f g a h=>.bind 1447 (UR c) (fun(b:Oa)=>.bind 34 (We a) (fun(i:Int)=>.br (i != 0) (.fail) (.br a.Control (.fail) (.chk (true&&(kL b.q0.Out&&kL b.q0.In)) (Ac (.b1 d e g h ([]:List Dw) false b.q0 f a (⟨([]:List DJ),([]:List D9)⟩:BV)))))))
 | .b1 c d e h i j a f b k=>.br (!b.Ox) (.chk true (.bind 27 (Hw ([b.Bytes])) (fun(g:List Int)=>kl a.Out (kl a.In (.chk true (AZ (a,[(⟨c,d,b.App,e,f,g⟩:Dw)],false))))))) (.fail)
def sF (a:BV) (b c:Int) (d:Ar) (e:Int) (f:Bc) (g:Int):Option (BV×(List Dw)×Bool):=AY aU (.b0 a b c d e f g)
def Z34:Lay:=⟨[1,2,4,6,7,10,12,14,15,16],[KP,KP,KP,KP,KP,KP,KP,KP,[.own 51 8],KP],[.var [.own 149 10,.own 135 11],.var k0,.var k4,.var [.s 149 10,.s 135 11],.row true,.row true,.row true],⟨[OV 39,OV 39,OV 3,OV 3,PQ 0,PQ 1,PQ 2,PQ 3,.one (.own 51 4),OV 4],[.var 68 2 (Qs 5),VA 49 3,VA 156 10,VA 68 2,.row 51 true,.row 149 true,.row 135 true]⟩⟩
def Zeb:rO->BN U
 | .b0 a b c d e f g=>CU f200 [68,39,39,49,3,156,3] (a,b,c,d,e,f,g,())
 | .b1 b c d e f g a h i j=>AA3 f200 [1,1,1,0,0] Z34 (b,c,d,e,g,h,i,j,f,a.Out,a.In,())
theorem Zec:AA1 200 [68,39,39,49,3,156,3] 311 (fun x=>sF x.1 x.2.1 x.2.2.1 x.2.2.2.1 x.2.2.2.2.1 x.2.2.2.2.2.1 x.2.2.2.2.2.2.1) rfl:=Cb (mc MG (mc sN (mc ZfT Az))) (hc [] bK Aw) (al [(4,Z34),(3,LX),(6,LX)]) Zeb func200 (fun p=>by cases p<;>kernel_rfl) (by kernel_rfl) fun _=>rfl
inductive vV where
 | b0 (a:Ar) (b:Int)
def Zhl:vV->Tr U (U7⊕vV)
 | .b0 b a=>AZ (⟨(b.Src==a),a⟩:U7)
def Z5h (a:Ar) (b:Int):Option U7:=AY Zhl (.b0 a b)
def Z4s:Shape:=⟨[.agg [.v 138 3 true],PQ 0],[.var 39 1 (OV 39)]⟩
def Zf6:Shape:=⟨[OV 4],[.var 39 1 (OV 39)]⟩
noncomputable def Zhu:HMod U:=⟨[k0,KP],[.var KP],Z4s,Zf6,true,1467,fun(y:U7)=>(((y.q0,()),()),((y.q1,()),())),fun x=>Z5h (⟨x.1.1.1.Src,x.1.1.1.IV,x.1.1.1.Seq⟩:Ar) x.2.1.1,okS rfl⟩
def ZgU:vV->BN U
 | .b0 a b=>DZ f258 Z4s (((a,()),((),())),((b,()),()))
theorem Zgx:Bi Tryz.prog B0 258 Zhu:=okR Az Aw AN [KP] [.var KP] 1 ZgU func258 (fun p=>by cases p<;>kernel_rfl) (by kernel_rfl) fun x=>by kernel_rfl
inductive o5 where
 | b0 (a:List Ar) (b:Int)
 | b1 (a:List Ar) (b c d:Int)
def Z2i:o5->Tr U (Qw⊕o5)
 | .b0 a b=>Ac (.b1 a (↑a.length:Int) (0:Int) b)
 | .b1 b d a e=>.br (decide (a<d)) (.chk (kI a b) (.bind 138 (b[(Int.toNat a)]?) (fun(f:Ar)=>.bind 1467 (Z5h f e) (fun(c:U7)=>.br c.q0 (AZ (⟨a,c.q1⟩:Qw)) (Ac (.b1 b d (Ad (a+1)) c.q1)))))) (AZ (⟨-1,e⟩:Qw))
def o6 (a:List Ar) (b:Int):Option Qw:=AY Z2i (.b0 a b)
def Z2a:Shape:=⟨[OV 64,.one (.fn 258 [] [0])],[.var 39 1 (OV 39)]⟩
def Zcb:Shape:=⟨[OV 3],[.var 39 1 (OV 39)]⟩
noncomputable def Zcn:HMod U:=⟨[[.s 138 3],KP],[.var KP],Z2a,Zcb,true,1466,fun(y:Qw)=>(((y.q0,()),()),((y.q1,()),())),fun x=>o6 x.1.1.1 x.2.1.1,okS rfl⟩
def Z2c:Lay:=⟨[0,1,7,8],[[.s 138 3],KP,KP,KP],[.var KP],⟨[OV 64,.one (.fn 258 [] [0]),OV 3,OV 3],[.var 39 1 (OV 39)]⟩⟩
def Zcl:o5->BN U
 | .b0 a b=>DZ f257 Z2a (((a,()),((),())),((b,()),()))
 | .b1 a b c d=>AA3 f257 [1,0,1,0,0,0] Z2c (a,b,c,d,())
theorem Zcj:Bi Tryz.prog B0 257 Zcn:=okR Az (hc [] Zgx Aw) (al [(2,Z2c)]) [KP] [.var KP] 1 Zcl func257 (fun p=>by cases p<;>kernel_rfl) (by kernel_rfl) fun x=>by kernel_rfl
def Z68:S1 ((List Ar)×Int×Unit) Int
 | (a,b,_)=>.bind 1466 (o6 a b) (fun(c:Qw)=>AZ c.q0)
def fD (a:List Ar) (b:Int):Option Int:=AY Z68 (a,b,())
theorem Z5Q:AA1 242 [64,39] 3 (fun x=>fD x.1 x.2.1) rfl:=ok1 Az (hc [258] Zcj Aw) func242 (fun _=>by kernel_rfl) (by kernel_rfl)
def Zhy:S1 (Ar×Ar×Unit) Bool
 | (a,b,_)=>.br (decide (a.IV>b.IV)) (AZ true) (.br (a.IV==b.IV) (AZ (decide (a.Seq>b.Seq))) (AZ false))
def Z53 (a b:Ar):Option Bool:=AY Zhy (a,b,())
theorem ZgK:AA1 243 [49,49] 4 (fun x=>Z53 x.1 x.2.1) rfl:=ok1 Az Aw func243 (fun _=>by kernel_rfl) (by kernel_rfl)
def ZbZ:S1 (Jd×Unit) Bool
 | (a,_)=>AZ (decide ((↑a.IQ.length:Int)>=a.Jj))
def oJ (a:Jd):Option Bool:=AY ZbZ (a,())
theorem ZbX:AA1 244 [360] 4 (fun x=>oJ x.1) rfl:=ok1 Az Aw func244 (fun _=>by kernel_rfl) (by kernel_rfl)
inductive wB where
 | b0 (a:List Ar) (b:Ar)
 | b1 (a:List Ar) (b:Int)
def dQ:wB->Tr U (Int⊕wB)
 | .b0 a c=>.bind 3 (fD a c.Src) (fun(b:Int)=>let h:=Ac (wB.b1 a b);let g:=a[(Int.toNat b)]?;.br (decide (b>=0)) (.chk (kI b a) (.bind 138 g (fun(d:Ar)=>.chk (kI b a) (.bind 138 g (fun(e:Ar)=>.bind 4 (Z53 c (⟨0,d.IV,e.Seq⟩:Ar)) (fun(f:Bool)=>.br (!f) (AZ (16:Int)) h)))))) h)
 | .b1 a b=>let d:=AZ (0:Int);.br (decide (b<0)) (.bind 4 (oJ (⟨a,32⟩:Jd)) (fun(c:Bool)=>.br c (AZ (8:Int)) d)) d
def dN (a:List Ar) (b:Ar):Option Int:=AY dQ (.b0 a b)
def Z4h:Lay:=LT [0,5] [.v 64,.v 3] []
def ZgI:wB->BN U
 | .b0 a b=>CU f201 [64,49] (a,b,())
 | .b1 a b=>AA3 f201 [1,1,0,0,1,1,0] Z4h (a,b,())
theorem Z4H:AA1 201 [64,49] 34 (fun x=>dN x.1 x.2.1) rfl:=Cb (mc Z5Q (mc ZgK (mc ZbX Az))) Aw (al [(4,Z4h)]) ZgI func201 (fun p=>by cases p<;>kernel_rfl) (by kernel_rfl) fun _=>rfl
def Z44:S1 (Int×Bool×Ar×Int×(List Int)×Unit) ((List Int)×Int)
 | (c,d,e,f,g,_)=>.bind 262 (Wp d e f) (fun(a:Int×(List Int))=>.bind 270 (XP c a.1 a.2 g) (fun(b:(List Int)×Int)=>AZ (b.1,b.2)))
def bQ (a:Int) (b:Bool) (c:Ar) (d:Int) (e:List Int):Option ((List Int)×Int):=AY Z44 (a,b,c,d,e,())
theorem ZeT:AA1 202 [41,4,49,39,27] 270 (fun x=>bQ x.1 x.2.1 x.2.2.1 x.2.2.2.1 x.2.2.2.2.1) rfl:=ok1 (mc Z3Y (mc Z6S Az)) Aw func202 (fun _=>by kernel_rfl) (by kernel_rfl)
def Z21:S1 (Jd×Ar×Unit) Jd
 | (b,c,_)=>.bind 1404 (O7 b.IQ) (fun(a:QA)=>let d:=a.q0++[c];.chk true (kl a.q0 (.chk (kA (a.q0.length+1) 12) (kl d (AZ (⟨d,b.Jj⟩:Jd))))))
def oK (a:Jd) (b:Ar):Option Jd:=AY Z21 (a,b,())
theorem Zc0:AA1 245 [360,138] 360 (fun x=>oK x.1 x.2.1) rfl:=ok1 Az (hc [] Yv Aw) func245 (fun _=>by kernel_rfl) (by kernel_rfl)
def Z4R:S1 ((List Ar)×Ar×Unit) ((List Ar)×Int)
 | (c,d,_)=>.bind 34 (dN c d) (fun(e:Int)=>.br (e != 0) (.bind 1404 (O7 c) (fun(f:QA)=>kl f.q0 (AZ (f.q0,e)))) (.bind 3 (fD c d.Src) (fun(b:Int)=>let i:=Int.toNat b;.br (decide (b>=0)) (.bind 1404 (O7 c) (fun(a:QA)=>let j:=a.q0.set i d;kl a.q0 (.chk (kI b a.q0) (.chk (a.q0.length==a.q0.length&&decide (0<=i)) (.bind 138 (a.q0[i]?) (fun(h:Ar)=>.chk (j.length==a.q0.length) (AZ (j,(0:Int))))))))) (.bind 360 (oK (⟨c,32⟩:Jd) d) (fun(g:Jd)=>AZ (g.IQ,0))))))
def vF (a:List Ar) (b:Ar):Option ((List Ar)×Int):=AY Z4R (a,b,())
theorem ZfV:AA1 203 [64,49] 315 (fun x=>vF x.1 x.2.1) rfl:=ok1 (mc Z4H (mc Z5Q (mc Zc0 Az))) (hc [] Yv Aw) func203 (fun _=>by kernel_rfl) (by kernel_rfl)
inductive xR where
 | b0 (a:BH) (b:List BH)
def Z6d:xR->Tr U (Uh⊕xR)
 | .b0 b a=>.chk true (kl a (.chk (kA (a.length+1) 80) (kl (a++[b]) (AZ (⟨(a++[b])⟩:Uh)))))
def yO (a:BH) (b:List BH):Option Uh:=AY Z6d (.b0 a b)
def Z51:Shape:=⟨[.agg [.v 53 11 true],PQ 0],[.var 100 1 (.one (.own 53 1)),.row 53 true]⟩
def ZgT:Shape:=⟨[],[.var 100 1 (.one (.own 53 1)),.row 53 true]⟩
noncomputable def Zjw:HMod U:=⟨[[.keep,.keep,.keep,.keep,.keep,.keep,.keep,.keep,.s 5 1,.keep,.keep],KP],[.var [.own 53 11],.row true],Z51,ZgT,false,1463,fun(y:Uh)=>((),((),(y.q0,()))),fun x=>yO x.1.1.1 x.2.2.1,okS rfl⟩
def Zig:xR->BN U
 | .b0 a b=>DZ f83 Z51 (((a,()),((),())),((),(b,())))
theorem Zis:Bi Tryz.prog B0 83 Zjw:=okR Az Aw AN [] [.var [.own 53 11],.row true] 2 Zig func83 (fun p=>by cases p<;>kernel_rfl) (by kernel_rfl) fun x=>by kernel_rfl
inductive o8 where
 | b0 (a:JS) (b:Ar) (c:Bc) (d:BJ) (e:List BH)
 | b1 (a:List Dw) (b c:Int) (d:BJ) (e:List BH) (f:List Ar) (g:List DJ) (h:List D9)
 | b2 (a:List Dw) (b c:Int) (d:BJ) (e:List BH) (f:List Ar) (g:List DJ) (h:List D9)
def Py:o8->Tr U (TV⊕o8)
 | .b0 b e f a d=>kl a.Node.A7.Out (kl a.Node.A7.In (.bind 311 (sF a.Node.A7 b.DW.Src b.DW.Cf e b.DW.EL f a.DL) (fun(c:BV×(List Dw)×Bool)=>kl a.Node.Ai (.chk (kL a.Node.Ah&&(kL a.Node.AB.Aa&&(kL a.Node.AB.AO&&(kL a.Node.Low.AO&&(kL a.Node.Out&&(kL a.Node.Ah&&(kL a.Node.Ai&&(kL a.Node.A7.Out&&(kL a.Node.A7.In&&(kL a.Node.AB.Aa&&(kL a.Node.AB.AO&&kL d))))))))))) (Ac (.b1 c.2.1 (↑c.2.1.length:Int) (0:Int) (⟨({ a.Node with A7:=c.1 }:Ae),a.DL⟩:BJ) d a.Node.Ai a.Node.A7.Out a.Node.A7.In))))))
 | .b1 h i g a b c d e=>let o:=kL a.Node.Ah&&(kL a.Node.AB.Aa&&(kL a.Node.AB.AO&&(kL a.Node.Low.AO&&(kL a.Node.Out&&(kL a.Node.Ah&&(kL c&&(kL d&&(kL e&&(kL a.Node.AB.Aa&&(kL a.Node.AB.AO&&kL b))))))))));let p:=Tr.chk o (Ac (o8.b2 h i g a b c d e));.br (decide (g<i)) (.chk (kI g h) (.bind 51 (h[(Int.toNat g)]?) (fun(f:Dw)=>.bind 34 (dN a.Node.Ai f.Seq) (fun(l:Int)=>.br (l != 0) p (.bind 41 (W9 (dS a) f.App) (fun(m:Int)=>.bind 270 (bQ m f.App f.Seq f.Cf f.Bytes) (fun(j:(List Int)×Int)=>.br (j.2 != 0) p (.bind 315 (vF a.Node.Ai f.Seq) (fun(n:(List Ar)×Int)=>kl b (.bind 1463 (yO (⟨1,({ f with Bytes:=j.1 }:Dw),0,0⟩:BH) b) (fun(k:Uh)=>.chk (kL a.Node.Ah&&(kL a.Node.AB.Aa&&(kL a.Node.AB.AO&&(kL a.Node.Low.AO&&(kL a.Node.Out&&(kL a.Node.Ah&&(kL c&&(kL d&&(kL e&&(kL a.Node.AB.Aa&&(kL a.Node.AB.AO&&kL k.q0))))))))))) (Ac (.b2 h i g (⟨({ a.Node with Ai:=n.1 }:Ae),a.DL⟩:BJ) k.q0 c d e))))))))))))) (.chk o (AZ (⟨a,b,c,d,e⟩:TV)))
 | .b2 f g h a b c d e=>.chk (kL a.Node.Ah&&(kL a.Node.AB.Aa&&(kL a.Node.AB.AO&&(kL a.Node.Low.AO&&(kL a.Node.Out&&(kL a.Node.Ah&&(kL c&&(kL d&&(kL e&&(kL a.Node.AB.Aa&&(kL a.Node.AB.AO&&kL b))))))))))) (Ac (.b1 f g (Ad (h+1)) a b c d e))
def pJ (a:JS) (b:Ar) (c:Bc) (d:BJ) (e:List BH):Option TV:=AY Py (.b0 a b c d e)
def Z2f:Shape:=⟨[PQ 0,.agg [.v 233 14 true],.agg [.v 49 3 true],.agg [.v 156 10 true]],[.var 177 48 (.agg [VC 39 1,VC 41 1,VC 41 1,.v 59 11 true,.v 61 3 true,VC 47 1,VC 4 1,VC 4 1,.own 39 1,VC 63 1,.own 138 2,.own 149 3,.own 135 4,VC 39 1,.own 158 5,.own 39 6,VC 3 1,VC 4 1,VC 3 1,VC 3 1,VC 3 1,VC 3 1,VC 39 1,VC 3 1,VC 3 1,VC 3 1,VC 3 1,.own 39 7,VC 3 1,VC 4 1,VC 3 1,.own 120 8,VC 47 1,VC 4 1,VC 3 1,.fn 83 [] [9]]),.row 39 false,.row 138 true,.row 149 true,.row 135 true,.row 158 false,.row 39 false,.row 39 true,.row 120 true,.var 100 1 (.one (.own 53 10)),.row 53 true]⟩
def Zcf:Shape:=⟨[],[.var 177 48 (.agg [VC 39 1,VC 41 1,VC 41 1,.v 59 11 true,.v 61 3 true,VC 47 1,VC 4 1,VC 4 1,.own 39 1,VC 63 1,VC 64 1,.v 68 2 true,VC 39 1,.own 158 5,.own 39 6,VC 3 1,VC 4 1,VC 3 1,VC 3 1,VC 3 1,VC 3 1,VC 39 1,VC 3 1,VC 3 1,VC 3 1,VC 3 1,.own 39 7,VC 3 1,VC 4 1,VC 3 1,.own 120 8,VC 47 1,VC 4 1,VC 3 1,.fn 83 [] [9]]),.row 39 false,.row 138 false,.row 149 false,.row 135 false,.row 158 false,.row 39 false,.row 39 true,.row 120 true,.var 100 1 (.one (.own 53 10)),.row 53 true]⟩
noncomputable def ZcM:HMod U:=⟨[KP,k11,k0,k4],[.var k6,.row false,.row true,.row true,.row true,.row false,.row false,.row true,.row true,.var [.own 53 11],.row true],Z2f,Zcf,false,1465,fun(y:TV)=>((),((Y2 y.q0),(y.q0.Node.Ah,(y.q2,(y.q3,(y.q4,(y.q0.Node.AB.Aa,(y.q0.Node.AB.AO,(y.q0.Node.Low.AO,(y.q0.Node.Out,((),(y.q1,())))))))))))),fun x=>pJ x.1.2.1.1 (⟨x.1.2.2.1.1.Src,x.1.2.2.1.1.IV,x.1.2.2.1.1.Seq⟩:Ar) x.1.2.2.2.1.1 (match x with|⟨_,⟨v0,v2,v4,v6,v8,z,D,I,M,Q,R,S,Y,v21,v22,v23,v24,v25,v26,v27,v28,v29,v30,v31,v32,v33,v34,_⟩,v1,v3,v5,v7,v9,C,G,J,_⟩=>(⟨(⟨v0,v2,v4,v6,v8,z,D,I,v1,M,v3,(⟨v5,v7⟩:BV),(⟨Q,v9,C,R,S,Y,v21,v22⟩:EG),(⟨v23,v24,v25,v26,v27,v28,G,v29,v30,v31⟩:Df),J,v32,v33⟩:Ae),v34⟩:BJ)) x.2.2.2.2.2.2.2.2.2.2.2.1,okS rfl⟩
def Yl:Lay:=⟨[0,45,46,47],[KP,[.s 51 8],KP,KP],[.var k14,.row false,.row false,.row false,.row false,.row false,.row false,.row true,.row true,.var [.own 53 11],.row true],⟨[PQ 0,OV 310,OV 3,OV 3],[.var 177 48 (.agg [VC 39 1,VC 41 1,VC 41 1,.v 59 11 true,.v 61 3 true,VC 47 1,VC 4 1,VC 4 1,.own 39 1,VC 63 1,VC 64 1,.v 68 2 true,VC 39 1,.own 158 5,.own 39 6,VC 3 1,VC 4 1,VC 3 1,VC 3 1,VC 3 1,VC 3 1,VC 39 1,VC 3 1,VC 3 1,VC 3 1,VC 3 1,.own 39 7,VC 3 1,VC 4 1,VC 3 1,.own 120 8,VC 47 1,VC 4 1,VC 3 1,.fn 83 [] [9]]),.row 39 false,.row 138 false,.row 149 false,.row 135 false,.row 158 false,.row 39 false,.row 39 true,.row 120 true,.var 100 1 (.one (.own 53 10)),.row 53 true]⟩⟩
def Zcm:o8->BN U
 | .b0 b c d a e=>DZ f144 Z2f (((),((b,()),((c,()),((d,()),())))),((NT a),(a.Node.Ah,(a.Node.Ai,(a.Node.A7.Out,(a.Node.A7.In,(a.Node.AB.Aa,(a.Node.AB.AO,(a.Node.Low.AO,(a.Node.Out,((),(e,()))))))))))))
 | .b1 b c d a e f g h=>BB f144 [1,1,1,1,0,0,0] Yl (((),((b,()),((c,()),((d,()),())))),((Y2 a),(a.Node.Ah,(f,(g,(h,(a.Node.AB.Aa,(a.Node.AB.AO,(a.Node.Low.AO,(a.Node.Out,((),(e,()))))))))))))
 | .b2 b c d a e f g h=>BB f144 [1,1,1,1,0,0,1,1,1] Yl (((),((b,()),((c,()),((d,()),())))),((Y2 a),(a.Node.Ah,(f,(g,(h,(a.Node.AB.Aa,(a.Node.AB.AO,(a.Node.Low.AO,(a.Node.Out,((),(e,()))))))))))))
theorem Zcs:Bi Tryz.prog B0 144 ZcM:=okR (mc Z3E (mc Zec (mc Z4H (mc ZeT (mc ZfV Az))))) (hc [] Zis Aw) (al [(4,Yl),(12,Yl)]) [] [.var k14,.row false,.row false,.row false,.row false,.row false,.row false,.row true,.row true,.var [.own 53 11],.row true] 11 Zcm func144 (fun p=>by cases p<;>kernel_rfl) (by kernel_rfl) fun x=>by kernel_rfl
end
noncomputable section
inductive sD where
 | b0 (a:List Int) (b:BJ) (c:List BH)
 | b1 (a:List Int) (b:BJ) (c:List BH)
 | b2 (a:BJ) (b:List BH) (c:JS)
 | b3 (a:BJ) (b:List BH) (c:JS) (d:Ar) (e:List Ar)
 | b4 (a:BJ) (b:List BH) (c:JS) (d:Ar) (e:List Ar)
 | b5 (a:BJ) (b:List BH) (c:JS) (d:Ar) (e:Bc) (f:List Ar)
 | b6 (a:BJ) (b:List BH) (c:JS) (d:Ar) (e:Bc) (f:List Ar)
def He:sD->Tr U (JR⊕sD)
 | .b0 c a b=>let e:=Tr.chk (kL a.Node.Ah&&(kL a.Node.Cache&&(kL a.Node.Ai&&(kL a.Node.A7.Out&&(kL a.Node.A7.In&&(kL a.Node.AB.Aa&&(kL a.Node.AB.AO&&(kL a.Node.Low.AO&&(kL a.Node.Out&&kL b))))))))) (Ac (sD.b1 c a b));let d:=kl a.Node.Cache (kl a.Node.Ai (kl a.Node.A7.Out (kl a.Node.A7.In (.chk (kL a.Node.Ah&&(kL a.Node.AB.Aa&&(kL a.Node.AB.AO&&(kL a.Node.Low.AO&&(kL a.Node.Out&&(kL a.Node.Ah&&(kL a.Node.Cache&&(kL a.Node.Ai&&(kL a.Node.A7.Out&&(kL a.Node.A7.In&&(kL a.Node.AB.Aa&&(kL a.Node.AB.AO&&kL b)))))))))))) (AZ (⟨a,b,a.Node.Cache,a.Node.Ai,a.Node.A7.Out,a.Node.A7.In⟩:JR))))));.br (!a.Node.Up) d (.br (a.Node.Low.EP==3) (.br (a.Node.Low.IB==0) d e) e)
 | .b1 e b d=>let j:=kL b.Node.Ah&&(kL b.Node.Cache&&(kL b.Node.Ai&&(kL b.Node.A7.Out&&(kL b.Node.A7.In&&(kL b.Node.AB.Aa&&(kL b.Node.AB.AO&&(kL b.Node.Low.AO&&(kL b.Node.Out&&kL d))))))));.br ((↑e.length:Int)==13) (.bind 228 (O9 b.Node.Keys) (fun(h:List Bh)=>.bind 226 (uT h e) (fun(f:Fb×Int×Int)=>.br (f.2.2==0) (.bind 230 (wE b.Node.Keys b.Node.IV f.1 f.2.1 b.DL) (fun(g:EM×CY)=>.chk j (.bind 1457 (rC g.1 g.2 b d) (fun(c:Tq)=>kl c.q0.Node.Cache (kl c.q0.Node.Ai (kl c.q0.Node.A7.Out (kl c.q0.Node.A7.In (.chk (kL c.q0.Node.Ah&&(kL c.q0.Node.AB.Aa&&(kL c.q0.Node.AB.AO&&(kL c.q0.Node.Low.AO&&(kL c.q0.Node.Out&&(kL c.q0.Node.Ah&&(kL c.q0.Node.Cache&&(kL c.q0.Node.Ai&&(kL c.q0.Node.A7.Out&&(kL c.q0.Node.A7.In&&(kL c.q0.Node.AB.Aa&&(kL c.q0.Node.AB.AO&&kL c.q1)))))))))))) (AZ (⟨c.q0,c.q1,c.q0.Node.Cache,c.q0.Node.Ai,c.q0.Node.A7.Out,c.q0.Node.A7.In⟩:JR)))))))))) (kl b.Node.Cache (kl b.Node.Ai (kl b.Node.A7.Out (kl b.Node.A7.In (.chk (kL b.Node.Ah&&(kL b.Node.AB.Aa&&(kL b.Node.AB.AO&&(kL b.Node.Low.AO&&(kL b.Node.Out&&(kL b.Node.Ah&&(kL b.Node.Cache&&(kL b.Node.Ai&&(kL b.Node.A7.Out&&(kL b.Node.A7.In&&(kL b.Node.AB.Aa&&(kL b.Node.AB.AO&&kL d)))))))))))) (AZ (⟨b,d,b.Node.Cache,b.Node.Ai,b.Node.A7.Out,b.Node.A7.In⟩:JR)))))))))) (.chk j (.bind 1458 (qK e b d) (fun(a:Tn)=>let i:=kl a.q2.Node.Cache (kl a.q2.Node.Ai (kl a.q2.Node.A7.Out (kl a.q2.Node.A7.In (.chk (kL a.q2.Node.Ah&&(kL a.q2.Node.AB.Aa&&(kL a.q2.Node.AB.AO&&(kL a.q2.Node.Low.AO&&(kL a.q2.Node.Out&&(kL a.q2.Node.Ah&&(kL a.q2.Node.Cache&&(kL a.q2.Node.Ai&&(kL a.q2.Node.A7.Out&&(kL a.q2.Node.A7.In&&(kL a.q2.Node.AB.Aa&&(kL a.q2.Node.AB.AO&&kL a.q3)))))))))))) (AZ (⟨a.q2,a.q3,a.q2.Node.Cache,a.q2.Node.Ai,a.q2.Node.A7.Out,a.q2.Node.A7.In⟩:JR))))));.br (!a.q1) i (.br (a.q0.DW.Src==a.q2.Node.Address) i (.br a.q0.X7 (.fail) (.chk (kL a.q2.Node.Ah&&(kL a.q2.Node.Cache&&(kL a.q2.Node.Ai&&(kL a.q2.Node.A7.Out&&(kL a.q2.Node.A7.In&&(kL a.q2.Node.AB.Aa&&(kL a.q2.Node.AB.AO&&(kL a.q2.Node.Low.AO&&(kL a.q2.Node.Out&&kL a.q3))))))))) (Ac (.b2 a.q2 a.q3 a.q0))))))))
 | .b2 a c b=>let h:=(⟨b.DW.Src,b.DW.IV,b.DW.Seq⟩:Ar);let g:=kL a.Node.Ah&&(kL a.Node.Ai&&(kL a.Node.A7.Out&&(kL a.Node.A7.In&&(kL a.Node.AB.Aa&&(kL a.Node.AB.AO&&(kL a.Node.Low.AO&&(kL a.Node.Out&&(kL a.Node.Cache&&kL c))))))));kl a.Node.Cache (.bind 4 (RP a.Node.Cache h) (fun(e:Bool)=>.br e (kl a.Node.Cache (kl a.Node.Ai (kl a.Node.A7.Out (kl a.Node.A7.In (.chk (kL a.Node.Ah&&(kL a.Node.AB.Aa&&(kL a.Node.AB.AO&&(kL a.Node.Low.AO&&(kL a.Node.Out&&(kL a.Node.Ah&&(kL a.Node.Cache&&(kL a.Node.Ai&&(kL a.Node.A7.Out&&(kL a.Node.A7.In&&(kL a.Node.AB.Aa&&(kL a.Node.AB.AO&&kL c)))))))))))) (AZ (⟨a,c,a.Node.Cache,a.Node.Ai,a.Node.A7.Out,a.Node.A7.In⟩:JR))))))) (kl a.Node.Cache (.bind 63 (bU a.Node.Cache h) (fun(d:List Ar)=>let i:=(⟨({ a.Node with Cache:=d }:Ae),a.DL⟩:BJ);let f:=Tr.chk g (Ac (sD.b4 i c b h a.Node.Cache));.br (!b.X7) (.br a.Node.Fz (.br (decide (b.DW.EL>=2)) (.br (b.DW.Cf != a.Node.Address) (kl a.Node.Out (.br (decide ((↑a.Node.Out.length:Int)<200)) (.chk g (Ac (.b3 i c b h a.Node.Cache))) f)) f) f) f) f)))))
 | .b3 b d c f e=>.chk (kL b.Node.Ah&&(kL b.Node.Ai&&(kL b.Node.A7.Out&&(kL b.Node.A7.In&&(kL b.Node.AB.Aa&&(kL b.Node.AB.AO&&(kL b.Node.Low.AO&&(kL b.Node.Out&&kL d)))))))) (.bind 1459 (aI c.Z1l ({ c.DW with EL:=(Ad (c.DW.EL - 1)) }:CG) (Ad (b.DL+2)) b d) (fun(a:Tv)=>.chk (kL a.q1.Node.Ah&&(kL a.q1.Node.Ai&&(kL a.q1.Node.A7.Out&&(kL a.q1.Node.A7.In&&(kL a.q1.Node.AB.Aa&&(kL a.q1.Node.AB.AO&&(kL a.q1.Node.Low.AO&&(kL a.q1.Node.Out&&(kL e&&kL a.q2))))))))) (Ac (.b4 a.q1 a.q2 c f e))))
 | .b4 a b d f c=>let h:=kL a.Node.AB.Aa&&(kL a.Node.AB.AO&&kL b);.bind 240 (bG d.DW.Control d.DW.Payload) (fun(e:Bc×Int)=>let g:=Tr.chk (kL a.Node.Ah&&(kL a.Node.Ai&&(kL a.Node.A7.Out&&(kL a.Node.A7.In&&(kL a.Node.AB.Aa&&(kL a.Node.AB.AO&&(kL a.Node.Low.AO&&(kL a.Node.Out&&(kL c&&h))))))))) (Ac (sD.b6 a b d f e.1 c));.br (e.2 != 0) (kl a.Node.Ai (kl a.Node.A7.Out (kl a.Node.A7.In (.chk (kL a.Node.Ah&&(kL a.Node.AB.Aa&&(kL a.Node.AB.AO&&(kL a.Node.Low.AO&&(kL a.Node.Out&&(kL a.Node.Ah&&(kL c&&(kL a.Node.Ai&&(kL a.Node.A7.Out&&(kL a.Node.A7.In&&h)))))))))) (AZ (⟨a,b,c,a.Node.Ai,a.Node.A7.Out,a.Node.A7.In⟩:JR)))))) (.br (!d.X7) (.br (d.DW.Src != a.Node.AB.Low) (.chk (kL a.Node.Ah&&(kL a.Node.Ai&&(kL a.Node.A7.Out&&(kL a.Node.A7.In&&(kL a.Node.AB.Aa&&(kL a.Node.AB.AO&&(kL a.Node.Low.AO&&(kL a.Node.Out&&(kL c&&kL b))))))))) (Ac (.b5 a b d f e.1 c))) g) g))
 | .b5 b c d g e f=>.chk (kL b.Node.Ah&&(kL b.Node.Ai&&(kL b.Node.A7.Out&&(kL b.Node.A7.In&&(kL b.Node.AB.Aa&&(kL b.Node.AB.AO&&(kL b.Node.Low.AO&&(kL b.Node.Out&&kL c)))))))) (.bind 1460 (qZ d.DW e b c) (fun(a:Qy)=>.chk (kL a.q0.Node.Ah&&(kL a.q0.Node.Ai&&(kL a.q0.Node.A7.Out&&(kL a.q0.Node.A7.In&&(kL a.q0.Node.AB.Aa&&(kL a.q0.Node.AB.AO&&(kL a.q0.Node.Low.AO&&(kL a.q0.Node.Out&&(kL f&&(kL a.q0.Node.AB.Aa&&(kL a.q0.Node.AB.AO&&kL a.q1))))))))))) (Ac (.b6 a.q0 a.q1 d g e f))))
 | .b6 c e f h g d=>.chk (kL c.Node.Ah&&(kL c.Node.Ai&&(kL c.Node.A7.Out&&(kL c.Node.A7.In&&(kL c.Node.AB.Aa&&(kL c.Node.AB.AO&&(kL c.Node.Low.AO&&(kL c.Node.Out&&(kL c.Node.AB.Aa&&(kL c.Node.AB.AO&&kL e)))))))))) (.bind 1464 (qF f.DW.Cf c e) (fun(a:NW)=>let i:=kL a.q1.Node.AB.Aa&&(kL a.q1.Node.AB.AO&&kL a.q2);.br (!a.q0) (kl a.q1.Node.Ai (kl a.q1.Node.A7.Out (kl a.q1.Node.A7.In (.chk (kL a.q1.Node.Ah&&(kL a.q1.Node.AB.Aa&&(kL a.q1.Node.AB.AO&&(kL a.q1.Node.Low.AO&&(kL a.q1.Node.Out&&(kL a.q1.Node.Ah&&(kL d&&(kL a.q1.Node.Ai&&(kL a.q1.Node.A7.Out&&(kL a.q1.Node.A7.In&&i)))))))))) (AZ (⟨a.q1,a.q2,d,a.q1.Node.Ai,a.q1.Node.A7.Out,a.q1.Node.A7.In⟩:JR)))))) (.br g.Control (.fail) (.chk (kL a.q1.Node.Ah&&(kL a.q1.Node.Ai&&(kL a.q1.Node.A7.Out&&(kL a.q1.Node.A7.In&&(kL a.q1.Node.AB.Aa&&(kL a.q1.Node.AB.AO&&(kL a.q1.Node.Low.AO&&(kL a.q1.Node.Out&&(kL a.q1.Node.Ah&&i))))))))) (.bind 1465 (pJ f h g a.q1 a.q2) (fun(b:TV)=>.chk (kL b.q0.Node.Ah&&(kL b.q0.Node.AB.Aa&&(kL b.q0.Node.AB.AO&&(kL b.q0.Node.Low.AO&&(kL b.q0.Node.Out&&(kL b.q0.Node.Ah&&(kL d&&(kL b.q2&&(kL b.q3&&(kL b.q4&&(kL b.q0.Node.AB.Aa&&(kL b.q0.Node.AB.AO&&kL b.q1)))))))))))) (AZ (⟨b.q0,b.q1,d,b.q2,b.q3,b.q4⟩:JR))))))))
def UD (a:List Int) (b:BJ) (c:List BH):Option JR:=AY He (.b0 a b c)
def Z31:Shape:=⟨[PQ 0,OV 27],[.var 177 48 (.agg [VC 39 1,VC 41 1,VC 41 1,.v 59 11 true,.v 61 3 true,VC 47 1,VC 4 1,VC 4 1,.own 39 1,.own 49 2,.own 138 3,.own 149 4,.own 135 5,VC 39 1,.own 158 6,.own 39 7,VC 3 1,VC 4 1,VC 3 1,VC 3 1,VC 3 1,VC 3 1,VC 39 1,VC 3 1,VC 3 1,VC 3 1,VC 3 1,.own 39 8,VC 3 1,VC 4 1,VC 3 1,.own 120 9,VC 47 1,VC 4 1,VC 3 1,.fn 83 [] [10]]),.row 39 true,.row 49 true,.row 138 true,.row 149 true,.row 135 true,.row 158 true,.row 39 true,.row 39 true,.row 120 true,.var 100 1 (.one (.own 53 11)),.row 53 true]⟩
def Zdl:Shape:=⟨[],[.var 177 48 (.agg [VC 39 1,VC 41 1,VC 41 1,.v 59 11 true,.v 61 3 true,VC 47 1,VC 4 1,VC 4 1,.own 39 1,VC 63 1,VC 64 1,.v 68 2 true,VC 39 1,.own 158 6,.own 39 7,VC 3 1,VC 4 1,VC 3 1,VC 3 1,VC 3 1,VC 3 1,VC 39 1,VC 3 1,VC 3 1,VC 3 1,VC 3 1,.own 39 8,VC 3 1,VC 4 1,VC 3 1,.own 120 9,VC 47 1,VC 4 1,VC 3 1,.fn 83 [] [10]]),.row 39 false,.row 49 false,.row 138 false,.row 149 false,.row 135 false,.row 158 false,.row 39 false,.row 39 true,.row 120 true,.var 100 1 (.one (.own 53 11)),.row 53 true]⟩
noncomputable def Zes:HMod U:=⟨[KP,[.s 5 1]],[.var k2,.row true,.row true,.row true,.row true,.row true,.row true,.row true,.row true,.row true,.var [.own 53 11],.row true],Z31,Zdl,false,1456,fun(y:JR)=>((),((Y2 y.q0),(y.q0.Node.Ah,(y.q2,(y.q3,(y.q4,(y.q5,(y.q0.Node.AB.Aa,(y.q0.Node.AB.AO,(y.q0.Node.Low.AO,(y.q0.Node.Out,((),(y.q1,()))))))))))))),fun x=>UD x.1.2.1.1 (match x with|⟨_,⟨v0,v2,v4,v6,v8,z,D,I,M,R,S,Y,v21,v22,v23,v24,v25,v26,v27,v28,v29,v30,v31,v32,v33,v34,_⟩,v1,v3,v5,v7,v9,C,G,J,Q,_⟩=>(⟨(⟨v0,v2,v4,v6,v8,z,D,I,v1,v3,v5,(⟨v7,v9⟩:BV),(⟨M,C,G,R,S,Y,v21,v22⟩:EG),(⟨v23,v24,v25,v26,v27,v28,J,v29,v30,v31⟩:Df),Q,v32,v33⟩:Ae),v34⟩:BJ)) x.2.2.2.2.2.2.2.2.2.2.2.2.1,okS rfl⟩
def Z2Z:Lay:=⟨[0,1],[KP,[.s 5 1]],[.var k2,.row true,.row true,.row true,.row true,.row true,.row true,.row true,.row true,.row true,.var [.own 53 11],.row true],⟨[PQ 0,OV 27],[.var 177 48 (.agg [VC 39 1,VC 41 1,VC 41 1,.v 59 11 true,.v 61 3 true,VC 47 1,VC 4 1,VC 4 1,.own 39 1,.own 49 2,.own 138 3,.own 149 4,.own 135 5,VC 39 1,.own 158 6,.own 39 7,VC 3 1,VC 4 1,VC 3 1,VC 3 1,VC 3 1,VC 3 1,VC 39 1,VC 3 1,VC 3 1,VC 3 1,VC 3 1,.own 39 8,VC 3 1,VC 4 1,VC 3 1,.own 120 9,VC 47 1,VC 4 1,VC 3 1,.fn 83 [] [10]]),.row 39 true,.row 49 true,.row 138 true,.row 149 true,.row 135 true,.row 158 true,.row 39 true,.row 39 true,.row 120 true,.var 100 1 (.one (.own 53 11)),.row 53 true]⟩⟩
def Z3d:Lay:=⟨[0,7],[KP,KP],[.var k2,.row true,.row true,.row true,.row true,.row true,.row true,.row true,.row true,.row true,.var [.own 53 11],.row true,.var k11],⟨[PQ 0,PQ 12],[.var 177 48 (.agg [VC 39 1,VC 41 1,VC 41 1,.v 59 11 true,.v 61 3 true,VC 47 1,VC 4 1,VC 4 1,.own 39 1,.own 49 2,.own 138 3,.own 149 4,.own 135 5,VC 39 1,.own 158 6,.own 39 7,VC 3 1,VC 4 1,VC 3 1,VC 3 1,VC 3 1,VC 3 1,VC 39 1,VC 3 1,VC 3 1,VC 3 1,VC 3 1,.own 39 8,VC 3 1,VC 4 1,VC 3 1,.own 120 9,VC 47 1,VC 4 1,VC 3 1,.fn 83 [] [10]]),.row 39 true,.row 49 true,.row 138 true,.row 149 true,.row 135 true,.row 158 true,.row 39 true,.row 39 true,.row 120 true,.var 100 1 (.one (.own 53 11)),.row 53 true,VA 233 14]⟩⟩
def Yx:Lay:=⟨[0,7,9],[KP,KP,KP],[.var k6,.row true,.row false,.row true,.row true,.row true,.row true,.row true,.row true,.row true,.var [.own 53 11],.row true,.var k11,.var k0],⟨[PQ 0,PQ 12,PQ 13],[.var 177 48 (.agg [VC 39 1,VC 41 1,VC 41 1,.v 59 11 true,.v 61 3 true,VC 47 1,VC 4 1,VC 4 1,.own 39 1,VC 63 1,.own 138 3,.own 149 4,.own 135 5,VC 39 1,.own 158 6,.own 39 7,VC 3 1,VC 4 1,VC 3 1,VC 3 1,VC 3 1,VC 3 1,VC 39 1,VC 3 1,VC 3 1,VC 3 1,VC 3 1,.own 39 8,VC 3 1,VC 4 1,VC 3 1,.own 120 9,VC 47 1,VC 4 1,VC 3 1,.fn 83 [] [10]]),.row 39 true,.row 49 false,.row 138 true,.row 149 true,.row 135 true,.row 158 true,.row 39 true,.row 39 true,.row 120 true,.var 100 1 (.one (.own 53 11)),.row 53 true,VA 233 14,VA 49 3]⟩⟩
def Z38:Lay:=⟨[0,7,9,11],[KP,KP,KP,KP],[.var k6,.row true,.row false,.row true,.row true,.row true,.row true,.row true,.row true,.row true,.var [.own 53 11],.row true,.var k11,.var k0,.var k4],⟨[PQ 0,PQ 12,PQ 13,PQ 14],[.var 177 48 (.agg [VC 39 1,VC 41 1,VC 41 1,.v 59 11 true,.v 61 3 true,VC 47 1,VC 4 1,VC 4 1,.own 39 1,VC 63 1,.own 138 3,.own 149 4,.own 135 5,VC 39 1,.own 158 6,.own 39 7,VC 3 1,VC 4 1,VC 3 1,VC 3 1,VC 3 1,VC 3 1,VC 39 1,VC 3 1,VC 3 1,VC 3 1,VC 3 1,.own 39 8,VC 3 1,VC 4 1,VC 3 1,.own 120 9,VC 47 1,VC 4 1,VC 3 1,.fn 83 [] [10]]),.row 39 true,.row 49 false,.row 138 true,.row 149 true,.row 135 true,.row 158 true,.row 39 true,.row 39 true,.row 120 true,.var 100 1 (.one (.own 53 11)),.row 53 true,VA 233 14,VA 49 3,VA 156 10]⟩⟩
def Z3a:Lay:=⟨[0,7,9,11],[KP,KP,KP,KP],[.var k6,.row true,.row false,.row true,.row true,.row true,.row false,.row false,.row true,.row true,.var [.own 53 11],.row true,.var k11,.var k0,.var k4],⟨[PQ 0,PQ 12,PQ 13,PQ 14],[.var 177 48 (.agg [VC 39 1,VC 41 1,VC 41 1,.v 59 11 true,.v 61 3 true,VC 47 1,VC 4 1,VC 4 1,.own 39 1,VC 63 1,.own 138 3,.own 149 4,.own 135 5,VC 39 1,.own 158 6,.own 39 7,VC 3 1,VC 4 1,VC 3 1,VC 3 1,VC 3 1,VC 3 1,VC 39 1,VC 3 1,VC 3 1,VC 3 1,VC 3 1,.own 39 8,VC 3 1,VC 4 1,VC 3 1,.own 120 9,VC 47 1,VC 4 1,VC 3 1,.fn 83 [] [10]]),.row 39 true,.row 49 false,.row 138 true,.row 149 true,.row 135 true,.row 158 false,.row 39 false,.row 39 true,.row 120 true,.var 100 1 (.one (.own 53 11)),.row 53 true,VA 233 14,VA 49 3,VA 156 10]⟩⟩
def ZdY:sD->BN U
 | .b0 b a c=>DZ f100 Z31 (((),((b,()),())),((IL a),(a.Node.Ah,(a.Node.Cache,(a.Node.Ai,(a.Node.A7.Out,(a.Node.A7.In,(a.Node.AB.Aa,(a.Node.AB.AO,(a.Node.Low.AO,(a.Node.Out,((),(c,())))))))))))))
 | .b1 b a c=>BB f100 [1,0,0] Z2Z (((),((b,()),())),((IL a),(a.Node.Ah,(a.Node.Cache,(a.Node.Ai,(a.Node.A7.Out,(a.Node.A7.In,(a.Node.AB.Aa,(a.Node.AB.AO,(a.Node.Low.AO,(a.Node.Out,((),(c,())))))))))))))
 | .b2 a b c=>BB f100 [1,1,1,1,0] Z3d (((),((),())),((IL a),(a.Node.Ah,(a.Node.Cache,(a.Node.Ai,(a.Node.A7.Out,(a.Node.A7.In,(a.Node.AB.Aa,(a.Node.AB.AO,(a.Node.Low.AO,(a.Node.Out,((),(b,((c,()),()))))))))))))))
 | .b3 a b c d e=>BB f100 [1,1,1,1,1,1,1,0,1,0,0] Yx (((),((),((),()))),((NT a),(a.Node.Ah,(e,(a.Node.Ai,(a.Node.A7.Out,(a.Node.A7.In,(a.Node.AB.Aa,(a.Node.AB.AO,(a.Node.Low.AO,(a.Node.Out,((),(b,((c,()),((d,()),())))))))))))))))
 | .b4 a b c d e=>BB f100 [1,1,1,1,1,1,1,1,0] Yx (((),((),((),()))),((NT a),(a.Node.Ah,(e,(a.Node.Ai,(a.Node.A7.Out,(a.Node.A7.In,(a.Node.AB.Aa,(a.Node.AB.AO,(a.Node.Low.AO,(a.Node.Out,((),(b,((c,()),((d,()),())))))))))))))))
 | .b5 a b c d e f=>BB f100 [1,1,1,1,1,1,1,1,1,1,0,1,0] Z38 (((),((),((),((),())))),((NT a),(a.Node.Ah,(f,(a.Node.Ai,(a.Node.A7.Out,(a.Node.A7.In,(a.Node.AB.Aa,(a.Node.AB.AO,(a.Node.Low.AO,(a.Node.Out,((),(b,((c,()),((d,()),((e,()),()))))))))))))))))
 | .b6 a b c d e f=>BB f100 [1,1,1,1,1,1,1,1,1,1,1,0,0] Z3a (((),((),((),((),())))),((NT a),(a.Node.Ah,(f,(a.Node.Ai,(a.Node.A7.Out,(a.Node.A7.In,(a.Node.AB.Aa,(a.Node.AB.AO,(a.Node.Low.AO,(a.Node.Out,((),(b,((c,()),((d,()),((e,()),()))))))))))))))))
theorem ZdT:Bi Tryz.prog B0 100 Zes:=okR (mc Zf3 (mc aQ (mc ZgV (mc Z4Y (mc ZeM (mc Zeg Az)))))) (hc [] Zdm (hc [] Zd4 (hc [] Zdz (hc [] Zd2 (hc [] Zdp (hc [] Zcs Aw)))))) (al [(1,Z2Z),(7,Z3d),(11,Yx),(14,Yx),(17,Z38),(19,Z3a)]) [] [.var k14,.row false,.row false,.row false,.row false,.row false,.row false,.row false,.row true,.row true,.var [.own 53 11],.row true] 12 ZdY func100 (fun p=>by cases p<;>kernel_rfl) (by kernel_rfl) fun x=>by kernel_rfl
inductive wV where
 | b0 (a:BJ) (b:List Int) (c:List BH)
def Z5G:wV->Tr U (Ud⊕wV)
 | .b0 b c d=>.chk (kL b.Node.Ah&&(kL b.Node.Cache&&(kL b.Node.Ai&&(kL b.Node.A7.Out&&(kL b.Node.A7.In&&(kL b.Node.AB.Aa&&(kL b.Node.AB.AO&&(kL b.Node.Low.AO&&(kL b.Node.Out&&kL d))))))))) (.bind 1456 (UD c b d) (fun(a:JR)=>.chk (kL a.q0.Node.Ah&&(kL a.q0.Node.AB.Aa&&(kL a.q0.Node.AB.AO&&(kL a.q0.Node.Low.AO&&(kL a.q0.Node.Out&&(kL a.q0.Node.Ah&&(kL a.q2&&(kL a.q3&&(kL a.q4&&(kL a.q5&&(kL a.q0.Node.AB.Aa&&(kL a.q0.Node.AB.AO&&kL a.q1)))))))))))) (AZ (⟨a.q0,c,a.q1,a.q2,a.q3,a.q4,a.q5⟩:Ud))))
def wU (a:BJ) (b:List Int) (c:List BH):Option Ud:=AY Z5G (.b0 a b c)
def Z4u:Shape:=⟨[PQ 0,PQ 1],[.var 177 48 (.agg [VC 39 1,VC 41 1,VC 41 1,.v 59 11 true,.v 61 3 true,VC 47 1,VC 4 1,VC 4 1,.own 39 2,.own 49 3,.own 138 4,.own 149 5,.own 135 6,VC 39 1,.own 158 7,.own 39 8,VC 3 1,VC 4 1,VC 3 1,VC 3 1,VC 3 1,VC 3 1,VC 39 1,VC 3 1,VC 3 1,VC 3 1,VC 3 1,.own 39 9,VC 3 1,VC 4 1,VC 3 1,.own 120 10,VC 47 1,VC 4 1,VC 3 1,.fn 83 [] [11]]),.var 27 1 (OV 27),.row 39 true,.row 49 true,.row 138 true,.row 149 true,.row 135 true,.row 158 true,.row 39 true,.row 39 true,.row 120 true,.var 100 1 (.one (.own 53 12)),.row 53 true]⟩
def Zg2:Shape:=⟨[],[.var 177 48 (.agg [VC 39 1,VC 41 1,VC 41 1,.v 59 11 true,.v 61 3 true,VC 47 1,VC 4 1,VC 4 1,.own 39 2,VC 63 1,VC 64 1,.v 68 2 true,VC 39 1,.own 158 7,.own 39 8,VC 3 1,VC 4 1,VC 3 1,VC 3 1,VC 3 1,VC 3 1,VC 39 1,VC 3 1,VC 3 1,VC 3 1,VC 3 1,.own 39 9,VC 3 1,VC 4 1,VC 3 1,.own 120 10,VC 47 1,VC 4 1,VC 3 1,.fn 83 [] [11]]),.var 27 1 (OV 27),.row 39 false,.row 49 false,.row 138 false,.row 149 false,.row 135 false,.row 158 false,.row 39 false,.row 39 true,.row 120 true,.var 100 1 (.one (.own 53 12)),.row 53 true]⟩
noncomputable def ZhN:HMod U:=⟨[KP,KP],[.var k2,.var [.s 5 1],.row true,.row true,.row true,.row true,.row true,.row true,.row true,.row true,.row true,.var [.own 53 11],.row true],Z4u,Zg2,false,1455,fun(y:Ud)=>((),((Y2 y.q0),((y.q1,()),(y.q0.Node.Ah,(y.q3,(y.q4,(y.q5,(y.q6,(y.q0.Node.AB.Aa,(y.q0.Node.AB.AO,(y.q0.Node.Low.AO,(y.q0.Node.Out,((),(y.q2,())))))))))))))),fun x=>wU (match x with|⟨_,⟨v0,v1,v3,v5,v7,v9,C,G,J,Q,S,Y,v21,v22,v23,v24,v25,v26,v27,v28,v29,v30,v31,v32,v33,v34,_⟩,_,v2,v4,v6,v8,z,D,I,M,R,_⟩=>(⟨(⟨v0,v1,v3,v5,v7,v9,C,G,v2,v4,v6,(⟨v8,z⟩:BV),(⟨J,D,I,Q,S,Y,v21,v22⟩:EG),(⟨v23,v24,v25,v26,v27,v28,M,v29,v30,v31⟩:Df),R,v32,v33⟩:Ae),v34⟩:BJ)) x.2.2.1.1 x.2.2.2.2.2.2.2.2.2.2.2.2.2.1,okS rfl⟩
def Zhd:wV->BN U
 | .b0 a b c=>DZ f99 Z4u (((),((),())),((IL a),((b,()),(a.Node.Ah,(a.Node.Cache,(a.Node.Ai,(a.Node.A7.Out,(a.Node.A7.In,(a.Node.AB.Aa,(a.Node.AB.AO,(a.Node.Low.AO,(a.Node.Out,((),(c,()))))))))))))))
theorem ZhB:Bi Tryz.prog B0 99 ZhN:=okR Az (hc [] ZdT Aw) AN [] [.var k14,.var [.s 5 1],.row false,.row false,.row false,.row false,.row false,.row false,.row false,.row true,.row true,.var [.own 53 11],.row true] 13 Zhd func99 (fun p=>by cases p<;>kernel_rfl) (by kernel_rfl) fun x=>by kernel_rfl
inductive yI where
 | b0 (a:Ae) (b:Int) (c:List Int)
def Z63:yI->Tr U (Uf⊕yI)
 | .b0 c d e=>.bind 1435 (QT c) (fun(b:Oo)=>.chk (kL b.q0.Ah&&(kL b.q0.Cache&&(kL b.q0.Ai&&(kL b.q0.A7.Out&&(kL b.q0.A7.In&&(kL b.q0.AB.Aa&&(kL b.q0.AB.AO&&(kL b.q0.Low.AO&&(kL b.q0.Out&&true))))))))) (.bind 1455 (wU (⟨b.q0,d⟩:BJ) e ([]:List BH)) (fun(a:Ud)=>.chk (kL a.q0.Node.Ah&&(kL a.q0.Node.AB.Aa&&(kL a.q0.Node.AB.AO&&(kL a.q0.Node.Low.AO&&(kL a.q0.Node.Out&&(kL a.q2&&(kL a.q0.Node.Ah&&(kL a.q0.Node.AB.Aa&&kL a.q0.Node.AB.AO)))))))) (AZ (⟨a.q0.Node,a.q2,a.q1⟩:Uf)))))
def yC (a:Ae) (b:Int) (c:List Int):Option Uf:=AY Z63 (.b0 a b c)
def Z56:Shape:=⟨[.agg [.v 76 46 true],OV 3,.one (.fn 99 [] [0])],[.var 27 1 (OV 27)]⟩
def ZgQ:Shape:=⟨[.agg [VC 39 1,VC 41 1,VC 41 1,.v 59 11 true,.v 61 3 true,VC 47 1,VC 4 1,VC 4 1,.own 39 1,VC 63 1,VC 64 1,.v 68 2 true,VC 39 1,.own 158 2,.own 39 3,VC 3 1,VC 4 1,VC 3 1,VC 3 1,VC 3 1,VC 3 1,VC 39 1,VC 3 1,VC 3 1,VC 3 1,VC 3 1,.own 39 4,VC 3 1,VC 4 1,VC 3 1,.own 120 5,VC 47 1,VC 4 1],.one (.own 53 6)],[.var 27 1 (OV 27),.row 39 false,.row 158 false,.row 39 false,.row 39 true,.row 120 true,.row 53 true]⟩
noncomputable def Zjq:HMod U:=⟨[k1,KP,KP],[.var [.s 5 1]],Z56,ZgQ,false,1454,fun(y:Uf)=>(((y.q0.Address,(y.q0.Device,(y.q0.App,(y.q0.Keys,(y.q0.IV,(y.q0.Seq,(y.q0.Fz,(y.q0.Hg,(y.q0.Cache,(y.q0.Ai,(y.q0.A7,(y.q0.AB.Low,(y.q0.AB.Ed,(y.q0.AB.Sent,(y.q0.AB.Hz,(y.q0.AB.Counter,(y.q0.AB.Dropped,(y.q0.Low.EP,(y.q0.Low.AB,(y.q0.Low.Ed,(y.q0.Low.Counter,(y.q0.Low.Em,(y.q0.Low.IB,(y.q0.Low.Told,(y.q0.Low.More,(y.q0.Low.Last,(y.q0.G8,(y.q0.Up,())))))))))))))))))))))))))))),((),())),((y.q2,()),(y.q0.Ah,(y.q0.AB.Aa,(y.q0.AB.AO,(y.q0.Low.AO,(y.q0.Out,(y.q1,())))))))),fun x=>yC x.1.1.1 x.1.2.1.1 x.2.1.1,okS rfl⟩
def Zik:yI->BN U
 | .b0 a b c=>DZ f52 Z56 (((a,()),((b,()),((),()))),((c,()),()))
theorem ZiG:Bi Tryz.prog B0 52 Zjq:=okR Az (hc [] fP (hc [] ZhB Aw)) AN [[.keep,.keep,.keep,.keep,.keep,.keep,.keep,.keep,.keep,.keep,.keep,.keep,.keep,.keep,.keep,.keep,.keep,.keep,.keep,.keep,.own 39 1,.s 49 3,.s 138 3,.s 149 10,.s 135 11,.keep,.own 158 18,.own 39 1,.keep,.keep,.keep,.keep,.keep,.keep,.keep,.keep,.keep,.keep,.keep,.own 39 1,.keep,.keep,.keep,.own 120 3,.keep,.keep],[.own 53 11]] [.var [.s 5 1],.row false,.row false,.row false,.row true,.row true,.row true] 1 Zik func52 (fun p=>by cases p<;>kernel_rfl) (by kernel_rfl) fun x=>by kernel_rfl
def Z6y:S1 (Ae×(List Int)×Int×Unit) (Ae×(List BH))
 | (b,c,d,_)=>.bind 1454 (yC b d c) (fun(a:Uf)=>kl a.q0.Ah (kl a.q0.AB.Aa (kl a.q0.AB.AO (kl a.q0.Low.AO (kl a.q0.Out (kl a.q1 (AZ (a.q0,a.q1))))))))
def XJ (a:Ae) (b:List Int) (c:Int):Option (Ae×(List BH)):=AY Z6y (a,b,c,())
theorem XC:AA1 73 [76,27,3] 128 (fun x=>XJ x.1 x.2.1 x.2.2.1) rfl:=ok1 Az (hc [99] ZiG Aw) func73 (fun _=>by kernel_rfl) (by kernel_rfl)
inductive RH where
 | b1 (a:List CS) (b:Aq)
 | b2 (a:List CS) (b c:Int) (d:Aq)
def N7:RH->Tr U (QM⊕RH)
 | .b1 b a=>.chk (kL a.Ak&&(kL a.BA&&(kL a.BG&&(kL a.Flight&&(kL a.Notes&&kL a.BG))))) (Ac (.b2 b (↑b.length:Int) (0:Int) a))
 | .b2 e g d a=>let k:=kL a.BA&&(kL a.BG&&(kL a.Flight&&(kL a.Notes&&kL a.BG)));.br (decide (d<g)) (.chk (kI d e) (.bind 106 (e[(Int.toNat d)]?) (fun(b:CS)=>let m:=kI b.To a.Ak;let j:=Int.toNat b.To;kl a.Ak (.chk m (kl a.Ak (.bind 76 (a.Ak[j]?) (fun(h:Ae)=>.bind 128 (XJ h b.Bytes a.Now) (fun(f:Ae×(List BH))=>let l:=a.Ak.set j f.1;kl a.Ak (.chk m (.chk (a.Ak.length==a.Ak.length&&decide (0<=j)) (.bind 76 (a.Ak[j]?) (fun(i:Ae)=>.chk ((l.length==a.Ak.length)&&k) (.bind 1429 (Uc b.To f.2 ({ a with Ak:=l }:Aq)) (fun(c:QO)=>.chk (kL c.q0.Ak&&(kL c.q0.BA&&(kL c.q0.BG&&(kL c.q0.Flight&&(kL c.q0.Notes&&kL c.q0.BG))))) (Ac (.b2 e g (Ad (d+1)) c.q0)))))))))))))))) (.chk (kL a.Ak&&k) (AZ (⟨a⟩:QM)))
def NI (a:Aq):Bool:=(decide (a.Flight.length<=100000)&&a.Flight.all fun h=>h.Em==a.Now)&&(decide (a.Now<1000000000)&&decide (0<=a.Now))
def U1 (a:Aq):Option QM:=bif NI a then AY N7 (.b1 a.Flight ({ a with Flight:=[] }:Aq)) else none
def Z41:Shape:=⟨[PQ 0],[.var 33 7 (ET 1),.row 76 true,.row 79 true,.row 113 false,.row 106 true,.row 55 true]⟩
def ZeI:Shape:=⟨[],[.var 33 7 (ET 6),.gone,.gone,.gone,.gone,.gone,.row 76 true,.row 79 true,.row 113 false,.row 106 true,.row 55 true]⟩
noncomputable def Z4K:HMod U:=⟨[KP],[.var [.own 76 46,.own 79 2,.own 113 2,.keep,.keep,.own 106 4,.own 55 13],.row true,.row true,.row false,.row true,.row true],Z41,ZeI,false,1431,fun(y:QM)=>((),(NS y.q0)),fun x=>U1 (match x with|⟨_,⟨z,D,_⟩,C,G,v4,I,J,_⟩=>(⟨C,G,v4,z,D,I,J⟩:Aq)),okS rfl⟩
def Z4a:Lay:=⟨[0,5],[KP,[.s 106 4]],[.var [.own 76 46,.own 79 2,.own 113 2,.keep,.keep,.own 106 4,.own 55 13],.row true,.row true,.row false,.row true,.row true],⟨[PQ 0,OV 30],[.var 33 7 (ET 1),.row 76 true,.row 79 true,.row 113 false,.row 106 true,.row 55 true]⟩⟩
def Z42:Lay:=⟨[0,51,52,53],[KP,[.s 106 4],KP,KP],[.var [.own 76 46,.own 79 2,.own 113 2,.keep,.keep,.own 106 4,.own 55 13],.row true,.row true,.row false,.row true,.row true],⟨[PQ 0,OV 30,OV 3,OV 3],[.var 33 7 (ET 1),.row 76 true,.row 79 true,.row 113 false,.row 106 true,.row 55 true]⟩⟩
def UY:RH->BN U
 | .b1 a b=>BB f43 [1,1,1,1,1,0] Z4a (((),((a,()),())),(NS b))
 | .b2 a b c d=>BB f43 [1,1,1,1,1,1,0,0,0] Z42 (((),((a,()),((b,()),((c,()),())))),(NS d))
def iZ:Shape:=⟨[],[.var 33 7 (ET 1),.row 76 true,.row 79 true,.row 113 false,.row 106 true,.row 55 true]⟩
theorem Zfc:∀p,Le.Dv (EV Tryz.prog gl 72 (mc XC Az).1 (hc [] RJ Aw).1 Hu) (ND (mc XC Az).1 (hc [] RJ Aw).1 Hu.tab) (al [(9,Z4a),(10,Z42)]) 43 f43 1 (Qb (EV Tryz.prog gl 72 (mc XC Az).1 (hc [] RJ Aw).1 Hu) f43 [] [.var [.own 76 46,.own 79 2,.own 113 2,.keep,.keep,.own 106 4,.own 55 13],.row true,.row true,.row false,.row true,.row true] 1 iZ false) 1000 (.run (UY p).c) (UY p).K (UY p).st (UY p).sk=(N7 p).map (Nw (fun y=>nI false iZ ((fun(y:QM)=>((),((y.q0.Count,(y.q0.Now,())),(y.q0.Ak,(y.q0.BA,(y.q0.BG,(y.q0.Flight,(y.q0.Notes,())))))))) y)) UY):=fun p=>by cases p<;>kernel_rfl
def Vb (l:List CS):List nN:=l.map fun h=>(h.From,h.To,V.sl false 1 (h.Bytes.map fun n=>.lit (.int .u8 n)))
theorem Zmr (l:List CS) (now:Int) (h:l.all (fun h=>h.Em==now)=true):l.map (U.enc 106)=(Vb l).map (TD now):=by
 unfold Vb;rw[List.map_map];refine List.map_congr_left fun x z=>?_;have:=List.all_eq_true.1 h x z;rw[<- beq_iff_eq.1 this];rfl
theorem ZoZ (l:List CS):∀h∈Vb l,DU h.2.2=true:=by
 intro h hh;obtain⟨x,C,rfl⟩:=List.mem_map.1 hh;simp only[DU,okV,Bz,Bool.true_and];refine(JU _).2 fun y z=>?_;obtain⟨n,_,rfl⟩:=List.mem_map.1 z;rfl
theorem Ztj {now:Int} (z:0<=now) (C:now<1000000000):(Lit.int .i64 now).wf=true:=by
 simp[Lit.wf,IntKind.min,IntKind.max,IntKind.signed,IntKind.bits];omega
def arrP (x:(Z41).X U):Option RH:=match x with
 | ⟨_,⟨z,D,_⟩,C,G,v4,I,J,_⟩=>bif NI ⟨C,G,v4,z,D,I,J⟩ then some (.b1 I ⟨C,G,v4,z,D,[],J⟩) else none
theorem Zg5:Bi Tryz.prog B0 43 Z4K:=
 Zop (kv:=1) (d:=5) (f0:=72) (c:=Gm f43) (c0:=Gm f72) rfl (jT _ rfl) FO (mc XC Az).2 (hc [] RJ Aw).2 func72 (by kernel_rfl) (by kernel_rfl) (by kernel_rfl) func43 (by kernel_rfl) (by kernel_rfl) Z4K (fun x=>by kernel_rfl) iZ (fun y=>nI false iZ ((fun(y:QM)=>((),((y.q0.Count,(y.q0.Now,())),(y.q0.Ak,(y.q0.BA,(y.q0.BG,(y.q0.Flight,(y.q0.Notes,())))))))) y)) (fun y=>by kernel_rfl)
  N7 UY Zfc arrP (fun x=>by
   obtain⟨_,⟨M,J,_⟩,D,G,v4,z,I,_⟩:=x;show U1 ⟨D,G,v4,M,J,z,I⟩=(bif NI ⟨D,G,v4,M,J,z,I⟩ then some (.b1 z ⟨D,G,v4,M,J,[],I⟩) else none:Option RH).bind (AY N7);unfold U1;cases NI ⟨D,G,v4,M,J,z,I⟩<;>rfl) (fun x p hp=>by
   obtain⟨_,⟨M,J,_⟩,D,G,v4,z,I,_⟩:=x;have C : (bif NI ⟨D,G,v4,M,J,z,I⟩ then some (.b1 z ⟨D,G,v4,M,J,[],I⟩) else none:Option RH)=some p:=hp;cases h:NI ⟨D,G,v4,M,J,z,I⟩ with
   | false=>rw[h]at C;cases C
   | true=>
    rw[h]at C;cases C;exact⟨by kernel_rfl,by kernel_rfl⟩) (fun x p hp B w0 σ w vs Z hmp hI hG hr hJ=>by
   obtain⟨_,⟨M,J,_⟩,D,G,v4,z,I,_⟩:=x;have C : (bif NI ⟨D,G,v4,M,J,z,I⟩ then some (.b1 z ⟨D,G,v4,M,J,[],I⟩) else none:Option RH)=some p:=hp;cases h:NI ⟨D,G,v4,M,J,z,I⟩ with
   | false=>rw[h]at C;cases C
   | true=>
    rw[h]at C;cases C;simp only[NI,Bool.and_eq_true,decide_eq_true_eq]at h;obtain⟨⟨hl,hd⟩,hn1,hn0⟩:=h;have hm:=Zmr z J hd;have hk:=Ztj hn0 hn1;have Q : Le.Inv B w0 σ [Pg D.length G.length v4.length z.length I.length M J,BQ U (.row 76 D none),BQ U (.row 79 G none),BQ U (.row 113 v4 (some v4.length)),⟨true,true,false,106,4,z.map (U.enc 106),0⟩,BQ U (.row 55 I none)] w:=hI;have hR:TE (getR (Gm f43)) (Gm f43)=Gm f43:=by kernel_rfl
    have hb:f43.body=some (Gm f43):=by kernel_rfl
    have key:∀(σ' : Sg) (a:Act) (w' : World),Le.EK (EV Tryz.prog gl 72 (mc XC Az).1 (hc [] RJ Aw).1 Hu) B w0 σ' ⟨VW (z.map (U.enc 106)),[Pg D.length G.length v4.length 0 I.length M J,BQ U (.row 76 D none),BQ U (.row 79 G none),BQ U (.row 113 v4 (some v4.length)),⟨true,true,false,106,4,[],0⟩,BQ U (.row 55 I none)]⟩ a w' -> Hq 1 σ w σ' w' ->
      (getR (Gm f43)).wp Tryz.prog (QK Tryz.prog Z []) a w' :=fun σ' a w' Y R=>wp_seq (hJ σ' a w' Y R)
    rw[<- hR];have hrw:∀b∈[BQ U (.row 76 D none),BQ U (.row 79 G none),BQ U (.row 113 v4 (some v4.length)),BQ U (.row 55 I none)],b.row=true:=by
     intro b hb;simp at hb;rcases hb with rfl|rfl|rfl|rfl<;>rfl
    rw[hm]at Q key;have S:z.length=(Vb z).length:=by simp[Vb]
    rw[S]at Q;rcases Nat.eq_zero_or_pos (Vb z).length with h0|h0
    ·have h0' :=List.length_eq_zero_iff.1 h0;rw[h0']at Q key;exact ZoH Q hG hr hk _ _ key _ hb
    ·exact Zpz h0 (by omega) Q hmp hG hrw (ZoZ z) hr hk _ _ key _ hb)
end
end Go.Proofs.YteinepnbndegdaaGreat
