import Derived.Test.YtpapbbojmclkgaaGreatDoorF0
import Derived.Test.YtpapbbojmclkgaaGreatDoorF1
import Derived.Test.YtpapbbojmclkgaaGreatDoorF2
import Derived.Test.YtpapbbojmclkgaaGreatDoorF3
import Derived.Test.YtpapbbojmclkgaaGreatDoorF4
import Derived.Test.YtpapbbojmclkgaaGreatDoorF5
import Derived.Test.YtpapbbojmclkgaaGreatDoorLays
set_option linter.all false
set_option maxRecDepth 100000
namespace Go.Proofs.YtpapbbojmclkgaaGreatDoor
open Go Go.Abs
def tbl:List (Nat×Abs.Fn):=[(6,xF),(8,Jw),(9,vV),(10,Ed),(11,Hm),(12,Gu),(13,JE),(14,Ai),(15,Hl),(17,B7),(19,F5),(20,yO),(21,F2),(22,Hn),(23,F3),(26,Li),(28,Ec),(29,Jx),(30,DI),(31,DJ),(32,F7),(33,mA),(34,B6),(35,Gr),(36,Cb),(38,vl),(39,yP),(43,vc),(44,wI),(47,Em),(49,Hk),(50,Jv),(51,B5),(52,DH),(53,F0),(54,Eb),(55,F4),(56,FY),(57,F1),(60,m8),(61,Ak),(62,Gs),(63,Ap),(64,Gw),(65,Gv),(66,JF),(67,HC),(68,Hz),(69,HD),(70,HA),(71,oX),(72,Aj),(76,Es),(77,Gq),(78,FX),(79,FW),(80,FZ),(81,Hj),(84,ve),(85,B9),(86,Ca),(87,Gx),(88,Gc),(89,Gb),(90,Gi),(91,Ao),(92,An),(93,yW),(94,Ht),(95,vi),(96,Jy),(97,En),(98,HB),(99,yV),(100,Gt),(101,Hy),(102,Hu),(103,Lf),(104,vj),(105,Gh),(106,Gp),(107,xP),(108,Ej),(109,Ga),(110,rJ),(114,mO),(115,xY),(116,lU),(117,wV),(118,DQ),(119,wX),(120,gA),(121,mP),(122,Hx),(126,DK),(127,F6),(128,B8),(129,F8),(130,Lg),(131,Hq),(132,JC),(133,Lh),(134,JD),(135,yU),(136,Gl),(137,wP),(138,Gd),(139,Gj),(140,Hv),(141,Gg),(142,Cc),(143,Gn),(149,gz),(150,lf),(151,HH),(152,fP),(153,kD),(154,um),(155,wW),(156,ji),(157,lg),(158,Ek),(160,wJ),(161,wN),(162,yQ),(163,xN),(164,wL),(165,yR),(166,xJ),(167,xG),(168,wM),(169,xL),(170,xI),(171,xM),(172,xK),(174,Hp),(175,Hr),(176,Ho),(177,Hw),(178,Jz),(179,Gf),(180,Ei),(181,JB),(182,Gm),(183,Ge),(184,Gk),(185,Hs),(191,jh),(192,iE),(193,vA),(194,uo),(195,El),(199,yL),(200,Ee),(201,zh),(202,DO),(203,su),(204,kK),(205,ue),(206,HE),(207,u6),(208,vg),(209,wK),(210,Ju),(211,DP),(212,xH),(213,wT),(214,As),(215,uh),(216,vf),(217,Al),(218,GA),(219,Eg),(220,Ef),(223,JA),(226,lT),(227,sU),(232,xD),(233,xW),(234,Cf),(235,Lj),(236,xR),(237,FU),(238,tG),(239,uc),(240,FR),(241,xC),(242,FT),(243,va),(244,wH),(245,AA),(246,zi),(247,AB),(248,nA),(249,vd),(250,DM),(251,Gy),(252,Ax),(253,HF),(254,yZ),(255,JH),(256,Au),(257,xU),(258,yT),(259,Az),(260,wU),(261,Ck),(262,Cm),(263,F9),(264,vh),(265,yS),(266,Cj),(267,Ci),(273,ov),(279,xE),(280,Er),(281,vm),(282,Ay),(283,Gz),(284,DN),(285,wQ),(286,y7),(287,zb),(288,zc),(289,zg),(290,pV),(291,sj),(292,FV),(293,wF),(294,DG),(295,vb),(296,Ea),(297,yM),(298,yN),(299,B0),(300,pD),(301,wY),(302,Ce),(303,zf),(304,xB),(305,ui),(306,Ep),(307,uk),(308,HG),(309,Eh),(310,uf),(311,wO),(312,xX),(313,so),(314,DL),(315,xV),(316,Am),(322,mX),(323,tJ),(324,mW),(325,uj),(326,Eo),(327,zd),(328,wR),(329,Ah),(330,sw),(331,yY),(332,ki),(333,xS),(334,Aq),(335,Ar),(336,Cg),(337,Aw),(338,xT),(339,u7),(340,wG),(341,lN),(342,sr),(343,wS),(344,JG),(345,Av),(346,xQ),(347,y9),(348,mw),(349,sn),(350,kX),(351,pW),(352,xO),(355,oZ),(356,oY),(357,Ch),(358,tI),(359,Cd),(360,ze),(361,za),(362,vk),(363,y8),(364,sk),(365,ud),(366,nT),(367,oh),(368,m6),(369,yX),(370,mz),(371,tH),(372,oi),(1000000+37,⟨9,[],.exit 0⟩),(1000000+40,⟨5244727,[],.exit 0⟩),(1000000+41,⟨5,[],.exit 0⟩),(1000000+42,⟨3,[],.exit 0⟩),(1000000+45,⟨5244728,[],.exit 0⟩),(1000000+125,⟨6,[],.exit 0⟩),(1000000+173,⟨6532,[],.exit 0⟩)]
def T:DB:=λf=>(tbl.find? λp=>p.1 == f).map (·.2)
theorem Mk:T 9=some vV:=rfl
theorem FE:T 60=some m8:=rfl
theorem P9:T 63=some Ap:=rfl
theorem Ba:T 114=some mO:=rfl
theorem z7:T 116=some lU:=rfl
theorem lM:T 120=some gA:=rfl
theorem Bb:T 121=some mP:=rfl
theorem tQ:T 149=some gz:=rfl
theorem yC:T 150=some lf:=rfl
theorem sS:T 152=some fP:=rfl
theorem yi:T 153=some kD:=rfl
theorem ng:T 156=some ji:=rfl
theorem yD:T 157=some lg:=rfl
theorem vt:T 191=some jh:=rfl
theorem uV:T 192=some iE:=rfl
theorem Iu:T 193=some vA:=rfl
theorem Qa:T 214=some As:=rfl
theorem KM:T 215=some uh:=rfl
theorem z6:T 226=some lT:=rfl
theorem GI:T 227=some sU:=rfl
theorem CJ:T 273=some ov:=rfl
theorem mixed:Tryz.prog.follows .mixedOrders=true:=by kernel_rfl
theorem CI:T 37=none:=rfl
theorem CF:T (1000000+37)=some ⟨9,[],.exit 0⟩:=rfl
theorem wC:T 40=none:=rfl
theorem wB:T (1000000+40)=some ⟨5244727,[],.exit 0⟩:=rfl
theorem KP:T 41=none:=rfl
theorem KJ:T (1000000+41)=some ⟨5,[],.exit 0⟩:=rfl
theorem KO:T 42=none:=rfl
theorem KI:T (1000000+42)=some ⟨3,[],.exit 0⟩:=rfl
theorem A9:T 45=none:=rfl
theorem AZ:T (1000000+45)=some ⟨5244728,[],.exit 0⟩:=rfl
theorem JY:T 125=none:=rfl
theorem JW:T (1000000+125)=some ⟨6,[],.exit 0⟩:=rfl
theorem KN:T 173=none:=rfl
theorem KH:T (1000000+173)=some ⟨6532,[],.exit 0⟩:=rfl
def FOk(f:Nat)(fn:Abs.Fn):Prop:=if f<1000000 then aeK Tryz.prog f fn else fn.body=.exit 0/\yg Tryz.prog (jc Tryz.prog) fn.SQ (f-1000000)
theorem fok{f:Nat}{fn:Abs.Fn}(h:f<1000000)(h':aeK Tryz.prog f fn):FOk f fn:=by unfold FOk;rw[if_pos h];exact h'
theorem nok{k f:Nat}(h':yg Tryz.prog (jc Tryz.prog) k f):FOk (1000000+f) ⟨k,[],.exit 0⟩:=by unfold FOk;rw[if_neg (by omega),show 1000000+f-1000000=f from by omega];exact⟨rfl,h'⟩
theorem kok{t:List (Nat×tT×Abs.Fn)}(h:(t.map λp=>chk p)=t.map λp=>some p.2.2):∀p∈t,FOk p.1 p.2.2:=by
 intro p hp;have h1:=(List.map_inj_left.1 h) p hp;unfold chk at h1;simp only[ak]at h1;obtain⟨F,h2,h3⟩:=h1;split at h3
 .rename_i hc;simp only[ah,bne_iff_ne,aB,dJ]at hc;obtain⟨h4,⟨c,h5⟩,h6⟩:=hc;exact fok h6 ⟨F,c,p.2.1,h2,h4,h5,h3⟩
 .cases h3
theorem alN:∀p∈[(1000000+37,(⟨9,[],.exit 0⟩:Abs.Fn)),(1000000+40,(⟨5244727,[],.exit 0⟩:Abs.Fn)),(1000000+41,(⟨5,[],.exit 0⟩:Abs.Fn)),(1000000+42,(⟨3,[],.exit 0⟩:Abs.Fn)),(1000000+45,(⟨5244728,[],.exit 0⟩:Abs.Fn)),(1000000+125,(⟨6,[],.exit 0⟩:Abs.Fn)),(1000000+173,(⟨6532,[],.exit 0⟩:Abs.Fn))],FOk p.1 p.2:=by
 simp only[List.forall_mem_cons];exact⟨nok BR,nok uW,nok IU,nok IT,nok zH,nok HZ,nok IS,by simp⟩
theorem akQ:∀p∈tbl,FOk p.1 p.2:=by
 intro p hp;have e:∀p∈tbl,p∈((tF0++tF1++tF2++tF3++tF4++tF5).map λp=>(p.1,p.2.2))++[(1000000+37,(⟨9,[],.exit 0⟩:Abs.Fn)),(1000000+40,(⟨5244727,[],.exit 0⟩:Abs.Fn)),(1000000+41,(⟨5,[],.exit 0⟩:Abs.Fn)),(1000000+42,(⟨3,[],.exit 0⟩:Abs.Fn)),(1000000+45,(⟨5244728,[],.exit 0⟩:Abs.Fn)),(1000000+125,(⟨6,[],.exit 0⟩:Abs.Fn)),(1000000+173,(⟨6532,[],.exit 0⟩:Abs.Fn))]:=by
  have:tbl=((tF0++tF1++tF2++tF3++tF4++tF5).map λp=>(p.1,p.2.2))++[(1000000+37,(⟨9,[],.exit 0⟩:Abs.Fn)),(1000000+40,(⟨5244727,[],.exit 0⟩:Abs.Fn)),(1000000+41,(⟨5,[],.exit 0⟩:Abs.Fn)),(1000000+42,(⟨3,[],.exit 0⟩:Abs.Fn)),(1000000+45,(⟨5244728,[],.exit 0⟩:Abs.Fn)),(1000000+125,(⟨6,[],.exit 0⟩:Abs.Fn)),(1000000+173,(⟨6532,[],.exit 0⟩:Abs.Fn))]:=rfl;rw[this];exact λp h=>h
 rcases aU.1 (e p hp)with h | h
 .obtain⟨q,hq,rfl⟩:=bI.1 h;simp only[aU]at hq;rcases hq with((((hq | hq) | hq) | hq) | hq) | hq
  .exact kok kF0 q hq
  .exact kok kF1 q hq
  .exact kok kF2 q hq
  .exact kok kF3 q hq
  .exact kok kF4 q hq
  .exact kok kF5 q hq
 .exact alN p h
theorem TT:TOk Tryz.prog T:=by
 intro f fn h;have h':∃p,tbl.find? (λp=>p.1 == f)=some p/\p.2=fn:=by simpa[T]using h
 obtain⟨p,h1,h2⟩:=h';have h3:=List.mem_of_find?_eq_some h1;have h4:=List.find?_some h1;have h6:=akQ p h3;simp only[beq_iff_eq]at h4;subst h2;rw[<- h4];exact h6
@[reducible,simp] def Cl(f:Nat)(a:List D)(v:D)(s:SK):Prop:=dt T (.call false f a s)=some (.val v s)
end Go.Proofs.YtpapbbojmclkgaaGreatDoor
