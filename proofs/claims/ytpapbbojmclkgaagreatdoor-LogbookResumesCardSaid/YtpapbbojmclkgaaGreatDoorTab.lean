import Derived.Test.YtpapbbojmclkgaaGreatDoorF0
import Derived.Test.YtpapbbojmclkgaaGreatDoorLays
set_option linter.all false
set_option maxRecDepth 100000
namespace Go.Proofs.YtpapbbojmclkgaaGreatDoor
open Go Go.aw
def tbl:List (Nat×aw.Fn):=[(7,tt),(8,Jy),(9,vQ),(10,Eh),(11,Hj),(12,Gp),(13,AE),(14,Au),(15,Hh),(17,Cc),(24,DQ),(25,Cd),(26,Lq),(27,Hu),(28,Eg),(29,Jz),(30,DM),(31,DN),(32,F1),(33,lD),(34,Cb),(35,Gl),(36,Ch),(38,uM),(39,yX),(43,uD),(44,wx),(47,Er),(58,Es),(59,Av),(60,mi),(61,Ay),(62,Gm),(63,AF),(64,Gr),(65,Gq),(66,JG),(67,Hz),(68,Hw),(69,HA),(70,Hx),(71,nH),(72,Aw),(76,Ey),(77,Gj),(82,Gk),(83,Ax),(84,uF),(85,Cf),(86,Cg),(87,Gs),(88,F6),(89,F5),(90,Gc),(91,AD),(92,AB),(93,zb),(94,Hp),(95,uJ),(96,JA),(97,Et),(98,Hy),(99,za),(100,Gn),(101,Hv),(102,Hq),(103,Lm),(104,uK),(105,Gb),(106,Gi),(107,xS),(108,En),(109,F4),(110,pK),(114,lS),(115,yd),(116,lh),(117,wL),(118,DV),(119,wN),(120,gn),(121,lT),(122,Ht),(123,xQ),(124,xY),(126,DO),(127,F0),(128,Ce),(129,F2),(130,Ln),(131,Hm),(132,JE),(133,Lp),(134,JF),(135,y9),(136,Gf),(137,wE),(138,F7),(139,Gd),(140,Hr),(141,Ga),(142,Ci),(143,Gh),(149,gk),(150,kl),(151,HE),(152,fR),(153,jW),(154,tJ),(155,wM),(156,iP),(157,km),(158,Eo),(160,wy),(161,wC),(162,yY),(163,xP),(164,wA),(165,yZ),(166,xL),(167,xI),(168,wB),(169,xN),(170,xK),(171,xO),(172,xM),(174,Hl),(175,Hn),(176,Hk),(177,Hs),(178,JB),(179,F9),(180,Em),(181,JD),(182,Gg),(183,F8),(184,Ge),(185,Ho),(191,iO),(192,gY),(193,vt),(194,tK),(195,Ep),(199,yU),(200,Ei),(201,zt),(202,DT),(203,rm),(204,j8),(205,tu),(206,HB),(207,uz),(208,uH),(209,wz),(210,Jx),(211,DU),(212,xJ),(213,wJ),(214,AI),(215,tF),(216,uG),(217,Az),(218,Gv),(219,Ek),(220,Ej),(223,JC),(226,lg),(227,rT),(232,xG),(233,ya),(234,Cm),(235,Lr),(236,xU),(237,FY),(238,sF),(239,tn),(240,FW),(241,xF),(242,FX),(243,uB),(244,wv),(245,AP),(246,zu),(247,AQ),(248,mC),(249,uE),(250,DR),(251,Gt),(252,AM),(253,HC),(254,zg),(255,JI),(256,AJ),(257,xX),(258,y8),(259,AO),(260,wK),(261,Cr),(262,Cs),(263,F3),(264,uI),(265,y7),(266,Cq),(267,Cp),(273,nj),(279,xH),(280,Ex),(281,uN),(282,AN),(283,Gu),(284,DS),(285,wG),(286,zh),(287,zl),(288,zm),(289,zq),(290,oL),(291,re),(292,FZ),(293,wk),(294,DL),(295,uC),(296,Ef),(297,yV),(298,yW),(299,Ca),(300,oq),(301,wO),(302,Ck),(303,zp),(304,xE),(305,tG),(306,Ew),(307,tI),(308,HD),(309,El),(310,tv),(311,wD),(312,yb),(313,rj),(314,DP),(315,xZ),(316,AA),(322,l9),(323,sJ),(324,l8),(325,tH),(326,Eu),(327,zn),(328,wH),(329,As),(330,rn),(331,zf),(332,jL),(333,xV),(334,AG),(335,AH),(336,Cn),(337,AL),(338,xW),(339,uA),(340,wu),(341,kQ),(342,rk),(343,wI),(344,JH),(345,AK),(346,xT),(347,zj),(348,lB),(349,ri),(350,kh),(351,oR),(352,xR),(355,nJ),(356,nI),(357,Co),(358,sH),(359,Cj),(360,zo),(361,zk),(362,uL),(363,zi),(364,rh),(365,tp),(366,mE),(367,mS),(368,mf),(369,ze),(370,lC),(371,sG),(372,mT),(1000000+37,⟨9,[],.exit 0⟩),(1000000+40,⟨5244727,[],.exit 0⟩),(1000000+41,⟨5,[],.exit 0⟩),(1000000+42,⟨3,[],.exit 0⟩),(1000000+45,⟨5244728,[],.exit 0⟩),(1000000+125,⟨6,[],.exit 0⟩),(1000000+173,⟨6532,[],.exit 0⟩)]
def T:CL:=λf=>(tbl.find? λp=>p.1 == f).map (·.2)
theorem Mn:T 9=some vQ:=rfl
theorem Qd:T 13=some AE:=rfl
theorem FI:T 60=some mi:=rfl
theorem Qe:T 63=some AF:=rfl
theorem Bo:T 114=some lS:=rfl
theorem Ah:T 116=some lh:=rfl
theorem kP:T 120=some gn:=rfl
theorem Bp:T 121=some lT:=rfl
theorem sT:T 149=some gk:=rfl
theorem yI:T 150=some kl:=rfl
theorem rN:T 152=some fR:=rfl
theorem yp:T 153=some jW:=rfl
theorem mq:T 156=some iP:=rfl
theorem yJ:T 157=some km:=rfl
theorem uR:T 191=some iO:=rfl
theorem uo:T 192=some gY:=rfl
theorem Iy:T 193=some vt:=rfl
theorem Qf:T 214=some AI:=rfl
theorem KV:T 215=some tF:=rfl
theorem Ag:T 226=some lg:=rfl
theorem GA:T 227=some rT:=rfl
theorem CU:T 273=some nj:=rfl
theorem mixed:Tryz.prog.follows .mixedOrders=true:=by kernel_rfl
theorem CT:T 37=none:=rfl
theorem CP:T (1000000+37)=some ⟨9,[],.exit 0⟩:=rfl
theorem wi:T 40=none:=rfl
theorem wh:T (1000000+40)=some ⟨5244727,[],.exit 0⟩:=rfl
theorem KY:T 41=none:=rfl
theorem KR:T (1000000+41)=some ⟨5,[],.exit 0⟩:=rfl
theorem KX:T 42=none:=rfl
theorem KQ:T (1000000+42)=some ⟨3,[],.exit 0⟩:=rfl
theorem Bn:T 45=none:=rfl
theorem Bj:T (1000000+45)=some ⟨5244728,[],.exit 0⟩:=rfl
theorem J1:T 125=none:=rfl
theorem JZ:T (1000000+125)=some ⟨6,[],.exit 0⟩:=rfl
theorem KW:T 173=none:=rfl
theorem KP:T (1000000+173)=some ⟨6532,[],.exit 0⟩:=rfl
def FOk(f:Nat)(fn:aw.Fn):Prop:=if f<1000000 then aeK Tryz.prog f fn else fn.body=.exit 0/\yn Tryz.prog (iH Tryz.prog) fn.S4 (f-1000000)
theorem fok{f:Nat}{fn:aw.Fn}(h:f<1000000)(h':aeK Tryz.prog f fn):FOk f fn:=by unfold FOk;rw[if_pos h];exact h'
theorem nok{k f:Nat}(h':yn Tryz.prog (iH Tryz.prog) k f):FOk (1000000+f) ⟨k,[],.exit 0⟩:=by unfold FOk;rw[if_neg (by omega),show 1000000+f-1000000=f from by omega];exact⟨rfl,h'⟩
theorem kok{t:List (Nat×sS×aw.Fn)}(h:(t.map λp=>chk p)=t.map λp=>some p.2.2):∀p∈t,FOk p.1 p.2.2:=by
 intro p hp;have h1:=(List.map_inj_left.1 h) p hp;unfold chk at h1;simp only[aj]at h1;obtain⟨F,h2,h3⟩:=h1;split at h3
 .rename_i hc;simp only[af,bne_iff_ne,au,dP]at hc;obtain⟨h4,⟨c,h5⟩,h6⟩:=hc;exact fok h6 ⟨F,c,p.2.1,h2,h4,h5,h3⟩
 .cases h3
theorem alN:∀p∈[(1000000+37,(⟨9,[],.exit 0⟩:aw.Fn)),(1000000+40,(⟨5244727,[],.exit 0⟩:aw.Fn)),(1000000+41,(⟨5,[],.exit 0⟩:aw.Fn)),(1000000+42,(⟨3,[],.exit 0⟩:aw.Fn)),(1000000+45,(⟨5244728,[],.exit 0⟩:aw.Fn)),(1000000+125,(⟨6,[],.exit 0⟩:aw.Fn)),(1000000+173,(⟨6532,[],.exit 0⟩:aw.Fn))],FOk p.1 p.2:=by
 simp only[List.forall_mem_cons];exact⟨nok BX,nok uq,nok IX,nok IW,nok zT,nok HY,nok IV,by simp⟩
theorem akO:∀p∈tbl,FOk p.1 p.2:=by
 intro p hp;have e:∀p∈tbl,p∈((tF0++tF1++tF2++tF3++tF4++tF5).map λp=>(p.1,p.2.2))++[(1000000+37,(⟨9,[],.exit 0⟩:aw.Fn)),(1000000+40,(⟨5244727,[],.exit 0⟩:aw.Fn)),(1000000+41,(⟨5,[],.exit 0⟩:aw.Fn)),(1000000+42,(⟨3,[],.exit 0⟩:aw.Fn)),(1000000+45,(⟨5244728,[],.exit 0⟩:aw.Fn)),(1000000+125,(⟨6,[],.exit 0⟩:aw.Fn)),(1000000+173,(⟨6532,[],.exit 0⟩:aw.Fn))]:=by
  have:tbl=((tF0++tF1++tF2++tF3++tF4++tF5).map λp=>(p.1,p.2.2))++[(1000000+37,(⟨9,[],.exit 0⟩:aw.Fn)),(1000000+40,(⟨5244727,[],.exit 0⟩:aw.Fn)),(1000000+41,(⟨5,[],.exit 0⟩:aw.Fn)),(1000000+42,(⟨3,[],.exit 0⟩:aw.Fn)),(1000000+45,(⟨5244728,[],.exit 0⟩:aw.Fn)),(1000000+125,(⟨6,[],.exit 0⟩:aw.Fn)),(1000000+173,(⟨6532,[],.exit 0⟩:aw.Fn))]:=rfl;rw[this];exact λp h=>h
 rcases aU.1 (e p hp)with h | h
 .obtain⟨q,hq,rfl⟩:=bO.1 h;simp only[aU]at hq;rcases hq with((((hq | hq) | hq) | hq) | hq) | hq
  .exact kok kF0 q hq
  .exact kok kF1 q hq
  .exact kok kF2 q hq
  .exact kok kF3 q hq
  .exact kok kF4 q hq
  .exact kok kF5 q hq
 .exact alN p h
theorem TT:TOk Tryz.prog T:=by
 intro f fn h;have h':∃p,tbl.find? (λp=>p.1 == f)=some p/\p.2=fn:=by simpa[T]using h
 obtain⟨p,h1,h2⟩:=h';have h3:=List.mem_of_find?_eq_some h1;have h4:=List.find?_some h1;have h6:=akO p h3;simp only[beq_iff_eq]at h4;subst h2;rw[<- h4];exact h6
@[reducible,simp] def Cl(f:Nat)(a:List D)(v:D)(s:SK):Prop:=di T (.call false f a s)=some (.val v s)
