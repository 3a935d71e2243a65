import Derived.Test.YtpapbbojmclkgaaGreatDoorF0
import Derived.Test.YtpapbbojmclkgaaGreatDoorF1
import Derived.Test.YtpapbbojmclkgaaGreatDoorF2
import Derived.Test.YtpapbbojmclkgaaGreatDoorF3
import Derived.Test.YtpapbbojmclkgaaGreatDoorF4
import Derived.Test.YtpapbbojmclkgaaGreatDoorF5
import Derived.Test.YtpapbbojmclkgaaGreatDoorLays
set_option linter.all false
set_option maxRecDepth 100000
namespace Go.Proofs.YtpapbbojmclkgaaGreatDoor
open Go Go.Abs
def tbl:List (Nat×Abs.Fn):=[(4,tJ),(8,Is),(9,vC),(10,Dt),(11,Gh),(12,Fu),(13,IA),(14,zJ),(15,Gg),(16,rX),(17,Bo),(26,Kc),(28,Ds),(29,It),(30,CZ),(31,C0),(32,E4),(33,ma),(34,Bn),(35,Fq),(36,Bs),(38,uU),(39,yn),(43,uL),(44,vW),(47,DC),(60,mR),(61,zL),(62,Fs),(63,zQ),(64,Fx),(65,Fw),(66,IB),(67,Gx),(68,Gu),(69,Gy),(70,Gv),(71,oA),(72,zK),(76,DH),(77,Fp),(84,uN),(85,Bq),(86,Br),(87,Fy),(88,E9),(89,E8),(90,Fg),(91,zP),(92,zO),(93,yw),(94,Gn),(95,uR),(96,Iu),(97,DD),(98,Gw),(99,yu),(100,Ft),(101,Gt),(102,Gp),(103,J9),(104,uS),(105,Ff),(106,Fo),(107,xk),(108,Dz),(109,E7),(110,qR),(114,mB),(115,xw),(116,lK),(117,wv),(118,C9),(119,wy),(120,gr),(121,mC),(122,Gs),(126,C3),(127,E3),(128,Bp),(129,E5),(130,Ka),(131,Gk),(132,Iy),(133,Kb),(134,Iz),(135,yt),(136,Fj),(137,wg),(138,Fa),(139,Fh),(140,Gq),(141,Fe),(142,Bt),(143,Fl),(149,gq),(150,kP),(151,GC),(152,fP),(153,kl),(154,tR),(155,wx),(156,iZ),(157,kQ),(158,DA),(160,vX),(161,wc),(162,yo),(163,xi),(164,vZ),(165,yp),(166,xc),(167,wZ),(168,wa),(169,xe),(170,xb),(171,xf),(172,xd),(174,Gj),(175,Gl),(176,Gi),(177,Gr),(178,Iv),(179,Fc),(180,Dy),(181,Ix),(182,Fk),(183,Fb),(184,Fi),(185,Gm),(191,iY),(192,ir),(193,vc),(194,tS),(195,DB),(199,yj),(200,Du),(201,yL),(202,C7),(203,rQ),(204,kB),(205,tK),(206,Gz),(207,uH),(208,uP),(209,vY),(210,Ir),(211,C8),(212,xa),(213,wk),(214,zU),(215,tN),(216,uO),(217,zM),(218,FB),(219,Dw),(220,Dv),(223,Iw),(226,lJ),(227,sn),(232,wX),(233,xr),(234,By),(235,Kd),(236,xm),(237,E1),(238,sY),(239,tH),(240,EZ),(241,wW),(242,E0),(243,uJ),(244,vV),(245,z7),(246,yM),(247,z8),(248,m7),(249,uM),(250,C5),(251,Fz),(252,zY),(253,GA),(254,yA),(255,ID),(256,zV),(257,xp),(258,yr),(259,z6),(260,wu),(261,BD),(262,BE),(263,E6),(264,uQ),(265,yq),(266,BC),(267,BB),(273,nU),(279,wY),(280,DG),(281,uV),(282,zZ),(283,FA),(284,C6),(285,wh),(286,yB),(287,yF),(288,yG),(289,yK),(290,pr),(291,rL),(292,E2),(293,vT),(294,CY),(295,uK),(296,Dr),(297,yk),(298,ym),(299,Bm),(300,oY),(301,wz),(302,Bw),(303,yJ),(304,wV),(305,tO),(306,DF),(307,tQ),(308,GB),(309,Dx),(310,tL),(311,we),(312,xu),(313,rO),(314,C4),(315,xq),(316,zN),(322,mM),(323,tc),(324,mK),(325,tP),(326,DE),(327,yH),(328,wi),(329,zH),(330,rR),(331,yz),(332,j6),(333,xn),(334,zR),(335,zT),(336,Bz),(337,zX),(338,xo),(339,uI),(340,vU),(341,lB),(342,rP),(343,wj),(344,IC),(345,zW),(346,xl),(347,yD),(348,l8),(349,rN),(350,kM),(351,pv),(352,xj),(355,oC),(356,oB),(357,BA),(358,s9),(359,Bu),(360,yI),(361,yE),(362,uT),(363,yC),(364,rM),(365,tI),(366,nC),(367,nM),(368,mP),(369,yy),(370,l9),(371,sZ),(372,nN),(1000000+37,⟨9,[],.exit 0⟩),(1000000+40,⟨5244727,[],.exit 0⟩),(1000000+41,⟨5,[],.exit 0⟩),(1000000+42,⟨3,[],.exit 0⟩),(1000000+45,⟨5244728,[],.exit 0⟩),(1000000+125,⟨6,[],.exit 0⟩),(1000000+173,⟨6532,[],.exit 0⟩)]
def T:CT:=λf=>(tbl.find? λp=>p.1 == f).map (·.2)
theorem K7:T 9=some vC:=rfl
theorem IV:T 16=some rX:=rfl
theorem EN:T 60=some mR:=rfl
theorem OV:T 63=some zQ:=rfl
theorem AA:T 114=some mB:=rfl
theorem zy:T 116=some lK:=rfl
theorem lA:T 120=some gr:=rfl
theorem AB:T 121=some mC:=rfl
theorem tt:T 149=some gq:=rfl
theorem xY:T 150=some kP:=rfl
theorem sj:T 152=some fP:=rfl
theorem xH:T 153=some kl:=rfl
theorem mV:T 156=some iZ:=rfl
theorem xZ:T 157=some kQ:=rfl
theorem uZ:T 191=some iY:=rfl
theorem uB:T 192=some ir:=rfl
theorem Hp:T 193=some vc:=rfl
theorem OW:T 214=some zU:=rfl
theorem JI:T 215=some tN:=rfl
theorem zx:T 226=some lJ:=rfl
theorem FI:T 227=some sn:=rfl
theorem B6:T 273=some nU:=rfl
theorem mixed:Tryz.prog.follows .mixedOrders=true:=by kernel_rfl
theorem B5:T 37=none:=rfl
theorem BY:T (1000000+37)=some ⟨9,[],.exit 0⟩:=rfl
theorem vR:T 40=none:=rfl
theorem vQ:T (1000000+40)=some ⟨5244727,[],.exit 0⟩:=rfl
theorem JL:T 41=none:=rfl
theorem JE:T (1000000+41)=some ⟨5,[],.exit 0⟩:=rfl
theorem JK:T 42=none:=rfl
theorem JD:T (1000000+42)=some ⟨3,[],.exit 0⟩:=rfl
theorem Az:T 45=none:=rfl
theorem Aw:T (1000000+45)=some ⟨5244728,[],.exit 0⟩:=rfl
theorem IW:T 125=none:=rfl
theorem IT:T (1000000+125)=some ⟨6,[],.exit 0⟩:=rfl
theorem JJ:T 173=none:=rfl
theorem JC:T (1000000+173)=some ⟨6532,[],.exit 0⟩:=rfl
def FOk(f:Nat)(fn:Abs.Fn):Prop:=if f<1000000 then ac1 Tryz.prog f fn else fn.body=.exit 0/\xF Tryz.prog (iT Tryz.prog) fn.Rz (f-1000000)
theorem fok{f:Nat}{fn:Abs.Fn}(h:f<1000000)(h':ac1 Tryz.prog f fn):FOk f fn:=by unfold FOk;rw[if_pos h];exact h'
theorem nok{k f:Nat}(h':xF Tryz.prog (iT Tryz.prog) k f):FOk (1000000+f) ⟨k,[],.exit 0⟩:=by unfold FOk;rw[if_neg (by omega),show 1000000+f-1000000=f from by omega];exact⟨rfl,h'⟩
theorem kok{t:List (Nat×tx×Abs.Fn)}(h:(t.map λp=>chk p)=t.map λp=>some p.2.2):∀p∈t,FOk p.1 p.2.2:=by
 intro p hp;have h1:=(List.map_inj_left.1 h) p hp;unfold chk at h1;simp only[ak]at h1;obtain⟨F,h2,h3⟩:=h1;split at h3
 .rename_i hc;simp only[af,bne_iff_ne,az,dH]at hc;obtain⟨h4,⟨c,h5⟩,h6⟩:=hc;exact fok h6 ⟨F,c,p.2.1,h2,h4,h5,h3⟩
 .cases h3
theorem ajX:∀p∈[(1000000+37,(⟨9,[],.exit 0⟩:Abs.Fn)),(1000000+40,(⟨5244727,[],.exit 0⟩:Abs.Fn)),(1000000+41,(⟨5,[],.exit 0⟩:Abs.Fn)),(1000000+42,(⟨3,[],.exit 0⟩:Abs.Fn)),(1000000+45,(⟨5244728,[],.exit 0⟩:Abs.Fn)),(1000000+125,(⟨6,[],.exit 0⟩:Abs.Fn)),(1000000+173,(⟨6532,[],.exit 0⟩:Abs.Fn))],FOk p.1 p.2:=by
 simp only[List.forall_mem_cons];exact⟨nok Bb,nok uC,nok HN,nok HM,nok ze,nok GX,nok HL,by simp⟩
theorem ai2:∀p∈tbl,FOk p.1 p.2:=by
 intro p hp;have e:∀p∈tbl,p∈((tF0++tF1++tF2++tF3++tF4++tF5).map λp=>(p.1,p.2.2))++[(1000000+37,(⟨9,[],.exit 0⟩:Abs.Fn)),(1000000+40,(⟨5244727,[],.exit 0⟩:Abs.Fn)),(1000000+41,(⟨5,[],.exit 0⟩:Abs.Fn)),(1000000+42,(⟨3,[],.exit 0⟩:Abs.Fn)),(1000000+45,(⟨5244728,[],.exit 0⟩:Abs.Fn)),(1000000+125,(⟨6,[],.exit 0⟩:Abs.Fn)),(1000000+173,(⟨6532,[],.exit 0⟩:Abs.Fn))]:=by
  have:tbl=((tF0++tF1++tF2++tF3++tF4++tF5).map λp=>(p.1,p.2.2))++[(1000000+37,(⟨9,[],.exit 0⟩:Abs.Fn)),(1000000+40,(⟨5244727,[],.exit 0⟩:Abs.Fn)),(1000000+41,(⟨5,[],.exit 0⟩:Abs.Fn)),(1000000+42,(⟨3,[],.exit 0⟩:Abs.Fn)),(1000000+45,(⟨5244728,[],.exit 0⟩:Abs.Fn)),(1000000+125,(⟨6,[],.exit 0⟩:Abs.Fn)),(1000000+173,(⟨6532,[],.exit 0⟩:Abs.Fn))]:=rfl;rw[this];exact λp h=>h
 rcases aT.1 (e p hp)with h | h
 .obtain⟨q,hq,rfl⟩:=bI.1 h;simp only[aT]at hq;rcases hq with((((hq | hq) | hq) | hq) | hq) | hq
  .exact kok kF0 q hq
  .exact kok kF1 q hq
  .exact kok kF2 q hq
  .exact kok kF3 q hq
  .exact kok kF4 q hq
  .exact kok kF5 q hq
 .exact ajX p h
theorem TT:TOk Tryz.prog T:=by
 intro f fn h;have h':∃p,tbl.find? (λp=>p.1 == f)=some p/\p.2=fn:=by simpa[T]using h
 obtain⟨p,h1,h2⟩:=h';have h3:=List.mem_of_find?_eq_some h1;have h4:=List.find?_some h1;have h6:=ai2 p h3;simp only[beq_iff_eq]at h4;subst h2;rw[<- h4];exact h6
@[reducible,simp] def Cl(f:Nat)(a:List D)(v:D)(s:SK):Prop:=dr T (.call false f a s)=some (.val v s)
end Go.Proofs.YtpapbbojmclkgaaGreatDoor
