import Derived.Test.YtpapbbojmclkgaaGreatDoorF0
import Derived.Test.YtpapbbojmclkgaaGreatDoorF1
import Derived.Test.YtpapbbojmclkgaaGreatDoorF2
import Derived.Test.YtpapbbojmclkgaaGreatDoorF3
import Derived.Test.YtpapbbojmclkgaaGreatDoorF4
import Derived.Test.YtpapbbojmclkgaaGreatDoorF5
import Derived.Test.YtpapbbojmclkgaaGreatDoorLays
set_option linter.all false
set_option maxRecDepth 100000
namespace Go.Proofs.YtpapbbojmclkgaaGreatDoor
open Go Go.Abs
def tbl:List (Nat×Abs.Fn):=[(5,tI),(8,IA),(9,vy),(10,Dv),(11,Gu),(12,FC),(13,II),(14,zG),(15,Gt),(17,Bn),(18,DG),(26,Ki),(28,Du),(29,IB),(30,C0),(31,C3),(32,Fb),(33,l9),(34,Bm),(35,Fz),(36,Br),(38,uT),(39,yj),(43,uK),(44,vS),(46,DF),(47,DE),(48,GH),(60,mQ),(61,zJ),(62,FA),(63,zO),(64,FF),(65,FE),(66,IJ),(67,GL),(68,GI),(69,GM),(70,GJ),(71,ow),(72,zH),(76,DL),(77,Fy),(84,uM),(85,Bp),(86,Bq),(87,FG),(88,Fh),(89,Fg),(90,Fp),(91,zN),(92,zM),(93,yr),(94,GA),(95,uQ),(96,IC),(97,DH),(98,GK),(99,yq),(100,FB),(101,GG),(102,GB),(103,Kf),(104,uR),(105,Fo),(106,Fx),(107,xe),(108,DB),(109,Ff),(110,qT),(114,mB),(115,xp),(116,lJ),(117,wi),(118,Da),(119,wk),(120,gv),(121,mC),(122,GF),(126,C4),(127,Fa),(128,Bo),(129,Fc),(130,Kg),(131,Gx),(132,IG),(133,Kh),(134,IH),(135,yp),(136,Ft),(137,vZ),(138,Fi),(139,Fq),(140,GC),(141,Fl),(142,Bs),(143,Fw),(149,gr),(150,kO),(151,GQ),(152,fO),(153,kj),(154,tQ),(155,wj),(156,iZ),(157,kP),(158,DC),(160,vT),(161,vX),(162,yk),(163,xc),(164,vV),(165,ym),(166,wY),(167,wV),(168,vW),(169,xa),(170,wX),(171,xb),(172,wZ),(174,Gw),(175,Gy),(176,Gv),(177,GD),(178,ID),(179,Fk),(180,DA),(181,IF),(182,Fu),(183,Fj),(184,Fs),(185,Gz),(191,iY),(192,iu),(193,vb),(194,tR),(195,DD),(199,yg),(200,Dw),(201,yI),(202,C8),(203,rR),(204,kz),(205,tJ),(206,GN),(207,uG),(208,uO),(209,vU),(210,Iz),(211,C9),(212,wW),(213,wg),(214,zR),(215,tM),(216,uN),(217,zK),(218,FJ),(219,Dy),(220,Dx),(223,IE),(226,lI),(227,so),(232,wT),(233,xn),(234,Bw),(235,Kj),(236,xi),(237,E8),(238,sZ),(239,tG),(240,E6),(241,wS),(242,E7),(243,uI),(244,vR),(245,zZ),(246,yJ),(247,z6),(248,m6),(249,uL),(250,C6),(251,FH),(252,zW),(253,GO),(254,yw),(255,IL),(256,zT),(257,xl),(258,yo),(259,zY),(260,wh),(261,BC),(262,BD),(263,Fe),(264,uP),(265,yn),(266,BB),(267,BA),(273,nS),(279,wU),(280,DK),(281,uU),(282,zX),(283,FI),(284,C7),(285,wa),(286,yy),(287,yC),(288,yD),(289,yH),(290,pn),(291,rM),(292,E9),(293,vP),(294,CZ),(295,uJ),(296,Dt),(297,yh),(298,yi),(299,Bl),(300,oV),(301,wu),(302,Bu),(303,yG),(304,wR),(305,tN),(306,DJ),(307,tP),(308,GP),(309,Dz),(310,tK),(311,vY),(312,xo),(313,rP),(314,C5),(315,xm),(316,zL),(322,mK),(323,td),(324,mJ),(325,tO),(326,DI),(327,yE),(328,wc),(329,zF),(330,rS),(331,yu),(332,j6),(333,xj),(334,zP),(335,zQ),(336,By),(337,zV),(338,xk),(339,uH),(340,vQ),(341,lu),(342,rQ),(343,we),(344,IK),(345,zU),(346,xf),(347,yA),(348,l7),(349,rO),(350,kL),(351,po),(352,xd),(355,oA),(356,oz),(357,Bz),(358,tc),(359,Bt),(360,yF),(361,yB),(362,uS),(363,yz),(364,rN),(365,tH),(366,nB),(367,nL),(368,mO),(369,yt),(370,l8),(371,s9),(372,nM),(1000000+37,⟨9,[],.exit 0⟩),(1000000+40,⟨5244727,[],.exit 0⟩),(1000000+41,⟨5,[],.exit 0⟩),(1000000+42,⟨3,[],.exit 0⟩),(1000000+45,⟨5244728,[],.exit 0⟩),(1000000+125,⟨6,[],.exit 0⟩),(1000000+173,⟨6532,[],.exit 0⟩)]
def T:CT:=λf=>(tbl.find? λp=>p.1 == f).map (·.2)
theorem Li:T 9=some vy:=rfl
theorem EV:T 60=some mQ:=rfl
theorem O4:T 63=some zO:=rfl
theorem Az:T 114=some mB:=rfl
theorem zw:T 116=some lJ:=rfl
theorem lr:T 120=some gv:=rfl
theorem AA:T 121=some mC:=rfl
theorem tt:T 149=some gr:=rfl
theorem xV:T 150=some kO:=rfl
theorem sk:T 152=some fO:=rfl
theorem xC:T 153=some kj:=rfl
theorem mU:T 156=some iZ:=rfl
theorem xW:T 157=some kP:=rfl
theorem uY:T 191=some iY:=rfl
theorem uA:T 192=some iu:=rfl
theorem HB:T 193=some vb:=rfl
theorem O5:T 214=some zR:=rfl
theorem JP:T 215=some tM:=rfl
theorem zu:T 226=some lI:=rfl
theorem FQ:T 227=some so:=rfl
theorem B5:T 273=some nS:=rfl
theorem mixed:Tryz.prog.follows .mixedOrders=true:=by kernel_rfl
theorem B0:T 37=none:=rfl
theorem BX:T (1000000+37)=some ⟨9,[],.exit 0⟩:=rfl
theorem vN:T 40=none:=rfl
theorem vM:T (1000000+40)=some ⟨5244727,[],.exit 0⟩:=rfl
theorem JS:T 41=none:=rfl
theorem JM:T (1000000+41)=some ⟨5,[],.exit 0⟩:=rfl
theorem JR:T 42=none:=rfl
theorem JL:T (1000000+42)=some ⟨3,[],.exit 0⟩:=rfl
theorem Ay:T 45=none:=rfl
theorem Av:T (1000000+45)=some ⟨5244728,[],.exit 0⟩:=rfl
theorem I4:T 125=none:=rfl
theorem I2:T (1000000+125)=some ⟨6,[],.exit 0⟩:=rfl
theorem JQ:T 173=none:=rfl
theorem JK:T (1000000+173)=some ⟨6532,[],.exit 0⟩:=rfl
def FOk(f:Nat)(fn:Abs.Fn):Prop:=if f<1000000 then ac5 Tryz.prog f fn else fn.body=.exit 0/\xA Tryz.prog (iT Tryz.prog) fn.RI (f-1000000)
theorem fok{f:Nat}{fn:Abs.Fn}(h:f<1000000)(h':ac5 Tryz.prog f fn):FOk f fn:=by unfold FOk;rw[if_pos h];exact h'
theorem nok{k f:Nat}(h':xA Tryz.prog (iT Tryz.prog) k f):FOk (1000000+f) ⟨k,[],.exit 0⟩:=by unfold FOk;rw[if_neg (by omega),show 1000000+f-1000000=f from by omega];exact⟨rfl,h'⟩
theorem kok{t:List (Nat×tv×Abs.Fn)}(h:(t.map λp=>chk p)=t.map λp=>some p.2.2):∀p∈t,FOk p.1 p.2.2:=by
 intro p hp;have h1:=(List.map_inj_left.1 h) p hp;unfold chk at h1;simp only[ak]at h1;obtain⟨F,h2,h3⟩:=h1;split at h3
 .rename_i hc;simp only[af,bne_iff_ne,aA,dH]at hc;obtain⟨h4,⟨c,h5⟩,h6⟩:=hc;exact fok h6 ⟨F,c,p.2.1,h2,h4,h5,h3⟩
 .cases h3
theorem aj2:∀p∈[(1000000+37,(⟨9,[],.exit 0⟩:Abs.Fn)),(1000000+40,(⟨5244727,[],.exit 0⟩:Abs.Fn)),(1000000+41,(⟨5,[],.exit 0⟩:Abs.Fn)),(1000000+42,(⟨3,[],.exit 0⟩:Abs.Fn)),(1000000+45,(⟨5244728,[],.exit 0⟩:Abs.Fn)),(1000000+125,(⟨6,[],.exit 0⟩:Abs.Fn)),(1000000+173,(⟨6532,[],.exit 0⟩:Abs.Fn))],FOk p.1 p.2:=by
 simp only[List.forall_mem_cons];exact⟨nok Ba,nok uB,nok HZ,nok HY,nok zc,nok Hb,nok HX,by simp⟩
theorem ai8:∀p∈tbl,FOk p.1 p.2:=by
 intro p hp;have e:∀p∈tbl,p∈((tF0++tF1++tF2++tF3++tF4++tF5).map λp=>(p.1,p.2.2))++[(1000000+37,(⟨9,[],.exit 0⟩:Abs.Fn)),(1000000+40,(⟨5244727,[],.exit 0⟩:Abs.Fn)),(1000000+41,(⟨5,[],.exit 0⟩:Abs.Fn)),(1000000+42,(⟨3,[],.exit 0⟩:Abs.Fn)),(1000000+45,(⟨5244728,[],.exit 0⟩:Abs.Fn)),(1000000+125,(⟨6,[],.exit 0⟩:Abs.Fn)),(1000000+173,(⟨6532,[],.exit 0⟩:Abs.Fn))]:=by
  have:tbl=((tF0++tF1++tF2++tF3++tF4++tF5).map λp=>(p.1,p.2.2))++[(1000000+37,(⟨9,[],.exit 0⟩:Abs.Fn)),(1000000+40,(⟨5244727,[],.exit 0⟩:Abs.Fn)),(1000000+41,(⟨5,[],.exit 0⟩:Abs.Fn)),(1000000+42,(⟨3,[],.exit 0⟩:Abs.Fn)),(1000000+45,(⟨5244728,[],.exit 0⟩:Abs.Fn)),(1000000+125,(⟨6,[],.exit 0⟩:Abs.Fn)),(1000000+173,(⟨6532,[],.exit 0⟩:Abs.Fn))]:=rfl;rw[this];exact λp h=>h
 rcases aU.1 (e p hp)with h | h
 .obtain⟨q,hq,rfl⟩:=bI.1 h;simp only[aU]at hq;rcases hq with((((hq | hq) | hq) | hq) | hq) | hq
  .exact kok kF0 q hq
  .exact kok kF1 q hq
  .exact kok kF2 q hq
  .exact kok kF3 q hq
  .exact kok kF4 q hq
  .exact kok kF5 q hq
 .exact aj2 p h
theorem TT:TOk Tryz.prog T:=by
 intro f fn h;have h':∃p,tbl.find? (λp=>p.1 == f)=some p/\p.2=fn:=by simpa[T]using h
 obtain⟨p,h1,h2⟩:=h';have h3:=List.mem_of_find?_eq_some h1;have h4:=List.find?_some h1;have h6:=ai8 p h3;simp only[beq_iff_eq]at h4;subst h2;rw[<- h4];exact h6
@[reducible,simp] def Cl(f:Nat)(a:List D)(v:D)(s:SK):Prop:=dp T (.call false f a s)=some (.val v s)
end Go.Proofs.YtpapbbojmclkgaaGreatDoor
