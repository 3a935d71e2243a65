import Derived.Test.YtanhdobabijmoaaGreatDoorF0
import Derived.Test.YtanhdobabijmoaaGreatDoorF1
import Derived.Test.YtanhdobabijmoaaGreatDoorF2
import Derived.Test.YtanhdobabijmoaaGreatDoorF3
import Derived.Test.YtanhdobabijmoaaGreatDoorLays
set_option linter.all false
set_option maxRecDepth 100000
namespace Go.Proofs.YtanhdobabijmoaaGreatDoor
open Go Go.aA
def tbl:List (Nat×aA.Fn):=[(3,uU),(4,ze),(5,wc),(6,zg),(7,vY),(8,vU),(9,xJ),(10,wa),(11,rQ),(12,tC),(13,uJ),(14,tE),(15,vZ),(16,nE),(17,pP),(22,uF),(23,nI),(24,we),(25,xK),(26,mu),(27,pn),(28,re),(29,pR),(30,rh),(31,nK),(32,vV),(33,nG),(34,lG),(35,mw),(38,jr),(39,zd),(40,tD),(41,nH),(42,mB),(43,vX),(44,uG),(45,uH),(46,km),(47,oV),(48,my),(49,sU),(50,iJ),(51,eV),(52,uI),(53,jj),(54,kn),(55,nF),(60,mr),(61,vW),(62,BM),(63,kq),(64,mQ),(67,gB),(68,ji),(69,lH),(70,sn),(71,tF),(72,tf),(73,oo),(74,lI),(81,mc),(82,zc),(83,dS),(93,oT),(94,oU),(95,jt),(96,jw),(97,kQ),(98,ka),(99,ju),(100,kR),(101,j6),(102,j4),(103,jv),(104,j8),(105,j5),(106,j9),(107,j7),(108,so),(118,ek),(128,oS),(129,rO),(130,po),(131,tJ),(132,fG),(133,kI),(134,kr),(135,uP),(136,lF),(137,lM),(138,mC),(139,zb),(140,ow),(141,tK),(142,nJ),(143,lJ),(144,jy),(145,ui),(146,ou),(147,lL),(148,ri),(149,tt),(150,uL),(151,uK),(166,nS),(167,sw),(168,mM),(169,yy),(170,nN),(171,jM),(172,vS),(173,vT),(174,ni),(175,nU),(176,mf),(177,mR),(178,tL),(179,mT),(180,gr),(181,nj),(182,rB),(183,vG),(184,yz),(185,zh),(186,eU),(187,lK),(188,tH),(189,qH),(190,mI),(191,xL),(192,o4),(193,wO),(194,rm),(195,nQ),(196,oX),(197,rA),(198,mP),(199,sC),(200,sD),(201,v8),(202,lN),(203,oW),(204,sB),(205,sA),(212,uT),(213,vx),(214,rz),(215,wg),(216,tI),(217,wN),(218,o5),(219,pa),(220,pc),(221,pk),(222,gq),(223,ll),(224,xN),(225,fO),(226,kB),(227,kz),(228,mS),(229,iV),(230,lq),(231,tW),(232,rq),(233,wP),(234,su),(235,pj),(236,uQ),(237,uS),(238,ku),(239,xM),(240,uN),(241,uM),(242,mD),(243,nT),(244,ti),(245,tG),(246,nR),(247,rj),(248,nv),(249,uk),(250,nu),(251,uR),(252,Cu),(253,pf),(254,mH),(255,iU),(256,iy),(257,kA),(258,tn),(259,oZ),(260,dw),(261,nO),(262,rk),(263,rl),(264,sy),(265,rp),(266,nP),(267,lZ),(268,tj),(269,mJ),(270,zf),(271,rn),(272,nM),(273,o8),(274,mK),(275,tg),(276,kV),(277,rP),(278,nL),(279,pT),(280,pS),(281,Am),(282,jN),(283,sr),(284,pg),(285,o9),(286,vw),(287,o6),(288,ov),(289,oL),(290,nA),(291,oY),(292,mL),(293,uj),(294,oM),(1000000+18,⟨3,[],.exit 0⟩),(1000000+19,⟨5244135,[],.exit 0⟩),(1000000+20,⟨5244140,[],.exit 0⟩),(1000000+21,⟨5244136,[],.exit 0⟩),(1000000+58,⟨10,[],.exit 0⟩),(1000000+59,⟨6,[],.exit 0⟩),(1000000+65,⟨11,[],.exit 0⟩),(1000000+66,⟨2820,[],.exit 0⟩)]
def T:BJ:=λf=>(tbl.find? λp=>p.1 == f).map (·.2)
theorem Ia:T 3=some uU:=rfl
theorem MN:T 4=some ze:=rfl
theorem Jx:T 5=some wc:=rfl
theorem MP:T 6=some zg:=rfl
theorem Jt:T 7=some vY:=rfl
theorem Jp:T 8=some vU:=rfl
theorem Lb:T 9=some xJ:=rfl
theorem Jw:T 10=some wa:=rfl
theorem Ch:T 11=some rQ:=rfl
theorem GY:T 12=some tC:=rfl
theorem HZ:T 13=some uJ:=rfl
theorem G1:T 14=some tE:=rfl
theorem Ju:T 15=some vZ:=rfl
theorem Dh:T 16=some nE:=rfl
theorem BI:T 17=some pP:=rfl
theorem HV:T 22=some uF:=rfl
theorem Dl:T 23=some nI:=rfl
theorem Jy:T 24=some we:=rfl
theorem Lc:T 25=some xK:=rfl
theorem Ca:T 26=some mu:=rfl
theorem AT:T 27=some pn:=rfl
theorem ED:T 28=some re:=rfl
theorem EE:T 30=some rh:=rfl
theorem Dn:T 31=some nK:=rfl
theorem Jq:T 32=some vV:=rfl
theorem Dj:T 33=some nG:=rfl
theorem BU:T 34=some lG:=rfl
theorem Cb:T 35=some mw:=rfl
theorem wF:T 38=some jr:=rfl
theorem MM:T 39=some zd:=rfl
theorem GZ:T 40=some tD:=rfl
theorem Dk:T 41=some nH:=rfl
theorem Cd:T 42=some mB:=rfl
theorem Js:T 43=some vX:=rfl
theorem HW:T 44=some uG:=rfl
theorem HX:T 45=some uH:=rfl
theorem AO:T 46=some km:=rfl
theorem DU:T 47=some oV:=rfl
theorem Cc:T 48=some my:=rfl
theorem vt:T 50=some iJ:=rfl
theorem kL:T 51=some eV:=rfl
theorem HY:T 52=some uI:=rfl
theorem zP:T 53=some jj:=rfl
theorem AP:T 54=some kn:=rfl
theorem Di:T 55=some nF:=rfl
theorem B9:T 60=some mr:=rfl
theorem Jr:T 61=some vW:=rfl
theorem AQ:T 63=some kq:=rfl
theorem Cn:T 64=some mQ:=rfl
theorem ya:T 67=some gB:=rfl
theorem zO:T 68=some ji:=rfl
theorem BV:T 69=some lH:=rfl
theorem FJ:T 70=some sn:=rfl
theorem G2:T 71=some tF:=rfl
theorem DD:T 72=some tf:=rfl
theorem Af:T 73=some oo:=rfl
theorem BW:T 74=some lI:=rfl
theorem yT:T 81=some mc:=rfl
theorem ur:T 83=some dS:=rfl
theorem DS:T 93=some oT:=rfl
theorem DT:T 94=some oU:=rfl
theorem wG:T 95=some jt:=rfl
theorem wJ:T 96=some jw:=rfl
theorem yb:T 97=some kQ:=rfl
theorem xp:T 98=some ka:=rfl
theorem wH:T 99=some ju:=rfl
theorem yc:T 100=some kR:=rfl
theorem xl:T 101=some j6:=rfl
theorem xj:T 102=some j4:=rfl
theorem wI:T 103=some jv:=rfl
theorem xn:T 104=some j8:=rfl
theorem xk:T 105=some j5:=rfl
theorem xo:T 106=some j9:=rfl
theorem xm:T 107=some j7:=rfl
theorem FK:T 108=some so:=rfl
theorem uA:T 118=some ek:=rfl
theorem DR:T 128=some oS:=rfl
theorem Cf:T 129=some rO:=rfl
theorem Ea:T 130=some po:=rfl
theorem G6:T 131=some tJ:=rfl
theorem tc:T 132=some fG:=rfl
theorem AR:T 134=some kr:=rfl
theorem EK:T 135=some uP:=rfl
theorem BS:T 136=some lF:=rfl
theorem B0:T 137=some lM:=rfl
theorem Ce:T 138=some mC:=rfl
theorem ML:T 139=some zb:=rfl
theorem yf:T 140=some ow:=rfl
theorem G8:T 141=some tK:=rfl
theorem Dm:T 142=some nJ:=rfl
theorem BX:T 143=some lJ:=rfl
theorem wK:T 144=some jy:=rfl
theorem Ci:T 145=some ui:=rfl
theorem yd:T 146=some ou:=rfl
theorem BZ:T 147=some lL:=rfl
theorem EF:T 148=some ri:=rfl
theorem DE:T 149=some tt:=rfl
theorem H2:T 150=some uL:=rfl
theorem H0:T 151=some uK:=rfl
theorem Dw:T 166=some nS:=rfl
theorem FO:T 167=some sw:=rfl
theorem H4:T 169=some yy:=rfl
theorem Dr:T 170=some nN:=rfl
theorem Ae:T 171=some jM:=rfl
theorem Jn:T 172=some vS:=rfl
theorem Jo:T 173=some vT:=rfl
theorem zS:T 174=some ni:=rfl
theorem Dy:T 175=some nU:=rfl
theorem yU:T 176=some mf:=rfl
theorem Co:T 177=some mR:=rfl
theorem G9:T 178=some tL:=rfl
theorem Cq:T 179=some mT:=rfl
theorem lY:T 180=some gr:=rfl
theorem zT:T 181=some nj:=rfl
theorem EP:T 182=some rB:=rfl
theorem FV:T 183=some vG:=rfl
theorem vB:T 186=some eU:=rfl
theorem BY:T 187=some lK:=rfl
theorem G4:T 188=some tH:=rfl
theorem zQ:T 189=some qH:=rfl
theorem yX:T 190=some mI:=rfl
theorem Ld:T 191=some xL:=rfl
theorem DZ:T 192=some o4:=rfl
theorem GC:T 193=some wO:=rfl
theorem EJ:T 194=some rm:=rfl
theorem Du:T 195=some nQ:=rfl
theorem DW:T 196=some oX:=rfl
theorem EO:T 197=some rA:=rfl
theorem Cm:T 198=some mP:=rfl
theorem FT:T 199=some sC:=rfl
theorem FU:T 200=some sD:=rfl
theorem Jv:T 201=some v8:=rfl
theorem B4:T 202=some lN:=rfl
theorem DV:T 203=some oW:=rfl
theorem FR:T 204=some sB:=rfl
theorem FQ:T 205=some sA:=rfl
theorem H6:T 212=some uT:=rfl
theorem EN:T 214=some rz:=rfl
theorem Jz:T 215=some wg:=rfl
theorem G5:T 216=some tI:=rfl
theorem D0:T 218=some o5:=rfl
theorem D4:T 219=some pa:=rfl
theorem D5:T 220=some pc:=rfl
theorem D9:T 221=some pk:=rfl
theorem uw:T 222=some gq:=rfl
theorem yg:T 223=some ll:=rfl
theorem Lf:T 224=some xN:=rfl
theorem tU:T 225=some fO:=rfl
theorem xD:T 226=some kB:=rfl
theorem AU:T 227=some kz:=rfl
theorem Cp:T 228=some mS:=rfl
theorem oi:T 229=some iV:=rfl
theorem yh:T 230=some lq:=rfl
theorem Eb:T 231=some tW:=rfl
theorem FN:T 234=some su:=rfl
theorem D8:T 235=some pj:=rfl
theorem H5:T 237=some uS:=rfl
theorem AS:T 238=some ku:=rfl
theorem Le:T 239=some xM:=rfl
theorem H3:T 240=some uN:=rfl
theorem Cg:T 242=some mD:=rfl
theorem Dx:T 243=some nT:=rfl
theorem G3:T 245=some tG:=rfl
theorem Dv:T 246=some nR:=rfl
theorem EG:T 247=some rj:=rfl
theorem D6:T 253=some pf:=rfl
theorem Cj:T 254=some mH:=rfl
theorem vC:T 255=some iU:=rfl
theorem vp:T 256=some iy:=rfl
theorem AV:T 257=some kA:=rfl
theorem DY:T 259=some oZ:=rfl
theorem sZ:T 260=some dw:=rfl
theorem Ds:T 261=some nO:=rfl
theorem EH:T 262=some rk:=rfl
theorem EI:T 263=some rl:=rfl
theorem FP:T 264=some sy:=rfl
theorem EM:T 265=some rp:=rfl
theorem Dt:T 266=some nP:=rfl
theorem Ck:T 269=some mJ:=rfl
theorem MO:T 270=some zf:=rfl
theorem EL:T 271=some rn:=rfl
theorem Dq:T 272=some nM:=rfl
theorem D2:T 273=some o8:=rfl
theorem Dp:T 278=some nL:=rfl
theorem Ag:T 282=some jN:=rfl
theorem FM:T 283=some sr:=rfl
theorem D7:T 284=some pg:=rfl
theorem D3:T 285=some o9:=rfl
theorem D1:T 287=some o6:=rfl
theorem DX:T 291=some oY:=rfl
theorem mixed:Tryz.prog.follows .mixedOrders=true:=by kernel_rfl
theorem H8:T 18=none:=rfl
theorem HR:T (1000000+18)=some ⟨3,[],.exit 0⟩:=rfl
theorem wL:T 19=none:=rfl
theorem wE:T (1000000+19)=some ⟨5244135,[],.exit 0⟩:=rfl
theorem B5:T 20=none:=rfl
theorem BR:T (1000000+20)=some ⟨5244140,[],.exit 0⟩:=rfl
theorem zR:T 21=none:=rfl
theorem zK:T (1000000+21)=some ⟨5244136,[],.exit 0⟩:=rfl
theorem JA:T 58=none:=rfl
theorem Jk:T (1000000+58)=some ⟨10,[],.exit 0⟩:=rfl
theorem G7:T 59=none:=rfl
theorem GW:T (1000000+59)=some ⟨6,[],.exit 0⟩:=rfl
theorem H9:T 65=none:=rfl
theorem HS:T (1000000+65)=some ⟨11,[],.exit 0⟩:=rfl
theorem H7:T 66=none:=rfl
theorem HQ:T (1000000+66)=some ⟨2820,[],.exit 0⟩:=rfl
def Z0(f:Nat)(fn:aA.Fn):Prop:=if f<1000000 then Z1 Tryz.prog f fn else fn.body=.exit 0/\xc Tryz.prog (iw Tryz.prog) fn.Pg (f-1000000)
theorem fok{f:Nat}{fn:aA.Fn}(h:f<1000000)(h':Z1 Tryz.prog f fn):Z0 f fn:=by unfold Z0;rw[if_pos h];exact h'
theorem Y9{k f:Nat}(h':xc Tryz.prog (iw Tryz.prog) k f):Z0 (1000000+f) ⟨k,[],.exit 0⟩:=by unfold Z0;rw[if_neg (by omega),show 1000000+f-1000000=f from by omega];exact⟨rfl,h'⟩
theorem kok{t:List (Nat×ux×aA.Fn)}(h:(t.map λp=>chk p)=t.map λp=>some p.2.2):∀p∈t,Z0 p.1 p.2.2:=by
 intro p hp;have h1:=(List.map_inj_left.1 h) p hp;unfold chk at h1;simp only[ah]at h1;obtain⟨F,h2,h3⟩:=h1;split at h3
 .rename_i hc;simp only[ae,bne_iff_ne,au,dj]at hc;obtain⟨h4,⟨c,h5⟩,h6⟩:=hc;exact fok h6 ⟨F,c,p.2.1,h2,h4,h5,h3⟩
 .cases h3
theorem agD:∀p∈[(1000000+18,(⟨3,[],.exit 0⟩:aA.Fn)),(1000000+19,(⟨5244135,[],.exit 0⟩:aA.Fn)),(1000000+20,(⟨5244140,[],.exit 0⟩:aA.Fn)),(1000000+21,(⟨5244136,[],.exit 0⟩:aA.Fn)),(1000000+58,(⟨10,[],.exit 0⟩:aA.Fn)),(1000000+59,(⟨6,[],.exit 0⟩:aA.Fn)),(1000000+65,(⟨11,[],.exit 0⟩:aA.Fn)),(1000000+66,(⟨2820,[],.exit 0⟩:aA.Fn))],Z0 p.1 p.2:=by
 simp only[List.forall_mem_cons];exact⟨Y9 Gf,Y9 vq,Y9 Av,Y9 yF,Y9 Hg,Y9 Fg,Y9 Gg,Y9 Ge,by simp⟩
theorem afJ:∀p∈tbl,Z0 p.1 p.2:=by
 intro p hp;have e:∀p∈tbl,p∈((tF0++tF1++tF2++tF3).map λp=>(p.1,p.2.2))++[(1000000+18,(⟨3,[],.exit 0⟩:aA.Fn)),(1000000+19,(⟨5244135,[],.exit 0⟩:aA.Fn)),(1000000+20,(⟨5244140,[],.exit 0⟩:aA.Fn)),(1000000+21,(⟨5244136,[],.exit 0⟩:aA.Fn)),(1000000+58,(⟨10,[],.exit 0⟩:aA.Fn)),(1000000+59,(⟨6,[],.exit 0⟩:aA.Fn)),(1000000+65,(⟨11,[],.exit 0⟩:aA.Fn)),(1000000+66,(⟨2820,[],.exit 0⟩:aA.Fn))]:=by
  have:tbl=((tF0++tF1++tF2++tF3).map λp=>(p.1,p.2.2))++[(1000000+18,(⟨3,[],.exit 0⟩:aA.Fn)),(1000000+19,(⟨5244135,[],.exit 0⟩:aA.Fn)),(1000000+20,(⟨5244140,[],.exit 0⟩:aA.Fn)),(1000000+21,(⟨5244136,[],.exit 0⟩:aA.Fn)),(1000000+58,(⟨10,[],.exit 0⟩:aA.Fn)),(1000000+59,(⟨6,[],.exit 0⟩:aA.Fn)),(1000000+65,(⟨11,[],.exit 0⟩:aA.Fn)),(1000000+66,(⟨2820,[],.exit 0⟩:aA.Fn))]:=rfl;rw[this];exact λp h=>h
 rcases ba.1 (e p hp)with h | h
 .obtain⟨q,hq,rfl⟩:=bN.1 h;simp only[ba]at hq;rcases hq with((hq | hq) | hq) | hq
  .exact kok kF0 q hq
  .exact kok kF1 q hq
  .exact kok kF2 q hq
  .exact kok kF3 q hq
 .exact agD p h
theorem TT:TOk Tryz.prog T:=by
 intro f fn h;have h':∃p,tbl.find? (λp=>p.1 == f)=some p/\p.2=fn:=by simpa[T]using h
 obtain⟨p,h1,h2⟩:=h';have h3:=List.mem_of_find?_eq_some h1;have h4:=List.find?_some h1;have h6:=afJ p h3;simp only[beq_iff_eq]at h4;subst h2;rw[<- h4];exact h6
@[reducible,simp] def Cl(f:Nat)(a:List D)(v:D)(s:SK):Prop:=lim T (.call false f a s)=some (.val v s)
end Go.Proofs.YtanhdobabijmoaaGreatDoor
