import Derived.Test.YtklfdfnoebnciaaGreatDoorF0
import Derived.Test.YtklfdfnoebnciaaGreatDoorF1
import Derived.Test.YtklfdfnoebnciaaGreatDoorF2
import Derived.Test.YtklfdfnoebnciaaGreatDoorF3
import Derived.Test.YtklfdfnoebnciaaGreatDoorLays
set_option linter.all false
set_option maxRecDepth 100000
namespace Go.Proofs.YtklfdfnoebnciaaGreatDoor
open Go Go.az
def tbl:List (Nat×az.Fn):=[(3,uL),(4,xl),(5,uJ),(6,oT),(7,xp),(8,Gs),(9,uG),(10,sb),(11,vR),(12,tf),(13,zo),(14,EO),(15,sc),(16,uH),(17,nk),(18,uF),(19,ti),(20,rI),(21,rk),(22,tg),(23,oj),(24,oQ),(25,ma),(26,xm),(27,pF),(28,zU),(29,oi),(30,EP),(31,rm),(32,gO),(33,ed),(34,oZ),(35,vD),(36,kR),(37,xn),(39,sd),(40,rJ),(41,mL),(42,rN),(43,nK),(45,iJ),(46,iM),(47,j1),(48,jz),(49,iK),(50,j2),(51,jv),(52,jt),(53,iL),(54,jx),(55,ju),(56,jy),(57,jw),(60,pY),(64,nh),(65,pG),(66,nL),(67,si),(68,eM),(69,jT),(70,jJ),(71,tv),(72,kj),(73,kz),(74,lg),(75,xj),(76,mQ),(77,sj),(78,l9),(79,kq),(80,iP),(81,sO),(82,mO),(83,ku),(84,oR),(85,rP),(86,tn),(87,tj),(95,l7),(96,mo),(97,qh),(98,lr),(99,wH),(100,mg),(101,uD),(102,jb),(103,jH),(104,uB),(105,l6),(106,uC),(107,km),(108,lf),(109,lP),(110,mr),(111,kS),(112,lD),(113,sk),(114,lF),(115,fH),(116,lQ),(117,o9),(118,um),(119,wI),(120,xq),(121,ec),(122,kr),(123,sf),(124,oH),(125,lk),(126,vS),(127,nw),(128,va),(129,oW),(130,mj),(131,nr),(132,o8),(133,lB),(134,qG),(135,qH),(136,uI),(137,kA),(138,nq),(139,qD),(140,qB),(152,l8),(153,tA),(154,uc),(155,o7),(156,uK),(157,sh),(158,u9),(159,nz),(160,nE),(161,nF),(162,nJ),(163,fM),(164,iC),(165,uE),(166,kZ),(167,zT),(168,kn),(169,td),(170,ni),(171,nj),(172,pX),(173,fG),(174,j9),(175,vU),(176,eU),(177,jN),(178,jL),(179,lE),(180,ia),(181,ka),(182,sC),(183,o4),(184,vb),(185,qd),(186,nI),(187,l4),(188,tw),(189,tz),(190,jK),(191,vT),(192,tt),(193,tp),(194,lh),(195,mq),(196,rL),(197,se),(198,mm),(199,oS),(209,lV),(210,sQ),(211,lU),(212,tx),(213,AG),(214,nG),(215,lj),(216,xk),(217,hJ),(218,gw),(219,jM),(220,rO),(221,nv),(222,cQ),(223,mh),(224,oU),(225,oV),(226,qq),(227,oY),(228,mi),(229,kl),(230,la),(231,kM),(232,rM),(233,ll),(234,xo),(235,oX),(236,mf),(237,nC),(238,ln),(239,rK),(240,j6),(241,pH),(242,mc),(250,oo),(251,om),(252,yG),(253,jc),(254,pZ),(255,nH),(256,nD),(257,ub),(258,nA),(259,iD),(260,jI),(261,mP),(262,nc),(263,lY),(266,nu),(267,lq),(268,sP),(269,nd),(1000000+38,⟨6,[],.exit 0⟩),(1000000+58,⟨3812,[],.exit 0⟩),(1000000+59,⟨3,[],.exit 0⟩)]
def T:zQ:=λf=>(tbl.find? λp=>p.1 == f).map (·.2)
theorem Hm:T 3=some uL:=rfl
theorem J5:T 4=some xl:=rfl
theorem Hk:T 5=some uJ:=rfl
theorem CY:T 6=some oT:=rfl
theorem J7:T 7=some xp:=rfl
theorem Hg:T 9=some uG:=rfl
theorem E4:T 10=some sb:=rfl
theorem IP:T 11=some vR:=rfl
theorem FX:T 12=some tf:=rfl
theorem LN:T 13=some zo:=rfl
theorem E5:T 15=some sc:=rfl
theorem Hh:T 16=some uH:=rfl
theorem Cg:T 17=some nk:=rfl
theorem Hf:T 18=some uF:=rfl
theorem FY:T 19=some ti:=rfl
theorem CV:T 24=some oQ:=rfl
theorem BH:T 25=some ma:=rfl
theorem tY:T 32=some gO:=rfl
theorem jW:T 33=some ed:=rfl
theorem wZ:T 36=some kR:=rfl
theorem E6:T 39=some sd:=rfl
theorem BZ:T 40=some rJ:=rfl
theorem yB:T 41=some mL:=rfl
theorem zd:T 43=some nK:=rfl
theorem uW:T 45=some iJ:=rfl
theorem uZ:T 46=some iM:=rfl
theorem wu:T 47=some j1:=rfl
theorem vC:T 48=some jz:=rfl
theorem uX:T 49=some iK:=rfl
theorem wv:T 50=some j2:=rfl
theorem vx:T 51=some jv:=rfl
theorem vv:T 52=some jt:=rfl
theorem uY:T 53=some iL:=rfl
theorem vA:T 54=some jx:=rfl
theorem vw:T 55=some ju:=rfl
theorem vB:T 56=some jy:=rfl
theorem vy:T 57=some jw:=rfl
theorem DU:T 60=some pY:=rfl
theorem Cd:T 64=some nh:=rfl
theorem Aq:T 65=some pG:=rfl
theorem Cx:T 66=some nL:=rfl
theorem Fa:T 67=some si:=rfl
theorem rF:T 68=some eM:=rfl
theorem zb:T 70=some jJ:=rfl
theorem C4:T 71=some tv:=rfl
theorem z6:T 72=some kj:=rfl
theorem Ae:T 73=some kz:=rfl
theorem Ap:T 74=some lg:=rfl
theorem J4:T 75=some xj:=rfl
theorem wy:T 76=some mQ:=rfl
theorem Fc:T 77=some sj:=rfl
theorem BG:T 78=some l9:=rfl
theorem Ab:T 79=some kq:=rfl
theorem u0:T 80=some iP:=rfl
theorem As:T 81=some sO:=rfl
theorem wx:T 82=some mO:=rfl
theorem Ad:T 83=some ku:=rfl
theorem CW:T 84=some oR:=rfl
theorem B0:T 85=some rP:=rfl
theorem F0:T 86=some tn:=rfl
theorem FZ:T 87=some tj:=rfl
theorem BE:T 95=some l7:=rfl
theorem BP:T 96=some mo:=rfl
theorem DX:T 97=some qh:=rfl
theorem F2:T 99=some wH:=rfl
theorem BK:T 100=some mg:=rfl
theorem Hc:T 101=some uD:=rfl
theorem yA:T 102=some jb:=rfl
theorem y9:T 103=some jH:=rfl
theorem Ha:T 104=some uB:=rfl
theorem BD:T 105=some l6:=rfl
theorem Hb:T 106=some uC:=rfl
theorem z8:T 107=some km:=rfl
theorem Ao:T 108=some lf:=rfl
theorem ya:T 109=some lP:=rfl
theorem BR:T 110=some mr:=rfl
theorem xa:T 111=some kS:=rfl
theorem Ax:T 112=some lD:=rfl
theorem Fe:T 113=some sk:=rfl
theorem Az:T 114=some lF:=rfl
theorem kL:T 115=some fH:=rfl
theorem yb:T 116=some lQ:=rfl
theorem C9:T 117=some o9:=rfl
theorem D3:T 118=some um:=rfl
theorem uf:T 121=some ec:=rfl
theorem Ac:T 122=some kr:=rfl
theorem E8:T 123=some sf:=rfl
theorem xZ:T 124=some oH:=rfl
theorem xb:T 125=some lk:=rfl
theorem IQ:T 126=some vS:=rfl
theorem Cm:T 127=some nw:=rfl
theorem EI:T 128=some va:=rfl
theorem C3:T 129=some oW:=rfl
theorem BN:T 130=some mj:=rfl
theorem Ci:T 131=some nr:=rfl
theorem C8:T 132=some o8:=rfl
theorem Aw:T 133=some lB:=rfl
theorem D1:T 134=some qG:=rfl
theorem D2:T 135=some qH:=rfl
theorem Hj:T 136=some uI:=rfl
theorem Af:T 137=some kA:=rfl
theorem Ch:T 138=some nq:=rfl
theorem D0:T 139=some qD:=rfl
theorem DZ:T 140=some qB:=rfl
theorem BF:T 152=some l8:=rfl
theorem F4:T 153=some tA:=rfl
theorem C7:T 155=some o7:=rfl
theorem Hl:T 156=some uK:=rfl
theorem E9:T 157=some sh:=rfl
theorem Cn:T 159=some nz:=rfl
theorem Cr:T 160=some nE:=rfl
theorem Cs:T 161=some nF:=rfl
theorem Cw:T 162=some nJ:=rfl
theorem wo:T 163=some fM:=rfl
theorem xX:T 164=some iC:=rfl
theorem He:T 165=some uE:=rfl
theorem Am:T 166=some kZ:=rfl
theorem Aa:T 168=some kn:=rfl
theorem FW:T 169=some td:=rfl
theorem Ce:T 170=some ni:=rfl
theorem Cf:T 171=some nj:=rfl
theorem DT:T 172=some pX:=rfl
theorem sX:T 173=some fG:=rfl
theorem wz:T 174=some j9:=rfl
theorem IT:T 175=some vU:=rfl
theorem sA:T 176=some eU:=rfl
theorem vM:T 177=some jN:=rfl
theorem ze:T 178=some jL:=rfl
theorem Ay:T 179=some lE:=rfl
theorem mI:T 180=some ia:=rfl
theorem wA:T 181=some ka:=rfl
theorem Cy:T 182=some sC:=rfl
theorem DW:T 185=some qd:=rfl
theorem Cv:T 186=some nI:=rfl
theorem BC:T 187=some l4:=rfl
theorem F3:T 189=some tz:=rfl
theorem zc:T 190=some jK:=rfl
theorem IS:T 191=some vT:=rfl
theorem F1:T 192=some tt:=rfl
theorem Ar:T 194=some lh:=rfl
theorem BQ:T 195=some mq:=rfl
theorem E7:T 197=some se:=rfl
theorem BO:T 198=some mm:=rfl
theorem CX:T 199=some oS:=rfl
theorem Ct:T 214=some nG:=rfl
theorem Au:T 215=some lj:=rfl
theorem ug:T 217=some hJ:=rfl
theorem tX:T 218=some gw:=rfl
theorem zf:T 219=some jM:=rfl
theorem Ck:T 221=some nv:=rfl
theorem rB:T 222=some cQ:=rfl
theorem BL:T 223=some mh:=rfl
theorem CZ:T 224=some oU:=rfl
theorem C0:T 225=some oV:=rfl
theorem DY:T 226=some qq:=rfl
theorem C6:T 227=some oY:=rfl
theorem BM:T 228=some mi:=rfl
theorem z7:T 229=some kl:=rfl
theorem An:T 230=some la:=rfl
theorem Av:T 233=some ll:=rfl
theorem J6:T 234=some xo:=rfl
theorem C5:T 235=some oX:=rfl
theorem BJ:T 236=some mf:=rfl
theorem Cp:T 237=some nC:=rfl
theorem BI:T 242=some mc:=rfl
theorem yC:T 253=some jc:=rfl
theorem DV:T 254=some pZ:=rfl
theorem Cu:T 255=some nH:=rfl
theorem Cq:T 256=some nD:=rfl
theorem Co:T 258=some nA:=rfl
theorem xY:T 259=some iD:=rfl
theorem za:T 260=some jI:=rfl
theorem Cj:T 266=some nu:=rfl
theorem mixed:Tryz.prog.follows .mixedOrders=true:=by kernel_rfl
theorem Fb:T 38=none:=rfl
theorem E1:T (1000000+38)=some ⟨6,[],.exit 0⟩:=rfl
theorem F5:T 58=none:=rfl
theorem FR:T (1000000+58)=some ⟨3812,[],.exit 0⟩:=rfl
theorem F6:T 59=none:=rfl
theorem FT:T (1000000+59)=some ⟨3,[],.exit 0⟩:=rfl
def V5(f:Nat)(fn:az.Fn):Prop:=if f<1000000 then V6 Tryz.prog f fn else fn.body=.exit 0/\E2 Tryz.prog (ix Tryz.prog) fn.Mm (f-1000000)
theorem fok{f:Nat}{fn:az.Fn}(h:f<1000000)(h':V6 Tryz.prog f fn):V5 f fn:=by unfold V5;rw[if_pos h];exact h'
theorem nok{k f:Nat}(h':E2 Tryz.prog (ix Tryz.prog) k f):V5 (1000000+f) ⟨k,[],.exit 0⟩:=by unfold V5;rw[if_neg (by omega),show 1000000+f-1000000=f from by omega];exact⟨rfl,h'⟩
theorem kok{t:List (Nat×tW×az.Fn)}(h:(t.map λp=>Yl p)=t.map λp=>some p.2.2):∀p∈t,V5 p.1 p.2.2:=by
 intro p hp;have h1:=(List.map_inj_left.1 h) p hp;unfold Yl at h1;simp only[af]at h1;obtain⟨F,h2,h3⟩:=h1;split at h3
 .rename_i hc;simp only[ae,bne_iff_ne,ao,cJ]at hc;obtain⟨h4,⟨c,h5⟩,h6⟩:=hc;exact fok h6 ⟨F,c,p.2.1,h2,h4,h5,h3⟩
 .cases h3
theorem acT:∀p∈[(1000000+38,(⟨6,[],.exit 0⟩:az.Fn)),(1000000+58,(⟨3812,[],.exit 0⟩:az.Fn)),(1000000+59,(⟨3,[],.exit 0⟩:az.Fn))],V5 p.1 p.2:=by
 simp only[List.forall_mem_cons];exact⟨nok Dy,nok El,nok Em,by simp⟩
theorem ab0:∀p∈tbl,V5 p.1 p.2:=by
 intro p hp;have e:∀p∈tbl,p∈((tF0++tF1++tF2++tF3).map λp=>(p.1,p.2.2))++[(1000000+38,(⟨6,[],.exit 0⟩:az.Fn)),(1000000+58,(⟨3812,[],.exit 0⟩:az.Fn)),(1000000+59,(⟨3,[],.exit 0⟩:az.Fn))]:=by
  have:tbl=((tF0++tF1++tF2++tF3).map λp=>(p.1,p.2.2))++[(1000000+38,(⟨6,[],.exit 0⟩:az.Fn)),(1000000+58,(⟨3812,[],.exit 0⟩:az.Fn)),(1000000+59,(⟨3,[],.exit 0⟩:az.Fn))]:=rfl;rw[this];exact λp h=>h
 rcases aZ.1 (e p hp)with h | h
 .obtain⟨q,hq,rfl⟩:=bO.1 h;simp only[aZ]at hq;rcases hq with((hq | hq) | hq) | hq
  .exact kok kF0 q hq
  .exact kok kF1 q hq
  .exact kok kF2 q hq
  .exact kok kF3 q hq
 .exact acT p h
theorem TT:Wj Tryz.prog T:=by
 intro f fn h;have h':∃p,tbl.find? (λp=>p.1 == f)=some p/\p.2=fn:=by simpa[T]using h
 obtain⟨p,h1,h2⟩:=h';have h3:=List.mem_of_find?_eq_some h1;have h4:=List.find?_some h1;have h6:=ab0 p h3;simp only[beq_iff_eq]at h4;subst h2;rw[<- h4];exact h6
@[reducible,simp] def Cl(f:Nat)(a:List D)(v:D)(s:SK):Prop:=lim T (.call false f a s)=some (.val v s)
end Go.Proofs.YtklfdfnoebnciaaGreatDoor
