import Derived.Test.YtklfdfnoebnciaaGreatDoorF0
import Derived.Test.YtklfdfnoebnciaaGreatDoorF1
import Derived.Test.YtklfdfnoebnciaaGreatDoorF2
import Derived.Test.YtklfdfnoebnciaaGreatDoorF3
import Derived.Test.YtklfdfnoebnciaaGreatDoorLays
import Derived.Test.YtklfdfnoebnciaaGreatDoorBase19
set_option linter.all false
set_option maxRecDepth 100000
namespace Go.Proofs.YtklfdfnoebnciaaGreatDoor
open Go Go.Abs
def tbl:List (Nat×Abs.Fn):=[(rX,uT),(vf,xq),(rW,uR),(mM,pC),(sV,xx),(qB,Gh),(mY,uO),(iy,sc),(oO,vT),(lu,tu),(sD,zm),(AH,EK),(o5,sd),(rU,uP),(lB,oo),(mX,uN),(dU,tw),(mW,rL),(ma,rz),(oP,tv),(dV,oW),(gO,pz),(kh,nz),(tK,xr),(lA,pX),(so,zS),(j4,oV),(xC,EL),(iH,rA),(cK,iL),(cU,fk),(kO,pJ),(rH,vH),(bJ,l7),(tL,xu),(o6,se),(aX,rM),(kX,nO),(mZ,rQ),(dO,oM),(eR,jw),(eV,jz),(gh,lg),(fH,ke),(eT,jx),(gi,lh),(fD,j9),(fA,j7),(eU,jy),(fF,kb),(fC,j8),(fG,kc),(fE,ka),(cI,qX),(iU,oi),(bO,pY),(je,oN),(mi,sj),(ed,fR),(dB,kR),(dL,kD),(tM,tC),(iM,lH),(fP,lP),(eS,mu),(ve,xo),(gV,nR),(o7,sk),(fB,nw),(iN,lM),(gB,jA),(sT,sO),(lE,nP),(eo,lO),(mK,pA),(pj,rT),(qq,tz),(qh,tx),(cr,nq),(iq,nK),(iY,ri),(eE,mF),(sF,wJ),(ij,nD),(mV,uL),(dt,jK),(gN,ku),(pf,uJ),(ic,nk),(mU,uK),(fN,lJ),(jC,mr),(de,mS),(ei,nM),(cQ,l8),(dG,mH),(bX,sn),(dH,mJ),(b8,gG),(ef,mT),(jX,pO),(gD,uB),(oR,wK),(pR,xz),(dw,fj),(ek,lN),(mh,sh),(fg,pc),(gS,mB),(tN,vU),(lD,ow),(sU,vb),(mO,pG),(kl,nG),(iV,ot),(mQ,pM),(gC,mG),(nY,rm),(nZ,rn),(rV,uQ),(iO,lQ),(lC,oq),(nX,rl),(nW,rk),(kf,nr),(cZ,tJ),(iP,uk),(jV,pL),(bY,uS),(cV,si),(jF,va),(eW,oz),(jc,oG),(eZ,oH),(lG,oL),(eQ,gJ),(dc,jm),(pg,uM),(cY,mo),(o4,zR),(fO,lK),(du,tt),(lq,oj),(lr,om),(kW,qT),(cM,gF),(ff,ll),(tP,vY),(cJ,gf),(eF,kM),(ft,kK),(fe,mI),(fq,iT),(gW,ln),(oQ,sB),(kP,pK),(qD,vc),(nT,rh),(lF,oK),(ia,nj),(gR,tD),(nV,tF),(fm,kH),(tO,vV),(jD,tB),(gP,tA),(dE,my),(kn,nL),(jt,rO),(mg,sf),(km,nJ),(mL,pB),(eL,nd),(jW,sQ),(eK,nc),(kN,tE),(jE,AA),(dM,oI),(dF,mA),(pQ,xp),(dz,iS),(di,iB),(dP,kL),(na,rS),(iX,ov),(ct,dn),(ki,nE),(bV,pD),(mN,pF),(kY,rj),(mP,pI),(kj,nF),(fM,lI),(jB,mq),(dY,l6),(ju,rP),(fa,mC),(vg,xw),(jT,pH),(ig,nC),(ja,oE),(eC,mD),(jr,rN),(dN,lj),(gQ,pZ),(ie,nA),(fX,oY),(fW,oX),(nU,yF),(gA,jR),(nS,q7),(jd,oJ),(jb,oF),(lX,uj),(iZ,oA),(fS,jn),(dK,kz),(fp,nQ),(fI,oc),(eM,nf),(iW,ou),(eD,mE),(jU,sP),(fJ,od),(1000000+fY,⟨6,[],.exit 0⟩),(1000000+gT,⟨3812,[],.exit 0⟩),(1000000+gU,⟨3,[],.exit 0⟩)]
def T:zO:=fun f=>(tbl.find? fun p=>p.1 == f).map (·.2)
theorem G7:T rX=some uT:=rfl
theorem JO:T vf=some xq:=rfl
theorem G5:T rW=some uR:=rfl
theorem CT:T mM=some pC:=rfl
theorem JQ:T sV=some xx:=rfl
theorem G2:T mY=some uO:=rfl
theorem EX:T iy=some sc:=rfl
theorem IA:T oO=some vT:=rfl
theorem FK:T lu=some tu:=rfl
theorem Lw:T sD=some zm:=rfl
theorem EY:T o5=some sd:=rfl
theorem G3:T rU=some uP:=rfl
theorem Cc:T lB=some oo:=rfl
theorem G1:T mX=some uN:=rfl
theorem FM:T dU=some tw:=rfl
theorem CP:T gO=some pz:=rfl
theorem BD:T kh=some nz:=rfl
theorem ug:T cK=some iL:=rfl
theorem kU:T cU=some fk:=rfl
theorem xa:T bJ=some l7:=rfl
theorem EZ:T o6=some se:=rfl
theorem BV:T aX=some rM:=rfl
theorem yA:T kX=some nO:=rfl
theorem zb:T dO=some oM:=rfl
theorem uX:T eR=some jw:=rfl
theorem u0:T eV=some jz:=rfl
theorem wo:T gh=some lg:=rfl
theorem vG:T fH=some ke:=rfl
theorem uY:T eT=some jx:=rfl
theorem wu:T gi=some lh:=rfl
theorem vC:T fD=some j9:=rfl
theorem vA:T fA=some j7:=rfl
theorem uZ:T eU=some jy:=rfl
theorem vE:T fF=some kb:=rfl
theorem vB:T fC=some j8:=rfl
theorem vF:T fG=some kc:=rfl
theorem vD:T fE=some ka:=rfl
theorem DP:T cI=some qX:=rfl
theorem B9:T iU=some oi:=rfl
theorem Am:T bO=some pY:=rfl
theorem Cs:T je=some oN:=rfl
theorem E3:T mi=some sj:=rfl
theorem rI:T ed=some fR:=rfl
theorem y9:T dL=some kD:=rfl
theorem CX:T tM=some tC:=rfl
theorem zX:T iM=some lH:=rfl
theorem Ab:T fP=some lP:=rfl
theorem Al:T eS=some mu:=rfl
theorem JN:T ve=some xo:=rfl
theorem wx:T gV=some nR:=rfl
theorem E5:T o7=some sk:=rfl
theorem BC:T fB=some nw:=rfl
theorem z7:T iN=some lM:=rfl
theorem u6:T gB=some jA:=rfl
theorem Ao:T sT=some sO:=rfl
theorem wv:T lE=some nP:=rfl
theorem Aa:T eo=some lO:=rfl
theorem CQ:T mK=some pA:=rfl
theorem BW:T pj=some rT:=rfl
theorem FO:T qq=some tz:=rfl
theorem FN:T qh=some tx:=rfl
theorem BA:T cr=some nq:=rfl
theorem BL:T iq=some nK:=rfl
theorem DS:T iY=some ri:=rfl
theorem FQ:T sF=some wJ:=rfl
theorem BG:T ij=some nD:=rfl
theorem GY:T mV=some uL:=rfl
theorem yz:T dt=some jK:=rfl
theorem y7:T gN=some ku:=rfl
theorem GW:T pf=some uJ:=rfl
theorem Bz:T ic=some nk:=rfl
theorem GX:T mU=some uK:=rfl
theorem zZ:T fN=some lJ:=rfl
theorem Ak:T jC=some mr:=rfl
theorem ya:T de=some mS:=rfl
theorem BN:T ei=some nM:=rfl
theorem xb:T cQ=some l8:=rfl
theorem As:T dG=some mH:=rfl
theorem E6:T bX=some sn:=rfl
theorem Av:T dH=some mJ:=rfl
theorem l4:T b8=some gG:=rfl
theorem yb:T ef=some mT:=rfl
theorem C4:T jX=some pO:=rfl
theorem DY:T gD=some uB:=rfl
theorem uq:T dw=some fj:=rfl
theorem z8:T ek=some lN:=rfl
theorem E1:T mh=some sh:=rfl
theorem xZ:T fg=some pc:=rfl
theorem xg:T gS=some mB:=rfl
theorem IB:T tN=some vU:=rfl
theorem Ch:T lD=some ow:=rfl
theorem EE:T sU=some vb:=rfl
theorem CW:T mO=some pG:=rfl
theorem BJ:T kl=some nG:=rfl
theorem Ce:T iV=some ot:=rfl
theorem C3:T mQ=some pM:=rfl
theorem Ar:T gC=some mG:=rfl
theorem DW:T nY=some rm:=rfl
theorem DX:T nZ=some rn:=rfl
theorem G4:T rV=some uQ:=rfl
theorem Ac:T iO=some lQ:=rfl
theorem Cd:T lC=some oq:=rfl
theorem DV:T nX=some rl:=rfl
theorem DU:T nW=some rk:=rfl
theorem BB:T kf=some nr:=rfl
theorem FT:T cZ=some tJ:=rfl
theorem C0:T jV=some pL:=rfl
theorem G6:T bY=some uS:=rfl
theorem E2:T cV=some si:=rfl
theorem Ci:T eW=some oz:=rfl
theorem Cm:T jc=some oG:=rfl
theorem Cn:T eZ=some oH:=rfl
theorem Cr:T lG=some oL:=rfl
theorem wk:T eQ=some gJ:=rfl
theorem xX:T dc=some jm:=rfl
theorem GZ:T pg=some uM:=rfl
theorem Ai:T cY=some mo:=rfl
theorem z6:T fO=some lK:=rfl
theorem FJ:T du=some tt:=rfl
theorem Ca:T lq=some oj:=rfl
theorem Cb:T lr=some om:=rfl
theorem DO:T kW=some qT:=rfl
theorem s9:T cM=some gF:=rfl
theorem wy:T ff=some ll:=rfl
theorem ID:T tP=some vY:=rfl
theorem sr:T cJ=some gf:=rfl
theorem vP:T eF=some kM:=rfl
theorem zc:T ft=some kK:=rfl
theorem Au:T fe=some mI:=rfl
theorem nN:T fq=some iT:=rfl
theorem wz:T gW=some ln:=rfl
theorem Ct:T oQ=some sB:=rfl
theorem DR:T nT=some rh:=rfl
theorem Cq:T lF=some oK:=rfl
theorem By:T ia=some nj:=rfl
theorem FR:T nV=some tF:=rfl
theorem za:T fm=some kH:=rfl
theorem IC:T tO=some vV:=rfl
theorem FP:T jD=some tB:=rfl
theorem An:T dE=some my:=rfl
theorem BM:T kn=some nL:=rfl
theorem E0:T mg=some sf:=rfl
theorem BK:T km=some nJ:=rfl
theorem CS:T mL=some pB:=rfl
theorem Co:T dM=some oI:=rfl
theorem Ap:T dF=some mA:=rfl
theorem ur:T dz=some iS:=rfl
theorem ud:T di=some iB:=rfl
theorem zd:T dP=some kL:=rfl
theorem Cg:T iX=some ov:=rfl
theorem rG:T ct=some dn:=rfl
theorem BH:T ki=some nE:=rfl
theorem CU:T bV=some pD:=rfl
theorem CV:T mN=some pF:=rfl
theorem DT:T kY=some rj:=rfl
theorem CZ:T mP=some pI:=rfl
theorem BI:T kj=some nF:=rfl
theorem zY:T fM=some lI:=rfl
theorem Aj:T jB=some mq:=rfl
theorem Aq:T fa=some mC:=rfl
theorem JP:T vg=some xw:=rfl
theorem CY:T jT=some pH:=rfl
theorem BF:T ig=some nC:=rfl
theorem Ck:T ja=some oE:=rfl
theorem BE:T ie=some nA:=rfl
theorem yB:T gA=some jR:=rfl
theorem DQ:T nS=some q7:=rfl
theorem Cp:T jd=some oJ:=rfl
theorem Cl:T jb=some oF:=rfl
theorem Cj:T iZ=some oA:=rfl
theorem xY:T fS=some jn:=rfl
theorem y8:T dK=some kz:=rfl
theorem Cf:T iW=some ou:=rfl
theorem mixed:Tryz.prog.follows .mixedOrders=true:=by kernel_rfl
theorem E4:T fY=none:=rfl
theorem EV:T (1000000+fY)=some ⟨6,[],.exit 0⟩:=rfl
theorem FU:T gT=none:=rfl
theorem FE:T (1000000+gT)=some ⟨3812,[],.exit 0⟩:=rfl
theorem FV:T gU=none:=rfl
theorem FF:T (1000000+gU)=some ⟨3,[],.exit 0⟩:=rfl
def FOk(f:Nat)(fn:Abs.Fn):Prop:=if f<1000000 then akg Tryz.prog f fn else fn.body=.exit 0∧EW Tryz.prog (j6 Tryz.prog) fn.L4 (f-1000000)
theorem fok{f:Nat}{fn:Abs.Fn}(h:f<1000000)(h':akg Tryz.prog f fn):FOk f fn:=by unfold FOk;rw[if_pos h];exact h'
theorem nok{k f:Nat}(h':EW Tryz.prog (j6 Tryz.prog) k f):FOk (1000000+f) ⟨k,[],.exit 0⟩:=by unfold FOk;rw[if_neg (by omega),show 1000000+f-1000000=f from by omega];exact⟨rfl,h'⟩
theorem kok{t:List (Nat×uc×Abs.Fn)}(h:(t.map fun p=>chk p)=t.map fun p=>some p.2.2):∀p∈t,FOk p.1 p.2.2:=by
 intro p hp;have h1:=(List.map_inj_left.1 h) p hp;unfold chk at h1;simp only[af]at h1;obtain⟨F,h2,h3⟩:=h1;split at h3
 ·rename_i hc;simp only[ae,bne_iff_ne,ao,db]at hc;obtain⟨h4,⟨c,h5⟩,h6⟩:=hc;exact fok h6 ⟨F,c,p.2.1,h2,h4,h5,h3⟩
 ·cases h3
theorem avs:∀p∈[(1000000+fY,(⟨6,[],.exit 0⟩:Abs.Fn)),(1000000+gT,(⟨3812,[],.exit 0⟩:Abs.Fn)),(1000000+gU,(⟨3,[],.exit 0⟩:Abs.Fn))],FOk p.1 p.2:=by
 simp only[List.forall_mem_cons];exact⟨nok Du,nok Ef,nok Eg,by simp⟩
theorem auA:∀p∈tbl,FOk p.1 p.2:=by
 intro p hp;have e:∀p∈tbl,p∈((tF0++tF1++tF2++tF3).map fun p=>(p.1,p.2.2))++[(1000000+fY,(⟨6,[],.exit 0⟩:Abs.Fn)),(1000000+gT,(⟨3812,[],.exit 0⟩:Abs.Fn)),(1000000+gU,(⟨3,[],.exit 0⟩:Abs.Fn))]:=by
  have:tbl=((tF0++tF1++tF2++tF3).map fun p=>(p.1,p.2.2))++[(1000000+fY,(⟨6,[],.exit 0⟩:Abs.Fn)),(1000000+gT,(⟨3812,[],.exit 0⟩:Abs.Fn)),(1000000+gU,(⟨3,[],.exit 0⟩:Abs.Fn))]:=rfl;rw[this];exact fun p h=>h
 rcases aY.1 (e p hp)with h | h
 ·obtain⟨q,hq,rfl⟩:=bN.1 h;simp only[aY]at hq;rcases hq with((hq | hq) | hq) | hq
  ·exact kok kF0 q hq
  ·exact kok kF1 q hq
  ·exact kok kF2 q hq
  ·exact kok kF3 q hq
 ·exact avs p h
theorem TT:TOk Tryz.prog T:=by
 intro f fn h;have h':∃p,tbl.find? (fun p=>p.1 == f)=some p∧p.2=fn:=by simpa[T]using h
 obtain⟨p,h1,h2⟩:=h';have h3:=List.mem_of_find?_eq_some h1;have h4:=List.find?_some h1;have h6:=auA p h3;simp only[beq_iff_eq]at h4;subst h2;rw[← h4];exact h6
end Go.Proofs.YtklfdfnoebnciaaGreatDoor
