import Derived.Test.YtfgljaglidhjiaaGreatDoorF0
import Derived.Test.YtfgljaglidhjiaaGreatDoorF1
import Derived.Test.YtfgljaglidhjiaaGreatDoorF2
import Derived.Test.YtfgljaglidhjiaaGreatDoorF3
import Derived.Test.YtfgljaglidhjiaaGreatDoorLays
import Derived.Test.YtfgljaglidhjiaaGreatDoorBase19
set_option linter.all false
set_option maxRecDepth 100000
namespace Go.Proofs.YtfgljaglidhjiaaGreatDoor
open Go Go.Abs
def tbl:List (Nat×Abs.Fn):=[(iP,iE),(xf,wW),(rq,GA),(y8,Eu),(oz,uY),(tD,tt),(vh,zF),(pT,uX),(wx,Bn),(oN,tf),(xe,wV),(nD,rY),(iW,sc),(uk,wY),(ru,tA),(sf,rV),(nA,mQ),(tB,td),(vg,uW),(xC,CW),(xg,K7),(nz,rS),(fH,qh),(iy,ti),(dw,ot),(wv,Bm),(cG,o6),(rB,vR),(tT,yX),(gq,jE),(oA,wX),(oM,sZ),(cS,lF),(rn,sX),(je,lE),(oL,sY),(gn,jC),(kL,kn),(vk,va),(nC,mX),(fI,tv),(um,xb),(oE,oh),(l8,lV),(dE,oJ),(eP,lZ),(dj,nT),(ed,kH),(cq,qX),(ef,kJ),(cz,iw),(eN,oK),(tU,yZ),(nY,qD),(iU,om),(ji,lX),(oG,ov),(ig,kG),(pz,pj),(pA,pk),(jT,mU),(tC,tp),(jN,jJ),(nB,mT),(vi,zG),(aN,lJ),(eC,qQ),(iQ,n8),(l4,lG),(rp,tc),(du,kl),(q7,CV),(gp,jD),(dR,rR),(nv,mO),(nw,mP),(mG,oZ),(jW,o9),(ct,tw),(jd,lD),(iT,u6),(pr,rZ),(j1,nd),(dq,qG),(fO,iK),(vl,vc),(di,iu),(fG,nr),(vm,vf),(da,gM),(fe,mu),(fS,iM),(fF,kI),(fR,jR),(iX,nu),(po,o8),(jh,lS),(nE,ni),(dz,sb),(jO,vS),(ll,ou),(ma,lY),(kM,rX),(iR,uZ),(ea,kB),(ke,tn),(nX,qB),(l9,lW),(oC,od),(wy,Bo),(de,jG),(dp,o5),(jv,sF),(cg,nS),(rG,zE),(jS,mN),(j3,nq),(kO,wZ),(fC,mY),(gl,jB),(kK,km),(eH,nR),(kf,tu),(kN,Ez),(eo,ng),(ec,kD),(fE,kE),(xh,xa),(fD,nf),(lj,oi),(jg,lR),(jY,na),(dT,jQ),(dI,jm),(ij,wk),(ew,iN),(jV,mW),(nF,nj),(cT,cN),(l6,lT),(ck,oe),(oD,og),(mI,pa),(oF,oj),(l7,lU),(fk,oQ),(ln,ui),(eZ,oo),(kc,tj),(ep,nk),(iS,rW),(jf,lQ),(AI,GB),(re,qq),(bd,tg),(mH,o4),(eu,pQ),(fj,oP),(mw,u7),(gC,gA),(ej,iD),(fQ,pc),(pq,Bp),(pU,tR),(ic,ia),(pn,o7),(j2,nh),(jZ,nc),(nK,vQ),(jX,mZ),(gI,qT),(gi,pF),(fm,oR),(fw,kq),(fB,kA),(gN,mR),(gg,lP),(fy,ku),(gO,mS),(fZ,lL),(fW,lH),(fA,kz),(gb,lN),(fY,lK),(gf,lO),(ga,lM),(gH,qR),(jU,mV),(fa,oq),(lk,uh),(bW,rT),(nZ,qH),(eL,gB),(dY,mB),(ek,iJ),(vj,u0),(jM,jA),(gr,jI),(fx,kr),(rh,qU),(fX,lI),(ie,kF),(eT,jH),(oB,oc),(se,rU),(gj,pG),(dQ,gY),(iO,iC),(lq,ow),(pV,y7),(rH,zH),(dS,dP),(eS,jF),(pw,pg),(pv,pf),(fu,ft),(dD,gz),(my,rF),(sh,xc),(oO,tz),(1000000+fP,⟨9,[],.exit 0⟩),(1000000+dh,⟨5245543,[],.exit 0⟩),(1000000+pB,⟨5,[],.exit 0⟩),(1000000+eD,⟨3,[],.exit 0⟩),(1000000+eM,⟨5245544,[],.exit 0⟩),(1000000+gJ,⟨6,[],.exit 0⟩),(1000000+iV,⟨7636,[],.exit 0⟩)]
def T:Ak:=fun f=>(tbl.find? fun p=>p.1 == f).map (·.2)
theorem BP:T iP=some iE:=rfl
theorem Tb:T xf=some wW:=rfl
theorem PX:T oz=some uY:=rfl
theorem N5:T tD=some tt:=rfl
theorem PW:T pT=some uX:=rfl
theorem N2:T oN=some tf:=rfl
theorem Ta:T xe=some wV:=rfl
theorem yA:T nD=some rY:=rfl
theorem yB:T iW=some sc:=rfl
theorem DM:T uk=some wY:=rfl
theorem Gu:T ru=some tA:=rfl
theorem Mz:T sf=some rV:=rfl
theorem GM:T nA=some mQ:=rfl
theorem N1:T tB=some td:=rfl
theorem PV:T vg=some uW:=rfl
theorem Mw:T nz=some rS:=rfl
theorem Ll:T fH=some qh:=rfl
theorem N3:T iy=some ti:=rfl
theorem JG:T cG=some o6:=rfl
theorem C5:T gq=some jE:=rfl
theorem NZ:T oM=some sZ:=rfl
theorem Fs:T cS=some lF:=rfl
theorem NX:T rn=some sX:=rfl
theorem Fq:T je=some lE:=rfl
theorem NY:T oL=some sY:=rfl
theorem C3:T gn=some jC:=rfl
theorem DI:T kL=some kn:=rfl
theorem PY:T vk=some va:=rfl
theorem GR:T nC=some mX:=rfl
theorem Ah:T fI=some tv:=rfl
theorem KZ:T um=some xb:=rfl
theorem Io:T oE=some oh:=rfl
theorem FC:T l8=some lV:=rfl
theorem Ai:T dE=some oJ:=rfl
theorem FH:T eP=some lZ:=rfl
theorem zr:T dj=some nT:=rfl
theorem DQ:T ed=some kH:=rfl
theorem Lu:T cq=some qX:=rfl
theorem DS:T ef=some kJ:=rfl
theorem nP:T cz=some iw:=rfl
theorem Aj:T eN=some oK:=rfl
theorem MB:T tU=some yZ:=rfl
theorem Lp:T nY=some qD:=rfl
theorem zy:T iU=some om:=rfl
theorem FF:T ji=some lX:=rfl
theorem It:T oG=some ov:=rfl
theorem DP:T ig=some kG:=rfl
theorem JN:T pz=some pj:=rfl
theorem JO:T pA=some pk:=rfl
theorem GO:T jT=some mU:=rfl
theorem N4:T tC=some tp:=rfl
theorem C9:T jN=some jJ:=rfl
theorem GN:T nB=some mT:=rfl
theorem Fw:T aN=some lJ:=rfl
theorem Ii:T iQ=some n8:=rfl
theorem Ft:T l4=some lG:=rfl
theorem N0:T rp=some tc:=rfl
theorem DG:T du=some kl:=rfl
theorem C4:T gp=some jD:=rfl
theorem Mu:T dR=some rR:=rfl
theorem GK:T nv=some mO:=rfl
theorem GL:T nw=some mP:=rfl
theorem JF:T mG=some oZ:=rfl
theorem JJ:T jW=some o9:=rfl
theorem N6:T ct=some tw:=rfl
theorem Fp:T jd=some lD:=rfl
theorem MC:T pr=some rZ:=rfl
theorem GX:T j1=some nd:=rfl
theorem Lq:T dq=some qG:=rfl
theorem BR:T fO=some iK:=rfl
theorem PZ:T vl=some vc:=rfl
theorem uz:T di=some iu:=rfl
theorem yC:T fG=some nr:=rfl
theorem P0:T vm=some vf:=rfl
theorem tK:T da=some gM:=rfl
theorem yd:T fe=some mu:=rfl
theorem BU:T fS=some iM:=rfl
theorem DR:T fF=some kI:=rfl
theorem oX:T fR=some jR:=rfl
theorem yD:T iX=some nu:=rfl
theorem JI:T po=some o8:=rfl
theorem Fz:T jh=some lS:=rfl
theorem G2:T nE=some ni:=rfl
theorem MD:T dz=some sb:=rfl
theorem Is:T ll=some ou:=rfl
theorem FG:T ma=some lY:=rfl
theorem MA:T kM=some rX:=rfl
theorem DL:T ea=some kB:=rfl
theorem Ln:T nX=some qB:=rfl
theorem FE:T l9=some lW:=rfl
theorem Ik:T oC=some od:=rfl
theorem vI:T de=some jG:=rfl
theorem mE:T dp=some o5:=rfl
theorem zq:T cg=some nS:=rfl
theorem GJ:T jS=some mN:=rfl
theorem G4:T j3=some nq:=rfl
theorem GS:T fC=some mY:=rfl
theorem C0:T gl=some jB:=rfl
theorem DH:T kK=some km:=rfl
theorem GZ:T eo=some ng:=rfl
theorem DN:T ec=some kD:=rfl
theorem DO:T fE=some kE:=rfl
theorem Tc:T xh=some xa:=rfl
theorem GY:T fD=some nf:=rfl
theorem Iq:T lj=some oi:=rfl
theorem Fy:T jg=some lR:=rfl
theorem GV:T jY=some na:=rfl
theorem vW:T dT=some jQ:=rfl
theorem vA:T dI=some jm:=rfl
theorem JP:T ij=some wk:=rfl
theorem BV:T ew=some iN:=rfl
theorem GQ:T jV=some mW:=rfl
theorem G3:T nF=some nj:=rfl
theorem sL:T cT=some cN:=rfl
theorem FA:T l6=some lT:=rfl
theorem Il:T ck=some oe:=rfl
theorem Im:T oD=some og:=rfl
theorem JK:T mI=some pa:=rfl
theorem Ir:T oF=some oj:=rfl
theorem FB:T l7=some lU:=rfl
theorem Fx:T jf=some lQ:=rfl
theorem Lm:T re=some qq:=rfl
theorem Gt:T bd=some tg:=rfl
theorem AX:T mH=some o4:=rfl
theorem BS:T eu=some pQ:=rfl
theorem Ag:T gC=some gA:=rfl
theorem BO:T ej=some iD:=rfl
theorem G5:T pU=some tR:=rfl
theorem AY:T ic=some ia:=rfl
theorem JH:T pn=some o7:=rfl
theorem G1:T j2=some nh:=rfl
theorem GW:T jZ=some nc:=rfl
theorem GU:T jX=some mZ:=rfl
theorem wG:T fw=some kq:=rfl
theorem wJ:T fB=some kA:=rfl
theorem yy:T gN=some mR:=rfl
theorem xM:T gg=some lP:=rfl
theorem wH:T fy=some ku:=rfl
theorem yz:T gO=some mS:=rfl
theorem xI:T fZ=some lL:=rfl
theorem xG:T fW=some lH:=rfl
theorem wI:T fA=some kz:=rfl
theorem xK:T gb=some lN:=rfl
theorem xH:T fY=some lK:=rfl
theorem xL:T gf=some lO:=rfl
theorem xJ:T ga=some lM:=rfl
theorem GP:T jU=some mV:=rfl
theorem DK:T bW=some rT:=rfl
theorem Lr:T nZ=some qH:=rfl
theorem sR:T eL=some gB:=rfl
theorem BQ:T ek=some iJ:=rfl
theorem Ip:T vj=some u0:=rfl
theorem CZ:T jM=some jA:=rfl
theorem C8:T gr=some jI:=rfl
theorem DJ:T fx=some kr:=rfl
theorem Lt:T rh=some qU:=rfl
theorem Fu:T fX=some lI:=rfl
theorem wK:T ie=some kF:=rfl
theorem C7:T eT=some jH:=rfl
theorem Ij:T oB=some oc:=rfl
theorem My:T se=some rU:=rfl
theorem AW:T dQ=some gY:=rfl
theorem BN:T iO=some iC:=rfl
theorem Iu:T lq=some ow:=rfl
theorem vV:T dS=some dP:=rfl
theorem C6:T eS=some jF:=rfl
theorem JM:T pw=some pg:=rfl
theorem JL:T pv=some pf:=rfl
theorem yw:T fu=some ft:=rfl
theorem Af:T dD=some gz:=rfl
theorem mixed:Tryz.prog.follows .mixedOrders=true:=by kernel_rfl
theorem MF:T eD=none:=rfl
theorem Mr:T (1000000+eD)=some ⟨3,[],.exit 0⟩:=rfl
theorem Ls:T gJ=none:=rfl
theorem Lj:T (1000000+gJ)=some ⟨6,[],.exit 0⟩:=rfl
theorem ME:T iV=none:=rfl
theorem Mq:T (1000000+iV)=some ⟨7636,[],.exit 0⟩:=rfl
def FOk(f:Nat)(fn:Abs.Fn):Prop:=if f<1000000 then ath Tryz.prog f fn else fn.body=.exit 0∧yb Tryz.prog (kg Tryz.prog) fn.afz (f-1000000)
theorem fok{f:Nat}{fn:Abs.Fn}(h:f<1000000)(h':ath Tryz.prog f fn):FOk f fn:=by unfold FOk;rw[if_pos h];exact h'
theorem nok{k f:Nat}(h':yb Tryz.prog (kg Tryz.prog) k f):FOk (1000000+f) ⟨k,[],.exit 0⟩:=by unfold FOk;rw[if_neg (by omega),show 1000000+f-1000000=f from by omega];exact⟨rfl,h'⟩
theorem kok{t:List (Nat×bP×Abs.Fn)}(h:(t.map fun p=>chk p)=t.map fun p=>some p.2.2):∀p∈t,FOk p.1 p.2.2:=by
 intro p hp;have h1:=(List.map_inj_left.1 h) p hp;unfold chk at h1;simp only[ai]at h1;obtain⟨F,h2,h3⟩:=h1;split at h3
 ·rename_i hc;simp only[af,bne_iff_ne,aA,dC]at hc;obtain⟨h4,⟨c,h5⟩,h6⟩:=hc;exact fok h6 ⟨F,c,p.2.1,h2,h4,h5,h3⟩
 ·cases h3
theorem aEv:∀p∈[(1000000+fP,(⟨9,[],.exit 0⟩:Abs.Fn)),(1000000+dh,(⟨5245543,[],.exit 0⟩:Abs.Fn)),(1000000+pB,(⟨5,[],.exit 0⟩:Abs.Fn)),(1000000+eD,(⟨3,[],.exit 0⟩:Abs.Fn)),(1000000+eM,(⟨5245544,[],.exit 0⟩:Abs.Fn)),(1000000+gJ,(⟨6,[],.exit 0⟩:Abs.Fn)),(1000000+iV,(⟨7636,[],.exit 0⟩:Abs.Fn))],FOk p.1 p.2:=by
 simp only[List.forall_mem_cons];exact⟨nok AM,nok vH,nok KD,nok KC,nok zc,nok Jn,nok KB,by simp⟩
theorem aDD:∀p∈tbl,FOk p.1 p.2:=by
 intro p hp;have e:∀p∈tbl,p∈((tF0++tF1++tF2++tF3).map fun p=>(p.1,p.2.2))++[(1000000+fP,(⟨9,[],.exit 0⟩:Abs.Fn)),(1000000+dh,(⟨5245543,[],.exit 0⟩:Abs.Fn)),(1000000+pB,(⟨5,[],.exit 0⟩:Abs.Fn)),(1000000+eD,(⟨3,[],.exit 0⟩:Abs.Fn)),(1000000+eM,(⟨5245544,[],.exit 0⟩:Abs.Fn)),(1000000+gJ,(⟨6,[],.exit 0⟩:Abs.Fn)),(1000000+iV,(⟨7636,[],.exit 0⟩:Abs.Fn))]:=by
  have:tbl=((tF0++tF1++tF2++tF3).map fun p=>(p.1,p.2.2))++[(1000000+fP,(⟨9,[],.exit 0⟩:Abs.Fn)),(1000000+dh,(⟨5245543,[],.exit 0⟩:Abs.Fn)),(1000000+pB,(⟨5,[],.exit 0⟩:Abs.Fn)),(1000000+eD,(⟨3,[],.exit 0⟩:Abs.Fn)),(1000000+eM,(⟨5245544,[],.exit 0⟩:Abs.Fn)),(1000000+gJ,(⟨6,[],.exit 0⟩:Abs.Fn)),(1000000+iV,(⟨7636,[],.exit 0⟩:Abs.Fn))]:=rfl;rw[this];exact fun p h=>h
 rcases bz.1 (e p hp)with h | h
 ·obtain⟨q,hq,rfl⟩:=bU.1 h;simp only[bz]at hq;rcases hq with((hq | hq) | hq) | hq
  ·exact kok kF0 q hq
  ·exact kok kF1 q hq
  ·exact kok kF2 q hq
  ·exact kok kF3 q hq
 ·exact aEv p h
theorem TT:TOk Tryz.prog T:=by
 intro f fn h;have h':∃p,tbl.find? (fun p=>p.1 == f)=some p∧p.2=fn:=by simpa[T]using h
 obtain⟨p,h1,h2⟩:=h';have h3:=List.mem_of_find?_eq_some h1;have h4:=List.find?_some h1;have h6:=aDD p h3;simp only[beq_iff_eq]at h4;subst h2;rw[← h4];exact h6
end Go.Proofs.YtfgljaglidhjiaaGreatDoor
