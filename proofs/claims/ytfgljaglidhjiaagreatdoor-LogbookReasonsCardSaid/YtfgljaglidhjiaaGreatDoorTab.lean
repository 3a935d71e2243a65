import Derived.Test.YtfgljaglidhjiaaGreatDoorF0
import Derived.Test.YtfgljaglidhjiaaGreatDoorF1
import Derived.Test.YtfgljaglidhjiaaGreatDoorF2
import Derived.Test.YtfgljaglidhjiaaGreatDoorF3
import Derived.Test.YtfgljaglidhjiaaGreatDoorLays
import Derived.Test.YtfgljaglidhjiaaGreatDoorBase19
set_option linter.all false
set_option maxRecDepth 100000
namespace Go.Proofs.YtfgljaglidhjiaaGreatDoor
open Go Go.Abs
def tbl:List (Nat×Abs.Fn):=[(iD,ln),(vJ,yb),(pP,CJ),(ov,tP),(nr,wI),(sB,vn),(ud,yc),(Af,DU),(u7,zm),(nI,vj),(uc,wH),(sA,vm),(tv,xZ),(kc,oq),(iK,ou),(tw,tp),(pQ,sw),(rz,tR),(vZ,AD),(vK,FC),(l7,tO),(gH,sH),(jT,vk),(cC,nh),(jz,rH),(cA,rJ),(pT,uM),(sZ,xi),(gv,mj),(nu,vD),(sC,vo),(nH,vh),(cM,nR),(pN,vf),(iS,nQ),(nG,vg),(gq,mh),(ka,mW),(ug,wJ),(l9,oX),(fI,pM),(tx,vF),(nA,qG),(kY,oc),(dA,nE),(eP,oj),(dc,mM),(ef,nj),(ch,sQ),(eg,nq),(ck,ic),(eN,nF),(tc,xk),(mR,sM),(iI,nc),(iW,oh),(nC,qU),(gY,ni),(oE,rR),(oF,rS),(jA,oU),(sy,vl),(jq,mr),(l8,oT),(ue,yd),(aM,nV),(eF,pz),(iE,pX),(kV,nS),(pO,vi),(dp,mU),(pD,AB),(gr,mi),(dQ,tN),(l4,oR),(l6,oS),(lQ,rG),(jD,rN),(cj,vp),(iR,nP),(iH,tV),(oB,tX),(jH,o9),(dk,sN),(fO,lC),(uh,wK),(da,ia),(fH,lY),(ui,wM),(cV,gM),(ff,lH),(fS,lF),(fG,nk),(fR,jw),(iL,lZ),(oz,rM),(iV,nZ),(ma,pg),(dq,ub),(jr,uN),(kG,qT),(la,oi),(kb,tT),(iF,tS),(ec,mZ),(jV,sn),(mQ,sK),(kZ,og),(nw,pZ),(va,zn),(cZ,jm),(dj,fN),(jh,rW),(bZ,mL),(qY,ya),(jy,oQ),(jJ,pn),(kf,vE),(fD,oY),(gp,mg),(j9,mV),(eJ,mJ),(jW,so),(ke,Bq),(ez,pc),(ed,na),(fF,nd),(vL,yf),(fE,pa),(kE,qH),(iU,nY),(jF,o7),(dS,jv),(dD,jc),(gZ,uZ),(eC,lG),(jC,oW),(mc,pj),(cN,dI),(kW,n8),(cg,qB),(nz,qD),(lS,rO),(nB,qQ),(kX,n9),(fm,nL),(kH,tu),(fa,nf),(jU,sk),(eA,lW),(iG,rp),(iT,nW),(yV,CK),(pF,sJ),(bd,sj),(lR,oo),(eB,pk),(fk,nK),(lI,tW),(gB,jR),(ep,lk),(fQ,ot),(oA,zo),(po,sX),(gW,kB),(ow,rL),(jI,pf),(jG,o8),(mC,uL),(jE,oZ),(gJ,pB),(gl,oK),(fp,nM),(fx,j4),(fC,j7),(gO,lU),(gk,kU),(fA,j5),(gP,lV),(gg,kQ),(ga,kO),(fB,j6),(gi,kS),(gf,kP),(gj,kT),(gh,kR),(gI,pA),(jB,oV),(fe,ng),(kF,tt),(bU,rn),(mS,sO),(eL,gA),(dW,lL),(eu,lr),(uf,tU),(jn,mf),(gw,mq),(fy,mX),(pG,sP),(gb,nU),(gX,j8),(eT,mo),(nv,pY),(ru,tQ),(gn,oL),(dP,km),(iC,lj),(kI,qX),(pq,xl),(q7,yg),(dR,fM),(eS,mm),(oD,rQ),(oC,rP),(fw,iq),(dz,jQ),(lJ,qR),(rA,vG),(nJ,su),(1000000+fP,⟨9,[],.exit 0⟩),(1000000+c8,⟨5245543,[],.exit 0⟩),(1000000+oG,⟨5,[],.exit 0⟩),(1000000+eG,⟨3,[],.exit 0⟩),(1000000+eM,⟨5245544,[],.exit 0⟩),(1000000+gK,⟨6,[],.exit 0⟩),(1000000+iJ,⟨7636,[],.exit 0⟩)]
def T:yN:=fun f=>(tbl.find? fun p=>p.1 == f).map (·.2)
theorem zP:T iD=some ln:=rfl
theorem KR:T vJ=some yb:=rfl
theorem GI:T ov=some tP:=rfl
theorem Jt:T nr=some wI:=rfl
theorem H3:T sB=some vn:=rfl
theorem HY:T nI=some vj:=rfl
theorem Js:T uc=some wH:=rfl
theorem H2:T sA=some vm:=rfl
theorem KQ:T tv=some xZ:=rfl
theorem wZ:T kc=some oq:=rfl
theorem xa:T iK=some ou:=rfl
theorem Ba:T tw=some tp:=rfl
theorem CF:T pQ=some sw:=rfl
theorem GK:T rz=some tR:=rfl
theorem GH:T l7=some tO:=rfl
theorem FR:T gH=some sH:=rfl
theorem HZ:T jT=some vk:=rfl
theorem Ex:T jz=some rH:=rfl
theorem Ey:T cA=some rJ:=rfl
theorem AL:T gv=some mj:=rfl
theorem H4:T sC=some vo:=rfl
theorem HW:T nH=some vh:=rfl
theorem Cj:T cM=some nR:=rfl
theorem HU:T pN=some vf:=rfl
theorem Ci:T iS=some nQ:=rfl
theorem HV:T nG=some vg:=rfl
theorem AJ:T gq=some mh:=rfl
theorem AZ:T ka=some mW:=rfl
theorem Ju:T ug=some wJ:=rfl
theorem CY:T l9=some oX:=rfl
theorem yK:T fI=some pM:=rfl
theorem Fu:T tx=some vF:=rfl
theorem DF:T nA=some qG:=rfl
theorem Cs:T kY=some oc:=rfl
theorem yL:T dA=some nE:=rfl
theorem Cw:T eP=some oj:=rfl
theorem xN:T dc=some mM:=rfl
theorem Bf:T ef=some nj:=rfl
theorem F0:T ch=some sQ:=rfl
theorem Bh:T eg=some nq:=rfl
theorem mI:T ck=some ic:=rfl
theorem yM:T eN=some nF:=rfl
theorem GM:T tc=some xk:=rfl
theorem FV:T mR=some sM:=rfl
theorem xP:T iI=some nc:=rfl
theorem Cu:T iW=some oh:=rfl
theorem DK:T nC=some qU:=rfl
theorem Be:T gY=some ni:=rfl
theorem EF:T oE=some rR:=rfl
theorem EG:T oF=some rS:=rfl
theorem CV:T jA=some oU:=rfl
theorem H0:T sy=some vl:=rfl
theorem AP:T jq=some mr:=rfl
theorem CU:T l8=some oT:=rfl
theorem Cm:T aM=some nV:=rfl
theorem DA:T iE=some pX:=rfl
theorem Ck:T kV=some nS:=rfl
theorem HX:T pO=some vi:=rfl
theorem AX:T dp=some mU:=rfl
theorem AK:T gr=some mi:=rfl
theorem GG:T dQ=some tN:=rfl
theorem CS:T l4=some oR:=rfl
theorem CT:T l6=some oS:=rfl
theorem Ew:T lQ=some rG:=rfl
theorem EB:T jD=some rN:=rfl
theorem H5:T cj=some vp:=rfl
theorem Ch:T iR=some nP:=rfl
theorem GN:T oB=some tX:=rfl
theorem C5:T jH=some o9:=rfl
theorem FW:T dk=some sN:=rfl
theorem zR:T fO=some lC:=rfl
theorem Jv:T uh=some wK:=rfl
theorem tC:T da=some ia:=rfl
theorem xb:T fH=some lY:=rfl
theorem Jw:T ui=some wM:=rfl
theorem sS:T cV=some gM:=rfl
theorem wD:T ff=some lH:=rfl
theorem zT:T fS=some lF:=rfl
theorem Bg:T fG=some nk:=rfl
theorem om:T fR=some jw:=rfl
theorem xc:T iL=some lZ:=rfl
theorem EA:T oz=some rM:=rfl
theorem Cp:T iV=some nZ:=rfl
theorem C9:T ma=some pg:=rfl
theorem GO:T dq=some ub:=rfl
theorem DJ:T kG=some qT:=rfl
theorem Cv:T la=some oi:=rfl
theorem GL:T kb=some tT:=rfl
theorem A9:T ec=some mZ:=rfl
theorem FU:T mQ=some sK:=rfl
theorem Ct:T kZ=some og:=rfl
theorem DC:T nw=some pZ:=rfl
theorem uI:T cZ=some jm:=rfl
theorem lP:T dj=some fN:=rfl
theorem xM:T bZ=some mL:=rfl
theorem CQ:T jy=some oQ:=rfl
theorem Db:T jJ=some pn:=rfl
theorem CZ:T fD=some oY:=rfl
theorem AI:T gp=some mg:=rfl
theorem AY:T j9=some mV:=rfl
theorem C7:T ez=some pc:=rfl
theorem Bb:T ed=some na:=rfl
theorem Bc:T fF=some nd:=rfl
theorem KS:T vL=some yf:=rfl
theorem C6:T fE=some pa:=rfl
theorem DH:T kE=some qH:=rfl
theorem Co:T iU=some nY:=rfl
theorem C3:T jF=some o7:=rfl
theorem uS:T dS=some jv:=rfl
theorem uE:T dD=some jc:=rfl
theorem EH:T gZ=some uZ:=rfl
theorem zU:T eC=some lG:=rfl
theorem CX:T jC=some oW:=rfl
theorem Da:T mc=some pj:=rfl
theorem sc:T cN=some dI:=rfl
theorem Cq:T kW=some n8:=rfl
theorem DD:T cg=some qB:=rfl
theorem DE:T nz=some qD:=rfl
theorem EC:T lS=some rO:=rfl
theorem DI:T nB=some qQ:=rfl
theorem Cr:T kX=some n9:=rfl
theorem Cn:T iT=some nW:=rfl
theorem FT:T pF=some sJ:=rfl
theorem CE:T bd=some sj:=rfl
theorem ze:T lR=some oo:=rfl
theorem zS:T eB=some pk:=rfl
theorem yJ:T gB=some jR:=rfl
theorem zO:T ep=some lk:=rfl
theorem Dc:T po=some sX:=rfl
theorem zf:T gW=some kB:=rfl
theorem Ez:T ow=some rL:=rfl
theorem C8:T jI=some pf:=rfl
theorem C4:T jG=some o8:=rfl
theorem C0:T jE=some oZ:=rfl
theorem vw:T fx=some j4:=rfl
theorem vA:T fC=some j7:=rfl
theorem wX:T gO=some lU:=rfl
theorem wo:T gk=some kU:=rfl
theorem vx:T fA=some j5:=rfl
theorem wY:T gP=some lV:=rfl
theorem wg:T gg=some kQ:=rfl
theorem wc:T ga=some kO:=rfl
theorem vy:T fB=some j6:=rfl
theorem wj:T gi=some kS:=rfl
theorem we:T gf=some kP:=rfl
theorem wk:T gj=some kT:=rfl
theorem wi:T gh=some kR:=rfl
theorem CW:T jB=some oV:=rfl
theorem A8:T bU=some rn:=rfl
theorem FX:T mS=some sO:=rfl
theorem se:T eL=some gA:=rfl
theorem zQ:T eu=some lr:=rfl
theorem DG:T uf=some tU:=rfl
theorem AH:T jn=some mf:=rfl
theorem AO:T gw=some mq:=rfl
theorem A7:T fy=some mX:=rfl
theorem FZ:T pG=some sP:=rfl
theorem Cl:T gb=some nU:=rfl
theorem vB:T gX=some j8:=rfl
theorem AN:T eT=some mo:=rfl
theorem DB:T nv=some pY:=rfl
theorem GJ:T ru=some tQ:=rfl
theorem zd:T dP=some km:=rfl
theorem zN:T iC=some lj:=rfl
theorem DL:T kI=some qX:=rfl
theorem uR:T dR=some fM:=rfl
theorem AM:T eS=some mm:=rfl
theorem EE:T oD=some rQ:=rfl
theorem ED:T oC=some rP:=rfl
theorem wW:T fw=some iq:=rfl
theorem yI:T dz=some jQ:=rfl
theorem mixed:Tryz.prog.follows .mixedOrders=true:=by kernel_rfl
theorem GQ:T eG=none:=rfl
theorem GC:T (1000000+eG)=some ⟨3,[],.exit 0⟩:=rfl
theorem FY:T gK=none:=rfl
theorem FP:T (1000000+gK)=some ⟨6,[],.exit 0⟩:=rfl
theorem GP:T iJ=none:=rfl
theorem GB:T (1000000+iJ)=some ⟨7636,[],.exit 0⟩:=rfl
def FOk(f:Nat)(fn:Abs.Fn):Prop:=if f<1000000 then ans Tryz.prog f fn else fn.body=.exit 0∧wB Tryz.prog (jY Tryz.prog) fn.Nl (f-1000000)
theorem fok{f:Nat}{fn:Abs.Fn}(h:f<1000000)(h':ans Tryz.prog f fn):FOk f fn:=by unfold FOk;rw[if_pos h];exact h'
theorem nok{k f:Nat}(h':wB Tryz.prog (jY Tryz.prog) k f):FOk (1000000+f) ⟨k,[],.exit 0⟩:=by unfold FOk;rw[if_neg (by omega),show 1000000+f-1000000=f from by omega];exact⟨rfl,h'⟩
theorem kok{t:List (Nat×uD×Abs.Fn)}(h:(t.map fun p=>chk p)=t.map fun p=>some p.2.2):∀p∈t,FOk p.1 p.2.2:=by
 intro p hp;have h1:=(List.map_inj_left.1 h) p hp;unfold chk at h1;simp only[ah]at h1;obtain⟨F,h2,h3⟩:=h1;split at h3
 ·rename_i hc;simp only[af,bne_iff_ne,av,dw]at hc;obtain⟨h4,⟨c,h5⟩,h6⟩:=hc;exact fok h6 ⟨F,c,p.2.1,h2,h4,h5,h3⟩
 ·cases h3
theorem ayR:∀p∈[(1000000+fP,(⟨9,[],.exit 0⟩:Abs.Fn)),(1000000+c8,(⟨5245543,[],.exit 0⟩:Abs.Fn)),(1000000+oG,(⟨5,[],.exit 0⟩:Abs.Fn)),(1000000+eG,(⟨3,[],.exit 0⟩:Abs.Fn)),(1000000+eM,(⟨5245544,[],.exit 0⟩:Abs.Fn)),(1000000+gK,(⟨6,[],.exit 0⟩:Abs.Fn)),(1000000+iJ,(⟨7636,[],.exit 0⟩:Abs.Fn))],FOk p.1 p.2:=by
 simp only[List.forall_mem_cons];exact⟨nok yZ,nok uH,nok E5,nok E4,nok xr,nok Eb,nok E3,by simp⟩
theorem ax0:∀p∈tbl,FOk p.1 p.2:=by
 intro p hp;have e:∀p∈tbl,p∈((tF0++tF1++tF2++tF3).map fun p=>(p.1,p.2.2))++[(1000000+fP,(⟨9,[],.exit 0⟩:Abs.Fn)),(1000000+c8,(⟨5245543,[],.exit 0⟩:Abs.Fn)),(1000000+oG,(⟨5,[],.exit 0⟩:Abs.Fn)),(1000000+eG,(⟨3,[],.exit 0⟩:Abs.Fn)),(1000000+eM,(⟨5245544,[],.exit 0⟩:Abs.Fn)),(1000000+gK,(⟨6,[],.exit 0⟩:Abs.Fn)),(1000000+iJ,(⟨7636,[],.exit 0⟩:Abs.Fn))]:=by
  have:tbl=((tF0++tF1++tF2++tF3).map fun p=>(p.1,p.2.2))++[(1000000+fP,(⟨9,[],.exit 0⟩:Abs.Fn)),(1000000+c8,(⟨5245543,[],.exit 0⟩:Abs.Fn)),(1000000+oG,(⟨5,[],.exit 0⟩:Abs.Fn)),(1000000+eG,(⟨3,[],.exit 0⟩:Abs.Fn)),(1000000+eM,(⟨5245544,[],.exit 0⟩:Abs.Fn)),(1000000+gK,(⟨6,[],.exit 0⟩:Abs.Fn)),(1000000+iJ,(⟨7636,[],.exit 0⟩:Abs.Fn))]:=rfl;rw[this];exact fun p h=>h
 rcases bx.1 (e p hp)with h | h
 ·obtain⟨q,hq,rfl⟩:=bR.1 h;simp only[bx]at hq;rcases hq with((hq | hq) | hq) | hq
  ·exact kok kF0 q hq
  ·exact kok kF1 q hq
  ·exact kok kF2 q hq
  ·exact kok kF3 q hq
 ·exact ayR p h
theorem TT:TOk Tryz.prog T:=by
 intro f fn h;have h':∃p,tbl.find? (fun p=>p.1 == f)=some p∧p.2=fn:=by simpa[T]using h
 obtain⟨p,h1,h2⟩:=h';have h3:=List.mem_of_find?_eq_some h1;have h4:=List.find?_some h1;have h6:=ax0 p h3;simp only[beq_iff_eq]at h4;subst h2;rw[← h4];exact h6
end Go.Proofs.YtfgljaglidhjiaaGreatDoor
