import Derived.Test.YtfgljaglidhjiaaGreatDoorF0
import Derived.Test.YtfgljaglidhjiaaGreatDoorF1
import Derived.Test.YtfgljaglidhjiaaGreatDoorF2
import Derived.Test.YtfgljaglidhjiaaGreatDoorF3
import Derived.Test.YtfgljaglidhjiaaGreatDoorLays
import Derived.Test.YtfgljaglidhjiaaGreatDoorBase19
set_option linter.all false
set_option maxRecDepth 100000
namespace Go.Proofs.YtfgljaglidhjiaaGreatDoor
open Go Go.Abs
def tbl:List (Nat×Abs.Fn):=[(jj,ma),(vO,yp),(pI,Ec),(xB,Cu),(o9,wP),(sr,vt),(tX,yq),(AL,Ga),(vc,zN),(nE,vn),(so,vq),(vN,yn),(lY,oh),(fF,lQ),(tf,sZ),(pJ,sk),(ri,tM),(wk,Be),(vP,H8),(lV,tK),(gJ,sC),(jQ,vo),(dt,nc),(vb,zM),(cF,rD),(pM,uK),(sS,xw),(gA,mc),(ni,vH),(su,vu),(nD,vl),(cQ,nN),(pG,vj),(iN,nM),(nC,vk),(gw,l8),(j3,mS),(ua,wQ),(lX,oP),(fI,pF),(tg,vJ),(nr,pY),(kS,nY),(dE,nA),(eN,od),(dj,mG),(ef,nf),(cn,sJ),(cr,nh),(bT,ig),(eM,nB),(sT,xz),(mL,sF),(iE,mX),(iR,n9),(nv,qB),(gY,nd),(ov,rL),(ow,rM),(jw,oM),(sn,vp),(jk,mi),(lW,oL),(tY,yr),(aM,nR),(eD,po),(iA,pQ),(kP,nO),(pH,vm),(dr,mQ),(pw,Bc),(gz,l9),(dU,tJ),(lT,oJ),(lU,oK),(lH,rB),(jz,rH),(cp,vv),(iM,nL),(iD,tQ),(oq,tS),(jD,oX),(dp,sG),(fO,lk),(ub,wR),(dh,ie),(fH,lR),(uc,wT),(cZ,gO),(eZ,lu),(fS,lq),(fG,ng),(fR,jt),(iG,lS),(om,rG),(iQ,nV),(lZ,o5),(du,tW),(jl,uL),(kr,qq),(kU,oc),(j4,tO),(iB,tN),(ec,mV),(jS,sf),(mK,sE),(kT,n8),(nk,pS),(vd,zO),(da,jh),(dn,fN),(jc,rP),(cg,mF),(qG,yo),(jv,oI),(jF,o8),(j6,vI),(fC,oQ),(gv,l7),(j2,mR),(eH,mC),(jT,sh),(j5,Cy),(ep,oZ),(ed,mW),(fE,mY),(vQ,yt),(fD,oY),(kn,pZ),(iP,nU),(jB,oV),(dW,jr),(dH,iV),(gZ,u6),(ez,lr),(jy,oO),(l4,o6),(cS,dN),(kQ,nW),(ck,pW),(nq,pX),(lJ,rI),(nu,qd),(kR,nX),(fk,nH),(ku,td),(eV,mZ),(jR,se),(eu,lP),(iC,q7),(iO,nS),(zn,Ed),(pz,sD),(bd,sd),(lI,og),(ew,o7),(fj,nG),(lA,tR),(gF,jO),(ek,kY),(fQ,oi),(oo,zP),(pa,sQ),(gW,kl),(oj,rF),(jE,o4),(jC,oW),(mw,uJ),(jA,oR),(gL,pr),(gn,oC),(fm,nI),(fw,jW),(fB,jZ),(gP,lN),(gk,kO),(fy,jX),(gQ,lO),(gg,kK),(ga,kI),(fA,jY),(gi,kM),(gf,kJ),(gj,kN),(gh,kL),(gK,pq),(jx,oN),(eW,na),(kq,tc),(bX,qY),(mM,sH),(eK,gD),(dZ,lD),(eo,lf),(tZ,tP),(ji,l6),(gB,mh),(fx,mT),(pA,sI),(gb,nQ),(gX,j1),(eR,mg),(nj,pR),(rh,tL),(gp,oD),(dT,kc),(iy,kX),(kz,qD),(pc,xA),(qH,yu),(dV,fM),(eQ,mf),(ou,rK),(ot,rJ),(fu,ir),(dD,jN),(lB,qh),(rj,vK),(nF,sj),(1000000+fP,⟨9,[],.exit 0⟩),(1000000+db,⟨5245543,[],.exit 0⟩),(1000000+oz,⟨5,[],.exit 0⟩),(1000000+eE,⟨3,[],.exit 0⟩),(1000000+eL,⟨5245544,[],.exit 0⟩),(1000000+gM,⟨6,[],.exit 0⟩),(1000000+iF,⟨7636,[],.exit 0⟩)]
def T:yZ:=fun f=>(tbl.find? fun p=>p.1 == f).map (·.2)
theorem Bm:T jj=some ma:=rfl
theorem NY:T vO=some yp:=rfl
theorem Mu:T o9=some wP:=rfl
theorem KM:T sr=some vt:=rfl
theorem KI:T nE=some vn:=rfl
theorem KL:T so=some vq:=rfl
theorem NX:T vN=some yn:=rfl
theorem xg:T lY=some oh:=rfl
theorem tB:T fF=some lQ:=rfl
theorem BX:T tf=some sZ:=rfl
theorem D8:T pJ=some sk:=rfl
theorem Jn:T ri=some tM:=rfl
theorem Jl:T lV=some tK:=rfl
theorem Im:T gJ=some sC:=rfl
theorem KJ:T jQ=some vo:=rfl
theorem GM:T cF=some rD:=rfl
theorem Bn:T gA=some mc:=rfl
theorem KN:T su=some vu:=rfl
theorem KG:T nD=some vl:=rfl
theorem Dr:T cQ=some nN:=rfl
theorem KE:T pG=some vj:=rfl
theorem Dq:T iN=some nM:=rfl
theorem KF:T nC=some vk:=rfl
theorem Bj:T gw=some l8:=rfl
theorem BS:T j3=some mS:=rfl
theorem Mw:T ua=some wQ:=rfl
theorem Es:T lX=some oP:=rfl
theorem yW:T fI=some pF:=rfl
theorem H0:T tg=some vJ:=rfl
theorem FB:T nr=some pY:=rfl
theorem DA:T kS=some nY:=rfl
theorem yX:T dE=some nA:=rfl
theorem DE:T eN=some od:=rfl
theorem xW:T dj=some mG:=rfl
theorem B4:T ef=some nf:=rfl
theorem Iv:T cn=some sJ:=rfl
theorem B6:T cr=some nh:=rfl
theorem ic:T bT=some ig:=rfl
theorem yY:T eM=some nB:=rfl
theorem Jp:T sT=some xz:=rfl
theorem Iq:T mL=some sF:=rfl
theorem yc:T iE=some mX:=rfl
theorem DC:T iR=some n9:=rfl
theorem FH:T nv=some qB:=rfl
theorem B0:T gY=some nd:=rfl
theorem GU:T ov=some rL:=rfl
theorem GV:T ow=some rM:=rfl
theorem Eo:T jw=some oM:=rfl
theorem KK:T sn=some vp:=rfl
theorem Br:T jk=some mi:=rfl
theorem En:T lW=some oL:=rfl
theorem Du:T aM=some nR:=rfl
theorem Fw:T iA=some pQ:=rfl
theorem Ds:T kP=some nO:=rfl
theorem KH:T pH=some vm:=rfl
theorem BQ:T dr=some mQ:=rfl
theorem Bl:T gz=some l9:=rfl
theorem Jk:T dU=some tJ:=rfl
theorem El:T lT=some oJ:=rfl
theorem Em:T lU=some oK:=rfl
theorem GL:T lH=some rB:=rfl
theorem GP:T jz=some rH:=rfl
theorem KO:T cp=some vv:=rfl
theorem Dp:T iM=some nL:=rfl
theorem Jq:T oq=some tS:=rfl
theorem Ey:T jD=some oX:=rfl
theorem Ir:T dp=some sG:=rfl
theorem Ai:T fO=some lk:=rfl
theorem My:T ub=some wR:=rfl
theorem tp:T dh=some ie:=rfl
theorem xh:T fH=some lR:=rfl
theorem Mz:T uc=some wT:=rfl
theorem sK:T cZ=some gO:=rfl
theorem wK:T eZ=some lu:=rfl
theorem Ak:T fS=some lq:=rfl
theorem B5:T fG=some ng:=rfl
theorem jm:T fR=some jt:=rfl
theorem xi:T iG=some lS:=rfl
theorem GO:T om=some rG:=rfl
theorem Dx:T iQ=some nV:=rfl
theorem EC:T lZ=some o5:=rfl
theorem Jr:T du=some tW:=rfl
theorem FG:T kr=some qq:=rfl
theorem DD:T kU=some oc:=rfl
theorem Jo:T j4=some tO:=rfl
theorem BW:T ec=some mV:=rfl
theorem Ip:T mK=some sE:=rfl
theorem DB:T kT=some n8:=rfl
theorem Fy:T nk=some pS:=rfl
theorem uF:T da=some jh:=rfl
theorem lG:T dn=some fN:=rfl
theorem xV:T cg=some mF:=rfl
theorem Ek:T jv=some oI:=rfl
theorem EE:T jF=some o8:=rfl
theorem Et:T fC=some oQ:=rfl
theorem Bi:T gv=some l7:=rfl
theorem BR:T j2=some mR:=rfl
theorem EA:T ep=some oZ:=rfl
theorem BY:T ed=some mW:=rfl
theorem BZ:T fE=some mY:=rfl
theorem NZ:T vQ=some yt:=rfl
theorem Ez:T fD=some oY:=rfl
theorem FE:T kn=some pZ:=rfl
theorem Dw:T iP=some nU:=rfl
theorem Ew:T jB=some oV:=rfl
theorem uQ:T dW=some jr:=rfl
theorem ux:T dH=some iV:=rfl
theorem GW:T gZ=some u6:=rfl
theorem Al:T ez=some lr:=rfl
theorem Er:T jy=some oO:=rfl
theorem ED:T l4=some o6:=rfl
theorem rV:T cS=some dN:=rfl
theorem Dy:T kQ=some nW:=rfl
theorem Fz:T ck=some pW:=rfl
theorem FA:T nq=some pX:=rfl
theorem GQ:T lJ=some rI:=rfl
theorem FF:T nu=some qd:=rfl
theorem Dz:T kR=some nX:=rfl
theorem Dv:T iO=some nS:=rfl
theorem Io:T pz=some sD:=rfl
theorem D7:T bd=some sd:=rfl
theorem zB:T lI=some og:=rfl
theorem Aj:T ew=some o7:=rfl
theorem yV:T gF=some jO:=rfl
theorem Ag:T ek=some kY:=rfl
theorem EF:T pa=some sQ:=rfl
theorem zC:T gW=some kl:=rfl
theorem GN:T oj=some rF:=rfl
theorem EB:T jE=some o4:=rfl
theorem Ex:T jC=some oW:=rfl
theorem Eu:T jA=some oR:=rfl
theorem vA:T fw=some jW:=rfl
theorem vD:T fB=some jZ:=rfl
theorem xe:T gP=some lN:=rfl
theorem wB:T gk=some kO:=rfl
theorem vB:T fy=some jX:=rfl
theorem xf:T gQ=some lO:=rfl
theorem wx:T gg=some kK:=rfl
theorem wu:T ga=some kI:=rfl
theorem vC:T fA=some jY:=rfl
theorem wz:T gi=some kM:=rfl
theorem wv:T gf=some kJ:=rfl
theorem wA:T gj=some kN:=rfl
theorem wy:T gh=some kL:=rfl
theorem Ep:T jx=some oN:=rfl
theorem BV:T bX=some qY:=rfl
theorem Is:T mM=some sH:=rfl
theorem rX:T eK=some gD:=rfl
theorem Ah:T eo=some lf:=rfl
theorem FC:T tZ=some tP:=rfl
theorem Bh:T ji=some l6:=rfl
theorem Bq:T gB=some mh:=rfl
theorem BU:T fx=some mT:=rfl
theorem Iu:T pA=some sI:=rfl
theorem Dt:T gb=some nQ:=rfl
theorem vE:T gX=some j1:=rfl
theorem Bp:T eR=some mg:=rfl
theorem Fx:T nj=some pR:=rfl
theorem Jm:T rh=some tL:=rfl
theorem zA:T dT=some kc:=rfl
theorem Af:T iy=some kX:=rfl
theorem FI:T kz=some qD:=rfl
theorem uP:T dV=some fM:=rfl
theorem Bo:T eQ=some mf:=rfl
theorem GS:T ou=some rK:=rfl
theorem GR:T ot=some rJ:=rfl
theorem xd:T fu=some ir:=rfl
theorem yU:T dD=some jN:=rfl
theorem mixed:Tryz.prog.follows .mixedOrders=true:=by kernel_rfl
theorem Jt:T eE=none:=rfl
theorem Jh:T (1000000+eE)=some ⟨3,[],.exit 0⟩:=rfl
theorem It:T gM=none:=rfl
theorem Ik:T (1000000+gM)=some ⟨6,[],.exit 0⟩:=rfl
theorem Js:T iF=none:=rfl
theorem Jg:T (1000000+iF)=some ⟨7636,[],.exit 0⟩:=rfl
def FOk(f:Nat)(fn:Abs.Fn):Prop:=if f<1000000 then apO Tryz.prog f fn else fn.body=.exit 0∧wH Tryz.prog (jU Tryz.prog) fn.Qy (f-1000000)
theorem fok{f:Nat}{fn:Abs.Fn}(h:f<1000000)(h':apO Tryz.prog f fn):FOk f fn:=by unfold FOk;rw[if_pos h];exact h'
theorem nok{k f:Nat}(h':wH Tryz.prog (jU Tryz.prog) k f):FOk (1000000+f) ⟨k,[],.exit 0⟩:=by unfold FOk;rw[if_neg (by omega),show 1000000+f-1000000=f from by omega];exact⟨rfl,h'⟩
theorem kok{t:List (Nat×bP×Abs.Fn)}(h:(t.map fun p=>chk p)=t.map fun p=>some p.2.2):∀p∈t,FOk p.1 p.2.2:=by
 intro p hp;have h1:=(List.map_inj_left.1 h) p hp;unfold chk at h1;simp only[ah]at h1;obtain⟨F,h2,h3⟩:=h1;split at h3
 ·rename_i hc;simp only[af,bne_iff_ne,au,dB]at hc;obtain⟨h4,⟨c,h5⟩,h6⟩:=hc;exact fok h6 ⟨F,c,p.2.1,h2,h4,h5,h3⟩
 ·cases h3
theorem aBs:∀p∈[(1000000+fP,(⟨9,[],.exit 0⟩:Abs.Fn)),(1000000+db,(⟨5245543,[],.exit 0⟩:Abs.Fn)),(1000000+oz,(⟨5,[],.exit 0⟩:Abs.Fn)),(1000000+eE,(⟨3,[],.exit 0⟩:Abs.Fn)),(1000000+eL,(⟨5245544,[],.exit 0⟩:Abs.Fn)),(1000000+gM,(⟨6,[],.exit 0⟩:Abs.Fn)),(1000000+iF,(⟨7636,[],.exit 0⟩:Abs.Fn))],FOk p.1 p.2:=by
 simp only[List.forall_mem_cons];exact⟨nok zq,nok uE,nok HF,nok HE,nok xF,nok Gr,nok HD,by simp⟩
theorem aAA:∀p∈tbl,FOk p.1 p.2:=by
 intro p hp;have e:∀p∈tbl,p∈((tF0++tF1++tF2++tF3).map fun p=>(p.1,p.2.2))++[(1000000+fP,(⟨9,[],.exit 0⟩:Abs.Fn)),(1000000+db,(⟨5245543,[],.exit 0⟩:Abs.Fn)),(1000000+oz,(⟨5,[],.exit 0⟩:Abs.Fn)),(1000000+eE,(⟨3,[],.exit 0⟩:Abs.Fn)),(1000000+eL,(⟨5245544,[],.exit 0⟩:Abs.Fn)),(1000000+gM,(⟨6,[],.exit 0⟩:Abs.Fn)),(1000000+iF,(⟨7636,[],.exit 0⟩:Abs.Fn))]:=by
  have:tbl=((tF0++tF1++tF2++tF3).map fun p=>(p.1,p.2.2))++[(1000000+fP,(⟨9,[],.exit 0⟩:Abs.Fn)),(1000000+db,(⟨5245543,[],.exit 0⟩:Abs.Fn)),(1000000+oz,(⟨5,[],.exit 0⟩:Abs.Fn)),(1000000+eE,(⟨3,[],.exit 0⟩:Abs.Fn)),(1000000+eL,(⟨5245544,[],.exit 0⟩:Abs.Fn)),(1000000+gM,(⟨6,[],.exit 0⟩:Abs.Fn)),(1000000+iF,(⟨7636,[],.exit 0⟩:Abs.Fn))]:=rfl;rw[this];exact fun p h=>h
 rcases bg.1 (e p hp)with h | h
 ·obtain⟨q,hq,rfl⟩:=bW.1 h;simp only[bg]at hq;rcases hq with((hq | hq) | hq) | hq
  ·exact kok kF0 q hq
  ·exact kok kF1 q hq
  ·exact kok kF2 q hq
  ·exact kok kF3 q hq
 ·exact aBs p h
theorem TT:TOk Tryz.prog T:=by
 intro f fn h;have h':∃p,tbl.find? (fun p=>p.1 == f)=some p∧p.2=fn:=by simpa[T]using h
 obtain⟨p,h1,h2⟩:=h';have h3:=List.mem_of_find?_eq_some h1;have h4:=List.find?_some h1;have h6:=aAA p h3;simp only[beq_iff_eq]at h4;subst h2;rw[← h4];exact h6
end Go.Proofs.YtfgljaglidhjiaaGreatDoor
