import Derived.Test.YtfgljaglidhjiaaGreatDoorF0
import Derived.Test.YtfgljaglidhjiaaGreatDoorF1
import Derived.Test.YtfgljaglidhjiaaGreatDoorF2
import Derived.Test.YtfgljaglidhjiaaGreatDoorF3
import Derived.Test.YtfgljaglidhjiaaGreatDoorLays
import Derived.Test.YtfgljaglidhjiaaGreatDoorBase19
set_option linter.all false
set_option maxRecDepth 100000
namespace Go.Proofs.YtfgljaglidhjiaaGreatDoor
open Go Go.Abs
def tbl:List (Nat×Abs.Fn):=[(jX,mM),(vu,xH),(pB,Cw),(wW,AW),(rH,wh),(sh,va),(tQ,xI),(zP,DL),(uO,yR),(pC,uZ),(sf,u7),(vt,xF),(lS,nZ),(iC,n8),(qY,sY),(nw,sd),(n9,tF),(vK,Ak),(vv,Fk),(lP,tD),(gA,so),(jK,u0),(dk,mV),(uN,yQ),(ct,rq),(pH,uy),(sP,wS),(gl,lZ),(na,vm),(si,vb),(nu,uX),(cJ,nF),(pz,uV),(iK,nE),(nr,uW),(gj,lX),(jW,mL),(tT,wj),(lR,oK),(fD,pw),(td,vo),(ng,pT),(kM,nQ),(dw,nk),(eM,nW),(db,mz),(ec,mX),(cm,sC),(ed,mZ),(cp,gZ),(eL,nq),(sQ,wU),(mF,sw),(iA,mR),(iO,nU),(ni,pY),(gU,mW),(oj,rF),(om,rG),(jl,oH),(se,u6),(je,l8),(lQ,oG),(tR,xJ),(aM,nJ),(eC,pa),(iu,pL),(kJ,nG),(pA,uY),(dj,mJ),(pj,Aj),(gk,lY),(dM,tC),(lN,oE),(lO,oF),(lD,rn),(jq,rB),(cn,vc),(iJ,nD),(iy,tJ),(og,tL),(jv,oS),(de,sy),(fJ,kZ),(tU,wk),(c8,gY),(fC,lL),(tV,wu),(cU,gI),(fa,lj),(fN,lg),(fB,mY),(fM,ji),(iD,lM),(od,rA),(iN,nN),(lT,oW),(dn,tP),(jf,uz),(kj,pX),(kO,nV),(jY,tH),(iw,tG),(dZ,mP),(jM,rY),(mE,su),(kN,nT),(nd,pN),(uP,yS),(cX,jc),(dc,fI),(iY,rK),(cc,my),(qd,xG),(jk,oD),(jx,oZ),(j1,vn),(fx,oL),(gi,lW),(jV,mK),(eG,mu),(jN,rZ),(jZ,A7),(eo,oU),(ea,mQ),(fA,mS),(vw,xK),(fy,oT),(kh,pU),(iM,nM),(jt,oQ),(dO,jh),(dB,iT),(gV,uK),(ew,lh),(jn,oJ),(lU,oX),(cK,dE),(kK,nO),(cj,pR),(nf,pS),(lF,rC),(nh,pV),(kL,nP),(fh,nA),(kl,tc),(eW,mT),(jL,rX),(ep,lJ),(ix,qR),(iL,nK),(yw,Cx),(pk,sr),(bd,rW),(lE,nY),(eu,oY),(fg,nz),(lk,tK),(gr,jG),(ej,kS),(fL,n0),(oe,yT),(o4,sN),(gS,kf),(oc,rz),(jw,oV),(ju,oR),(mi,ux),(jr,oM),(gC,pf),(gf,ov),(fj,nB),(fp,jQ),(fw,jT),(gK,lH),(gb,kI),(ft,jR),(gL,lI),(fX,kE),(fU,kB),(fu,jS),(fZ,kG),(fW,kD),(ga,kH),(fY,kF),(gB,pc),(jm,oI),(eZ,mU),(ki,sZ),(bU,qQ),(mG,sA),(eJ,gq),(dT,lr),(ek,kV),(tS,tI),(jd,lV),(gn,l7),(fq,mN),(pn,sB),(fV,nI),(gT,jU),(eR,l6),(nc,pM),(qX,tE),(gg,ow),(dL,j7),(ir,kR),(km,pZ),(o5,wV),(qh,xL),(dN,fH),(eQ,l4),(oi,rE),(oh,rD),(fm,ie),(du,jF),(ll,pW),(re,vp),(nv,sc),(1000000+fK,⟨9,[],.exit 0⟩),(1000000+cY,⟨5245543,[],.exit 0⟩),(1000000+oo,⟨5,[],.exit 0⟩),(1000000+eD,⟨3,[],.exit 0⟩),(1000000+eK,⟨5245544,[],.exit 0⟩),(1000000+gD,⟨6,[],.exit 0⟩),(1000000+iB,⟨7636,[],.exit 0⟩)]
def T:yo:=fun f=>(tbl.find? fun p=>p.1 == f).map (·.2)
theorem AJ:T jX=some mM:=rfl
theorem Kp:T vu=some xH:=rfl
theorem I8:T rH=some wh:=rfl
theorem HJ:T sh=some va:=rfl
theorem HF:T pC=some uZ:=rfl
theorem HI:T sf=some u7:=rfl
theorem Ko:T vt=some xF:=rfl
theorem wI:T lS=some nZ:=rfl
theorem wJ:T iC=some n8:=rfl
theorem AN:T qY=some sY:=rfl
theorem Cs:T nw=some sd:=rfl
theorem Gs:T n9=some tF:=rfl
theorem Gq:T lP=some tD:=rfl
theorem FB:T gA=some so:=rfl
theorem HG:T jK=some u0:=rfl
theorem Ek:T ct=some rq:=rfl
theorem As:T gl=some lZ:=rfl
theorem HK:T si=some vb:=rfl
theorem HD:T nu=some uX:=rfl
theorem B4:T cJ=some nF:=rfl
theorem HB:T pz=some uV:=rfl
theorem B0:T iK=some nE:=rfl
theorem HC:T nr=some uW:=rfl
theorem Aq:T gj=some lX:=rfl
theorem AI:T jW=some mL:=rfl
theorem I9:T tT=some wj:=rfl
theorem CL:T lR=some oK:=rfl
theorem yk:T fD=some pw:=rfl
theorem Ff:T td=some vo:=rfl
theorem Du:T ng=some pT:=rfl
theorem Cd:T kM=some nQ:=rfl
theorem ym:T dw=some nk:=rfl
theorem Ch:T eM=some nW:=rfl
theorem xw:T db=some mz:=rfl
theorem AR:T ec=some mX:=rfl
theorem FK:T cm=some sC:=rfl
theorem AT:T ed=some mZ:=rfl
theorem mr:T cp=some gZ:=rfl
theorem yn:T eL=some nq:=rfl
theorem Gu:T sQ=some wU:=rfl
theorem FF:T mF=some sw:=rfl
theorem xA:T iA=some mR:=rfl
theorem Cf:T iO=some nU:=rfl
theorem Dz:T ni=some pY:=rfl
theorem AQ:T gU=some mW:=rfl
theorem Es:T oj=some rF:=rfl
theorem Et:T om=some rG:=rfl
theorem CI:T jl=some oH:=rfl
theorem HH:T se=some u6:=rfl
theorem Ax:T je=some l8:=rfl
theorem CH:T lQ=some oG:=rfl
theorem B7:T aM=some nJ:=rfl
theorem Dp:T iu=some pL:=rfl
theorem B5:T kJ=some nG:=rfl
theorem HE:T pA=some uY:=rfl
theorem AG:T dj=some mJ:=rfl
theorem Ar:T gk=some lY:=rfl
theorem Gp:T dM=some tC:=rfl
theorem CF:T lN=some oE:=rfl
theorem CG:T lO=some oF:=rfl
theorem Ej:T lD=some rn:=rfl
theorem En:T jq=some rB:=rfl
theorem HL:T cn=some vc:=rfl
theorem BZ:T iJ=some nD:=rfl
theorem Gv:T og=some tL:=rfl
theorem CQ:T jv=some oS:=rfl
theorem FG:T de=some sy:=rfl
theorem zo:T fJ=some kZ:=rfl
theorem Ja:T tU=some wk:=rfl
theorem tp:T c8=some gY:=rfl
theorem wK:T fC=some lL:=rfl
theorem Jb:T tV=some wu:=rfl
theorem sH:T cU=some gI:=rfl
theorem wa:T fa=some lj:=rfl
theorem zq:T fN=some lg:=rfl
theorem AS:T fB=some mY:=rfl
theorem nX:T fM=some ji:=rfl
theorem wL:T iD=some lM:=rfl
theorem Em:T od=some rA:=rfl
theorem Ca:T iN=some nN:=rfl
theorem CV:T lT=some oW:=rfl
theorem Gw:T dn=some tP:=rfl
theorem Dy:T kj=some pX:=rfl
theorem Cg:T kO=some nV:=rfl
theorem Gt:T jY=some tH:=rfl
theorem AM:T dZ=some mP:=rfl
theorem FE:T mE=some su:=rfl
theorem Ce:T kN=some nT:=rfl
theorem Dr:T nd=some pN:=rfl
theorem uo:T cX=some jc:=rfl
theorem lB:T dc=some fI:=rfl
theorem xu:T cc=some my:=rfl
theorem CE:T jk=some oD:=rfl
theorem CX:T jx=some oZ:=rfl
theorem CM:T fx=some oL:=rfl
theorem Ap:T gi=some lW:=rfl
theorem AH:T jV=some mK:=rfl
theorem CT:T eo=some oU:=rfl
theorem AO:T ea=some mQ:=rfl
theorem AP:T fA=some mS:=rfl
theorem Kq:T vw=some xK:=rfl
theorem CS:T fy=some oT:=rfl
theorem Dw:T kh=some pU:=rfl
theorem B9:T iM=some nM:=rfl
theorem CO:T jt=some oQ:=rfl
theorem uD:T dO=some jh:=rfl
theorem ui:T dB=some iT:=rfl
theorem Eu:T gV=some uK:=rfl
theorem zr:T ew=some lh:=rfl
theorem CK:T jn=some oJ:=rfl
theorem CW:T lU=some oX:=rfl
theorem rR:T cK=some dE:=rfl
theorem Cb:T kK=some nO:=rfl
theorem Ds:T cj=some pR:=rfl
theorem Dt:T nf=some pS:=rfl
theorem Eo:T lF=some rC:=rfl
theorem Dx:T nh=some pV:=rfl
theorem Cc:T kL=some nP:=rfl
theorem B8:T iL=some nK:=rfl
theorem FC:T pk=some sr:=rfl
theorem Cr:T bd=some rW:=rfl
theorem yK:T lE=some nY:=rfl
theorem zp:T eu=some oY:=rfl
theorem yj:T gr=some jG:=rfl
theorem zm:T ej=some kS:=rfl
theorem CY:T o4=some sN:=rfl
theorem yL:T gS=some kf:=rfl
theorem El:T oc=some rz:=rfl
theorem CU:T jw=some oV:=rfl
theorem CP:T ju=some oR:=rfl
theorem CN:T jr=some oM:=rfl
theorem vg:T fp=some jQ:=rfl
theorem vj:T fw=some jT:=rfl
theorem wG:T gK=some lH:=rfl
theorem vS:T gb=some kI:=rfl
theorem vh:T ft=some jR:=rfl
theorem wH:T gL=some lI:=rfl
theorem vO:T fX=some kE:=rfl
theorem vM:T fU=some kB:=rfl
theorem vi:T fu=some jS:=rfl
theorem vQ:T fZ=some kG:=rfl
theorem vN:T fW=some kD:=rfl
theorem vR:T ga=some kH:=rfl
theorem vP:T fY=some kF:=rfl
theorem CJ:T jm=some oI:=rfl
theorem AL:T bU=some qQ:=rfl
theorem FH:T mG=some sA:=rfl
theorem rS:T eJ=some gq:=rfl
theorem zn:T ek=some kV:=rfl
theorem Dv:T tS=some tI:=rfl
theorem Ao:T jd=some lV:=rfl
theorem Aw:T gn=some l7:=rfl
theorem AK:T fq=some mN:=rfl
theorem FJ:T pn=some sB:=rfl
theorem B6:T fV=some nI:=rfl
theorem vk:T gT=some jU:=rfl
theorem Av:T eR=some l6:=rfl
theorem Dq:T nc=some pM:=rfl
theorem Gr:T qX=some tE:=rfl
theorem yJ:T dL=some j7:=rfl
theorem zl:T ir=some kR:=rfl
theorem DA:T km=some pZ:=rfl
theorem uC:T dN=some fH:=rfl
theorem Au:T eQ=some l4:=rfl
theorem Er:T oi=some rE:=rfl
theorem Ep:T oh=some rD:=rfl
theorem wF:T fm=some ie:=rfl
theorem yi:T du=some jF:=rfl
theorem mixed:Tryz.prog.follows .mixedOrders=true:=by kernel_rfl
theorem Gy:T eD=none:=rfl
theorem Gl:T (1000000+eD)=some ⟨3,[],.exit 0⟩:=rfl
theorem FI:T gD=none:=rfl
theorem Fz:T (1000000+gD)=some ⟨6,[],.exit 0⟩:=rfl
theorem Gx:T iB=none:=rfl
theorem Gk:T (1000000+iB)=some ⟨7636,[],.exit 0⟩:=rfl
def FOk(f:Nat)(fn:Abs.Fn):Prop:=if f<1000000 then amp Tryz.prog f fn else fn.body=.exit 0∧vZ Tryz.prog (jO Tryz.prog) fn.MT (f-1000000)
theorem fok{f:Nat}{fn:Abs.Fn}(h:f<1000000)(h':amp Tryz.prog f fn):FOk f fn:=by unfold FOk;rw[if_pos h];exact h'
theorem nok{k f:Nat}(h':vZ Tryz.prog (jO Tryz.prog) k f):FOk (1000000+f) ⟨k,[],.exit 0⟩:=by unfold FOk;rw[if_neg (by omega),show 1000000+f-1000000=f from by omega];exact⟨rfl,h'⟩
theorem kok{t:List (Nat×uh×Abs.Fn)}(h:(t.map fun p=>chk p)=t.map fun p=>some p.2.2):∀p∈t,FOk p.1 p.2.2:=by
 intro p hp;have h1:=(List.map_inj_left.1 h) p hp;unfold chk at h1;simp only[ah]at h1;obtain⟨F,h2,h3⟩:=h1;split at h3
 ·rename_i hc;simp only[af,bne_iff_ne,au,dt]at hc;obtain⟨h4,⟨c,h5⟩,h6⟩:=hc;exact fok h6 ⟨F,c,p.2.1,h2,h4,h5,h3⟩
 ·cases h3
theorem ax3:∀p∈[(1000000+fK,(⟨9,[],.exit 0⟩:Abs.Fn)),(1000000+cY,(⟨5245543,[],.exit 0⟩:Abs.Fn)),(1000000+oo,(⟨5,[],.exit 0⟩:Abs.Fn)),(1000000+eD,(⟨3,[],.exit 0⟩:Abs.Fn)),(1000000+eK,(⟨5245544,[],.exit 0⟩:Abs.Fn)),(1000000+gD,(⟨6,[],.exit 0⟩:Abs.Fn)),(1000000+iB,(⟨7636,[],.exit 0⟩:Abs.Fn))],FOk p.1 p.2:=by
 simp only[List.forall_mem_cons];exact⟨nok yB,nok um,nok ET,nok ES,nok xa,nok D1,nok ER,by simp⟩
theorem axc:∀p∈tbl,FOk p.1 p.2:=by
 intro p hp;have e:∀p∈tbl,p∈((tF0++tF1++tF2++tF3).map fun p=>(p.1,p.2.2))++[(1000000+fK,(⟨9,[],.exit 0⟩:Abs.Fn)),(1000000+cY,(⟨5245543,[],.exit 0⟩:Abs.Fn)),(1000000+oo,(⟨5,[],.exit 0⟩:Abs.Fn)),(1000000+eD,(⟨3,[],.exit 0⟩:Abs.Fn)),(1000000+eK,(⟨5245544,[],.exit 0⟩:Abs.Fn)),(1000000+gD,(⟨6,[],.exit 0⟩:Abs.Fn)),(1000000+iB,(⟨7636,[],.exit 0⟩:Abs.Fn))]:=by
  have:tbl=((tF0++tF1++tF2++tF3).map fun p=>(p.1,p.2.2))++[(1000000+fK,(⟨9,[],.exit 0⟩:Abs.Fn)),(1000000+cY,(⟨5245543,[],.exit 0⟩:Abs.Fn)),(1000000+oo,(⟨5,[],.exit 0⟩:Abs.Fn)),(1000000+eD,(⟨3,[],.exit 0⟩:Abs.Fn)),(1000000+eK,(⟨5245544,[],.exit 0⟩:Abs.Fn)),(1000000+gD,(⟨6,[],.exit 0⟩:Abs.Fn)),(1000000+iB,(⟨7636,[],.exit 0⟩:Abs.Fn))]:=rfl;rw[this];exact fun p h=>h
 rcases bu.1 (e p hp)with h | h
 ·obtain⟨q,hq,rfl⟩:=bK.1 h;simp only[bu]at hq;rcases hq with((hq | hq) | hq) | hq
  ·exact kok kF0 q hq
  ·exact kok kF1 q hq
  ·exact kok kF2 q hq
  ·exact kok kF3 q hq
 ·exact ax3 p h
theorem TT:TOk Tryz.prog T:=by
 intro f fn h;have h':∃p,tbl.find? (fun p=>p.1 == f)=some p∧p.2=fn:=by simpa[T]using h
 obtain⟨p,h1,h2⟩:=h';have h3:=List.mem_of_find?_eq_some h1;have h4:=List.find?_some h1;have h6:=axc p h3;simp only[beq_iff_eq]at h4;subst h2;rw[← h4];exact h6
end Go.Proofs.YtfgljaglidhjiaaGreatDoor
