import Derived.Test.YtpapbbojmclkgaaGreatDoorF0
import Derived.Test.YtpapbbojmclkgaaGreatDoorF1
import Derived.Test.YtpapbbojmclkgaaGreatDoorF2
import Derived.Test.YtpapbbojmclkgaaGreatDoorF3
import Derived.Test.YtpapbbojmclkgaaGreatDoorF4
import Derived.Test.YtpapbbojmclkgaaGreatDoorF5
import Derived.Test.YtpapbbojmclkgaaGreatDoorLays
set_option linter.all false
set_option maxRecDepth 100000
namespace Go.Proofs.YtpapbbojmclkgaaGreatDoor
open Go Go.Abs
def tbl:List (Nat×Abs.Fn):=[(lT,vx),(Ds,HZ),(rC,EF),(tD,C6),(BX,FZ),(AF,E4),(Dz,H8),(zH,zi),(Gt,FY),(Bo,AW),(yC,JQ),(tC,C5),(Ii,H0),(CN,CD),(wo,CE),(Ak,EH),(eE,lP),(ng,AV),(AB,E1),(pM,A6),(uF,uD),(yq,xP),(oC,uq),(vT,vy),(yB,Df),(aR,mE),(zJ,zk),(AD,E2),(jA,zp),(kj,E6),(vj,E5),(zK,H9),(xu,Ge),(xq,Gb),(xw,Gf),(xr,Gc),(fK,og),(lU,zj),(pv,Dk),(AA,E0),(ew,uw),(eo,AY),(Bp,AZ),(AG,E7),(An,EM),(vh,EL),(vi,ET),(tI,zo),(tH,zn),(rY,xW),(B7,F5),(oF,uA),(Dt,H2),(yD,Dg),(Cb,Gd),(rX,xV),(AE,E3),(Ca,Ga),(ka,F6),(BY,JN),(oG,uB),(As,ES),(Az,EZ),(qD,wP),(yy,Dc),(Am,EK),(ln,pT),(ep,mh),(hJ,wY),(dX,lj),(gk,vP),(wy,CL),(gl,vR),(ei,gw),(jq,mi),(B9,F9),(rI,CF),(vg,EG),(pL,AX),(Fb,EI),(Fw,JO),(xo,F2),(Dx,H6),(Fx,JP),(Dy,H7),(rW,xU),(Aw,EW),(pk,vJ),(Ao,EN),(Au,EU),(xp,F7),(Ar,ER),(uS,A7),(Ay,EY),(eh,gv),(gU,kD),(Cf,Gj),(ec,fQ),(gq,j8),(kc,tw),(pw,vQ),(je,iZ),(kL,kE),(yz,Dd),(jv,vC),(jz,vG),(kI,xQ),(j6,wN),(jx,vE),(kJ,xR),(jY,wJ),(jW,wG),(jy,vF),(j4,wL),(jX,wI),(j5,wM),(jZ,wK),(B0,F1),(B5,F3),(BZ,F0),(B8,F8),(Du,H3),(Aq,EP),(yw,Db),(Dw,H5),(Ax,EX),(Ap,EO),(Av,EV),(B6,F4),(fa,iY),(eJ,iu),(ko,uP),(gT,tx),(yA,De),(rR,xM),(tE,C7),(sj,ym),(wv,CJ),(jn,rz),(fG,kh),(gO,ti),(Cc,Gg),(oA,ui),(oD,uy),(jw,vD),(Dr,HY),(wx,CK),(qB,wH),(lW,vN),(zL,zt),(pn,tp),(iR,ux),(tF,zl),(vk,Fa),(yt,C9),(yr,C8),(Dv,H4),(dW,lh),(sk,rQ),(gZ,wE),(qU,wW),(uV,Ba),(Cd,JR),(qG,wR),(Ai,ED),(gh,sB),(nI,tf),(vf,EB),(qh,wD),(rB,EC),(oB,uk),(pj,vw),(lX,zB),(sn,yn),(tO,zC),(jb,mM),(iQ,ur),(wu,CH),(fF,E8),(oO,zy),(Ce,Gh),(rZ,xZ),(zM,Ib),(tK,zu),(qR,wU),(rV,xT),(tN,zA),(pq,vO),(uZ,Bg),(u0,Bh),(Al,EJ),(oE,uz),(rU,xS),(uY,Bf),(uX,Be),(eZ,nH),(qq,wF),(yE,Dj),(kR,uE),(oQ,zz),(AH,E9),(rK,CI),(lV,vK),(jc,ya),(sc,yf),(sd,yg),(si,yk),(kH,o5),(fE,rk),(Aj,EE),(lS,vu),(rH,CB),(kQ,um),(yp,C4),(rS,xN),(rT,xO),(pK,AU),(oP,oL),(vU,vS),(uU,A9),(sh,yj),(qd,wC),(kb,tt),(tM,Di),(nO,tv),(xx,Gi),(yu,Da),(j9,tj),(gi,vI),(qX,wX),(mo,rp),(rJ,CG),(qT,wV),(tG,zm),(iy,mz),(nk,sF),(iw,mw),(nN,tu),(nh,Dh),(se,yh),(gj,vL),(tB,zh),(rD,rA),(nK,xY),(fu,jT),(qH,wS),(fx,zq),(tJ,zr),(uW,Bb),(tL,zx),(qQ,wT),(kP,uj),(pg,vv),(gz,kX),(mq,ru),(po,vM),(DA,Ia),(oN,zw),(mG,wQ),(nM,yc),(gP,lN),(mm,rn),(fR,kz),(kK,o6),(mF,wO),(jO,oi),(jN,oh),(pN,Bc),(nj,sD),(uT,A8),(sf,yi),(sb,yd),(oH,uC),(nL,yb),(mj,rm),(gN,tg),(jd,nc),(jB,nz),(iA,mC),(nJ,xX),(gQ,lO),(ni,sC),(jC,nA),(1000000+gR,⟨9,[],.exit 0⟩),(1000000+dV,⟨5244727,[],.exit 0⟩),(1000000+pr,⟨5,[],.exit 0⟩),(1000000+gS,⟨3,[],.exit 0⟩),(1000000+fH,⟨5244728,[],.exit 0⟩),(1000000+ij,⟨6,[],.exit 0⟩),(1000000+jD,⟨6532,[],.exit 0⟩)]
def T:Ad:=λf=>(tbl.find? λp=>p.1 == f).map (·.2)
theorem En:T aR=some mE:=rfl
theorem Oi:T jA=some zp:=rfl
theorem Ab:T ep=some mh:=rfl
theorem y8:T dX=some lj:=rfl
theorem kW:T ei=some gw:=rfl
theorem Ac:T jq=some mi:=rfl
theorem sP:T eh=some gv:=rfl
theorem xC:T gU=some kD:=rfl
theorem rN:T ec=some fQ:=rfl
theorem xj:T gq=some j8:=rfl
theorem mH:T je=some iZ:=rfl
theorem xD:T kL=some kE:=rfl
theorem uJ:T fa=some iY:=rfl
theorem uc:T eJ=some iu:=rfl
theorem G1:T ko=some uP:=rfl
theorem Oj:T zL=some zt:=rfl
theorem Jm:T pn=some tp:=rfl
theorem y7:T dW=some lh:=rfl
theorem Fi:T sk=some rQ:=rfl
theorem BI:T eZ=some nH:=rfl
theorem mixed:Tryz.prog.follows .mixedOrders=true:=by kernel_rfl
theorem Jo:T gS=none:=rfl
theorem Jj:T (1000000+gS)=some ⟨3,[],.exit 0⟩:=rfl
theorem Iv:T ij=none:=rfl
theorem It:T (1000000+ij)=some ⟨6,[],.exit 0⟩:=rfl
theorem Jn:T jD=none:=rfl
theorem Ji:T (1000000+jD)=some ⟨6532,[],.exit 0⟩:=rfl
def FOk(f:Nat)(fn:Abs.Fn):Prop:=if f<1000000 then acd Tryz.prog f fn else fn.body=.exit 0/\xf Tryz.prog (iU Tryz.prog) fn.QS (f-1000000)
theorem fok{f:Nat}{fn:Abs.Fn}(h:f<1000000)(h':acd Tryz.prog f fn):FOk f fn:=by unfold FOk;rw[if_pos h];exact h'
theorem nok{k f:Nat}(h':xf Tryz.prog (iU Tryz.prog) k f):FOk (1000000+f) ⟨k,[],.exit 0⟩:=by unfold FOk;rw[if_neg (by omega),show 1000000+f-1000000=f from by omega];exact⟨rfl,h'⟩
theorem kok{t:List (Nat×sS×Abs.Fn)}(h:(t.map λp=>chk p)=t.map λp=>some p.2.2):∀p∈t,FOk p.1 p.2.2:=by
 intro p hp;have h1:=(List.map_inj_left.1 h) p hp;unfold chk at h1;simp only[ak]at h1;obtain⟨F,h2,h3⟩:=h1;split at h3
 .rename_i hc;simp only[af,bne_iff_ne,aw,dB]at hc;obtain⟨h4,⟨c,h5⟩,h6⟩:=hc;exact fok h6 ⟨F,c,p.2.1,h2,h4,h5,h3⟩
 .cases h3
theorem ajr:∀p∈[(1000000+gR,(⟨9,[],.exit 0⟩:Abs.Fn)),(1000000+dV,(⟨5244727,[],.exit 0⟩:Abs.Fn)),(1000000+pr,(⟨5,[],.exit 0⟩:Abs.Fn)),(1000000+gS,(⟨3,[],.exit 0⟩:Abs.Fn)),(1000000+fH,(⟨5244728,[],.exit 0⟩:Abs.Fn)),(1000000+ij,(⟨6,[],.exit 0⟩:Abs.Fn)),(1000000+jD,(⟨6532,[],.exit 0⟩:Abs.Fn))],FOk p.1 p.2:=by
 simp only[List.forall_mem_cons];exact⟨nok AJ,nok ud,nok Hs,nok Hr,nok yK,nok GD,nok Hq,by simp⟩
theorem aiw:∀p∈tbl,FOk p.1 p.2:=by
 intro p hp;have e:∀p∈tbl,p∈((tF0++tF1++tF2++tF3++tF4++tF5).map λp=>(p.1,p.2.2))++[(1000000+gR,(⟨9,[],.exit 0⟩:Abs.Fn)),(1000000+dV,(⟨5244727,[],.exit 0⟩:Abs.Fn)),(1000000+pr,(⟨5,[],.exit 0⟩:Abs.Fn)),(1000000+gS,(⟨3,[],.exit 0⟩:Abs.Fn)),(1000000+fH,(⟨5244728,[],.exit 0⟩:Abs.Fn)),(1000000+ij,(⟨6,[],.exit 0⟩:Abs.Fn)),(1000000+jD,(⟨6532,[],.exit 0⟩:Abs.Fn))]:=by
  have:tbl=((tF0++tF1++tF2++tF3++tF4++tF5).map λp=>(p.1,p.2.2))++[(1000000+gR,(⟨9,[],.exit 0⟩:Abs.Fn)),(1000000+dV,(⟨5244727,[],.exit 0⟩:Abs.Fn)),(1000000+pr,(⟨5,[],.exit 0⟩:Abs.Fn)),(1000000+gS,(⟨3,[],.exit 0⟩:Abs.Fn)),(1000000+fH,(⟨5244728,[],.exit 0⟩:Abs.Fn)),(1000000+ij,(⟨6,[],.exit 0⟩:Abs.Fn)),(1000000+jD,(⟨6532,[],.exit 0⟩:Abs.Fn))]:=rfl;rw[this];exact λp h=>h
 rcases aX.1 (e p hp)with h | h
 .obtain⟨q,hq,rfl⟩:=bJ.1 h;simp only[aX]at hq;rcases hq with((((hq | hq) | hq) | hq) | hq) | hq
  .exact kok kF0 q hq
  .exact kok kF1 q hq
  .exact kok kF2 q hq
  .exact kok kF3 q hq
  .exact kok kF4 q hq
  .exact kok kF5 q hq
 .exact ajr p h
theorem TT:TOk Tryz.prog T:=by
 intro f fn h;have h':∃p,tbl.find? (λp=>p.1 == f)=some p/\p.2=fn:=by simpa[T]using h
 obtain⟨p,h1,h2⟩:=h';have h3:=List.mem_of_find?_eq_some h1;have h4:=List.find?_some h1;have h6:=aiw p h3;simp only[beq_iff_eq]at h4;subst h2;rw[<- h4];exact h6
@[reducible,simp] def Cl(f:Nat)(a:List D)(v:D)(s:SK):Prop:=dj T (.call false f a s)=some (.val v s)
end Go.Proofs.YtpapbbojmclkgaaGreatDoor
