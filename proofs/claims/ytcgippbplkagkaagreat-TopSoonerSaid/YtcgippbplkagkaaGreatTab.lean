import Derived.Test.YtcgippbplkagkaaGreatF0
import Derived.Test.YtcgippbplkagkaaGreatF1
import Derived.Test.YtcgippbplkagkaaGreatF2
import Derived.Test.YtcgippbplkagkaaGreatBase14
set_option linter.all false
set_option maxRecDepth 100000
namespace Go.Proofs.YtcgippbplkagkaaGreat
open Go Go.Abs
def tbl:List (Nat×Abs.Fn):=[(j4,l8),(pZ,sX),(jT,rl),(j7,nK),(n9,pq),(kR,rk),(fA,ie),(lN,nI),(jl,kP),(n0,pn),(lP,nL),(lS,nO),(fK,iW),(iE,kr),(j6,nF),(kQ,mE),(e7,ir),(dO,iB),(dL,ig),(eh,iT),(eu,lY),(cG,gU),(hH,lX),(mQ,oA),(bN,nR),(gk,lK),(mo,nY),(dh,lh),(lO,nJ),(lR,nN),(lQ,nM),(cz,ri),(gg,ow),(fJ,iV),(mP,oz),(gB,jF),(eg,iS),(cC,mD),(cY,ia),(cJ,iU),(jk,la),(dM,iq),(ec,gb),(bM,fU),(bP,jj),(jq,ll),(ef,iP),(dY,mH),(jt,mJ),(gC,jL),(j3,l6),(ff,iA),(ml,nX),(j8,nQ),(jS,rj),(eI,jE),(gj,nP),(dc,fT),(e6,ij),(gA,jD),(gG,jR),(cj,l7),(fe,nW),(cZ,jI),(lL,nG),(dp,iR),(dr,gI),(eZ,ic),(cF,gT),(eV,lJ),(fa,sr),(cA,jN),(cr,iw),(jn,lk),(fC,ix),(mO,ov),(de,fV),(fO,jb),(cT,iL),(gh,mI),(du,eT),(cu,fS),(fI,iQ),(di,ji),(bU,lA),(jr,pW),(eK,jH),(fL,iY),(gD,jP),(ed,mN),(eF,nk),(fD,kH),(dC,jY),(lM,nH),(j2,rS),(dt,gJ),(dj,mL),(c8,jM),(gF,jQ),(bJ,cg),(fM,iZ),(bB,kD),(iF,kF),(gr,ln),(iG,kG),(fN,ja),(cU,iM),(fE,mi),(kI,pk),(dN,fx),(jm,lj),(da,iy),(eN,jO),(eM,jK),(gP,nj),(eL,jJ),(dD,jZ),(dZ,fY),(eJ,jG),(cQ,iC),(fB,mh),(n8,po),(dq,jy)]
def T:sn:=fun f=>(tbl.find? fun p=>p.1 == f).map (·.2)
theorem wE:T j4=some l8:=rfl
theorem Ep:T pZ=some sX:=rfl
theorem Cf:T jT=some rl:=rfl
theorem yr:T j7=some nK:=rfl
theorem AS:T n9=some pq:=rfl
theorem Ce:T kR=some rk:=rfl
theorem pf:T fA=some ie:=rfl
theorem yp:T lN=some nI:=rfl
theorem sf:T jl=some kP:=rfl
theorem AQ:T n0=some pn:=rfl
theorem yt:T lP=some nL:=rfl
theorem yy:T lS=some nO:=rfl
theorem tx:T fK=some iW:=rfl
theorem uD:T iE=some kr:=rfl
theorem ym:T j6=some nF:=rfl
theorem xg:T kQ=some mE:=rfl
theorem se:T e7=some ir:=rfl
theorem sk:T dO=some iB:=rfl
theorem sb:T dL=some ig:=rfl
theorem tu:T eh=some iT:=rfl
theorem wB:T eu=some lY:=rfl
theorem wA:T hH=some lX:=rfl
theorem zM:T mQ=some oA:=rfl
theorem yB:T bN=some nR:=rfl
theorem tH:T gk=some lK:=rfl
theorem wa:T mo=some nY:=rfl
theorem vn:T dh=some lh:=rfl
theorem yq:T lO=some nJ:=rfl
theorem yw:T lR=some nN:=rfl
theorem yu:T lQ=some nM:=rfl
theorem Cc:T cz=some ri:=rfl
theorem zK:T gg=some ow:=rfl
theorem tw:T fJ=some iV:=rfl
theorem zL:T mP=some oz:=rfl
theorem tQ:T gB=some jF:=rfl
theorem tt:T eg=some iS:=rfl
theorem xf:T cC=some mD:=rfl
theorem r8:T cY=some ia:=rfl
theorem tv:T cJ=some iU:=rfl
theorem vm:T jk=some la:=rfl
theorem sd:T dM=some iq:=rfl
theorem qY:T ec=some gb:=rfl
theorem qT:T bM=some fU:=rfl
theorem vq:T jq=some ll:=rfl
theorem tn:T ef=some iP:=rfl
theorem xh:T jt=some mJ:=rfl
theorem tW:T gC=some jL:=rfl
theorem wC:T j3=some l6:=rfl
theorem sj:T ff=some iA:=rfl
theorem v8:T ml=some nX:=rfl
theorem yA:T j8=some nQ:=rfl
theorem Cd:T jS=some rj:=rfl
theorem tP:T eI=some jE:=rfl
theorem yz:T gj=some nP:=rfl
theorem qR:T dc=some fT:=rfl
theorem sc:T e6=some ij:=rfl
theorem tO:T gA=some jD:=rfl
theorem uc:T gG=some jR:=rfl
theorem wD:T cj=some l7:=rfl
theorem tT:T cZ=some jI:=rfl
theorem yn:T lL=some nG:=rfl
theorem tq:T dp=some iR:=rfl
theorem rV:T dr=some gI:=rfl
theorem r9:T eZ=some ic:=rfl
theorem tY:T cA=some jN:=rfl
theorem sh:T cr=some iw:=rfl
theorem vp:T jn=some lk:=rfl
theorem pg:T fC=some ix:=rfl
theorem zJ:T mO=some ov:=rfl
theorem qU:T de=some fV:=rfl
theorem tC:T fO=some jb:=rfl
theorem pG:T du=some eT:=rfl
theorem qQ:T cu=some fS:=rfl
theorem tp:T fI=some iQ:=rfl
theorem tS:T eK=some jH:=rfl
theorem tz:T fL=some iY:=rfl
theorem ua:T gD=some jP:=rfl
theorem xi:T ed=some mN:=rfl
theorem uH:T fD=some kH:=rfl
theorem yo:T lM=some nH:=rfl
theorem rW:T dt=some gJ:=rfl
theorem tX:T c8=some jM:=rfl
theorem ub:T gF=some jQ:=rfl
theorem lF:T bJ=some cg:=rfl
theorem tA:T fM=some iZ:=rfl
theorem uE:T bB=some kD:=rfl
theorem uF:T iF=some kF:=rfl
theorem vt:T gr=some ln:=rfl
theorem uG:T iG=some kG:=rfl
theorem tB:T fN=some ja:=rfl
theorem pS:T dN=some fx:=rfl
theorem vo:T jm=some lj:=rfl
theorem si:T da=some iy:=rfl
theorem tZ:T eN=some jO:=rfl
theorem tV:T eM=some jK:=rfl
theorem tU:T eL=some jJ:=rfl
theorem qX:T dZ=some fY:=rfl
theorem tR:T eJ=some jG:=rfl
theorem AR:T n8=some po:=rfl
theorem mixed:Tryz.prog.follows .mixedOrders=true:=by kernel_rfl
def Xj(f:Nat)(fn:Abs.Fn):Prop:=if f<1000000 then T6 Tryz.prog f fn else fn.body=.exit 0∧Xl Tryz.prog (gS Tryz.prog) fn.CF (f-1000000)
theorem fok{f:Nat}{fn:Abs.Fn}(h:f<1000000)(h':T6 Tryz.prog f fn):Xj f fn:=by unfold Xj;rw[if_pos h];exact h'
theorem kok{t:List (Nat×nv×Abs.Fn)}(h:(t.map fun p=>XF p)=t.map fun p=>some p.2.2):∀p∈t,Xj p.1 p.2.2:=by
 intro p hp;have h1:=(List.map_inj_left.1 h) p hp;unfold XF at h1;simp only[ah]at h1;obtain⟨F,h2,h3⟩:=h1;split at h3
 ·rename_i hc;simp only[ak,bne_iff_ne,av,b8]at hc;obtain⟨h4,⟨c,h5⟩,h6⟩:=hc;exact fok h6 ⟨F,c,p.2.1,h2,h4,h5,h3⟩
 ·cases h3
theorem abW:∀p∈([]:List (Nat×Abs.Fn)),Xj p.1 p.2:=by simp
theorem aa9:∀p∈tbl,Xj p.1 p.2:=by
 intro p hp;have e:∀p∈tbl,p∈((tF0++tF1++tF2).map fun p=>(p.1,p.2.2))++[]:=by
  have:tbl=((tF0++tF1++tF2).map fun p=>(p.1,p.2.2))++[]:=rfl;rw[this];exact fun p h=>h
 rcases aX.1 (e p hp)with h | h
 ·obtain⟨q,hq,rfl⟩:=bp.1 h;simp only[aX]at hq;rcases hq with(hq | hq) | hq
  ·exact kok kF0 q hq
  ·exact kok kF1 q hq
  ·exact kok kF2 q hq
 ·exact abW p h
theorem TT:Ud Tryz.prog T:=by
 intro f fn h;have h':∃p,tbl.find? (fun p=>p.1 == f)=some p∧p.2=fn:=by simpa[T]using h
 obtain⟨p,h1,h2⟩:=h';have h3:=List.mem_of_find?_eq_some h1;have h4:=List.find?_some h1;have h6:=aa9 p h3;simp only[beq_iff_eq]at h4;subst h2;rw[← h4];exact h6
end Go.Proofs.YtcgippbplkagkaaGreat
