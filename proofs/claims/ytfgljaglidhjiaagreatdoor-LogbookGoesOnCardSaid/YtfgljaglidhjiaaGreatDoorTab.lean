import Derived.Test.YtfgljaglidhjiaaGreatDoorF0
import Derived.Test.YtfgljaglidhjiaaGreatDoorF1
import Derived.Test.YtfgljaglidhjiaaGreatDoorF2
import Derived.Test.YtfgljaglidhjiaaGreatDoorF3
import Derived.Test.YtfgljaglidhjiaaGreatDoorLays
import Derived.Test.YtfgljaglidhjiaaGreatDoorBase19
set_option linter.all false
set_option maxRecDepth 100000
namespace Go.Proofs.YtfgljaglidhjiaaGreatDoor
open Go Go.Abs
def tbl:List (Nat×Abs.Fn):=[(jy,mE),(vT,yh),(qU,CK),(xz,Bn),(nM,wS),(sX,vB),(uC,yi),(Ah,D5),(vm,zr),(vS,yf),(mw,oJ),(iS,oL),(tQ,tN),(qX,sU),(rO,uk),(mq,pf),(nd,tg),(iL,ku),(vU,FW),(lX,rY),(mo,ui),(fK,ti),(gL,sN),(dz,nH),(vl,zq),(cC,sc),(re,u7),(tE,xr),(gG,mF),(nN,vM),(nY,vw),(cQ,og),(qR,vu),(jb,oe),(nX,vv),(gD,mC),(kg,nr),(uE,wT),(mu,po),(fL,qH),(tR,vO),(nR,ru),(lj,oz),(dF,nV),(eR,oG),(dh,mY),(ei,nJ),(cm,tw),(ej,nL),(cp,iB),(eO,nW),(tF,xw),(ng,tp),(iQ,nD),(jf,oE),(nT,rD),(iw,nI),(oS,sn),(oT,so),(jI,pj),(sW,vA),(jz,mJ),(mr,pg),(kJ,rl),(kI,nz),(aJ,om),(eF,pR),(iM,rk),(lf,oh),(qT,vx),(dw,nk),(pW,AG),(gF,mD),(dS,uh),(mj,pa),(mm,pc),(lW,rX),(jL,sh),(cn,vC),(ja,od),(iP,ur),(oP,ux),(jP,pC),(dn,tt),(fV,lI),(uF,wU),(dc,iA),(fJ,mh),(uG,wW),(cY,gU),(fh,lO),(fZ,lM),(fI,nK),(fY,jG),(iT,mi),(oN,sf),(je,ou),(my,pH),(dA,uB),(jA,va),(kM,rC),(ln,oF),(kh,uo),(iN,um),(eg,nB),(j4,sP),(nf,tn),(ll,oD),(nP,rn),(lZ,rZ),(eQ,la),(lk,oA),(da,jw),(dk,fT),(jr,sw),(bZ,mX),(rF,yg),(jH,o9),(jR,pK),(kj,vN),(fF,pq),(gC,mB),(kf,nq),(eK,mV),(j5,sQ),(ki,Bq),(eA,pF),(eh,nC),(fH,nE),(vV,yj),(fG,pD),(kK,rz),(jd,ot),(jN,pA),(dU,jF),(dJ,jj),(ix,vi),(eD,lN),(jK,pn),(mz,pI),(cS,dN),(lg,ov),(cj,rp),(nQ,rq),(l4,si),(nS,rA),(lh,ow),(fq,n8),(kN,tP),(ff,nF),(jZ,sO),(eB,mf),(iO,rL),(jc,oo),(sV,vy),(pX,tj),(aZ,sM),(lY,oI),(eC,pJ),(fp,n0),(lP,uw),(gK,jX),(ew,lA),(fX,oK),(oO,zt),(pL,tD),(ir,kG),(oM,se),(jQ,pG),(jO,pB),(mQ,u6),(jM,pr),(gR,pT),(gw,oZ),(ft,n9),(fA,j9),(fE,kc),(gW,ma),(gv,kZ),(fC,ka),(gX,mc),(gn,kV),(gi,kT),(fD,kb),(gq,kX),(gk,kU),(gr,kY),(gp,kW),(gQ,pS),(jJ,pk),(fg,nG),(kL,tO),(bS,rK),(nh,tu),(eM,gJ),(ec,lS),(ez,lE),(uD,uq),(jx,mA),(gH,mI),(fB,nv),(pY,tv),(gj,oj),(iu,ke),(eV,mH),(nO,rm),(rN,uj),(gz,o4),(dR,kr),(iK,lu),(kO,rE),(pM,xx),(rG,yk),(dT,fS),(eU,mG),(oR,sk),(oQ,sj),(fy,iG),(dE,jW),(lQ,rB),(rP,vP),(nZ,sT),(1000000+fW,⟨9,[],.exit 0⟩),(1000000+db,⟨5245543,[],.exit 0⟩),(1000000+oU,⟨5,[],.exit 0⟩),(1000000+eG,⟨3,[],.exit 0⟩),(1000000+eN,⟨5245544,[],.exit 0⟩),(1000000+gS,⟨6,[],.exit 0⟩),(1000000+iR,⟨7636,[],.exit 0⟩)]
def T:yR:=fun f=>(tbl.find? fun p=>p.1 == f).map (·.2)
theorem AN:T jy=some mE:=rfl
theorem Lc:T vT=some yh:=rfl
theorem JQ:T nM=some wS:=rfl
theorem Io:T sX=some vB:=rfl
theorem Lb:T vS=some yf:=rfl
theorem xg:T mw=some oJ:=rfl
theorem xh:T iS=some oL:=rfl
theorem Bc:T tQ=some tN:=rfl
theorem CG:T qX=some sU:=rfl
theorem G6:T rO=some uk:=rfl
theorem CV:T mq=some pf:=rfl
theorem Gb:T nd=some tg:=rfl
theorem uc:T iL=some ku:=rfl
theorem EM:T lX=some rY:=rfl
theorem G4:T mo=some ui:=rfl
theorem Gc:T fK=some ti:=rfl
theorem CF:T gL=some sN:=rfl
theorem EO:T cC=some sc:=rfl
theorem AO:T gG=some mF:=rfl
theorem Ij:T nY=some vw:=rfl
theorem Cj:T cQ=some og:=rfl
theorem Ih:T qR=some vu:=rfl
theorem Ci:T jb=some oe:=rfl
theorem Ii:T nX=some vv:=rfl
theorem AL:T gD=some mC:=rfl
theorem A8:T kg=some nr:=rfl
theorem JR:T uE=some wT:=rfl
theorem C0:T mu=some po:=rfl
theorem yO:T fL=some qH:=rfl
theorem FN:T tR=some vO:=rfl
theorem DN:T nR=some ru:=rfl
theorem Cs:T lj=some oz:=rfl
theorem yP:T dF=some nV:=rfl
theorem Cx:T eR=some oG:=rfl
theorem xU:T dh=some mY:=rfl
theorem Bh:T ei=some nJ:=rfl
theorem Gk:T cm=some tw:=rfl
theorem Bj:T ej=some nL:=rfl
theorem mU:T cp=some iB:=rfl
theorem yQ:T eO=some nW:=rfl
theorem G8:T tF=some xw:=rfl
theorem Gf:T ng=some tp:=rfl
theorem xY:T iQ=some nD:=rfl
theorem Cv:T jf=some oE:=rfl
theorem DS:T nT=some rD:=rfl
theorem Bg:T iw=some nI:=rfl
theorem EW:T oS=some sn:=rfl
theorem EX:T oT=some so:=rfl
theorem CX:T jI=some pj:=rfl
theorem Im:T sW=some vA:=rfl
theorem AS:T jz=some mJ:=rfl
theorem CW:T mr=some pg:=rfl
theorem DI:T kJ=some rl:=rfl
theorem xX:T kI=some nz:=rfl
theorem Cm:T aJ=some om:=rfl
theorem DH:T iM=some rk:=rfl
theorem Ck:T lf=some oh:=rfl
theorem Ik:T qT=some vx:=rfl
theorem A6:T dw=some nk:=rfl
theorem AM:T gF=some mD:=rfl
theorem G3:T dS=some uh:=rfl
theorem CT:T mj=some pa:=rfl
theorem CU:T mm=some pc:=rfl
theorem EL:T lW=some rX:=rfl
theorem ES:T jL=some sh:=rfl
theorem Ip:T cn=some vC:=rfl
theorem Ch:T ja=some od:=rfl
theorem G9:T oP=some ux:=rfl
theorem C7:T jP=some pC:=rfl
theorem Gg:T dn=some tt:=rfl
theorem zR:T fV=some lI:=rfl
theorem JS:T uF=some wU:=rfl
theorem tW:T dc=some iA:=rfl
theorem xi:T fJ=some mh:=rfl
theorem JT:T uG=some wW:=rfl
theorem tz:T cY=some gU:=rfl
theorem wP:T fh=some lO:=rfl
theorem zT:T fZ=some lM:=rfl
theorem Bi:T fI=some nK:=rfl
theorem oH:T fY=some jG:=rfl
theorem xj:T iT=some mi:=rfl
theorem ER:T oN=some sf:=rfl
theorem Cp:T je=some ou:=rfl
theorem Db:T my=some pH:=rfl
theorem Ha:T dA=some uB:=rfl
theorem DR:T kM=some rC:=rfl
theorem Cw:T ln=some oF:=rfl
theorem G7:T kh=some uo:=rfl
theorem Bb:T eg=some nB:=rfl
theorem Ge:T nf=some tn:=rfl
theorem Cu:T ll=some oD:=rfl
theorem DK:T nP=some rn:=rfl
theorem EN:T lZ=some rZ:=rfl
theorem wE:T eQ=some la:=rfl
theorem Ct:T lk=some oA:=rfl
theorem uY:T da=some jw:=rfl
theorem lV:T dk=some fT:=rfl
theorem xT:T bZ=some mX:=rfl
theorem CS:T jH=some o9:=rfl
theorem Dd:T jR=some pK:=rfl
theorem C3:T fF=some pq:=rfl
theorem AK:T gC=some mB:=rfl
theorem A7:T kf=some nq:=rfl
theorem C9:T eA=some pF:=rfl
theorem Be:T eh=some nC:=rfl
theorem Bf:T fH=some nE:=rfl
theorem Ld:T vV=some yj:=rfl
theorem C8:T fG=some pD:=rfl
theorem DP:T kK=some rz:=rfl
theorem Co:T jd=some ot:=rfl
theorem C5:T jN=some pA:=rfl
theorem vd:T dU=some jF:=rfl
theorem uT:T dJ=some jj:=rfl
theorem EY:T ix=some vi:=rfl
theorem zU:T eD=some lN:=rfl
theorem CZ:T jK=some pn:=rfl
theorem Dc:T mz=some pI:=rfl
theorem sD:T cS=some dN:=rfl
theorem Cq:T lg=some ov:=rfl
theorem DL:T cj=some rp:=rfl
theorem DM:T nQ=some rq:=rfl
theorem ET:T l4=some si:=rfl
theorem DQ:T nS=some rA:=rfl
theorem Cr:T lh=some ow:=rfl
theorem Cn:T jc=some oo:=rfl
theorem Il:T sV=some vy:=rfl
theorem Gd:T pX=some tj:=rfl
theorem CE:T aZ=some sM:=rfl
theorem zk:T lY=some oI:=rfl
theorem zS:T eC=some pJ:=rfl
theorem yN:T gK=some jX:=rfl
theorem zP:T ew=some lA:=rfl
theorem De:T pL=some tD:=rfl
theorem zl:T ir=some kG:=rfl
theorem EP:T oM=some se:=rfl
theorem Da:T jQ=some pG:=rfl
theorem C6:T jO=some pB:=rfl
theorem C4:T jM=some pr:=rfl
theorem vG:T fA=some j9:=rfl
theorem vJ:T fE=some kc:=rfl
theorem xe:T gW=some ma:=rfl
theorem wD:T gv=some kZ:=rfl
theorem vH:T fC=some ka:=rfl
theorem xf:T gX=some mc:=rfl
theorem wz:T gn=some kV:=rfl
theorem wx:T gi=some kT:=rfl
theorem vI:T fD=some kb:=rfl
theorem wB:T gq=some kX:=rfl
theorem wy:T gk=some kU:=rfl
theorem wC:T gr=some kY:=rfl
theorem wA:T gp=some kW:=rfl
theorem CY:T jJ=some pk:=rfl
theorem Ba:T bS=some rK:=rfl
theorem Gh:T nh=some tu:=rfl
theorem sH:T eM=some gJ:=rfl
theorem zQ:T ez=some lE:=rfl
theorem DO:T uD=some uq:=rfl
theorem AJ:T jx=some mA:=rfl
theorem AR:T gH=some mI:=rfl
theorem A9:T fB=some nv:=rfl
theorem Gj:T pY=some tv:=rfl
theorem Cl:T gj=some oj:=rfl
theorem vK:T iu=some ke:=rfl
theorem AQ:T eV=some mH:=rfl
theorem DJ:T nO=some rm:=rfl
theorem G5:T rN=some uj:=rfl
theorem zj:T dR=some kr:=rfl
theorem zO:T iK=some lu:=rfl
theorem DT:T kO=some rE:=rfl
theorem vc:T dT=some fS:=rfl
theorem AP:T eU=some mG:=rfl
theorem EV:T oR=some sk:=rfl
theorem EU:T oQ=some sj:=rfl
theorem xd:T fy=some iG:=rfl
theorem yM:T dE=some jW:=rfl
theorem mixed:Tryz.prog.follows .mixedOrders=true:=by kernel_rfl
theorem Hc:T eG=none:=rfl
theorem GZ:T (1000000+eG)=some ⟨3,[],.exit 0⟩:=rfl
theorem Gi:T gS=none:=rfl
theorem F9:T (1000000+gS)=some ⟨6,[],.exit 0⟩:=rfl
theorem Hb:T iR=none:=rfl
theorem GY:T (1000000+iR)=some ⟨7636,[],.exit 0⟩:=rfl
def FOk(f:Nat)(fn:Abs.Fn):Prop:=if f<1000000 then anw Tryz.prog f fn else fn.body=.exit 0∧wM Tryz.prog (jB Tryz.prog) fn.N1 (f-1000000)
theorem fok{f:Nat}{fn:Abs.Fn}(h:f<1000000)(h':anw Tryz.prog f fn):FOk f fn:=by unfold FOk;rw[if_pos h];exact h'
theorem nok{k f:Nat}(h':wM Tryz.prog (jB Tryz.prog) k f):FOk (1000000+f) ⟨k,[],.exit 0⟩:=by unfold FOk;rw[if_neg (by omega),show 1000000+f-1000000=f from by omega];exact⟨rfl,h'⟩
theorem kok{t:List (Nat×ub×Abs.Fn)}(h:(t.map fun p=>chk p)=t.map fun p=>some p.2.2):∀p∈t,FOk p.1 p.2.2:=by
 intro p hp;have h1:=(List.map_inj_left.1 h) p hp;unfold chk at h1;simp only[ah]at h1;obtain⟨F,h2,h3⟩:=h1;split at h3
 ·rename_i hc;simp only[af,bne_iff_ne,au,dD]at hc;obtain⟨h4,⟨c,h5⟩,h6⟩:=hc;exact fok h6 ⟨F,c,p.2.1,h2,h4,h5,h3⟩
 ·cases h3
theorem ayM:∀p∈[(1000000+fW,(⟨9,[],.exit 0⟩:Abs.Fn)),(1000000+db,(⟨5245543,[],.exit 0⟩:Abs.Fn)),(1000000+oU,(⟨5,[],.exit 0⟩:Abs.Fn)),(1000000+eG,(⟨3,[],.exit 0⟩:Abs.Fn)),(1000000+eN,(⟨5245544,[],.exit 0⟩:Abs.Fn)),(1000000+gS,(⟨6,[],.exit 0⟩:Abs.Fn)),(1000000+iR,(⟨7636,[],.exit 0⟩:Abs.Fn))],FOk p.1 p.2:=by
 simp only[List.forall_mem_cons];exact⟨nok y9,nok uX,nok Fo,nok Fl,nok xD,nok Em,nok Fk,by simp⟩
theorem axR:∀p∈tbl,FOk p.1 p.2:=by
 intro p hp;have e:∀p∈tbl,p∈((tF0++tF1++tF2++tF3).map fun p=>(p.1,p.2.2))++[(1000000+fW,(⟨9,[],.exit 0⟩:Abs.Fn)),(1000000+db,(⟨5245543,[],.exit 0⟩:Abs.Fn)),(1000000+oU,(⟨5,[],.exit 0⟩:Abs.Fn)),(1000000+eG,(⟨3,[],.exit 0⟩:Abs.Fn)),(1000000+eN,(⟨5245544,[],.exit 0⟩:Abs.Fn)),(1000000+gS,(⟨6,[],.exit 0⟩:Abs.Fn)),(1000000+iR,(⟨7636,[],.exit 0⟩:Abs.Fn))]:=by
  have:tbl=((tF0++tF1++tF2++tF3).map fun p=>(p.1,p.2.2))++[(1000000+fW,(⟨9,[],.exit 0⟩:Abs.Fn)),(1000000+db,(⟨5245543,[],.exit 0⟩:Abs.Fn)),(1000000+oU,(⟨5,[],.exit 0⟩:Abs.Fn)),(1000000+eG,(⟨3,[],.exit 0⟩:Abs.Fn)),(1000000+eN,(⟨5245544,[],.exit 0⟩:Abs.Fn)),(1000000+gS,(⟨6,[],.exit 0⟩:Abs.Fn)),(1000000+iR,(⟨7636,[],.exit 0⟩:Abs.Fn))]:=rfl;rw[this];exact fun p h=>h
 rcases ba.1 (e p hp)with h | h
 ·obtain⟨q,hq,rfl⟩:=bR.1 h;simp only[ba]at hq;rcases hq with((hq | hq) | hq) | hq
  ·exact kok kF0 q hq
  ·exact kok kF1 q hq
  ·exact kok kF2 q hq
  ·exact kok kF3 q hq
 ·exact ayM p h
theorem TT:TOk Tryz.prog T:=by
 intro f fn h;have h':∃p,tbl.find? (fun p=>p.1 == f)=some p∧p.2=fn:=by simpa[T]using h
 obtain⟨p,h1,h2⟩:=h';have h3:=List.mem_of_find?_eq_some h1;have h4:=List.find?_some h1;have h6:=axR p h3;simp only[beq_iff_eq]at h4;subst h2;rw[← h4];exact h6
end Go.Proofs.YtfgljaglidhjiaaGreatDoor
