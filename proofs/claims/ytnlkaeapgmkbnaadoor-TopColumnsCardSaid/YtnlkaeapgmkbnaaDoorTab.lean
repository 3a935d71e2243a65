import Derived.Test.YtnlkaeapgmkbnaaDoorF0
import Derived.Test.YtnlkaeapgmkbnaaDoorF1
import Derived.Test.YtnlkaeapgmkbnaaDoorLays
import Derived.Test.YtnlkaeapgmkbnaaDoorBase19
set_option linter.all false
set_option maxRecDepth 100000
namespace Go.Proofs.YtnlkaeapgmkbnaaDoor
open Go Go.Abs
def Ml:List (Nat×Abs.Fn):=[(eY,gD),(gQ,jh),(jG,mc),(gi,iD),(gj,iE),(fB,jg),(gk,iF),(gl,la),(fx,gV),(dD,fP),(dR,je),(cK,eQ),(bY,eC),(jQ,kZ),(cC,dB),(bM,cp),(bF,gw),(bu,fN),(dt,eF),(dW,gB),(bj,iG),(cM,eR),(gP,jf),(dE,fS),(fy,lG),(cF,eE),(dC,fO),(dI,ju),(de,gz),(eJ,fM),(cg,eh),(ij,j8),(gG,jz),(cf,fQ),(dV,gA),(il,j9),(aO,bL),(ew,gX),(eK,fR),(dr,eD),(cY,gI),(fV,ka),(dh,eT),(fH,iQ),(aT,bk),(ck,dP),(bR,db),(bZ,dn),(bV,dk),(bw,cc),(bN,cT),(cb,dH),(iJ,ke),(eL,fT),(eu,gW),(dM,iH),(dL,fU),(bG,dQ),(eX,ig),(fm,iI),(aQ,cS),(bO,ej),(bn,ek),(1000000+cJ,⟨3,[],.exit 0⟩)]
def T:lN:=fun f=>(Ml.find? fun p=>p.1 == f).map (·.2)
theorem nP:T eY=some gD:=rfl
theorem qH:T gQ=some jh:=rfl
theorem vO:T jG=some mc:=rfl
theorem o8:T gi=some iD:=rfl
theorem o9:T gj=some iE:=rfl
theorem qG:T fB=some jg:=rfl
theorem pa:T gk=some iF:=rfl
theorem uh:T gl=some la:=rfl
theorem oF:T fx=some gV:=rfl
theorem mX:T dD=some fP:=rfl
theorem qB:T dR=some je:=rfl
theorem mz:T cK=some eQ:=rfl
theorem lP:T bY=some eC:=rfl
theorem ug:T jQ=some kZ:=rfl
theorem kK:T cC=some dB:=rfl
theorem jt:T bM=some cp:=rfl
theorem nL:T bF=some gw:=rfl
theorem mV:T bu=some fN:=rfl
theorem lS:T dt=some eF:=rfl
theorem nO:T dW=some gB:=rfl
theorem pc:T bj=some iG:=rfl
theorem mA:T cM=some eR:=rfl
theorem qD:T gP=some jf:=rfl
theorem na:T dE=some fS:=rfl
theorem lR:T cF=some eE:=rfl
theorem mW:T dC=some fO:=rfl
theorem nM:T de=some gz:=rfl
theorem mU:T eJ=some fM:=rfl
theorem lJ:T cg=some eh:=rfl
theorem td:T ij=some j8:=rfl
theorem rW:T gG=some jz:=rfl
theorem mY:T cf=some fQ:=rfl
theorem nN:T dV=some gA:=rfl
theorem tf:T il=some j9:=rfl
theorem hJ:T aO=some bL:=rfl
theorem oH:T ew=some gX:=rfl
theorem mZ:T eK=some fR:=rfl
theorem lQ:T dr=some eD:=rfl
theorem fD:T aT=some bk:=rfl
theorem nc:T eL=some fT:=rfl
theorem oG:T eu=some gW:=rfl
theorem mixed:Tryd.prog.follows .mixedOrders=true:=by kernel_rfl
theorem pf:T cJ=none:=rfl
theorem o4:T (1000000+cJ)=some ⟨3,[],.exit 0⟩:=rfl
def ER(f:Nat)(fn:Abs.Fn):Prop:=if f<1000000 then ES Tryd.prog f fn else fn.body=.exit 0∧vN Tryd.prog (dO Tryd.prog) fn.uH (f-1000000)
theorem Ow{f:Nat}{fn:Abs.Fn}(h:f<1000000)(h':ES Tryd.prog f fn):ER f fn:=by unfold ER;rw[if_pos h];exact h'
theorem OB{k f:Nat}(h':vN Tryd.prog (dO Tryd.prog) k f):ER (1000000+f) ⟨k,[],.exit 0⟩:=by unfold ER;rw[if_neg (by omega),show 1000000+f-1000000=f from by omega];exact⟨rfl,h'⟩
theorem Oa{t:List (Nat×jq×Abs.Fn)}(h:(t.map fun p=>MG p)=t.map fun p=>some p.2.2):∀p∈t,ER p.1 p.2.2:=by
 intro p hp;have h1:=(List.map_inj_left.1 h) p hp;unfold MG at h1;simp only[ae]at h1;obtain⟨F,h2,h3⟩:=h1;split at h3
 ·rename_i hc;simp only[ah,bne_iff_ne,aq,bz]at hc;obtain⟨h4,⟨c,h5⟩,h6⟩:=hc;exact Ow h6 ⟨F,c,p.2.1,h2,h4,h5,h3⟩
 ·cases h3
theorem NH:∀p∈[(1000000+cJ,(⟨3,[],.exit 0⟩:Abs.Fn))],ER p.1 p.2:=by
 simp only[List.forall_mem_cons];exact⟨OB n8,by simp⟩
theorem MX:∀p∈Ml,ER p.1 p.2:=by
 intro p hp;have e:∀p∈Ml,p∈((MT++MU).map fun p=>(p.1,p.2.2))++[(1000000+cJ,(⟨3,[],.exit 0⟩:Abs.Fn))]:=by
  have:Ml=((MT++MU).map fun p=>(p.1,p.2.2))++[(1000000+cJ,(⟨3,[],.exit 0⟩:Abs.Fn))]:=rfl;rw[this];exact fun p h=>h
 rcases a7.1 (e p hp)with h | h
 ·obtain⟨q,hq,rfl⟩:=bg.1 h;simp only[a7]at hq;rcases hq with hq | hq
  ·exact Oa Oy q hq
  ·exact Oa Oz q hq
 ·exact NH p h
theorem TT:E0 Tryd.prog T:=by
 intro f fn h;have h':∃p,Ml.find? (fun p=>p.1 == f)=some p∧p.2=fn:=by simpa[T]using h
 obtain⟨p,h1,h2⟩:=h';have h3:=List.mem_of_find?_eq_some h1;have h4:=List.find?_some h1;have h6:=MX p h3;simp only[beq_iff_eq]at h4;subst h2;rw[← h4];exact h6
end Go.Proofs.YtnlkaeapgmkbnaaDoor
