import Derived.Test.YtklfdfnoebnciaaGreatDoorBase12
import Derived.Lib.ItoaNum
set_option linter.all false
namespace Go.az
open Go
theorem xP{P:Program}{b:Frame}{a:Act}{k:List Item}{cs:List Frame}{w:World}{c:Code}:
  step P (lone (b.atR a (.code (.scope c)::k)) cs w)=.next (lone (b.atR a (.code c::.inScope c::k)) cs w) :=
 step_lone_go (by simp[stepG,stepG.exec,Frame.atR])
theorem HC{P:Program}{b:Frame}{a:Act}{k:List Item}{cs:List Frame}{w:World}{c:Code}:
  step P (lone (b.atR a (.inScope c::k)) cs w)=.next (lone (b.atR a k) cs w) :=
 step_lone_go (by simp[stepG,stepG.exec,Frame.atR])
def Tt(o:Obj):Prop:=∃c t fz v,o=.cells c t fz/\c[0]?=some v/\(v=.nilIface\/∃te pe,v=.iface te pe)
def Wh(o:Obj):Prop:=∃t fz,o=.cells (Lib.pow10Tab.map (Value.int .u64)).toArray t fz
def Wg(o:Obj):Prop:=∃c t fz m,o=.cells c t fz/\c[0]?=some (.int .i64 m)
def V9(P:Program)(b:Nat)(Q:Obj->Prop):Prop :=
 (P.globalNamed "strconv.ErrSyntax" = some b/\Q=Tt)\/(P.globalNamed "strconv.ErrRange" = some b/\Q=Tt) \/
 (P.globalNamed "internal/strconv.uint64pow10" = some b/\Q=Wh)\/(P.globalNamed "internal/bytealg.MaxLen" = some b/\Q=Wg)
def ix(P:Program):eJ:=⟨λc code n=>∃ann cT,bQ P ann n cT code=some c,V9 P⟩
section
variable {P:Program} {O:bI} {ann:tW} {n:Nat} {base:Nat} {g0 g:G} {w0 w:World} {b:Frame} {B:Nat->Nat} {e e':Env} {J J':SK} {a:Act}
 {k:List Item} {cs:List Frame} {x:Exit}
def Ends(P:Program)(ann:tW)(n base:Nat)(g0:G)(w0:World)(b:Frame)(cs:List Frame)(g:G)(w:World)(a:Act)(start k:List Item)(J:SK)(x:Exit)(e':Env)(J':SK):Prop :=
 ∃g' w' B' a' todo,vK (λfr=>Steps P (lone (b.atR a start) cs w) (lone fr cs w')) g' b a' todo x /\
  At (ix P) base ann.cZ g0 w0 n b g' w' B' e' J' a'/\g.le g'/\zP k x todo/\eB J J'
theorem Ends.step{start start' k:List Item}{w1:World}(h:step P (lone (b.atR a start) cs w)=.next (lone (b.atR a start') cs w1))(hw:Ends P ann n base g0 w0 b cs g w1 a start' k J x e' J'):
  Ends P ann n base g0 w0 b cs g w a start k J x e' J':=by
 obtain⟨g',w',B',a',todo,h1,h2⟩:=hw;exact⟨g',w',B',a',todo,h1.imp λ_ h1 => .head h h1,h2⟩
theorem vK.of{S:Frame->Prop}{g:G}{b:Frame}{a:Act}{todo:List Item}{x:Exit}(hx:∀d,x ≠ .eA d)(h:S (b.atR a todo)):vK S g b a todo x:=by
 cases x with
 |eA d=>exact absurd rfl (hx d)
 |_=>exact h
theorem vK.mono{S:Frame->Prop}{g g':G}(hg:g.le g'){b:Frame}{a:Act}{todo:List Item}{x:Exit}(h:vK S g b a todo x):vK S g' b a todo x:=by
 cases x with
 |eA d=>obtain⟨h0,v,h1,h2⟩:=h;exact⟨h0,v,h1.mono hg,h2⟩
 |_=>exact h
theorem zP.skip{i:Item}(hi:∀id,i ≠ .inBlock id){x:Exit}{t:List Item}(hx:x ≠ .normal)(h:zP (i::k) x t):zP k x t:=by
 cases x with
 |normal=>exact absurd rfl hx
 |exit id =>
  obtain⟨k',h1,h2⟩:=h;refine⟨k',h1,h2.trans ?_⟩;cases i<;>first | rfl | exact absurd rfl (hi _)
 |ret=>exact h
 |eA d=>trivial
theorem GL{sy:Nat}{ops:Array Oper}{tail:Nat}:∀{l:List Oper} {i:Nat} {xs:List Op},Jl P ann n sy ops tail i l=some xs->(∀j o,l[j]?=some o->ops[i+j]?=some o) ->
  xs.length=l.length/\∀j x,xs[j]?=some x->∃o,ops[i+j]?=some o/\(∃nt,Pg P ann n sy ops nt (i+j) o=some x)
 |[],i,xs,h,_=>by simp only[Jl,ad]at h;subst h;exact⟨rfl,λj x hj=>by simp at hj⟩
 |o::l,i,xs,h,hl=>by
  simp only[Jl]at h;split at h
  .rename_i x xs' h1 h2;cases h;obtain⟨h3,h4⟩:=GL h2 λj o' hj=>by
    have:=hl (j+1) o' (by simpa using hj);rwa[show i+(j+1)=i+1+j from by omega]at this
   refine⟨by simp[h3],λj y hj=>?_⟩;cases j with
   |zero =>
    simp only[cc,ad]at hj;subst hj;exact⟨o,hl 0 o rfl,⟨_,h1⟩⟩
   |succ j =>
    have:=h4 j y (by simpa using hj);rwa[show i+1+j=i+(j+1)from by omega]at this
  .cases h
theorem EJ{S:Nat->Op->Prop}:∀{xs:List Op} {i:Nat},(∀j x,xs[j]?=some x->S (i+j) x)->vJ S (List.range' i xs.length) xs
 |[],i,h => .nil
 |x::xs,i,h=>by
  simp only[aF,List.range'_succ];refine .cons (h 0 x rfl) (EJ λj y hj=>?_);have:=h (j+1) y (by simpa using hj);rwa[show i+(j+1)=i+1+j from by omega]at this
theorem Ni(hO:yz P (ix P) O){sy i:Nat}{ops:Array Oper}{is:List Nat}{op:Op}{xs:List Op}{live:List Nat}{x:Exit}(hop:FU P ann n sy ops i op)(hF:vJ (FU P ann n sy ops) is xs)
  (h:Ff O live op xs e J=some (x,e',J')) (ha:At (ix P) base ann.cZ g0 w0 n b g w B e J a):
  ∃g' w' B' a' todo,vK (λfr=>Steps P (lone (b.atR a (.inRegion ops (i::is)::k)) cs w) (lone fr cs w')) g' b a' todo x /\
   At (ix P) base ann.cZ g0 w0 n b g' w' B' e' J' a'/\g.le g'/\zP k x todo/\eB J J':=by
 obtain⟨o,zZ,ho,hopc⟩:=hop;obtain⟨hdst,hn,hgrd⟩:=Jk hopc;obtain⟨hkc,hmk⟩:=Vf hopc;have hd:=KM hkc;have hkeq:=Rh hkc;unfold Ff at h;split at h
 .rename_i fo args hg hk;have hguard:o.guard=none:=by
   rcases hgrd with⟨h1,_⟩ | ⟨_,_,_,_,h2,_⟩
   .exact h1
   .rw[hg]at h2;cases h2
  have hw:Region.wanted o (yielded ops a.tmps)=true:=by simp[Region.wanted,hguard]
  rw[hk]at hkeq hmk;obtain⟨f0,args0,ts0,hopo,hF0,hX0⟩:=hkeq;cases hc:zR O (ba e fo) (args.map (ba e)) J with
  |none=>rw[hc]at h;simp[tZ]at h
  |some r =>
  rw[hc]at h;obtain⟨f,first,cap,hfe,hq⟩:=OC hc;cases r with
  |B6=>simp[tZ]at h
  |val d J1 =>
   simp only[tZ,ab,Prod.exists]at h;obtain⟨e1,J2,h1,h2⟩:=h;cases h2;obtain⟨g1,w1,B1,a1,k1,k2,k3,k4⟩:=Nj (k:=k) (cs:=cs) (rest:=is) (kp:=false) hO ha ho hw hn (hmk rfl) hopo hF0 hX0 (d:=d) (J':=J1) (by rw[hfe];simp only[oe,hq,R.bg]);rw[hdst]at h1;obtain⟨g2,w2,B2,a2,m1,m2,m3,m4⟩:=Bq (k:=k) (cs:=cs) (tl:=[]) hO is xs _ _ _ _ _ _ hF h1 k2;refine⟨g2,w2,B2,a2,k,?_,m2.restrict _,k3.trans' m3,rfl,k4.trans m4⟩;rw[cC]at m1;exact .trans k1 (.trans m1 (.one stepR_region_end))
  |eA d J1 =>
   simp only[tZ,ad,aj]at h;obtain⟨rfl,rfl,rfl⟩:=h;obtain⟨hcl,⟨Fn,cd,hfn1,hfn2,hfn3⟩,hcall⟩:=hO _ _ hq;obtain⟨tmps,df⟩:=a;have hfv:=ha.fr.ba (df:=df) hF0;have hxs:=DB (df:=df) ha.fr hX0;rw[hfe]at hfv;generalize hev:(Act.mk tmps df).eval f0=fv at hfv;cases hfv with
   |fn _ _ _ first' cap' r1 r2 =>
    have hrun:(execOp (Act.mk tmps df).eval o).run P w=.ok (.enter f (first'++args0.map (Act.mk tmps df).eval++cap')) w:=by
     simp only[execOp,hopo,Sem.run_bind,jh hev,Result.andThen_ok,invoke,v8 hfn1 hfn2 hfn3]
    have hargs:bA g (first++args.map (ba e)++cap) (first'++args0.map (Act.mk tmps df).eval++cap').toList:=by
     simpa using(r1.append hxs).append r2
    obtain⟨hgo,hcalls⟩:=hcall base g w _ ha.inv ha.low ha.pos hargs;obtain⟨en,w',fr,⟨v,g',rfl,he,hi,hr⟩,hcomes,hfr,hleave⟩:=hcalls (b.atR ⟨tmps,df⟩ (.inRegion ops (i::is)::k)::cs);refine⟨g',w',B,⟨tmps,df⟩,.inRegion ops (i::is)::k,⟨hcl,v,hr,Steps.head (G2 ho hw hd hrun) (Steps.trans hcomes (Steps.one ?_))⟩,ha.go he hi hgo (ha.fr.ev he) rfl rfl,he.le,trivial,hgo⟩;rw[step_leave_panicked hleave];rfl
 .rename_i X hg hk;have hguard:o.guard=none:=by
   rcases hgrd with⟨h1,_⟩ | ⟨_,_,_,_,h2,_⟩
   .exact h1
   .rw[hg]at h2;cases h2
  have hw:Region.wanted o (yielded ops a.tmps)=true:=by simp[Region.wanted,hguard]
  rw[hk]at hkeq;obtain⟨y,hopo,hX0⟩:=hkeq;split at h
  case h_2=>cases h
  rename_i t d hX;split at h
  case isFalse=>cases h
  rename_i hcl;cases h;obtain⟨tmps,df⟩:=a;have hr:=ha.fr.ba (df:=df) hX0;rw[hX]at hr;generalize hev:(Act.mk tmps df).eval y=cv at hr;cases hr with
  |tK _ _ c h1 =>
   have hrun:(execOp (Act.mk tmps df).eval o).run P w=.halt (.panic (.iface t c)) w:=by
    simp only[execOp,hopo,hev];rfl
   exact⟨g,w,B,⟨tmps,df⟩,.inRegion ops (i::is)::k,⟨by simpa[D.clean]using hcl,_,.tK t d c h1,.one (MG ho hw hd hrun)⟩,ha,g.le_refl,trivial,.refl J⟩
 .cases h
theorem vJ.split{α β:Type}{R:α->β->Prop}:∀{xs:List α} {ys:List β} (j:Nat),vJ R xs ys->∃a b,xs=a++b/\vJ R a (ys.take j)/\vJ R b (ys.drop j)
 |xs,ys,0,h=>⟨[],xs,rfl,by simpa using vJ.nil,by simpa using h⟩
 |[],_,j+1,h=>by cases h;exact⟨[],[],rfl,by simpa using vJ.nil,by simpa using vJ.nil⟩
 |x::xs,_,j+1,h=>by
  cases h with
  |cons h1 h2 =>
   obtain⟨a,b,k1,k2,k3⟩:=vJ.split j h2;exact⟨x::a,b,by rw[k1];rfl,by simpa using vJ.cons h1 k2,by simpa using k3⟩
theorem HN{α β γ:Type}{S:α->β->Prop}{f:γ->α}{g:γ->β}:∀{l:List γ},(∀p∈l,S (f p) (g p))->vJ S (l.map f) (l.map g)
 |[],_ => .nil
 |p::l,h => .cons (h p (by simp)) (HN λq hq=>h q (by simp[hq]))
theorem Fr.eqE{fb:Nat}{V:List Nat}{g:G}{w:World}{B:Nat->Nat}{e e':Env}{tmps:Array Value}(hf:Fr fb V g w B e' tmps)(h:EE e e'):Fr fb V g w B e tmps:=by
 have hg:∀t,get e' t=get e t:=h;refine⟨λt=>?_,λt s cs ht=>hf.own t s cs (by rw[hg];exact ht),λt t' s s' cs cs' h1 h2=>hf.inj t t' s s' cs cs' (by rw[hg];exact h1) (by rw[hg];exact h2)⟩;have:=hf.rel t;rw[hg]at this;exact this.imp λd c hr=>by
  cases d<;>first | exact hr | skip
  rename_i x s off;obtain⟨s',cs,b,o,e1,e2⟩:=hr;exact⟨s',cs,b,o,by rw[<- hg];exact e1,e2⟩
theorem At.eqE{CR:eJ}{V:List Nat}{w:World}{e e':Env}(ha:At CR base V g0 w0 n b g w B e' J a)(h:EE e e'):At CR base V g0 w0 n b g w B e J a:={ha with fr:=ha.fr.eqE h }
theorem GQ(hm:P.follows .mixedOrders=true)(hO:yz P (ix P) O){id:Nat}{ops:Array Oper}{draw:Bool}{c:bX}(hc:Mt P ann n id ops draw=some c)
  (h:aV O c e J=some (x,e',J')) (ha:At (ix P) base ann.cZ g0 w0 n b g w B e J a):Ends P ann n base g0 w0 b cs g w a (.code (.region id ops draw)::k) k J x e' J':=by
 simp only[Mt]at hc;cases draw with
 |false =>
  simp only[ar,if_false,ab]at hc;obtain⟨xs,hxs,rfl⟩:=hc;obtain⟨hlen,hall⟩:=GL hxs λj o hj=>by simpa using hj
  have h2:vJ (FU P ann n id ops) (List.range ops.size) xs:=by
   have:=EJ (S:=FU P ann n id ops) (xs:=xs) (i:=0) λj y hj=>let ⟨o,k1,nt,k2⟩:=hall j y hj;⟨o,nt,k1,k2⟩
   rw[hlen]at this;rw[List.range_eq_range'];simpa using this
  unfold Gl at h;generalize look id none ann.eA=jo at h;cases jo with
  |some j =>
   dsimp only at h;split at h
   .rename_i y r hdr;simp only[aV,af,Prod.exists]at h;obtain⟨e1,J1,h1,h3⟩:=h;obtain⟨is,js,hsplit,hA,hB⟩:=h2.split j;rw[hdr]at hB;cases hB with
    |cons hop hF =>
     rename_i i is';obtain⟨g1,w1,B1,a1,k1,k2,k3,k4⟩:=Bq (k:=k) (cs:=cs) (tl:=i::is') hO _ _ _ _ _ _ _ _ hA h1 ha;obtain⟨g2,w2,B2,a2,t2,m1,m2,m3,m4,m5⟩:=Ni (k:=k) (cs:=cs) hO hop hF h3 k2;refine⟨g2,w2,B2,a2,t2,m1.imp λfr hs => .head stepR_region (Steps.trans ?_ hs),m2,k3.trans' m3,m4,k4.trans m5⟩;rw[hsplit];exact k1
   .simp only[aV,ab,Prod.exists]at h;obtain⟨e1,J1,h1,h2'⟩:=h;cases h2';obtain⟨g1,w1,B1,a1,k1,k2,k3,k4⟩:=Mn (k:=k) (cs:=cs) hO _ _ _ _ _ _ _ _ h2 h1 ha;exact⟨g1,w1,B1,a1,k,.head stepR_region (.trans k1 (.one stepR_region_end)),k2.restrict _,k3,rfl,k4⟩
  |none =>
  simp only[aV,ab,Prod.exists]at h;obtain⟨e1,J1,h1,h2'⟩:=h;cases h2';obtain⟨g1,w1,B1,a1,k1,k2,k3,k4⟩:=Mn (k:=k) (cs:=cs) hO _ _ _ _ _ _ _ _ h2 h1 ha;exact⟨g1,w1,B1,a1,k,.head stepR_region (.trans k1 (.one stepR_region_end)),k2.restrict _,k3,rfl,k4⟩
 |true =>
  simp only[if_true]at hc;split at hc
  case h_2=>cases hc
  rename_i xs hxs;simp only[aC,ae]at hc;obtain⟨⟨⟨hcalm,hedge⟩,_⟩,hc⟩:=hc;cases hc;obtain⟨hlen,hall⟩:=GL hxs λj o hj=>by simpa using hj
  have hlen':xs.length=ops.size:=by simpa using hlen
  obtain⟨ys,hysT⟩:=Ib hlen' hcalm hedge ops.size (w.tape w.drawn (.order b.fn id)) (Array.replicate ops.size false) (by simp) (λi hi=>by
    simp[bU]at hi;by_cases hlt:i<ops.size<;>simp[hlt]at hi) (by
    simp only[Lq];exact iB (gM _ _) (by simp))
  have hU:Lq ops.size (Array.replicate ops.size false)=List.range ops.size:=by
   simp only[Lq];rw[List.filter_eq_self];intro i hi;have:i<ops.size:=by simpa using hi
   simp[bU,this]
  rw[hU]at hysT;have hmap:((List.range ops.size).map λi=>(i,(xs[i]?).getD default)).map (·.2)=xs:=by
   simp only[List.map_map];apply dG;intro j;by_cases hj:j<ops.size
   .simp[hj,show j<xs.length from by omega]
   .rw[dF (by simp;omega),dF (by omega)]
  have hlin:Region.schedule (P.follows .mixedOrders) ops (w.tape w.drawn (.order b.fn id))=Region.linearise.go .any ops ops.size (w.tape w.drawn (.order b.fn id)) (Array.replicate ops.size false) []:=by
   simp[Region.schedule,hm,Region.linearise]
  have hat:∀p∈(List.range ops.size).map λi=>(i,(xs[i]?).getD default),FU P ann n id ops p.1 p.2:=λp hp=>by
   obtain⟨j,hj,rfl⟩:=bO.1 hp;have hj':j<ops.size:=by simpa using hj
   have hjx:xs[j]?=some (xs[j]'(by omega)):=by simp[show j<xs.length from by omega]
   obtain⟨o,k1,nt,k2⟩:=hall j _ hjx;rw[hjx];simp only[cr]at k1 k2;exact⟨o,_,k1,k2⟩
  have ha1:=ha.draw {w with drawn:=w.drawn+1 } rfl rfl rfl rfl;have plain:∀{x e' J'},aV O (.sy (look id [] ann.live) xs) e J=some (x,e',J')->Ends P ann n base g0 w0 b cs g w a (.code (.region id ops true)::k) k J x e' J':=by
   intro x e' J' h;have hys:=hysT.sched;simp only[aV,ab,Prod.exists]at h;obtain⟨e1,J1,h1,h2⟩:=h;cases h2;obtain⟨e2,h2,heq⟩:=GY hys (by rw[hmap];exact h1);have h3:vJ (FU P ann n id ops) (Region.schedule (P.follows .mixedOrders) ops (w.tape w.drawn (.order b.fn id))) ys:=by
    rw[hlin];exact Iy hys hat
   obtain⟨g1,w1,B1,a1,k1,k2,k3,k4⟩:=Mn (k:=k) (cs:=cs) hO _ _ _ _ _ _ _ _ h3 h2 ha1;refine⟨g1,w1,B1,a1,k,.head stepR_region_draw (.trans k1 (.one stepR_region_end)),?_,k3,rfl,k4⟩;have:=k2.restrict (look id [] ann.live);rw[Ju heq]at this;exact this
  cases hjo:(look id none ann.eA).filter λj=>decide (zM (gI ops.toList [])<=j)with
  |none=>rw[hjo]at h;exact plain h
  |some j =>
  rw[hjo]at h;have htj:zM (gI ops.toList [])<=j:=by
   have:=(Option.filter_eq_some_iff.1 hjo).2;simpa using this
  cases hdr:xs.drop j with
  |nil=>simp only[Gl,hdr]at h;exact plain h
  |cons y r =>
  simp only[Gl,hdr]at h;simp only[aV,af,Prod.exists]at h;obtain⟨e1,J1,h1,h3⟩:=h;have hjlt:j<xs.length:=by
   rcases Nat.lt_or_ge j xs.length with h | h
   .exact h
   .rw[aA h]at hdr;cases hdr
  let R:=(List.range ops.size).map λi=>(i,(xs[i]?).getD default)
  obtain⟨is1,ys1,h4,h5,h6⟩:=JB hysT (A:=R.take j) (B:=R.drop j) (by simp[R]) (λp hp=>by
   obtain⟨m,hm',rfl⟩:=List.mem_iff_getElem.1 hp;simp[R];omega)
  have hmapA:(R.take j).map (·.2)=xs.take j:=by rw[List.map_take,hmap]
  have hmapB:(R.drop j).map (·.2)=y::r:=by rw[List.map_drop,hmap,hdr]
  obtain⟨e2,h7,heq⟩:=GY h6 (by rw[hmapA];exact h1);have hA:vJ (FU P ann n id ops) is1 ys1:=Iy h6 λp hp=>hat p (db hp)
  have hB:vJ (FU P ann n id ops) ((R.drop j).map (·.1)) ((R.drop j).map (·.2)):=HN λp hp=>hat p (da hp)
  obtain⟨g1,w1,B1,a1,k1,k2,k3,k4⟩:=Bq (k:=k) (cs:=cs) (tl:=(R.drop j).map (·.1)) hO _ _ _ _ _ _ _ _ hA h7 ha1;rw[hmapB]at hB;generalize hbs:(R.drop j).map (·.1)=bs at hB k1 h4;cases hB with
  |cons hop hF =>
   obtain⟨g2,w2,B2,a2,t2,m1,m2,m3,m4,m5⟩:=Ni (k:=k) (cs:=cs) hO hop hF h3 (k2.eqE heq);refine⟨g2,w2,B2,a2,t2,m1.imp λfr hs => .head stepR_region_draw (Steps.trans ?_ hs),m2,k3.trans' m3,m4,k4.trans m5⟩;rw[hlin,h4];exact k1
theorem QY(L n l i u off m w:Nat)(J:SK):(∃l' i' u' off' m' w',(cn L n (.sl l i u off m w) J).1=.sl l' i' u' off' m' w')\/(∃m' cs',(cn L n (.sl l i u off m w) J).1=.aG m' cs')\/(cn L n (.sl l i u off m w) J).1=.undef:=by
 cases n with
 |zero=>simp[cn]
 |succ n =>
  simp only[cn]
  repeat' split
  all_goals simp
theorem QF{g:G}{d:D}{c:Value}(h:bB g d c):bB g d.vN c:=by
 cases h<;>first | exact .yp | (simp only[D.vN];constructor<;>assumption) | (exact .Oz _ _ _ _ (by assumption) (by assumption))
theorem Bh{g:G}:∀{ds:List D} {cs:List Value},bA g ds cs->bA g (ds.map D.vN) cs
 |[],_,h=>by cases h;exact .nil
 |d::ds,_,h=>by
  cases h with
  |cons _ c _ cs h1 h2=>exact .cons _ _ _ _ (QF h1) (Bh h2)
theorem I8{CR:eJ}{g:G}{w:World}{J:SK}{l i u:Nat}{c:Value}(hi:Inv CR base g J w)(hr:bB g (.ref l i u 0) c):
  ∃g',Inv CR base g' (rD l i u J).2 w/\Ev g w g' w/\bB g' (rD l i u J).1 c:=by
 unfold rD;cases hc:cells? J l i u with
 |none=>exact⟨g,hi,Ev.refl g w,.undef c⟩
 |some cs =>
  unfold cells? at hc;split at hc
  case h_2=>cases hc
  rename_i v' cs' hb;split at hc
  case isFalse=>cases hc
  rename_i hv;subst hv;cases hc;cases hr with
  |ref _ _ _ _ b o L k1 k2 k3 k4 =>
   obtain⟨g1,i1,e1,hk⟩:=hi.kill k1 hb k2;rcases hk with⟨rfl,_⟩ | ⟨b1,o1,vs,sz,rfl,hrow,hrl⟩
   .exact absurd rfl k4
   .obtain⟨rfl,rfl⟩:=k3 b1 o1 sz rfl;obtain⟨g2,i2,e2,r2⟩:=zr (yk (CR:=CR) (base:=base) 0 deep) cs _ g1 w vs i1 (hrl.mono e1.le);exact⟨g2,i2,e1.trans e2,.bu _ _ _ vs (G.Er e2.le hrow) (Bh r2)⟩
theorem KA:∀{e:Env} {t:Nat},get e t ≠ .undef->∃p∈e,p.2=get e t
 |[],t,h=>absurd rfl h
 |(t',d)::e,t,h=>by
  have hg:get ((t',d)::e) t=if t'=t then d else get e t:=rfl
  rw[hg]at h ⊢;split at h
  .rename_i ht;rw[if_pos ht];exact⟨(t',d),by simp,rfl⟩
  .rename_i ht;rw[if_neg ht];obtain⟨p,hp,he⟩:=KA h;exact⟨p,by simp[hp],he⟩
theorem Xb{CR:eJ}{V:List Nat}{v:Nat}{e:Env}{J:SK}{g:G}{a:Act}(ha:At CR base V g0 w0 n b g w B e J a):
  ∃g',At CR base V g0 w0 n b g' w B (Ue v e) J a/\g.le g':=by
 unfold Ue;split
 case h_2=>exact⟨g,ha,g.le_refl⟩
 rename_i s cs hg;split
 case isFalse=>exact⟨g,ha,g.le_refl⟩
 rename_i hvr;obtain⟨hV,hp,hob⟩:=ha.fr.own v s cs hg;obtain⟨c,el,hb,hr,h5⟩:=hob.cT;have hle:g.le (g.iH (B v) c.toList):=⟨λl i L e=>⟨L,e,L.le_refl⟩,λb o x e=>by
  simp only[G.iH];rw[if_neg (λhB=>by rw[hB,hob.rz]at e;cases e)];exact e⟩
 have hrow:(g.iH (B v) c.toList).row (B v) 0 c.toList:=λj x hx=>by simp only[G.iH,if_pos];simpa using hx
 have hother:∀x,x≠B v->∀o,(g.iH (B v) c.toList).oc x o=g.oc x o:=λx hx o=>by simp[G.iH,hx]
 have hget:∀t,get ((v,D.bu cs)::e) t=if v=t then .bu cs else get e t:=λt=>rfl
 have hi:=ha.inv;refine⟨_,⟨⟨?_,?_,?_⟩,?_,?_,ha.low,ha.pos,ha.size,?_,uy ha.round hle⟩,hle⟩
 .intro t;rw[hget];by_cases ht:v=t
  .subst ht;rw[if_pos rfl,hp];exact bB.bu _ _ 0 c.toList hrow (hr.mono hle)
  .rw[if_neg ht];have h0:=(ha.fr.rel t).ev hle;cases hd:get e t<;>rw[hd]at h0<;>first | trivial | exact h0 | skip
   rename_i x s1 off;obtain⟨s2,cs2,b2,o2,e1,e2⟩:=h0;obtain⟨p,hpe,hpd⟩:=KA (e:=e) (t:=t) (by rw[hd];simp);have h1:=gX.1 hvr p hpe;rw[hpd,hd]at h1;have hx:x≠v:=by simpa using h1
   exact⟨s2,cs2,b2,o2,by rw[hget,if_neg (λh=>hx h.symm)];exact e1,e2⟩
 .intro t s1 cs1 h;rw[hget]at h;split at h
  .cases h
  .rename_i ht;obtain⟨h1,h2,h3⟩:=ha.fr.own t s1 cs1 h;obtain⟨c1,el1,hb1,hr1,h6⟩:=h3.cT;exact⟨h1,h2,h3.lo,h3.free,λo=>by rw[hother _ (λhB=>ht (ha.fr.inj _ _ _ _ _ _ hg h hB.symm))];exact h3.rz o,c1,el1,hb1,hr1.mono hle,h6⟩
 .intro t t' s1 s2 cs1 cs2 h h' hB;rw[hget]at h h';split at h
  .cases h
  .split at h'
   .cases h'
   .exact ha.fr.inj _ _ _ _ _ _ h h' hB
 .have he:=ha.ev;exact⟨G.le_trans he.le hle,he.os,he.tape,he.output,he.size,he.kept,he.PC,λx o y hy=>by
   by_cases hx:x=B v
   .subst hx;exact .inr (.inr hob.lo)
   .rw[hother x hx]at hy;exact he.Ht x o y hy⟩
 .refine⟨hi.ge,λl i L e=>let ⟨x,hx,hr⟩:=hi.vQ l i L e;⟨x,hx,hr.mono hle λ_ _=>rfl⟩,?_,?_,hi.inj,hi.lo,hi.N8,λx Q h=>let ⟨⟨y,hy⟩,r⟩:=hi.Jb x Q h;⟨⟨y,hle.oc _ _ _ hy⟩,r⟩⟩
  .intro x o y hy;by_cases hx:x=B v
   .subst hx;have hy':c.toList[o]?=some y:=by simpa[G.iH]using hy
    refine⟨?_,h5 y (ai hy')⟩;simp only[World.cell?,hb];simpa using hy'
   .rw[hother x hx]at hy;exact hi.oc x o y hy
  .intro l i L x e eb o;by_cases hx:x=B v
   .subst hx;exact absurd ⟨l,i,L,e,eb⟩ hob.free
   .rw[hother x hx];exact hi.sep l i L x e eb o
 .obtain⟨rs,hm⟩:=ha.marks;refine⟨rs,hm.eq,hm.nodup,λr hr1=>?_⟩;have h1:=hm.all r hr1;exact⟨h1.lo,h1.free,λo=>by rw[hother r (λhB=>by have h7:=h1.cT;rw[hB,hb]at h7;cases h7)];exact h1.rz o,h1.cT⟩
theorem H2{J:SK}{l i u:Nat}:eB J (rD l i u J).2:=by
 unfold rD;split
 .rename_i cs hc;exact(eB.set (b:=.dead) (λ_=>trivial)).trans (yJ 0 deep cs _).2
 .exact .refl _
theorem HR{J:SK}{l i u:Nat}{cs:List D}(h:cells? J l i u=some cs):dn J l i=some (.cells u cs):=by
 unfold cells? at h;split at h
 case h_2=>cases h
 rename_i v' cs' hb;split at h
 case isFalse=>cases h
 rename_i hv;subst hv;cases h;exact hb
theorem Pm{CR:eJ}{g:G}{w:World}{J:SK}{l i u l2 i2 u2:Nat}{c:Value}(hi:Inv CR base g J w)(hr:bB g (.ref l i u 0) c)(hb:dn J l i=some (.cells u [.ref l2 i2 u2 0])):
  ∃c2,bB g (.ref l2 i2 u2 0) c2/\∀(g1:G) (J1:SK) (d:D),Inv CR base g1 J1 w->g.le g1->dn J1 l i=some (.cells u [.ref l2 i2 u2 0])->bB g1 d c2 ->
  ∃g2,Inv CR base g2 (aR J1 l i (.cells u [d])) w/\Ev g1 w g2 w:=by
 cases hr with
 |ref _ _ _ _ b o L k1 k2 k3 k4 =>
 obtain⟨x,hx,hrel⟩:=hi.vQ l i L k1;rw[hb]at hx;cases hx;cases L with
 |dead=>exact hrel.elim
 |lp z=>exact hrel.elim
 |mp z=>exact k2.elim
 |it z=>exact k2.elim
 |ob z _=>exact k2.elim
 |oG v2 =>
  obtain⟨_,h⟩:=hrel;cases h
 |«at» cT bo v2 bsz =>
  obtain⟨rfl,ca,el,hheap,hcsz,hlen2,us,hru,hus⟩:=hrel;cases hru with
  |cons _ c2 _ us' h1 h2 =>
  cases h2;refine⟨c2,h1,λg1 J1 d hi1 hle hb1 hd=>?_⟩;obtain⟨L1,k5,k6⟩:=hle.loc l i _ k1;obtain⟨x,hx,hrel1⟩:=hi1.vQ l i L1 k5;rw[hb1]at hx;cases hx;simp only[Loc.le]at k6;rcases k6 with rfl | rfl | ⟨b',o',v',s',rfl,hv⟩
  .have hle2:g1.le (g1.cj l i (.at cT bo u bsz)):=G.jg λL0 e0=>by rw[k5]at e0;cases e0;exact Loc.le_refl _
   obtain⟨i2,e2⟩:=hi1.setCells (w':=w) (L:=.at cT bo u bsz) (v:=u) (ds:=[d]) k5 hb1 (Loc.le_refl _)
    ⟨rfl,ca,el,hheap,hcsz,hlen2,[c2],.cons _ _ _ _ (hd.mono hle2) .nil,hus⟩
    (λ_ _ _=>rfl) rfl rfl rfl (aH _) (λb' hb' => .inl hb')
   exact⟨_,i2,e2⟩
  .exact hrel1.elim
  .obtain⟨h,_⟩:=hrel1;omega
theorem TK{v:Nat}{e:Env}{J:SK}{g:G}{a:Act}(ha:At (ix P) base ann.cZ g0 w0 n b g w B e J a):
  ∃g',At (ix P) base ann.cZ g0 w0 n b g' w B (OQ v e J).1 (OQ v e J).2 a/\g.le g'/\eB J (OQ v e J).2:=by
 obtain⟨tmps,df⟩:=a;unfold OQ;split
 case h_2=>exact⟨g,ha,g.le_refl,.refl _⟩
 rename_i l i u hg;split
 case h_2=>exact⟨g,ha,g.le_refl,.refl _⟩
 rename_i l2 i2 u2 hc;split
 case isFalse=>exact⟨g,ha,g.le_refl,.refl _⟩
 rename_i hif;have hr0:bB g (.ref l i u 0) (tmps.getD v Go.undef):=by have:=ha.fr.strip v;rw[hg]at this;exact this
 obtain⟨c2,hc2,hset⟩:=Pm ha.inv hr0 (HR hc);obtain⟨g1,i1,e1,r1⟩:=I8 (CR:=ix P) ha.inv hc2;obtain⟨g2,i2',e2⟩:=hset g1 _ _ i1 e1.le (HR hif.1) r1;obtain⟨g3,i3,e3,r3⟩:=I8 (CR:=ix P) (l:=l) (i:=i) (u:=u) i2' (hr0.mono (G.le_trans e1.le e2.le));have hgo:eB J (rD l i u (aR (rD l2 i2 u2 J).2 l i (.cells u [(rD l2 i2 u2 J).1]))).2 :=
  (H2.trans (eB.set λ_=>by simp only[aI.low,D.mY,Bool.and_true];exact pW hif.2)).trans H2
 have hrt:ch g3 B e (rD l i u (aR (rD l2 i2 u2 J).2 l i (.cells u [(rD l2 i2 u2 J).1]))).1 (tmps.getD v Go.undef):=by
  generalize aR (rD l2 i2 u2 J).2 l i (.cells u [(rD l2 i2 u2 J).1])=τ at r3;unfold rD at r3 ⊢;split at r3<;>exact r3
 have he:=e1.trans (e2.trans e3);exact⟨g3,ha.go he i3 hgo ((ha.fr.ev he).RW hrt (by rw[hg];simp)) rfl rfl,he.le,hgo⟩
theorem TL{v:Nat}{e:Env}{J:SK}{g:G}{a:Act}(ha:At (ix P) base ann.cZ g0 w0 n b g w B e J a):
  ∃g',At (ix P) base ann.cZ g0 w0 n b g' w B (Hr v e J).1 (Hr v e J).2 a/\g.le g'/\eB J (Hr v e J).2:=by
 obtain⟨tmps,df⟩:=a;unfold Hr;split
 .rename_i hg;have hr0:bB g .bN (tmps.getD v Go.undef):=by have:=ha.fr.strip v;rw[hg]at this;exact this
  have hrt:ch g B e (.aG 0 []) (tmps.getD v Go.undef):=by
   generalize tmps.getD v Go.undef=c at hr0;cases hr0;exact bB.yp
  exact⟨g,ha.go (Ev.refl g w) ha.inv (.refl _) (ha.fr.RW hrt (by rw[hg];simp)) rfl rfl,g.le_refl,.refl _⟩
 .rename_i l i u hg;have hr0:bB g (.ref l i u 0) (tmps.getD v Go.undef):=by have:=ha.fr.strip v;rw[hg]at this;exact this
  obtain⟨g1,i1,e1,r1⟩:=I8 (CR:=ix P) ha.inv hr0;have hgo:eB J (rD l i u J).2:=by
   unfold rD;split
   .rename_i cs hc;exact(eB.set (b:=.dead) (λ_=>trivial)).trans (yJ 0 deep cs _).2
   .exact .refl _
  have hrt:ch g1 B e (rD l i u J).1 (tmps.getD v Go.undef):=by
   unfold rD at r1 ⊢;split at r1<;>exact r1
  exact⟨g1,ha.go e1 i1 hgo ((ha.fr.ev e1).RW hrt (by rw[hg];simp)) rfl rfl,e1.le,hgo⟩
 .rename_i s0 cs0 hg;obtain⟨_,_,hob⟩:=ha.fr.own v s0 cs0 hg;obtain⟨c,el,hb,hr,h5⟩:=hob.cT;exact⟨g,ha.go (Ev.refl g w) ha.inv (.refl _) (ha.fr.My hg ⟨hob.lo,hob.free,hob.rz,c,el,hb,Bh hr,h5⟩ (λ_ _ _=>rfl)) rfl rfl,g.le_refl,.refl _⟩
 .split
  .exact TK ha
  .split
   .obtain⟨g',h1,h2⟩:=Xb (v:=v-1000000) ha;exact⟨g',h1,h2,.refl _⟩
   .exact⟨g,ha,g.le_refl,.refl _⟩
 .exact⟨g,ha,g.le_refl,.refl _⟩
theorem zt:∀(vs:List Nat) {e:Env} {J:SK} {g:G} {a:Act},At (ix P) base ann.cZ g0 w0 n b g w B e J a ->
  ∃g',At (ix P) base ann.cZ g0 w0 n b g' w B (uo vs e J).1 (uo vs e J).2 a/\g.le g'/\eB J (uo vs e J).2
 |[],e,J,g,a,ha=>⟨g,ha,g.le_refl,.refl _⟩
 |v::vs,e,J,g,a,ha=>by
  simp only[uo];split
  .rename_i l i0 u off m w1 hg;obtain⟨tmps,df⟩:=a;have hr0:bB g (.sl l i0 u off m w1) (tmps.getD v Go.undef):=by have:=ha.fr.strip v;rw[hg]at this;exact this
   obtain⟨g1,i1,e1,r1⟩:=yk (CR:=ix P) (base:=base) 0 deep _ J g w _ ha.inv hr0;have hgo:=(yK 0 deep (.sl l i0 u off m w1) J).2;have hrt:ch g1 B e (cn 0 deep (.sl l i0 u off m w1) J).1 (tmps.getD v Go.undef):=by
    rcases QY 0 deep l i0 u off m w1 J with⟨l',i',u',off',m',w',hd1⟩ | ⟨m',cs',hd1⟩ | hd1<;>rw[hd1]at r1 ⊢ <;> exact r1
   have ha1:At (ix P) base ann.cZ g0 w0 n b g1 w B ((v,(cn 0 deep (.sl l i0 u off m w1) J).1)::e) (cn 0 deep (.sl l i0 u off m w1) J).2 ⟨tmps,df⟩ :=
    ha.go e1 i1 hgo ((ha.fr.ev e1).RW hrt (by rw[hg];simp)) rfl rfl
   obtain⟨g2,a2,l2,o2⟩:=zt vs ha1;exact⟨g2,a2,G.le_trans e1.le l2,hgo.trans o2⟩
  .rename_i s0 cs0 hg;obtain⟨tmps,df⟩:=a;obtain⟨_,_,hob⟩:=ha.fr.own v s0 cs0 hg;obtain⟨c,el,hb,hr,h5⟩:=hob.cT;obtain⟨g1,i1,e1,r1⟩:=zr (yk (CR:=ix P) (base:=base) 0 deep) cs0 J g w _ ha.inv hr;have hgo:=(yJ 0 deep cs0 J).2;have hob1:=hob.ev e1;have ha1:At (ix P) base ann.cZ g0 w0 n b g1 w B ((v,.own s0 (cn.frzL (cn 0 deep) cs0 J).1)::e) (cn.frzL (cn 0 deep) cs0 J).2 ⟨tmps,df⟩ :=
    ha.go e1 i1 hgo ((ha.fr.ev e1).My hg ⟨hob1.lo,hob1.free,hob1.rz,c,el,hb,r1,h5⟩ (λ_ _ _=>rfl)) rfl rfl
   obtain⟨g2,a2,l2,o2⟩:=zt vs ha1;exact⟨g2,a2,G.le_trans e1.le l2,hgo.trans o2⟩
  .rename_i cs0 hg;obtain⟨tmps,df⟩:=a;have hr0:bB g (.agg cs0) (tmps.getD v Go.undef):=by have:=ha.fr.strip v;rw[hg]at this;exact this
   have hrt:ch g B e (.agg (cs0.map D.vN)) (tmps.getD v Go.undef):=by
    generalize tmps.getD v Go.undef=c at hr0;cases hr0 with
    |agg _ cs h1 h2=>exact bB.agg _ cs (Bh h1) h2
   have ha1:At (ix P) base ann.cZ g0 w0 n b g w B ((v,.agg (cs0.map D.vN))::e) J ⟨tmps,df⟩ :=
    ha.go (Ev.refl g w) ha.inv (.refl _) (ha.fr.RW hrt (by rw[hg];simp)) rfl rfl
   exact zt vs ha1
  .split
   .obtain⟨g1,a1,l1,o1⟩:=TL (v:=v-1000000) ha;obtain⟨g2,a2,l2,o2⟩:=zt vs a1;exact⟨g2,a2,G.le_trans l1 l2,o1.trans o2⟩
   .exact zt vs ha
  .exact zt vs ha
theorem Ea{O:bI}{e:Env}{J:SK}:aV O AH e J=none:=by
 simp[AH,aV,kK,vn,bG,ba,Hu]
theorem Pn(hm:P.follows .mixedOrders=true)(hO:yz P (ix P) O){id:Nat}{ops:Array Oper}{draw:Bool}{cT:Nat}{c:bX}(hc:bQ P ann n cT (.region id ops draw)=some c)
  (h:aV O c e J=some (x,e',J')) (ha:At (ix P) base ann.cZ g0 w0 n b g w B e J a):Ends P ann n base g0 w0 b cs g w a (.code (.region id ops draw)::k) k J x e' J':=by
 simp only[bQ]at hc;split at hc
 case h_2=>cases hc;rw[Ea]at h;cases h
 rename_i c0 hc0;cases hc;cases hv:look id [] ann.fz with
 |nil=>rw[hv]at h;exact GQ hm hO hc0 h ha
 |cons v vs =>
  rw[hv]at h;simp only[xR,aV,Option.bind_some]at h;obtain⟨g1,a1,l1,o1⟩:=zt (v::vs) ha;obtain⟨g2,w2,B2,a2,t2,m1,m2,m3,m4,m5⟩:=GQ (k:=k) (cs:=cs) hm hO hc0 h a1;exact⟨g2,w2,B2,a2,t2,m1,m2,G.le_trans l1 m3,m4,o1.trans m5⟩
theorem QT(ha:At (ix P) base ann.cZ g0 w0 n b g w B e J a){ps:Array Tmp}{zh body:Code}{live:List Nat}{C1 C2:bX}{cT:Nat}
  (h1:bQ P ann n cT zh=some C1) (h2:bQ P ann n cT body=some C2) (hps:∀t∈ps.toList,t<n) {l i:Nat} {J1:SK}
  (hn:fJ J (.loop {state:=0,wQ:=none,env:=wX live e,params:=ps.toList,zh:=C1,body:=C2 })=some (l,i,J1)):
  ∃lb mk w1 g1,(Instr.enterLoop b.fn a.tmps ps zh body b.roundOf).run P w=.ok (lb,mk) w1/\Inv (ix P) base g1 J1 w1/\Ev g w g1 w1/\g1.loc l i=some (.lp lb) /\
   ∃rs,Marks w0.heap.size g1 w1 (mk++a.defers) b.defers rs:=by
 obtain⟨rs,hmarks⟩:=ha.marks;have hrel:∀(r:Loop) (g':G),g.le g'->r.state=.ready->r.pending=none->r.tmps=a.tmps->r.params=ps->r.assign=zh->r.body=body ->
   y8 (ix P) g' {state:=0,wQ:=none,env:=wX live e,params:=ps.toList,zh:=C1,body:=C2 } r:=by
  intro r g' hle k1 k2 k3 k4 k5 k6;refine⟨k1,by rw[k2];rfl,by rw[k3];exact(ha.fr.wX live).mono hle,by rw[k4],by rw[k3,ha.size];exact hps,?_⟩;rw[k3,k5,k6,ha.size];exact⟨ann,cT,by simp[bQ,h1,h2,bC]⟩
 rcases ha.round with hr | ⟨r,l',i',hr,hl'⟩
 .rw[hr,run_enterLoop_outer];have i1:=ha.inv.alloc (.deferred (some []));have e1:=Ev.alloc g w (.deferred (some []));have:=i1.NH hn {state:=.ready,pending:=none,fn:=b.fn,tmps:=a.tmps,params:=ps,assign:=zh,body,defers:=w.heap.size } (hrel _ g g.le_refl rfl rfl rfl rfl rfl rfl);obtain⟨i2,e2⟩:=this;have hsz:(w.alloc (.deferred (some []))).heap.size=w.heap.size+1:=by simp
  rw[hsz]at i2 e2;have hm0:yy w0.heap.size g (w.alloc (.deferred (some []))) w.heap.size:=by
   refine⟨ha.ev.size,λhb=>Nat.lt_irrefl _ (ha.inv.Q2 hb),λo=>?_,sN⟩;cases hh:g.oc w.heap.size o with
   |none=>rfl
   |some v=>exact absurd (ha.inv.ir hh) (Nat.lt_irrefl _)
  refine⟨_,_,_,_,rfl,i2,e1.trans e2,G.aE,w.heap.size::rs,?_,?_,?_⟩
  .simp[hmarks.eq,mark]
  .rw[fg,List.nodup_cons];exact⟨λhin=>Nat.lt_irrefl _ (hmarks.all _ hin).lt,hmarks.nodup⟩
  .intro r hr;rcases bw.1 hr with rfl | hr
   .exact hm0.ev e2
   .exact((hmarks.all r hr).ev e1).ev e2
 .obtain⟨blkr,hbr,hrelr⟩:=ha.inv.vQ l' i' _ hl';cases blkr with
  |cells=>exact hrelr.elim
  |dead=>exact hrelr.elim
  |loop lpr =>
   obtain⟨r0,hr0,_⟩:=hrelr;rw[hr,run_enterLoop_inner hr0];obtain⟨i2,e2⟩:=ha.inv.NH hn {state:=.ready,pending:=none,fn:=b.fn,tmps:=a.tmps,params:=ps,assign:=zh,body,defers:=r0.defers } (hrel _ g g.le_refl rfl rfl rfl rfl rfl rfl);exact⟨_,_,_,_,rfl,i2,e2,G.aE,rs,by simpa using hmarks.ev e2⟩
theorem RV(hO:yz P (ix P) O){f:Operand}{ps:Array Tmp}{zh body:Code}{cT:Nat}{c:bX}(hc:bQ P ann n cT (.rangeFunc f ps zh body)=some c)
  (h:aV O c e J=some (x,e',J')) (ha:At (ix P) base ann.cZ g0 w0 n b g w B e J a):Ends P ann n base g0 w0 b cs g w a (.code (.rangeFunc f ps zh body)::k) k J x e' J':=by
 simp only[bQ]at hc;split at hc
 case h_2=>cases hc
 rename_i F C1 C2 hf h1 h2;simp only[aC]at hc;obtain⟨hps,hc⟩:=hc;cases hc;have hps':∀t∈ps.toList,t<n:=λt ht=>by
  have:=gX.1 hps t ht;simp only[ae,ao]at this;exact this.1
 simp only[aV]at h;split at h
 case h_2=>cases h
 rename_i l i J1 hn;split at h
 case h_2=>cases h
 rename_i dv J2 hcall;split at h
 case h_2=>cases h
 rename_i lp hlp;split at h
 .cases h
 rename_i hst;cases h;obtain⟨lb,mk,w1,g1,hent,i1,e1,hloc1,rs,hmarks1⟩:=QT ha h1 h2 hps' hn;unfold EK at hcall;split at hcall
 case h_2=>cases hcall
 rename_i fi first cap hfe
 obtain⟨tmps,df⟩:=a;have hfv:=ha.fr.ba (df:=df) hf;rw[hfe]at hfv;obtain⟨⟨Fn,cd,hfn1,hfn2,hfn3⟩,hcallok⟩:=hO _ _ (Ex hcall);generalize hev:(Act.mk tmps df).eval f=fv at hfv;cases hfv with
 |fn _ _ _ first' cap' r1 r2 =>
  have hgo1:=eB.new hn;have hargs:bA g1 (first++[.kJ l i]++cap) (first' ++ #[Value.func (.yield lb) #[] #[]]++cap').toList:=by
   have hy:bA g1 [D.kJ l i] [.func (.yield lb) #[] #[]]:=.cons _ _ _ _ (.kJ l i lb hloc1) .nil;simpa using((r1.mono e1.le).append hy).append (r2.mono e1.le)
  obtain⟨hgo2,hcalls⟩:=hcallok base g1 w1 _ i1 (hgo1.low ha.low) (by rw[hgo1.len];exact ha.pos) hargs;obtain⟨en,w2,fr,⟨v,g2,rfl,e2,i2,hr⟩,hcomes,hfr,hleave⟩:=hcalls (b.atR {tmps:=tmps,defers:=mk++df } (.inRangeFunc lb::k)::cs);have hres:(resolve (Act.mk tmps df).eval (rangeCall f lb) 0).run P w1=.ok {target:=.fn (.func fi) cap',args:=first' ++ #[Value.func (.yield lb) #[] #[]] } w1:=by
   rw[jh hev];simp[Act.eval]
  have hinv:(invoke (.fn (.func fi) cap') (first' ++ #[Value.func (.yield lb) #[] #[]])).run P w1=.ok (.enter fi (first' ++ #[Value.func (.yield lb) #[] #[]]++cap')) w1:=by
   simp only[invoke,v8 hfn1 hfn2 hfn3]
  have hstep1:=stepR_rangeFunc (P:=P) (b:=b) (a:=⟨tmps,df⟩) (k:=k) (cs:=cs) (w:=w) hent hres hinv;obtain⟨L2,hL2,hle2⟩:=e2.le.loc l i _ hloc1;rw[Loc.NB hle2]at hL2;obtain⟨bb,hbb,hrelb⟩:=i2.vQ l i _ hL2;rw[hlp]at hbb;cases hbb;obtain⟨r,hr1,hr2⟩:=hrelb;have hbusy:r.state ≠ .busy:=by
   rw[hr2.state];intro hs;match hstv:lp.state with
   |0=>rw[hstv]at hs;cases hs
   |1=>exact hst hstv
   |2=>rw[hstv]at hs;cases hs
   |m+3=>rw[hstv]at hs;cases hs
  have hend:=run_endLoop (P:=P) hr1 hbusy;have hrel3:y8 (ix P) g2 {lp with state:=3 } {r with state:=.exhausted }:=⟨rfl,hr2.wQ,hr2.env,hr2.params,hr2.small,hr2.both⟩;obtain⟨i3,e3⟩:=i2.JC hL2 hlp hrel3;have hgo3:eB J2 (aR J2 l i (.loop {lp with state:=3 })):=⟨dD,λh=>h.set λhl=>(h l i _ hlp hl:aI.low (l+1) (.loop lp))⟩;have hgo:=(hgo1.trans hgo2).trans hgo3;have hev3:=(e1.trans e2).trans e3;refine⟨g2,w2.putObj lb (.loop {r with state:=.exhausted }),B,{tmps:=tmps,defers:=mk++df },(r.pending.map Item.code).toList++k,vK.of ?_ (Steps.head hstep1 (Steps.trans hcomes (Steps.head (step_leave_returned hleave) ?_))),?_,hev3.le,?_,hgo⟩
  .intro d hd;have hp:=hr2.wQ;cases hpe:lp.wQ with
   |none=>rw[hpe]at hd;cases hd
   |some y=>rw[hpe]at hd hp;simp only[fj]at hd;subst hd;simp[AT]at hp
  .rw[finish_atR_inRangeFunc];exact .one (stepR_endRangeFunc hend)
  .exact⟨(ha.fr.ev hev3).restrict _,ha.ev.trans hev3,i3,hgo.low ha.low,by rw[hgo.len];exact ha.pos,ha.size,⟨rs,(hmarks1.ev e2).ev e3⟩,uy ha.round hev3.le⟩
  .have hp:=hr2.wQ;cases hpe:lp.wQ with
   |none=>rw[hpe]at hp;simp only[AT,ad]at hp;rw[<- hp];rfl
   |some y =>
    rw[hpe]at hp;cases y with
    |normal=>simp[AT]at hp
    |exit id=>simp only[AT,ad]at hp;rw[<- hp];exact⟨k,rfl,rfl⟩
    |ret=>simp only[AT,ad]at hp;rw[<- hp];exact⟨k,rfl⟩
    |eA d=>simp[AT]at hp
theorem Gm{ann:tW}{x:Code}{c:bX}{f:bD}{xs:List bD}(h:OJ P ann n x=some (c,f,xs)):∃id ops m o fo args ts op live,x=.region id ops false/\ops.toList=[m,o]/\o.op=.defer {callee:=.value fo,args,argTypes:=ts }/\o.dst=none/\o.guard=none /\
  bC fo=some f/\vF args.toList=some xs/\Pg P ann n id ops false 0 m=some op/\op.k ≠ .Lp/\c=.sy live [op]:=by
 unfold OJ at h;split at h
 case h_2=>cases h
 rename_i id ops;split at h
 case h_2=>cases h
 rename_i m o ho;split at h
 case h_2=>cases h
 rename_i c0 t h1 h2 h3 h4;obtain⟨callee,args,ts⟩:=c0;dsimp only at h;split at h
 case h_2=>cases h
 rename_i fo;split at h
 case h_2=>cases h
 rename_i h5 h6 h7;split at h
 .cases h
 rename_i h8;cases h;exact⟨id,ops,m,o,fo,args,ts,_,_,rfl,ho,h1,h2,h3,h6,h7,h5,h8,rfl⟩
theorem sM(ann:tW)(x:Code)(x' y':bX):(∃f xs,I4 x=some (f,xs)/\Po P ann n x x' y'=.OI f xs y') \/
  (I4 x=none/\∃p0 bid l0 p' live it nx ok b c,x=.seq p0 (.block bid l0)/\x'=.seq p' (.gv live it nx ok b c .FB)/\Po P ann n x x' y'=.seq p' (.gv live it nx ok b c y')) \/
  (I4 x=none/\∃z,(z=y'\/z=.VC y')/\(Uu ann x=false->z=y')/\Po P ann n x x' y'=.seq x' z) \/
  (I4 x=none/\∃live op f xs,OJ P ann n x=some (.sy live [op],f,xs)/\Po P ann n x x' y'=.seq (.sy live [op]) (.OI f xs y')):=by
 unfold Po;split
 .rename_i f xs h;exact .inl ⟨f,xs,h,rfl⟩
 .rename_i h;split
  .rename_i c f xs hM;obtain⟨_,_,_,_,_,_,_,op,live,_,_,_,_,_,_,_,_,_,rfl⟩:=Gm hM;exact .inr (.inr (.inr ⟨h,live,op,f,xs,hM,rfl⟩))
  split
  .exact .inr (.inl ⟨h,_,_,_,_,_,_,_,_,_,_,rfl,rfl,rfl⟩)
  .refine .inr (.inr (.inl ⟨h,_,?_,λhs=>by rw[hs];rfl,rfl⟩));split
   .exact .inr rfl
   .exact .inl rfl
theorem wB(ann:tW)(n id:Nat)(x:Code)(x':bX):(∃it nx ok live sg A c,Mi ann n x=some (it,nx,ok)/\x'=.loop live sg (.seq A c)/\TC ann n id x x'=.gv live (.t it) nx ok id c .FB)\/TC ann n id x x'=.cT id x':=by
 unfold TC;split
 .rename_i it nx ok live sg A c h;exact .inl ⟨it,nx,ok,live,sg,A,c,h,rfl,rfl⟩
 .exact .inr rfl
theorem GF{x:Code}{it nx ok:Nat}(h:Mi ann n x=some (it,nx,ok)):∃rid ops p,x=.loop (.seq (.region rid ops false) p)/\∃o0 o1,ops.toList=[o0,o1] /\
  o0.op=.next (.tmp it) false/\o0.dst=some nx/\o0.guard=none/\o1.op=.extract (.tmp nx) 0/\o1.dst=some ok/\o1.guard=none/\nx<n/\ok<n/\nx≠ok/\nx ∉ ann.cZ/\ok ∉ ann.cZ:=by
 unfold Mi at h;split at h
 case h_2=>cases h
 rename_i rid ops p;split at h
 case h_2=>cases h
 rename_i o0 o1 hl;split at h
 case h_2=>cases h
 rename_i h1 h2 h3 h4 h5 h6;split at h
 case isFalse=>cases h
 rename_i hc;cases h;obtain⟨rfl,c1,c2,c3,c4,c5⟩:=hc;exact⟨rid,ops,p,rfl,o0,o1,hl,h1,h2,h3,h4,h5,h6,c1,c2,c3,c4,c5⟩
theorem O8{rid:Nat}{ops:Array Oper}{p:Code}{cT:Nat}{live:List Nat}{sg:Bool}{A c:bX}{q:Nat×Nat×Nat}(hm:Mi ann n (.loop (.seq (.region rid ops false) p))=some q)
  (h:bQ P ann n cT (.loop (.seq (.region rid ops false) p))=some (.loop live sg (.seq A c))):bQ P ann n cT p=some c:=by
 obtain⟨it,nx,ok⟩:=q;obtain⟨rid',ops',p',heq,o0,o1,hl,_,_,_,g5,_⟩:=GF hm;cases heq;simp only[bQ,ab]at h;obtain⟨y,h1,h2⟩:=h;cases h2;split at h1
 case h_2=>cases h1
 rename_i x' y' k1 k2;have hd:I4 (.region rid ops false)=none:=by simp[I4,hl]
 have hd2:OJ P ann n (.region rid ops false)=none:=by simp[OJ,hl,g5]
 rcases sM ann (.region rid ops false) x' y' with⟨f,xs,h3,_⟩ | ⟨_,p0,bid,l0,_,_,_,_,_,_,_,h3,_⟩ | ⟨_,z,_,hz,h3⟩ | ⟨_,_,_,_,_,h3,_⟩
 .rw[hd]at h3;cases h3
 .cases h3
 .have hs2:ops.size=2:=by have:=congrArg List.length hl;simpa using this
  obtain rfl:=hz (by simp[Uu,hs2]);rw[h3]at h1;cases h1;exact k2
 .rw[hd2]at h3;cases h3
theorem Rr{x1:Exit}(hO:yz P (ix P) O){x:Code}{cT bid it nx ok:Nat}{live:List Nat}{sg:Bool}{A c rest:bX}{qs:Option Code}(hm:Mi ann n x=some (it,nx,ok))(hx:bQ P ann n bid x=some (.loop live sg (.seq A c)))(hr:Qx P ann n cT rest qs)
  (h:aV O (.gv live (.t it) nx ok bid c rest) e J=some (x1,e',J')) (ha:At (ix P) base ann.cZ g0 w0 n b g w B e J a):
  Ends P ann n base g0 w0 b cs g w a (.code (.block bid x)::(qs.toList.map Item.code++k)) k J x1 e' J':=by
 obtain⟨rid,ops,p,rfl,_⟩:=GF hm;have hc:=O8 hm hx;simp only[aV]at h;obtain⟨g1,w1,B1,a1,t1,k1,k2,k3,k4,k5⟩:=hO _ _ (HV h) ann cT rid ops p n it qs rfl hm hc hr base g0 w0 b a k cs g w B ha;exact⟨g1,w1,B1,a1,t1,k1.imp λ_ hs => .head stepR_block (.head stepR_loop hs),k2,k3,k4,k5⟩
theorem TG{g g':G}{n:Nat}(h:g.le g')(hn:∀l i L,g.loc l i=some L->l<n):g.le (g'.cut n) :=
 ⟨λl i L e=>by rw[G.rZ (hn l i L e)];exact h.loc l i L e,h.oc⟩
theorem vK.map'{S:Frame->Prop}{g g':G}{b:Frame}{a:Act}{todo:List Item}{x:Exit}(hg:∀d v,d.clean=true->bB g d v->bB g' d v)(h:vK S g b a todo x):vK S g' b a todo x:=by
 cases x with
 |eA d=>obtain⟨h1,v,h2,h3⟩:=h;exact⟨h1,v,hg d v h1 h2,h3⟩
 |_=>exact h
theorem kW.acL{fb:Nat}{V:List Nat}{g:G}{w:World}{B:Nat->Nat}{e0:Env}{tmps:Array Value}{p:Nat×D}{n:Nat}(h:kW fb V g w B e0 tmps p)(hl:p.2.low n=true):kW fb V (g.cut n) w B e0 tmps p:=by
 obtain⟨t,d⟩:=p;unfold kW at h ⊢;dsimp only at h ⊢ hl;split
 .rename_i s cs;obtain⟨h1,h2,h3,h4⟩:=h;obtain⟨c,el,k1,k2,k3⟩:=h4.cT;exact⟨h1,h2,h3,h4.lo,λhh=>h4.free (G.Ft hh),h4.rz,c,el,k1,k2.cut hl,k3⟩
 .rename_i hd;cases d with
  |own s cs=>exact absurd rfl (hd s cs)
  |_=>exact bB.cut h hl
theorem X3{code:Code}{c:bX}{x:Exit}(h:aV O (.VC c) e J=some (x,e',J'))
  (hin:∀{e1:Env} {J1:SK},aV O c e ([]::J)=some (x,e1,J1)->At (ix P) base ann.cZ g0 w0 n b g w B e ([]::J) a->Ends P ann n base g0 w0 b cs g w a (.code code::k) k ([]::J) x e1 J1)
  (ha:At (ix P) base ann.cZ g0 w0 n b g w B e J a):Ends P ann n base g0 w0 b cs g w a (.code code::k) k J x e' J':=by
 simp only[aV,ab,Prod.exists,aj]at h;obtain⟨x1,e1,J1,hac,rfl,he2,hs2⟩:=h;have ha1:At (ix P) base ann.cZ g0 w0 n b g w B e ([]::J) a :=
  {ha with inv:=ha.inv.push,low:=ha.low.push ha.inv,pos:=by simp }
 obtain⟨g1,w1,B1,a1,todo,k1,k2,k3,k4,k5⟩:=hin hac ha1;have hents:=k2.fr.cK (keys e1);obtain⟨g2,i2,ev2,hents2⟩:=I7 (CR:=ix P) (base:=base) (J.length-1) _ J1 g1 k2.inv hents;obtain⟨hlow,hgo⟩:=Ee (J.length-1) (restrict (keys e1) e1) J1;cases hfz:pw (J.length-1) (restrict (keys e1) e1) J1 with
 |mk e3 J3 =>
 rw[hfz]at he2 hs2 i2 hents2 hlow hgo;dsimp only at he2 hs2 i2 hents2 hlow hgo;subst he2;have hl3:pV J3:=hgo.low k2.low;have hlen3:J3.length=J.length+1:=by
  have h1:=hgo.len;have h2:=k5.len;simp at h1 h2;omega
 cases J3 with
 |nil=>simp at hlen3
 |cons s J2 =>
 simp only[List.tail_cons]at hs2;subst hs2;have hlen2:J2.length=J.length:=by simpa using hlen3
 have hpos:=ha.pos;rw[show J.length-1+1=J2.length from by omega]at hlow;have hlvl:∀l i L,g.loc l i=some L->l<J2.length:=λl i L h=>by rw[hlen2];exact ha.inv.lvl h
 have hlvl0:∀l i L,g0.loc l i=some L->l<J2.length:=λl i L h=>by
  obtain⟨L',h',_⟩:=ha.ev.le.loc l i L h;exact hlvl l i L' h'
 obtain⟨i3,l3⟩:=i2.pop hl3;obtain⟨rs,hmk⟩:=k2.marks;have hmk2:=hmk.ev ev2;have hle:g.le (g2.cut J2.length):=TG (k3.trans' ev2.le) hlvl;refine⟨g2.cut J2.length,w1,B1,a1,todo,k1.map' λd v hcl hv=>(hv.mono ev2.le).cut (pW hcl),⟨kW.fr k2.fr λp hp=>(hents2 p hp).acL (hlow p hp),(k2.ev.trans ev2).cut hlvl0,i3,l3,by simpa[hlen2]using hpos,k2.size,⟨rs,hmk2.eq,hmk2.nodup,λr hr=>?_⟩,uy ha.round hle⟩,hle,k4,⟨hlen2,λ_=>l3⟩⟩;have:=hmk2.all r hr;exact⟨this.lo,λhh=>this.free (G.Ft hh),this.rz,this.cT⟩
theorem sZ(hm:P.follows .mixedOrders=true)(hO:yz P (ix P) O)(code:Code):∀{cT:Nat} {c:bX} {e e':Env} {J J':SK} {x:Exit} {g:G} {w:World} {B:Nat->Nat} {a:Act} {k:List Item},
  bQ P ann n cT code=some c->aV O c e J=some (x,e',J')->At (ix P) base ann.cZ g0 w0 n b g w B e J a->Ends P ann n base g0 w0 b cs g w a (.code code::k) k J x e' J':=by
 induction hsz:SizeOf.sizeOf code using Nat.strongRecOn generalizing code with
 |_ N ih =>
 intro cT c e e' J J' x g w B a k hc h ha;have seq2:∀{p q:Code} {x' y':bX},(∀{e e':Env} {J J':SK} {x:Exit} {g:G} {w:World} {B:Nat->Nat} {a:Act} {k:List Item},aV O x' e J=some (x,e',J')->At (ix P) base ann.cZ g0 w0 n b g w B e J a->Ends P ann n base g0 w0 b cs g w a (.code p::k) k J x e' J') ->
   (∀{e e':Env} {J J':SK} {x:Exit} {g:G} {w:World} {B:Nat->Nat} {a:Act},aV O y' e J=some (x,e',J')->At (ix P) base ann.cZ g0 w0 n b g w B e J a->Ends P ann n base g0 w0 b cs g w a (.code q::k) k J x e' J') ->
   aV O (.seq x' y') e J=some (x,e',J')->Ends P ann n base g0 w0 b cs g w a (.code (.seq p q)::k) k J x e' J':=by
  intro p q x' y' ih1 ih2 h;simp only[aV,af,Prod.exists]at h;obtain⟨x1,e1,J1,h3,h4⟩:=h;obtain⟨g1,w1,B1,a1,t1,k1,k2,k3,k4,k5⟩:=ih1 (k:=.code q::k) h3 ha;cases x1 with
  |normal =>
   obtain rfl:=k4;obtain⟨g2,w2,B2,a2,t2,m1,m2,m3,m4,m5⟩:=ih2 h4 k2;exact⟨g2,w2,B2,a2,t2,m1.imp λ_ hs => .head stepR_seq (Steps.trans k1 hs),m2,k3.trans' m3,m4,k5.trans m5⟩
  |exit id =>
   simp only[ad,aj]at h4;obtain⟨rfl,rfl,rfl⟩:=h4;exact⟨g1,w1,B1,a1,t1,k1.imp λ_ hs => .head stepR_seq hs,k2,k3,k4.skip (λ_=>by simp) (by simp),k5⟩
  |ret =>
   simp only[ad,aj]at h4;obtain⟨rfl,rfl,rfl⟩:=h4;exact⟨g1,w1,B1,a1,t1,k1.imp λ_ hs => .head stepR_seq hs,k2,k3,k4.skip (λ_=>by simp) (by simp),k5⟩
  |eA d =>
   simp only[ad,aj]at h4;obtain⟨rfl,rfl,rfl⟩:=h4;exact⟨g1,w1,B1,a1,t1,k1.imp λ_ hs => .head stepR_seq hs,k2,k3,k4.skip (λ_=>by simp) (by simp),k5⟩
 cases code with
 |skip =>
  simp only[bQ,ad]at hc;subst hc;simp only[aV,ad,aj]at h;obtain⟨rfl,rfl,rfl⟩:=h;exact⟨g,w,B,a,k,.one stepR_skip,ha,g.le_refl,rfl,.refl _⟩
 |region id ops draw=>exact Pn hm hO hc h ha
 |seq p q =>
  simp only[bQ]at hc;split at hc
  case h_2=>cases hc
  rename_i p' q' h1 h2;cases hc;rcases sM ann p p' q' with⟨f,xs,_,h3⟩ | ⟨_,p0,bid,l0,p1,live,it,nx,ok,bb,c0,rfl,rfl,h3⟩ | ⟨_,z,hz,_,h3⟩ | ⟨_,live,op,f,xs,_,h3⟩
  .rw[h3]at h;simp[aV]at h
  .rw[h3]at h;simp only[bQ]at h1;split at h1
   case h_2=>cases h1
   rename_i p2 q2 g1 g2;simp only[ab,ad]at g2 h1;obtain⟨l1,g3,rfl⟩:=g2;rcases wB ann n bid l0 l1 with⟨it',nx',ok',live',sg,A,c1,g4,rfl,g5⟩ | g5
   .rw[g5]at h1;rcases sM ann p0 p2 (.gv live' (.t it') nx' ok' bid c1 .FB)with⟨f,xs,_,g6⟩ | ⟨_,_,_,_,_,_,_,_,_,_,_,_,_,g6⟩ | ⟨_,z,rfl | rfl,_,g6⟩ | ⟨_,_,_,_,_,_,g6⟩
    rotate_left 4
    .rw[g6]at h1;cases h1
    .rw[g6]at h1;cases h1
    .rw[g6]at h1;cases h1
    rotate_left 1
    .rw[g6]at h1;cases h1
    .rw[g6]at h1;cases h1;simp only[aV,af,Prod.exists]at h;obtain⟨x1,e1,J1,h4,h5⟩:=h;obtain⟨f1,w1,B1,a1,t1,k1,k2,k3,k4,k5⟩:=ih _ (by simp at hsz ⊢;omega) p0 rfl (k:=.code (.block bid l0)::.code q::k) g1 h4 ha;cases x1 with
     |normal =>
      obtain rfl:=k4;obtain⟨f2,w2,B2,a2,t2,m1,m2,m3,m4,m5⟩:=Rr (cT:=cT) (qs:=some q) (k:=k) (cs:=cs) hO g4 g3 h2 h5 k2;exact⟨f2,w2,B2,a2,t2,m1.imp λ_ hs => .head stepR_seq (.head stepR_seq (Steps.trans k1 hs)),m2,k3.trans' m3,m4,k5.trans m5⟩
     |exit id =>
      simp only[ad,aj]at h5;obtain⟨rfl,rfl,rfl⟩:=h5;exact⟨f1,w1,B1,a1,t1,k1.imp λ_ hs => .head stepR_seq (.head stepR_seq hs),k2,k3,(k4.skip (λ_=>by simp) (by simp)).skip (λ_=>by simp) (by simp),k5⟩
     |ret =>
      simp only[ad,aj]at h5;obtain⟨rfl,rfl,rfl⟩:=h5;exact⟨f1,w1,B1,a1,t1,k1.imp λ_ hs => .head stepR_seq (.head stepR_seq hs),k2,k3,(k4.skip (λ_=>by simp) (by simp)).skip (λ_=>by simp) (by simp),k5⟩
     |eA d =>
      simp only[ad,aj]at h5;obtain⟨rfl,rfl,rfl⟩:=h5;exact⟨f1,w1,B1,a1,t1,k1.imp λ_ hs => .head stepR_seq (.head stepR_seq hs),k2,k3,trivial,k5⟩
   .rw[g5]at h1;rcases sM ann p0 p2 (.cT bid l1)with⟨f,xs,_,g6⟩ | ⟨_,_,_,_,_,_,_,_,_,_,_,_,_,g6⟩ | ⟨_,z,rfl | rfl,_,g6⟩ | ⟨_,_,_,_,_,_,g6⟩<;>rw[g6]at h1<;>cases h1
  .rw[h3]at h;rcases hz with rfl | rfl
   .exact seq2 (λh ha=>ih _ (by simp at hsz;omega) p rfl h1 h ha) (λh ha=>ih _ (by simp at hsz;omega) q rfl h2 h ha) h
   .exact seq2 (λh ha=>ih _ (by simp at hsz;omega) p rfl h1 h ha) (λh ha=>X3 h (λh ha=>ih _ (by simp at hsz;omega) q rfl h2 h ha) ha) h
  .rw[h3]at h;simp only[aV,af,ab]at h;obtain⟨_,⟨_,_,rfl⟩,h⟩:=h;cases h
 |cond co p q =>
  simp only[bQ]at hc;split at hc
  case h_2=>cases hc
  rename_i C p' q' h0 h1 h2;cases hc;simp only[aV]at h;split at h
  case h_2=>cases h
  rename_i t ht;obtain⟨tmps,df⟩:=a;have hrel:=ha.fr.ba (df:=df) h0;rw[ht]at hrel;have hev:=hrel.od;refine Ends.step (stepR_cond hev) ?_;cases t with
  |true=>exact ih _ (by simp at hsz;omega) p rfl h1 (by simpa using h) ha
  |false=>exact ih _ (by simp at hsz;omega) q rfl h2 (by simpa using h) ha
 |block id p =>
  simp only[bQ,ab]at hc;obtain⟨p',h1,rfl⟩:=hc;rcases wB ann n id p p' with⟨it',nx',ok',live',sg,A,c1,g4,rfl,g5⟩ | g5
  .rw[g5]at h;have:=Rr (cT:=cT) (qs:=none) (k:=k) (cs:=cs) hO g4 h1 rfl h ha;simpa using this
  rw[g5]at h;simp only[aV,ab,Prod.exists]at h;obtain⟨x1,e1,J1,h3,h4⟩:=h;obtain⟨g1,w1,B1,a1,t1,k1,k2,k3,k4,k5⟩:=ih _ (by simp at hsz;omega) p rfl (k:=.inBlock id::k) h1 h3 ha;cases x1 with
  |normal =>
   cases h4;obtain rfl:=k4;exact⟨g1,w1,B1,a1,k,.head stepR_block (Steps.trans k1 (.one stepR_inBlock)),k2,k3,rfl,k5⟩
  |exit j =>
   obtain⟨k',rfl,hk'⟩:=k4;dsimp only at h4;split at h4
   .rename_i hj;subst hj;cases h4;refine⟨g1,w1,B1,a1,k,.head stepR_block (Steps.trans k1 (.one (stepR_exit ?_))),k2,k3,rfl,k5⟩;rw[hk'];simp[exitTo]
   .rename_i hj;cases h4;refine⟨g1,w1,B1,a1,_,Steps.head stepR_block k1,k2,k3,⟨k',rfl,?_⟩,k5⟩;rw[hk'];simp[exitTo,Ne.symm hj]
  |ret =>
   cases h4;exact⟨g1,w1,B1,a1,t1,Steps.head stepR_block k1,k2,k3,k4,k5⟩
  |eA d =>
   cases h4;exact⟨g1,w1,B1,a1,t1,k1.imp λ_ hs => .head stepR_block hs,k2,k3,trivial,k5⟩
 |loop p =>
  simp only[bQ,ab]at hc;obtain⟨p',h1,rfl⟩:=hc;simp only[aV]at h;obtain⟨hx,hloop⟩:=hO _ _ (HV h);exact Ends.step stepR_loop (hloop ann cT p n h1 base g0 w0 b a k cs g w B ha)
 |rangeFunc f ps p q=>exact RV hO hc h ha
 |scope p =>
  simp only[bQ,ab]at hc;obtain⟨p',h1,rfl⟩:=hc;unfold GZ at h;split at h
  .rw[Ea]at h;cases h
  simp only[aV,Option.bind_some]at h;obtain⟨g1,w1,B1,a1,t1,k1,k2,k3,k4,k5⟩:=ih _ (by simp at hsz;omega) p rfl (k:=.inScope p::k) h1 h ha;cases x with
  |normal =>
   obtain rfl:=k4;exact⟨g1,w1,B1,a1,k,.head xP (Steps.trans k1 (.one HC)),k2,k3,rfl,k5⟩
  |exit id=>exact⟨g1,w1,B1,a1,t1,Steps.head xP k1,k2,k3,k4.skip (λ_=>by simp) (by simp),k5⟩
  |ret=>exact⟨g1,w1,B1,a1,t1,Steps.head xP k1,k2,k3,k4.skip (λ_=>by simp) (by simp),k5⟩
  |eA d=>exact⟨g1,w1,B1,a1,t1,k1.imp λ_ hs => .head xP hs,k2,k3,trivial,k5⟩
 |label l =>
  simp only[bQ,ad]at hc;subst hc;simp only[aV,ad,aj]at h;obtain⟨rfl,rfl,rfl⟩:=h;exact⟨g,w,B,a,k,.one stepR_label,ha,g.le_refl,rfl,.refl _⟩
 |exit id =>
  simp only[bQ,ad]at hc;subst hc;simp only[aV,ad,aj]at h;obtain⟨rfl,rfl,rfl⟩:=h;exact⟨g,w,B,a,_,.refl _ _,ha,g.le_refl,⟨k,rfl,rfl⟩,.refl _⟩
 |ret =>
  simp only[bQ,ad]at hc;subst hc;simp only[aV,ad,aj]at h;obtain⟨rfl,rfl,rfl⟩:=h;exact⟨g,w,B,a,_,.refl _ _,ha,g.le_refl,⟨k,rfl⟩,.refl _⟩
 |_ =>
  simp only[bQ,ad]at hc;subst hc;rw[Ea]at h;cases h
end
section
variable {P:Program} {CR:eJ} {base fb:Nat} {V:List Nat} {g:G} {J J':SK} {w:World} {B:Nat->Nat} {e:Env} {tmps:Array Value} {d:D}
theorem KU{t:TypeId}{ag:Bool}{sz:Nat}{b o:Nat}{vs:List Value}{cs:List D}(hag:uh P t=some ag)(hsz:cH P t=some sz)(hone:(ag || sz == 1)=true)(hpos:0<sz)
  (hrd:Rd w b o vs) (hrl:bA g cs vs) (h1:∀x∈vs,x.oneCell'=true)
  (h:(if sz<=cs.length then if ag then some (D.agg (cs.take sz),J)else match(generalizing:=false) cs with | d::_=>some (d,J) | []=>none else none)=some (d,J')):
  ∃v,(loadVar t ⟨b,o,none⟩).run P w=.ok v w/\bB g d v:=by
 split at h
 case isFalse=>cases h
 rename_i hlen;obtain⟨v,hv,hv2⟩:=AY hag hsz hone hrd (by rw[<- hrl.length];exact hlen);cases ag with
 |true =>
  simp only[if_true,ad,aj]at h;obtain⟨rfl,rfl⟩:=h;simp only[if_true]at hv2;subst hv2;exact⟨_,hv,.agg _ _ (by simpa using hrl.take sz) λy hy=>h1 y (db (by simpa using hy))⟩
 |false =>
  simp only[ar,if_false]at h hv2;obtain⟨y,r,rfl,rfl⟩:=hv2;cases cs with
  |nil=>simp at hlen;omega
  |cons d0 cs =>
   simp only[ad,aj]at h;obtain⟨rfl,rfl⟩:=h;cases hrl with
   |cons _ _ _ _ ha hb=>exact⟨_,hv,ha⟩
def RX(tmps:Array Value):ResultVar->Sem Value
 |.tmp t=>pure (tmps.getD t Go.undef)
 |.cell a t=>do loadVar t (<- asAddr (tmps.getD a Go.undef))
theorem Mu(F:Func):results F tmps=(do
  let vs<-F.results.mapM (RX tmps)
  pure (if h:vs.size=1 then vs[0]else .tuple vs)):=rfl
theorem Xx(hf:Fr fb V g w B e tmps)(hi:Inv CR base g J w){ann:tW}{r:ResultVar}{R:CQ}(hR:Uo P ann r=some R)(h:GR e J R=some d):
  ∃v,(RX tmps r).run P w=.ok v w/\bB g d v:=by
 cases r with
 |tmp t =>
  simp only[Uo,ad]at hR;subst hR;simp only[GR,ad]at h;subst h;exact⟨_,rfl,hf.strip t⟩
 |cell x t =>
  simp only[Uo]at hR;split at hR
  case h_2=>cases hR
  rename_i ag sz hag hsz;simp only[aC,ae,ao]at hR;obtain⟨⟨hone,hpos⟩,hR⟩:=hR;by_cases hc:ann.cZ.contains x=true
  .rw[if_pos hc]at hR;cases hR;simp only[GR,ab,Prod.exists]at h;obtain⟨d',J',h,rfl⟩:=h;simp only[bG]at h;split at h
   case h_2=>cases h
   rename_i s cs off hin;obtain⟨hg,hp⟩:=hf.rq hin;obtain⟨_,_,hob⟩:=hf.own x s cs hg;obtain⟨ca,el,hheap,hrl,h1⟩:=hob.cT;have hrd:Rd w (B x) off (ca.toList.drop off):=by
    have:Rd w (B x) 0 ca.toList:=λj y ey=>by simp only[World.cell?,hheap];simpa using ey
    simpa using this.drop off
   obtain⟨v,h2,h3⟩:=KU hag hsz hone hpos hrd (hrl.drop off) (λy hy=>h1 y (da hy)) h;exact⟨v,by simp only[RX,hp];simpa[asAddr]using h2,h3⟩
  .rw[if_neg hc]at hR;cases hR;simp only[GR,ab,Prod.exists]at h;obtain⟨d',J',h,rfl⟩:=h;simp only[bG]at h;split at h
   case h_2=>cases h
   rename_i cs hcs;rcases Ng hi (hf.strip x) hcs with rfl | ⟨b,off,vs,hcv,hrd,hrl,h1⟩
   .simp at h;omega
   .obtain⟨v,h2,h3⟩:=KU hag hsz hone hpos hrd hrl h1 h;exact⟨v,by simp only[RX,hcv];simpa[asAddr]using h2,h3⟩
theorem NU(hf:Fr fb V g w B e tmps)(hi:Inv CR base g J w){ann:tW}:∀{rs:List ResultVar} {Rs:List CQ} {ds:List D},EZ P ann rs=some Rs->yQ e J Rs=some ds ->
  ∃vs,(rs.mapM (RX tmps)).run P w=.ok vs w/\bA g ds vs
 |[],Rs,ds,h1,h2=>by
  simp only[EZ,ad]at h1;subst h1;simp only[yQ,ad]at h2;subst h2;exact⟨[],by simp,.nil⟩
 |r::rs,Rs,ds,h1,h2=>by
  simp only[EZ]at h1;split at h1
  case h_2=>cases h1
  rename_i R Rs' k1 k2;cases h1;simp only[yQ,af,ab]at h2;obtain⟨d,h3,ds',h4,rfl⟩:=h2;obtain⟨v,h5,h6⟩:=Xx hf hi k1 h3;obtain⟨vs,h7,h8⟩:=NU hf hi k2 h4;exact⟨v::vs,by simp only[List.mapM_cons,Sem.run_bind,h5,Result.andThen_ok,h7,Sem.run_pure],.cons _ _ _ _ h6 h8⟩
theorem CK(hf:Fr fb V g w B e tmps)(hi:Inv CR base g J w){ann:tW}{F:Func}{Rs:List CQ}{ds:List D}(h1:EZ P ann F.results.toList=some Rs)(h2:yQ e J Rs=some ds):
  ∃v,(results F tmps).run P w=.ok v w/\bB g (tM ds) v:=by
 obtain⟨vs,h3,h4⟩:=NU (tmps:=tmps) hf hi h1 h2;have hrun:∀v,(if h:vs.toArray.size=1 then vs.toArray[0]else Value.tuple vs.toArray)=v->(results F tmps).run P w=.ok v w:=by
  intro v hv;subst hv;rw[Mu];simp only[Sem.run_bind,Array.mapM_eq_mapM_toList,Sem.run_map,h3,Result.andThen_ok,Sem.run_pure]
 cases h4 with
 |nil=>exact⟨_,hrun _ rfl,by simpa[tM]using bB.dj (g:=g) [] #[] .nil⟩
 |cons d c ds' cs' k1 k2 =>
  cases k2 with
  |nil=>exact⟨c,hrun _ (by simp),by simpa[tM]using k1⟩
  |cons d2 c2 ds2 cs2 k3 k4=>exact⟨_,hrun _ rfl,by simpa[tM]using bB.dj (g:=g) _ (c::c2::cs2).toArray (.cons _ _ _ _ k1 (.cons _ _ _ _ k3 k4))⟩
end
section
variable {P:Program} {CR:eJ} {base n:Nat} {V:List Nat} {g0 g:G} {w0 w:World} {b:Frame} {B:Nat->Nat} {e:Env} {J:SK} {a:Act}
theorem MR{df0:List Deferred}:∀(rs:List Nat) (w:World) (g:G) (a:Act) (fr:Frame) (cs:List Frame),fr.mode ≠ .run->fr.defers=rs.map mark++df0->(rs++ua df0).Nodup->(∀r∈rs++ua df0,yy w0.heap.size g w r) ->
  Fr w0.heap.size V g w B e a.tmps->Ev g0 w0 g w->Inv CR base g J w ->
  ∃w',Steps P (lone fr cs w) (lone {fr with defers:=df0 } cs w')/\Fr w0.heap.size V g w' B e a.tmps/\Ev g0 w0 g w'/\Inv CR base g J w'/\(∀r∈ua df0,yy w0.heap.size g w' r)
 |[],w,g,a,fr,cs,hm,hd,hn,hall,hf,he,hi=>by
  refine⟨w,?_,hf,he,hi,by simpa using hall⟩;have:{fr with defers:=df0 }=fr:=by cases fr;simp only[bS,aY]at hd;subst hd;rfl
  rw[this];exact .refl _ _
 |r::rs,w,g,a,fr,cs,hm,hd,hn,hall,hf,he,hi=>by
  have hr:=hall r (by simp);have htake:=run_takeDeferred (P:=P) hr.cT;have hstep:=step_collected (P:=P) (cs:=cs) (d:=mark r) (ds:=rs.map mark++df0) hm (by rw[hd];rfl) rfl htake;have hoth:∀b',b'≠r->(w.putObj r (.deferred none)).heap[b']?=w.heap[b']?:=λb' hne=>World.putObj_heap_other hne
  have hi':Inv CR base g J (w.putObj r (.deferred none)):=hi.Fw (λb' _ hk=>hoth b' λhh=>by
   subst hh;rcases hk with hk | ⟨o,v,hk⟩
   .exact hr.free hk
   .rw[hr.rz]at hk;cases hk) (by simp)
  have he':Ev g0 w0 g (w.putObj r (.deferred none)) :=
   ⟨he.le,he.os,he.tape,he.output,by simpa using he.size,λb' hb' hnb=>by rw[hoth b' (by have:=hr.lo;omega)];exact he.kept b' hb' hnb,he.PC,he.Ht⟩
  have hf':Fr w0.heap.size V g (w.putObj r (.deferred none)) B e a.tmps:=⟨hf.rel,λt s cs' ht=>by
   obtain⟨h1,h2,h3⟩:=hf.own t s cs' ht;obtain⟨c,el,hb,hrl,h5⟩:=h3.cT;refine⟨h1,h2,h3.lo,h3.free,h3.rz,c,el,?_,hrl,h5⟩;rw[hoth (B t) (λhh=>by rw[hh,hr.cT]at hb;cases hb)];exact hb,hf.inj⟩
  rw[fg,List.nodup_cons]at hn;obtain⟨w',h1,h2,h3,h4⟩:=MR rs (w.putObj r (.deferred none)) g a {fr with defers:=rs.map mark++df0 } cs hm rfl hn.2 (λr' hr'=>by
   have hm':=hall r' (by rw[fg];exact List.mem_cons_of_mem _ hr');refine⟨hm'.lo,hm'.free,hm'.rz,?_⟩;rw[hoth r' (λhh=>hn.1 (hh ▸ hr'))];exact hm'.cT) hf' he' hi'
  refine⟨w',.head ?_ h1,h2,h3,h4⟩;rw[hstep];rfl
end
open Go.RowKit
structure ab2(w:World)(b o:Nat)(zs:List Int)(w':World):Prop where
 row:∀c el,w.heap[b]?=some (.cells c el (0,0))->o+zs.length<=c.size->∃c',w'.heap[b]?=some (.cells c' el (0,0))/\c'.size=c.size /\
  ∀j,c'[j]?=if o<=j/\j<o+zs.length then(zs.map (Value.int .i64))[j-o]? else c[j]?
 other:∀x,x<w.heap.size->x≠b->w'.heap[x]?=w.heap[x]?
 size:w.heap.size<=w'.heap.size
 os:w'.os=w.os
 tape:w'.tape=w.tape
 output:w'.output=w.output
def natVal(k b o cap:Nat)(zs:List Int):Value:=if k=1 then .tuple #[]else .slice (some ⟨b,o,none⟩) (HU zs).length cap
def adb(P:Program)(k f:Nat):Prop :=
 (∃F c,P.funcs[f]?=some F/\F.name ≠ "runtime.NumGoroutine" /\ F.body=some c) /\
 ∀(b o cap:Nat) (zs:List Int) (w:World) (c:Array Value) (el:TypeId),w.heap[b]?=some (.cells c el (0,0))->o+zs.length<=c.size ->
  (∀j z,zs[j]?=some z->c[o+j]?=some (.int .i64 z))->zs.length<4611686018427387904->zs.length<=cap ->
  Calls P f #[.slice (some ⟨b,o,none⟩) zs.length cap] w λe w'=>e=.returned (natVal k b o cap zs)/\ab2 w b o (RF k zs) w'
def E2(P:Program)(CR:eJ)(k f:Nat):Prop:=∀args J r,Jg k args J=some r->∃d J',r=.val d J'/\wj P CR f args J d J'
theorem EW(x:Int):∀l:List Int,(TS x l).length=l.length+1
 |[]=>rfl
 |y::l=>by
  unfold TS;split
  .rfl
  .simp[EW x l]
theorem JF:∀l:List Int,(N2 l).length=l.length
 |[]=>rfl
 |x::l=>by simp[N2,EW,JF l]
theorem zm(x:Int):∀l:List Int,(Kj x l).length<=l.length
 |[]=>aH _
 |y::l=>by
  unfold Kj;split
  .have:=zm x l;simp;omega
  .have:=zm y l;simp;omega
theorem TF:∀l:List Int,(HU l).length<=l.length
 |[]=>aH _
 |x::l=>by have:=zm x l;simp[HU];omega
def V6(P:Program)(f:Nat)(fn:Fn):Prop:=∃F c ann,P.funcs[f]?=some F/\F.name ≠ "runtime.NumGoroutine" /\ F.body=some c/\fnC P ann F=some fn
def Wj(P:Program)(T:zQ):Prop :=
 ∀f fn,T f=some fn->if f<1000000 then V6 P f fn else fn.body=.exit 0/\E2 P (ix P) fn.Mm (f-1000000)
theorem OU{args:List D}:∀{k t:Nat},get (kQ k args) t=if k<=t then(args[t-k]?).getD .undef else .undef:=by
 induction args with
 |nil=>intro k t;simp[kQ,get]
 |cons d ds ih =>
  intro k t;simp only[kQ,get,ih];by_cases h:k=t
  .subst h;simp
  .rw[if_neg h];by_cases h2:k<=t
   .rw[if_pos h2,if_pos (by omega),show t-k=(t-(k+1))+1 from by omega,List.getElem?_cons_succ]
   .rw[if_neg h2,if_neg (by omega)]
theorem Nn{P:Program}{ann:tW}{F:Func}{c:Code}{fn:Fn}(hb:F.body=some c)(h:fnC P ann F=some fn):
  bQ P ann F.ntmps 0 c=some fn.body/\EZ P ann F.results.toList=some fn.res/\fn.Mm<=F.ntmps:=by
 unfold fnC at h;rw[hb]at h;dsimp only at h;split at h
 case h_2=>cases h
 rename_i c' rs h1 h2;simp only[aC]at h;obtain⟨h3,h⟩:=h;cases h;exact⟨h1,h2,h3⟩
section
variable {P:Program} {T:zQ} {O:bI}
theorem Gp{f:Nat}{F:Func}{c:Code}(V:List Nat){args:List D}(kd:CallKind)(hF:P.funcs[f]?=some F)(hbody:F.body=some c)(hlen:args.length<=F.ntmps)
  {base:Nat} {g:G} {w:World} {vs:Array Value} {J:SK} (hi:Inv (ix P) base g J w) (hl:pV J) (hp:0<J.length) (hr:bA g args vs.toList):
  ∃b a,Frame.enter P f vs kd=b.atR a [.code c]/\b.defers=[]/\b.fn=f/\b.kind=kd/\b.roundOf=none/\At (ix P) base V g w F.ntmps b g w (λ_=>0) (kQ 0 args) J a:=by
 have hsz:vs.size=args.length:=by have:=hr.length;simpa using this.symm
 let b:Frame:=Frame.enter P f vs kd
 let a:Act:=⟨vs++Array.replicate (F.ntmps-vs.size) Go.undef,[]⟩
 have hfr:Frame.enter P f vs kd=b.atR a [.code c]:=by
  simp[b,a,Frame.enter,Frame.atR,hF,hbody]
 have hrel:∀t,bB g (get (kQ 0 args) t) (a.tmps.getD t Go.undef):=by
  intro t;rw[OU,if_pos (Nat.zero_le _),Nat.sub_zero];cases ht:args[t]? with
  |none=>exact .undef _
  |some d =>
   obtain⟨c0,hc0,hrc⟩:=hr.get ht;have hlt:t<vs.size:=by have:=(aw.1 ht).1;omega
   have:a.tmps.getD t Go.undef=c0:=by
    simp only[a,bU];rw[Array.getElem?_append_left hlt];simp at hc0;rw[hc0];rfl
   rw[this];exact hrc
 have hno:∀t s cs,get (kQ 0 args) t ≠ .own s cs:=λt s cs=>NL (hrel t) s cs
 refine⟨b,a,hfr,rfl,rfl,rfl,rfl,⟨⟨λt=>?_,λt s cs ht=>absurd ht (hno t s cs),λt t' s s' cs cs' ht=>absurd ht (hno t s cs)⟩,Ev.refl g w,hi,hl,hp,?_,⟨[],rfl,List.nodup_nil,by simp[ua,b,Frame.enter]⟩,.inl rfl⟩⟩
 .have:=hrel t;cases hd:get (kQ 0 args) t with
  |own s cs=>trivial
  |vr=>rw[hd]at this;cases this
  |emp=>rw[hd]at this;cases this
  |_=>rw[hd]at this;exact this
 .simp only[a,Array.size_append,Array.size_replicate];omega
def LH(g:G):Exit->FrameMode->Prop
 |.eA d,u=>MZ g (some d) u/\d.clean=true
 |_,u=>u=.returning
theorem Mq{ann:tW}{base n:Nat}{g0 g1:G}{w0 w1:World}{b:Frame}{B:Nat->Nat}{e:Env}{J:SK}{a:Act}{cs:List Frame}{x:Exit}{todo:List Item}
  (hro:b.roundOf=none) (hL:zP [] x todo) (hne:∀id,x ≠ .exit id) (ha:At (ix P) base ann.cZ g0 w0 n b g1 w1 B e J a) {fr:Frame} {w:World} (start:Frame) (hs:vK (λfr=>Steps P (lone start cs w) (lone fr cs w1)) g1 b a todo x):
  ∃w2 u,Steps P (lone start cs w) (lone {b.atR a todo with mode:=u,defers:=b.defers } cs w2)/\LH g1 x u /\
   Fr w0.heap.size ann.cZ g1 w2 B e a.tmps/\Ev g0 w0 g1 w2/\Inv (ix P) base g1 J w2/\(∀r∈ua b.defers,yy w0.heap.size g1 w2 r):=by
 obtain⟨rs,hmk⟩:=ha.marks;have fin:∀u:FrameMode,u ≠ .run->Steps P (lone start cs w) (lone {b.atR a todo with mode:=u } cs w1) ->
   ∃w2,Steps P (lone start cs w) (lone {b.atR a todo with mode:=u,defers:=b.defers } cs w2) /\
   Fr w0.heap.size ann.cZ g1 w2 B e a.tmps/\Ev g0 w0 g1 w2/\Inv (ix P) base g1 J w2/\(∀r∈ua b.defers,yy w0.heap.size g1 w2 r):=by
  intro u hu hst;obtain⟨w2,u1,u2,u3,u4,u5⟩:=MR (P:=P) (df0:=b.defers) rs w1 g1 a {b.atR a todo with mode:=u } cs hu hmk.eq hmk.nodup hmk.all ha.fr ha.ev ha.inv;exact⟨w2,.trans hst u1,u2,u3,u4,u5⟩
 cases x with
 |exit id=>exact absurd rfl (hne id)
 |normal =>
  obtain rfl:=hL;obtain⟨w2,k⟩:=fin .returning (by simp) (Steps.trans hs (.one (stepR_end hro)));exact⟨w2,.returning,k.1,rfl,k.2⟩
 |ret =>
  obtain⟨k',rfl⟩:=hL;obtain⟨w2,k⟩:=fin .returning (by simp) (Steps.trans hs (.one (stepR_ret hro)));exact⟨w2,.returning,k.1,rfl,k.2⟩
 |eA d =>
  obtain⟨hcl,v,hr,hs⟩:=hs;obtain⟨w2,k⟩:=fin (.panicking [{v,recovered:=false }]) (by simp) hs;exact⟨w2,_,k.1,⟨⟨v,hr,rfl⟩,hcl⟩,k.2⟩
theorem QQ{x:Code}{f:bD}{xs:List bD}(h:I4 x=some (f,xs)):∃id ops o fo args ts,x=.region id ops false/\ops.toList=[o]/\o.op=.defer {callee:=.value fo,args,argTypes:=ts }/\o.dst=none/\o.guard=none/\bC fo=some f/\vF args.toList=some xs:=by
 unfold I4 at h;split at h
 case h_2=>cases h
 rename_i id ops;split at h
 case h_2=>cases h
 rename_i o ho;split at h
 case h_2=>cases h
 rename_i c h1 h2 h3;obtain⟨callee,args,ts⟩:=c;dsimp only at h;split at h
 case h_2=>cases h
 rename_i fo;split at h
 case h_2=>cases h
 rename_i h4 h5;cases h;exact⟨id,ops,o,fo,args,ts,rfl,ho,h1,h2,h3,h4,h5⟩
theorem Pr{ann:tW}{n id:Nat}{ops:Array Oper}{draw:Bool}{c:bX}(h:Mt P ann n id ops draw=some c):gG c=none:=by
 unfold Mt at h;split at h
 .dsimp only at h;split at h
  .split at h
   .cases h;unfold Gl;split
    .split<;>rfl
    .rfl
   .cases h
  .cases h
 .obtain⟨xs,_,rfl⟩:=ab.1 h;unfold Gl;split
  .split<;>rfl
  .rfl
theorem Sm(hm:P.follows .mixedOrders=true)(hO:yz P (ix P) O){ann:tW}{n cT base:Nat}{g0:G}{w0:World}{b:Frame}{cs:List Frame}(hro:b.roundOf=none):∀(code:Code) {c A q:bX} {fo:bD} {as:List bD} {e e1:Env} {J J1:SK} {g:G} {w:World} {B:Nat->Nat} {a:Act} {k:List Item} {fi:Nat} {first cap:List D},
  bQ P ann n cT code=some c->gG c=some (A,fo,as,q)->aV O A e J=some (.normal,e1,J1)->At (ix P) base ann.cZ g0 w0 n b g w B e J a->ba e1 fo=.fn fi first cap ->
  ∃g1 w1 B1 a1 q0 first' cap' argv,Steps P (lone (b.atR a (.code code::k)) cs w) (lone (b.atR {a1 with defers:={target:=.fn (.func fi) cap',args:=first'++argv }::a1.defers } (.code q0::k)) cs w1) /\
   At (ix P) base ann.cZ g0 w0 n b g1 w1 B1 e1 J1 a1/\bQ P ann n cT q0=some q/\g.le g1/\eB J J1/\bA g1 first first'.toList/\bA g1 cap cap'.toList/\bA g1 (as.map (ba e1)) argv.toList:=by
 intro code;induction code with
 |seq x y ihx ihy =>
  intro c A q fo as e e1 J J1 g w B a k fi first cap hc hsp h ha hfe
  simp only[bQ]at hc;split at hc
  case h_2=>cases hc
  rename_i x' y' h1 h2;cases hc;rcases sM ann x x' y' with⟨f,xs,h3,h4⟩ | ⟨_,p0,bid,l0,p1,live,it,nx,ok,bb,c0,rfl,rfl,h4⟩ | ⟨_,z,hz,_,h4⟩ | ⟨_,live,op,f,xs,hM,h4⟩
  rotate_left 3
  .rw[h4]at hsp;simp only[gG,aQ,ad,aj]at hsp;obtain⟨rfl,rfl,rfl,rfl⟩:=hsp;simp only[aV,af,ab,Prod.exists]at h;obtain⟨_,e9,J9,⟨e8,J8,h8,h9⟩,h⟩:=h;cases h9;cases h;obtain⟨id,ops,m,o,fc,args,ts,op',live',rfl,hops,ho,hd,hg,hf,hxs,hop,_,hc'⟩:=Gm hM;cases hc';have ho0:ops[0]?=some m:=by
    have:=congrArg (·[0]?) hops;simpa using this
   have ho1:ops[1]?=some o:=by
    have:=congrArg (·[1]?) hops;simpa using this
   have hsize:ops.size=2:=by
    have:=congrArg List.length hops;simpa using this
   obtain⟨g1,w1,B1,a1,k1,k2,k3,k4⟩:=Bq (k:=.code y::k) (cs:=cs) (tl:=[1]) hO _ _ _ _ _ _ _ _ (vJ.cons ⟨m,false,ho0,hop⟩ .nil:vJ (FU P ann n id ops) [0] [op]) h8 ha;have ha2:=k2.restrict live;obtain⟨tmps,df⟩:=a1;have hfv:=ha2.fr.ba (df:=df) hf;have hargs:=DB (df:=df) ha2.fr hxs;rw[hfe]at hfv;generalize hev:(Act.mk tmps df).eval fc=fv at hfv;cases hfv with
   |fn _ _ _ first' cap' r1 r2 =>
    have hw:Region.wanted o (yielded ops tmps)=true:=by simp[Region.wanted,hg]
    have hres:(resolve (Act.mk tmps df).eval {callee:=.value fc,args,argTypes:=ts } o.type).run P w1=.ok {target:=.fn (.func fi) cap',args:=first'++args.map (Act.mk tmps df).eval } w1:=jh hev w1;have hstep:step P (lone (b.atR ⟨tmps,df⟩ (.inRegion ops [1]::.code y::k)) cs w1)=.next (lone (b.atR ⟨tmps,{target:=.fn (.func fi) cap',args:=first'++args.map (Act.mk tmps df).eval }::df⟩ (.inRegion ops []::.code y::k)) cs w1):=by
     have hgs:=stepGR_op (P:=P) (b:=b) (a:=⟨tmps,df⟩) (k:=.code y::k) (cs:=cs) (w:=w1) (rest:=[]) ho1 hw;rw[hro,Oper.semAt_none]at hgs;have hr:(execOp (Act.mk tmps df).eval o).run P w1=.ok (.defer {target:=.fn (.func fi) cap',args:=first'++args.map (Act.mk tmps df).eval }) w1:=by
      simp only[execOp,ho,Sem.run_bind,hres,Result.andThen_ok,Sem.run_pure]
     refine step_lone_go ?_;rw[hgs];have hfin:({b.atR ⟨tmps,df⟩ (.inRegion ops [1]::.code y::k)with defers:={target:=.fn (.func fi) cap',args:=first'++args.map (Act.mk tmps df).eval }::df }:Frame).finish Go.undef =
       b.atR ⟨tmps,{target:=.fn (.func fi) cap',args:=first'++args.map (Act.mk tmps df).eval }::df⟩ (.inRegion ops []::.code y::k):=by
      have:=Frame.finish_atR b ⟨tmps,{target:=.fn (.func fi) cap',args:=first'++args.map (Act.mk tmps df).eval }::df⟩ ops 1 [] (.code y::k) Go.undef;rw[ho1]at this;simp only[Option.bind_some,hd,Act.put]at this;exact this
     simp only[stepG.apply,Sem.runT_eq,hr,GStep.bare_after];exact congrArg (λfr=>GStep.go {frame:=fr,callers:=cs,status:=.running,dying:=none } w1) hfin
    refine⟨g1,w1,B1,⟨tmps,df⟩,y,first',cap',args.map (Act.mk tmps df).eval,.head stepR_seq (.head stepR_region (.trans ?_ (.head hstep (.one (stepR_region_end (ops:=ops)))))),ha2,h2,k3,k4,r1,r2,hargs⟩;rw[hsize];exact k1
  .rw[h4]at hsp;simp only[gG,ad,aj]at hsp;obtain⟨rfl,rfl,rfl,rfl⟩:=hsp;simp only[aV,ad,aj,true_and]at h;obtain⟨rfl,rfl⟩:=h;obtain⟨id,ops,o,fc,args,ts,rfl,hops,ho,hd,hg,hf,hxs⟩:=QQ h3;obtain⟨tmps,df⟩:=a;have hfv:=ha.fr.ba (df:=df) hf;have hargs:=DB (df:=df) ha.fr hxs;rw[hfe]at hfv;generalize hev:(Act.mk tmps df).eval fc=fv at hfv;cases hfv with
   |fn _ _ _ first' cap' r1 r2 =>
    have ho0:ops[0]?=some o:=by
     have:=congrArg (·[0]?) hops;simpa using this
    have hsize:ops.size=1:=by
     have:=congrArg List.length hops;simpa using this
    have hw:Region.wanted o (yielded ops tmps)=true:=by simp[Region.wanted,hg]
    have hres:(resolve (Act.mk tmps df).eval {callee:=.value fc,args,argTypes:=ts } o.type).run P w=.ok {target:=.fn (.func fi) cap',args:=first'++args.map (Act.mk tmps df).eval } w:=jh hev w;have hstep:step P (lone (b.atR ⟨tmps,df⟩ (.inRegion ops [0]::.code y::k)) cs w)=.next (lone (b.atR ⟨tmps,{target:=.fn (.func fi) cap',args:=first'++args.map (Act.mk tmps df).eval }::df⟩ (.inRegion ops []::.code y::k)) cs w):=by
     have hgs:=stepGR_op (P:=P) (b:=b) (a:=⟨tmps,df⟩) (k:=.code y::k) (cs:=cs) (w:=w) (rest:=[]) ho0 hw;rw[hro,Oper.semAt_none]at hgs;have hr:(execOp (Act.mk tmps df).eval o).run P w=.ok (.defer {target:=.fn (.func fi) cap',args:=first'++args.map (Act.mk tmps df).eval }) w:=by
      simp only[execOp,ho,Sem.run_bind,hres,Result.andThen_ok,Sem.run_pure]
     refine step_lone_go ?_;rw[hgs];have hfin:({b.atR ⟨tmps,df⟩ (.inRegion ops [0]::.code y::k)with defers:={target:=.fn (.func fi) cap',args:=first'++args.map (Act.mk tmps df).eval }::df }:Frame).finish Go.undef =
       b.atR ⟨tmps,{target:=.fn (.func fi) cap',args:=first'++args.map (Act.mk tmps df).eval }::df⟩ (.inRegion ops []::.code y::k):=by
      have:=Frame.finish_atR b ⟨tmps,{target:=.fn (.func fi) cap',args:=first'++args.map (Act.mk tmps df).eval }::df⟩ ops 0 [] (.code y::k) Go.undef;rw[ho0]at this;simp only[Option.bind_some,hd,Act.put]at this;exact this
     simp only[stepG.apply,Sem.runT_eq,hr,GStep.bare_after];exact congrArg (λfr=>GStep.go {frame:=fr,callers:=cs,status:=.running,dying:=none } w) hfin
    refine⟨g,w,B,⟨tmps,df⟩,y,first',cap',args.map (Act.mk tmps df).eval,.head stepR_seq (.head stepR_region (.trans ?_ (.one (stepR_region_end (ops:=ops))))),ha,h2,g.le_refl,.refl _,r1,r2,hargs⟩;rw[hsize];exact .one hstep
  .rw[h4]at hsp;simp[gG]at hsp
  .rcases hz with rfl | rfl
   rotate_left
   .rw[h4]at hsp;simp[gG]at hsp
   rw[h4]at hsp;simp only[gG,ab]at hsp;obtain⟨⟨A',r⟩,hsp,h5⟩:=hsp;cases h5;simp only[aV,af,Prod.exists]at h;obtain⟨x1,e2,J2,h6,h7⟩:=h;cases x1 with
   |normal =>
    obtain⟨g2,w2,B2,a2,t2,m1,m2,m3,m4,m5⟩:=sZ (b:=b) (cs:=cs) (k:=.code y::k) hm hO x h1 h6 ha;obtain rfl:=m4;obtain⟨g1,w1,B1,a1,q0,first',cap',argv,k1,k2,k3,k4,k5,k6⟩:=ihy (k:=k) h2 hsp h7 m2 hfe;exact⟨g1,w1,B1,a1,q0,first',cap',argv,.head stepR_seq (Steps.trans m1 k1),k2,k3,m3.trans' k4,m5.trans k5,k6⟩
   |_=>simp at h7
 |region id ops draw =>
  intro c A q fo as e e1 J J1 g w B a k fi first cap hc hsp h ha hfe
  simp only[bQ]at hc;split at hc
  .rename_i c0 hc0;cases hc;have h0:=Pr hc0;cases hv:look id [] ann.fz with
   |nil=>rw[hv]at hsp;simp only[xR]at hsp;rw[h0]at hsp;cases hsp
   |cons v vs=>rw[hv]at hsp;simp only[xR,gG]at hsp;rw[h0]at hsp;cases hsp
  .cases hc;simp[AH,gG]at hsp
 |scope x ih =>
  intro c A q fo as e e1 J J1 g w B a k fi first cap hc hsp h ha hfe
  simp only[bQ,ab]at hc;obtain⟨x',_,rfl⟩:=hc;unfold GZ at hsp;split at hsp
  .simp[AH,gG]at hsp
  .rename_i h0;simp only[gG,h0,Option.map_none]at hsp;cases hsp
 |block id x ih =>
  intro c A q fo as e e1 J J1 g w B a k fi first cap hc hsp h ha hfe
  simp only[bQ,ab]at hc;obtain⟨x',_,rfl⟩:=hc;rcases wB ann n id x x' with⟨it',nx',ok',live',sg,A,c1,g4,rfl,g5⟩ | g5<;>rw[g5]at hsp<;>simp[gG]at hsp
 |cond co x y =>
  intro c A q fo as e e1 J J1 g w B a k fi first cap hc hsp h ha hfe
  simp only[bQ]at hc;split at hc
  case h_2=>cases hc
  cases hc;simp[gG]at hsp
 |loop x =>
  intro c A q fo as e e1 J J1 g w B a k fi first cap hc hsp h ha hfe
  simp only[bQ,ab]at hc;obtain⟨x',_,rfl⟩:=hc;simp[gG]at hsp
 |rangeFunc f ps x y =>
  intro c A q fo as e e1 J J1 g w B a k fi first cap hc hsp h ha hfe
  simp only[bQ]at hc;split at hc
  case h_2=>cases hc
  simp only[aC]at hc;obtain⟨_,hc⟩:=hc;cases hc;simp[gG]at hsp
 |_ =>
  intro c A q fo as e e1 J J1 g w B a k fi first cap hc hsp h ha hfe
  simp only[bQ,ad]at hc;subst hc;simp[gG,AH]at hsp
end
section
variable {P:Program} {T:zQ} {O:bI}
theorem wj.of{f:Nat}{args:List D}{J J':SK}{d:D}(h1:∃F c,P.funcs[f]?=some F/\F.name ≠ "runtime.NumGoroutine" /\ F.body=some c)
  (h2:∀base g w (vs:Array Value),Inv (ix P) base g J w->pV J->0<J.length->bA g args vs.toList ->
   ∀cs,∃v w' fr g',eB J J'/\Steps P (lone (Frame.enter P f vs .normal) cs w) (lone fr cs w')/\fr.fn=f/\fr.leaving P w' (.returned v)/\Ev g w g' w'/\Inv (ix P) base g' J' w'/\bB g' d v):
  wj P (ix P) f args J d J':=by
 refine⟨h1,λbase g w vs hi hl hp hr=>⟨?_,λcs=>?_⟩⟩
 .obtain⟨_,_,_,_,hgo,_⟩:=h2 base g w vs hi hl hp hr [];exact hgo
 .obtain⟨v,w',fr,g',hgo,k1,k2,k3,k4,k5,k6⟩:=h2 base g w vs hi hl hp hr cs;exact⟨.returned v,w',fr,⟨v,g',rfl,k4,k5,k6⟩,k1,k2,k3⟩
theorem KR{n base:Nat}{V:List Nat}{g0 g g1:G}{w0 w w1:World}{b:Frame}{B:Nat->Nat}{e:Env}{J J1:SK}{tmps:Array Value}{F:Func}{ann:tW}{Rs:List CQ}{r:R}
  (h:leave Rs J e J1=some r) (hress:EZ P ann F.results.toList=some Rs) (hf:Fr w0.heap.size V g1 w1 B e tmps) (he:Ev g w g1 w1) (hi:Inv (ix P) base g1 J1 w1) (hlow:pV J1) (hlen:J1.length=J.length+1)
  (hp:0<J.length) (hlvl0:∀l i L,g.loc l i=some L->l<J.length):
  ∃d J2 v g2,r=.val d J2/\(results F tmps).run P w1=.ok v w1/\Ev g w g2 w1/\Inv (ix P) base g2 J2 w1/\bB g2 d v/\pV J2/\J2.length=J.length:=by
 unfold leave at h;split at h
 case h_2=>cases h
 rename_i ds hds;split at h
 case h_2=>cases h
 rename_i d s J2 hfz;cases h;obtain⟨v,hv1,hv2⟩:=CK (P:=P) hf hi hress hds;have hspec:=yK (J.length-1) deep (tM ds) J1;rw[hfz]at hspec;obtain⟨hlow2,hgo⟩:=hspec;have hl2:pV (s::J2):=hgo.low hlow;have hlen2:J2.length=J.length:=by
  have k1:=hgo.len;simp at k1;omega
 obtain⟨g2,i2,e2,r2⟩:=yk (CR:=ix P) (base:=base) (J.length-1) deep (tM ds) J1 g1 w1 v hi hv2;rw[hfz]at i2 r2;obtain⟨i3,l3⟩:=i2.pop hl2;refine⟨d,J2,v,g2.cut J2.length,rfl,hv1,(he.trans e2).cut (λl i L h=>by rw[hlen2];exact hlvl0 l i L h),i3,r2.cut ?_,l3,hlen2⟩;rw[hlen2];rwa[show J.length-1+1=J.length from by omega]at hlow2
theorem KC{s:List aI}{J J1 J2:SK}(h:eB ([]::J) J1)(h2:J1=s::J2)(hl:pV J2):eB J J2:=by
 subst h2;exact⟨by have:=h.len;simpa using this,λ_=>hl⟩
theorem LR(hT:Wj P T)(hm:P.follows .mixedOrders=true)(hO:yz P (ix P) O){kp:Bool}{f:Nat}{args:List D}{J:SK}{r:R}
  (h:cI T O (.call kp f args J)=some r):EA P (ix P) (.call kp f args J) r:=by
 simp only[cI]at h;cases hTf:T f with
 |none =>
  rw[hTf]at h;dsimp only at h;cases hT2:T (1000000+f)with
  |none=>rw[hT2]at h;cases h
  |some fn =>
   rw[hT2]at h;have h1:=hT _ fn hT2;rw[if_neg (by omega),show 1000000+f-1000000=f from by omega]at h1;obtain⟨d,J',hr,h2⟩:=h1.2 _ _ _ h;subst hr;exact h2
 |some fn =>
 rw[hTf]at h;dsimp only at h;split at h
 case isFalse=>cases h
 rename_i hlen;have hTO:=hT f fn hTf;by_cases hfl:f<1000000
 rotate_left
 .rw[if_neg hfl]at hTO;rw[hTO.1]at h;simp[aV,gG,yE]at h
 rw[if_pos hfl]at hTO;obtain⟨F,c,ann,hF,hname,hbody,hfn⟩:=hTO;obtain⟨hcode,hress,hnp⟩:=Nn hbody hfn;have hin:∃F c,P.funcs[f]?=some F/\F.name ≠ "runtime.NumGoroutine" /\ F.body=some c:=⟨F,c,hF,hname,hbody⟩;cases hac:aV O fn.body (kQ 0 args) (if kp then J else []::J)with
 |none =>
  rw[hac]at h;dsimp only at h;cases kp with
  |true=>simp at h
  |false =>
  simp only[ar,if_false]at h;cases hsp:gG fn.body with
  |none=>rw[hsp]at h;simp[yE]at h
  |some y =>
  obtain⟨A,fo,as,q⟩:=y;rw[hsp]at h;simp only[yE]at h;split at h
  case h_2=>cases h
  rename_i e1 J1 hA;have key:∀(x2:Exit) (e2:Env) (J2:SK) (th:Option D),aV O q e1 J1=some (x2,e2,J2)->(∀id,x2 ≠ .exit id)->(match x2 with | .eA d=>th=some d | _=>th=none) ->
    uj fn.res J e2 (pA O (ba e1 fo) (as.map (ba e1)) th J2)=some r->EA P (ix P) (.call false f args J) r:=by
   intro x2 e2 J2 th hq hne hth hd;cases hdc:pA O (ba e1 fo) (as.map (ba e1)) th J2 with
   |none=>rw[hdc]at hd;cases hd
   |some rr =>
   rw[hdc]at hd;cases rr with
   |B6=>cases hd
   |eA=>cases hd
   |val dv J3 =>
   simp only[uj]at hd;unfold pA at hdc;split at hdc
   case h_2=>cases hdc
   rename_i fi first cap hfe
   obtain⟨⟨FD,cD,hfd1,hfd2,hfd3⟩,hdcall⟩:=hO _ _ hdc;have walk:∀base g w (vs:Array Value),Inv (ix P) base g J w->pV J->0<J.length->bA g args vs.toList ->
     ∀cs,∃d J4 v w' fr g',r=.val d J4/\eB J J4/\Steps P (lone (Frame.enter P f vs .normal) cs w) (lone fr cs w')/\fr.fn=f/\fr.leaving P w' (.returned v)/\Ev g w g' w'/\Inv (ix P) base g' J4 w'/\bB g' d v:=by
    intro base g w vs hi hl hp hr cs;obtain⟨b,a,hfr,hbd,hbf,hbk,hro,ha⟩:=Gp ann.cZ .normal hF hbody (by omega) (J:=[]::J) hi.push (hl.push hi) (by simp) hr;obtain⟨g1,w1,B1,a1,q0,first',cap',argv,s1,s2,s3,s4,s5,s6,s7,s8⟩:=Sm (cs:=cs) (k:=[]) hm hO hro c hcode hsp (by simpa using hA) ha hfe;obtain⟨rs1,hmk1⟩:=s2.marks
    let dd:Deferred:={target:=.fn (.func fi) cap',args:=first'++argv }
    let b':Frame:={b with defers:=dd::a1.defers }
    have ha':At (ix P) base ann.cZ g w F.ntmps b' g1 w1 B1 e1 J1 {a1 with defers:=dd::a1.defers }:=by
     refine⟨s2.fr,s2.ev,s2.inv,s2.low,s2.pos,s2.size,⟨[],rfl,?_,?_⟩,s2.round⟩
     .simp only[aY,b',ua,dd];rw[hmk1.eq,xd];exact hmk1.nodup
     .simp only[aY,b',ua,dd];rw[hmk1.eq,xd];exact hmk1.all
    obtain⟨g2,w2,B2,a2,t2,m1,m2,m3,m4,m5⟩:=sZ (b:=b') (cs:=cs) (k:=[]) hm hO q0 s3 hq ha';obtain⟨w3,u,n1,n2,n4,n5,n6,n7⟩:=Mq (b:=b') (cs:=cs) (fr:=b) (w:=w1) hro m4 hne m2 _ m1;have hdef:({b'.atR a2 t2 with mode:=u,defers:=b'.defers }:Frame).defers=dd::a1.defers:=rfl;have hu:u ≠ .run:=by
     cases x2 with
     |eA d=>obtain⟨⟨v,_,rfl⟩,_⟩:=n2;simp
     |normal=>obtain rfl:u=.returning:=n2;simp
     |ret=>obtain rfl:u=.returning:=n2;simp
     |exit id=>exact absurd rfl (hne id)
    have hfalls:MZ g2 th u:=by
     cases x2 with
     |eA d=>subst hth;exact n2.1
     |normal=>subst hth;exact n2
     |ret=>subst hth;exact n2
     |exit id=>exact absurd rfl (hne id)
    have hargs:bA g2 (first++as.map (ba e1)++cap) (first'++argv++cap').toList:=by
     simpa using((s6.mono m3).append (s8.mono m3)).append (s7.mono m3)
    obtain⟨hgo3,hcd⟩:=hdcall base g2 w3 _ u n6 m2.low m2.pos hargs hfalls;have hinv:(invoke dd.target dd.args).run P w3=.ok (.enter fi (first'++argv++cap')) w3:=by
     simp only[dd,invoke,v8 hfd1 hfd2 hfd3]
    have hstep:=step_defer (P:=P) (cs:=cs) (w:=w3) (fr:={b'.atR a2 t2 with mode:=u,defers:=b'.defers }) hu hdef rfl hinv;obtain⟨en,u',w4,frX,⟨v4,g4,rfl,hset,e4,i4⟩,hcomes,hkX,hgo4⟩:=hcd {({b'.atR a2 t2 with mode:=u,defers:=b'.defers }:Frame)with defers:=a1.defers } cs rfl;have hstep2:=step_going_returned (P:=P) (cs:=cs) (c:={({({b'.atR a2 t2 with mode:=u,defers:=b'.defers }:Frame)with defers:=a1.defers })with mode:=u' }) hkX hgo4;have hev4:Ev g w g4 w4:=n5.trans e4;have hmk4:∀r∈rs1++ua b.defers,yy w.heap.size g4 w4 r:=by
     intro r hr;refine yy.ev (n7 r ?_) e4;simp only[b',ua,dd];rw[hmk1.eq,xd];exact hr
    obtain⟨w5,p1,p2,p3,p4,p5⟩:=MR (P:=P) (df0:=b.defers) (V:=ann.cZ) (g0:=g) (w0:=w) (B:=B2) (e:=e2) (J:=J3) (base:=base) (CR:=ix P) rs1 w4 g4 a2
     {({({b'.atR a2 t2 with mode:=u,defers:=b'.defers }:Frame)with defers:=a1.defers })with mode:=settle u' } cs (by rw[hset];simp) hmk1.eq hmk1.nodup hmk4 (n4.ev e4) hev4 i4
    have hlen3:J3.length=J.length+1:=by
     have k1:=hgo3.len;have k2:=m5.len;have k3:=s5.len;simp at k3;omega
    obtain⟨d,J4,v,g5,hr5,hv5,e5,i5,r5,l5,len5⟩:=KR (n:=0) (g0:=g) (b:=b) hd hress p2 p3 p4 (hgo3.low m2.low) hlen3 hp (λl i L h=>hi.lvl h);refine⟨d,J4,v,w5,{({({b'.atR a2 t2 with mode:=u,defers:=b'.defers }:Frame)with defers:=a1.defers })with mode:=settle u',defers:=b.defers },g5,hr5,⟨len5,λ_=>l5⟩,?_,?_,?_,e5,i5,r5⟩
    .rw[hfr];refine Steps.trans s1 (Steps.trans n1 (.head hstep (Steps.trans hcomes (.head hstep2 p1))))
    .exact hbf
    .refine⟨hset,hbd,hbk,F,?_,hv5⟩;show P.funcs[b.fn]?=some F
     rw[hbf];exact hF
   cases r with
   |val d J' =>
    refine wj.of hin λbase g w vs hi hl hp hr cs=>?_
    obtain⟨d',J4,v,w',fr,g',h1,h2,h3⟩:=walk base g w vs hi hl hp hr cs;cases h1;exact⟨v,w',fr,g',h2,h3⟩
   |B6=>trivial
   |eA =>
    unfold leave at hd;split at hd
    .split at hd<;>cases hd
    .cases hd
  cases hq:aV O q e1 J1 with
  |none=>rw[hq]at h;simp[yF]at h
  |some y =>
  obtain⟨x2,e2,J2⟩:=y;rw[hq]at h;cases x2 with
  |exit id=>simp[yF]at h
  |normal=>exact key _ _ _ none hq (by simp) rfl h
  |ret=>exact key _ _ _ none hq (by simp) rfl h
  |eA d=>exact key _ _ _ (some d) hq (by simp) rfl h
 |some y =>
 obtain⟨x,e,J1⟩:=y;rw[hac]at h;have hx:∀id,x ≠ .exit id:=by intro id hid;subst hid;simp at h
 have walk:∀(base:Nat) (g:G) (w:World) (vs:Array Value),Inv (ix P) base g J w->pV J->0<J.length->bA g args vs.toList ->
   ∀cs:List Frame,∃(b:Frame) (a1:Act) (t1:List Item) (u:FrameMode) (w2:World) (g1:G) (B1:Nat->Nat),eB (if kp then J else []::J) J1/\pV J1/\Steps P (lone (Frame.enter P f vs .normal) cs w) (lone {b.atR a1 t1 with mode:=u,defers:=[] } cs w2)/\b.fn=f/\b.kind=.normal /\
    LH g1 x u/\Fr w.heap.size ann.cZ g1 w2 B1 e a1.tmps/\Ev g w g1 w2/\Inv (ix P) base g1 J1 w2:=by
  intro base g w vs hi hl hp hr cs;have hi0:Inv (ix P) base g (if kp then J else []::J) w:=by cases kp;exact hi.push;exact hi
  have hl0:pV (if kp then J else []::J):=by cases kp;exact hl.push hi;exact hl
  have hp0:0<(if kp then J else []::J).length:=by cases kp;simp;exact hp
  obtain⟨b,a,hfr,hbd,hbf,hbk,hro,ha⟩:=Gp ann.cZ .normal hF hbody (by omega) hi0 hl0 hp0 hr;obtain⟨g1,w1,B1,a1,t1,k1,k2,k3,k4,k5⟩:=sZ (b:=b) (cs:=cs) (k:=[]) hm hO c hcode hac ha;obtain⟨w2,u,n1,n2,n4,n5,n6,n7⟩:=Mq (b:=b) (cs:=cs) (fr:=b) (w:=w) hro k4 hx k2 _ k1;rw[hbd,<- hfr]at n1;exact⟨b,a1,t1,u,w2,g1,B1,k5,k2.low,n1,hbf,hbk,n2,n4,n5,n6⟩
 have ret:(x=.normal\/x=.ret)->(match yQ e J1 fn.res with
    |some ds=>if kp then some (R.val (tM ds) J1)else
      match cn (J.length-1) deep (tM ds) J1 with
      |(d,_::J2)=>some (.val d J2)
      |_=>none
    |none=>none)=some r->EA P (ix P) (.call kp f args J) r:=by
  intro hxx h;have hu:∀{g1:G} {u:FrameMode},LH g1 x u->u=.returning:=by
   clear h;intro g1 u h;rcases hxx with rfl | rfl<;>exact h
  cases kp with
  |true =>
   simp only[if_true]at h;split at h
   case h_2=>cases h
   rename_i ds hds;cases h;refine wj.of hin λbase g w vs hi hl hp hr cs=>?_
   obtain⟨b,a1,t1,u,w2,g1,B1,k1,k2,k3,k4,k5,k6,k8,k9,k10⟩:=walk base g w vs hi hl hp hr cs;obtain⟨v,hv1,hv2⟩:=CK (P:=P) k8 k10 hress hds;obtain rfl:=hu k6;refine⟨v,w2,_,g1,by simpa using k1,k3,k4,⟨rfl,rfl,k5,F,?_,hv1⟩,k9,k10,hv2⟩;show P.funcs[b.fn]?=some F
   rw[k4];exact hF
  |false =>
   simp only[ar,if_false]at h;have h':leave fn.res J e J1=some r:=h;cases r with
   |B6=>trivial
   |eA =>
    unfold leave at h';split at h'
    .split at h'<;>cases h'
    .cases h'
   |val d J' =>
   refine wj.of hin λbase g w vs hi hl hp hr cs=>?_
   obtain⟨b,a1,t1,u,w2,g1,B1,k1,k2,k3,k4,k5,k6,k8,k9,k10⟩:=walk base g w vs hi hl hp hr cs;have hlen:J1.length=J.length+1:=by have:=k1.len;simpa using this
   obtain⟨d',J4,v,g5,hr5,hv5,e5,i5,r5,l5,len5⟩:=KR (n:=0) (g0:=g) (w0:=w) (b:=b) h' hress k8 k9 k10 k2 hlen hp (λl i L h=>hi.lvl h);cases hr5;obtain rfl:=hu k6;refine⟨v,w2,_,g5,⟨len5,λ_=>l5⟩,k3,k4,⟨rfl,rfl,k5,F,?_,hv5⟩,e5,i5,r5⟩;show P.funcs[b.fn]?=some F
   rw[k4];exact hF
 cases x with
 |exit id=>exact absurd rfl (hx id)
 |normal=>exact ret (.inl rfl) h
 |ret=>exact ret (.inr rfl) h
 |eA d =>
  dsimp only at h;unfold MQ at h;split at h
  case h_2=>cases h
  rename_i s J2;split at h
  case isFalse=>cases h
  rename_i hc;obtain⟨rfl,hcl⟩:=hc;cases h;refine⟨hcl,hin,λbase g w vs hi hl hp hr=>?_⟩;have hgo:eB J J2:=by
   obtain⟨b,a1,t1,u,w2,g1,B1,k1,k2,k3,k4,k5,k6,k8,k9,k10⟩:=walk base g w vs hi hl hp hr [];obtain⟨i3,l3⟩:=k10.pop k2;exact KC (by simpa using k1) rfl l3
  refine⟨hgo,λcs=>?_⟩;obtain⟨b,a1,t1,u,w2,g1,B1,k1,k2,k3,k4,k5,⟨⟨v,k6,rfl⟩,_⟩,k8,k9,k10⟩:=walk base g w vs hi hl hp hr cs;obtain⟨i3,l3⟩:=k10.pop k2;refine⟨.panicked [{v,recovered:=false }],w2,_,⟨v,g1.cut J2.length,rfl,k9.cut (λl i L h=>by rw[hgo.len];exact hi.lvl h),i3,k6.cut (pW hcl)⟩,k3,k4,⟨rfl,rfl,F,?_⟩⟩;show P.funcs[b.fn]?=some F
  rw[k4];exact hF
end
theorem IU{th:Option D}{args:List D}{c q:bX}{e0:Env}(h:rG th args c=some (e0,q)):∃live t nn,c=.seq (.sy live [⟨some t,none,nn,.Lp⟩]) q/\(∀l i a b d c r,q ≠ .gv l i a b d c r)/\e0=restrict live ((t,th.getD .oD)::kQ 0 args):=by
 unfold rG at h;split at h
 case h_2=>cases h
 rename_i live t nn q';split at h
 .cases h
 .rename_i hn;cases h;exact⟨live,t,nn,rfl,λl i a b d c r hq=>hn l i a b d c r hq,rfl⟩
section
variable {P:Program} {T:zQ} {O:bI} {ann:tW} {n cT:Nat}
theorem Xw{id:Nat}{ops:Array Oper}{draw:Bool}{live:List Nat}{op:Op}(hk:op.k=.Lp)(h:bQ P ann n cT (.region id ops draw)=some (.sy live [op])):
  draw=false/\∃o zZ,ops.toList=[o]/\Pg P ann n id ops zZ 0 o=some op:=by
 simp only[bQ]at h;split at h
 .rename_i c0 hc0;simp only[ad]at h;cases hv:look id [] ann.fz with
  |cons v vs=>rw[hv]at h;simp[xR]at h
  |nil =>
   rw[hv]at h;simp only[xR]at h;subst h;unfold Mt at hc0;cases draw with
   |true =>
    simp only[if_true]at hc0;split at hc0
    case h_2=>cases hc0
    rename_i xs hxs;simp only[aC,ae]at hc0;obtain⟨⟨_,hall⟩,hc0⟩:=hc0;have hxs1:xs=[op]:=by
     simp only[ad]at hc0;unfold Gl at hc0;split at hc0
     .split at hc0
      .cases hc0
      .cases hc0;rfl
     .cases hc0;rfl
    subst hxs1;simp[hk]at hall
   |false =>
    simp only[ar,if_false]at hc0;obtain⟨xs,hxs,h1⟩:=ab.1 hc0;have hxs1:xs=[op]:=by
     unfold Gl at h1;split at h1
     .split at h1
      .cases h1
      .cases h1;rfl
     .cases h1;rfl
    subst hxs1;refine⟨rfl,?_⟩;cases hl:ops.toList with
    |nil=>rw[hl]at hxs;simp[Jl]at hxs
    |cons o l =>
     rw[hl]at hxs;simp only[Jl]at hxs;split at hxs
     case h_2=>cases hxs
     rename_i x xs' h2 h3;cases hxs;cases l with
     |nil=>exact⟨o,_,rfl,h2⟩
     |cons o' l' =>
      simp only[Jl]at h3;split at h3<;>cases h3
 .simp only[ad,AH,bX.sy.injEq,gn,and_true]at h;obtain⟨_,rfl⟩:=h;cases hk
theorem Uk{c:Code}{live:List Nat}{op:Op}{q:bX}(hk:op.k=.Lp)(hq:∀l i a b d c r,q ≠ .gv l i a b d c r)(h:bQ P ann n cT c=some (.seq (.sy live [op]) q)):
  ∃id ops y o zZ,c=.seq (.region id ops false) y/\bQ P ann n cT y=some q/\ops.toList=[o]/\Pg P ann n id ops zZ 0 o=some op:=by
 have hf:∀{c:bX},c=AH->∀{live':List Nat},c=.sy live' [op]->False:=by
  intro c h1 live' h2;rw[h1]at h2;simp only[AH,bX.sy.injEq,gn,and_true]at h2;obtain⟨_,rfl⟩:=h2;cases hk
 cases c with
 |seq x y =>
  simp only[bQ]at h;split at h
  case h_2=>cases h
  rename_i x' y' h1 h2;simp only[ad]at h;rcases sM ann x x' y' with⟨f,xs,_,h3⟩ | ⟨_,p0,bid,l0,p1,live',it,nx,ok,bb,c0,rfl,rfl,h3⟩ | ⟨_,z,_,hz,h3⟩ | ⟨_,lv,op,f,xs,hM,h3⟩
  rotate_left 3
  .rw[h3]at h;obtain⟨_,_,_,_,_,_,_,op',_,_,_,_,_,_,_,_,_,hr,hc⟩:=Gm hM;cases hc;cases h;exact absurd hk hr
  .rw[h3]at h;cases h
  .rw[h3]at h;cases h;exact absurd rfl (hq _ _ _ _ _ _ _)
  .rw[h3]at h;cases h;cases x with
   |region id ops draw =>
    obtain⟨rfl,o,zZ,h5,h6⟩:=Xw hk h1;have hs1:ops.size=1:=by have:=congrArg List.length h5;simpa using this
    have hzz:=hz (by simp[Uu,hs1]);exact⟨id,ops,y,o,zZ,rfl,by rw[hzz];exact h2,h5,h6⟩
   |seq p r =>
    simp only[bQ]at h1;split at h1
    case h_2=>cases h1
    rename_i p' r' _ _;simp only[ad]at h1;rcases sM ann p p' r' with⟨f,xs,_,h3⟩ | ⟨_,_,_,_,_,_,_,_,_,_,_,_,_,h3⟩ | ⟨_,_,_,_,h3⟩ | ⟨_,_,_,_,_,_,h3⟩<;>rw[h3]at h1<;>cases h1
   |cond co p r =>
    simp only[bQ]at h1;split at h1<;>cases h1
   |block id p =>
    simp only[bQ,ab]at h1;obtain⟨p',_,h1⟩:=h1;rcases wB ann n id p p' with⟨_,_,_,_,_,_,_,_,rfl,h3⟩ | h3<;>rw[h3]at h1<;>cases h1
   |loop p =>
    simp only[bQ,ab]at h1;obtain⟨p',_,h1⟩:=h1;cases h1
   |rangeFunc f ps p r =>
    simp only[bQ]at h1;split at h1
    case h_2=>cases h1
    split at h1<;>cases h1
   |scope p =>
    simp only[bQ,ab]at h1;obtain⟨p',_,h1⟩:=h1;unfold GZ at h1;split at h1
    .exact(hf rfl h1).elim
    .cases h1
   |skip=>simp[bQ]at h1
   |label l=>simp[bQ]at h1
   |exit id=>simp[bQ]at h1
   |ret=>simp[bQ]at h1
   |_=>simp only[bQ,ad]at h1;exact(hf rfl h1).elim
 |region id ops draw =>
  simp only[bQ]at h;split at h
  .rename_i c0 hc0;simp only[ad]at h;cases hv:look id [] ann.fz with
   |nil =>
    rw[hv]at h;simp only[xR]at h;subst h;unfold Mt at hc0;split at hc0
    .dsimp only at hc0;split at hc0
     .simp only[aC,ad]at hc0;obtain⟨_,hc0⟩:=hc0;unfold Gl at hc0;split at hc0
      .split at hc0<;>cases hc0
      .cases hc0
     .cases hc0
    .obtain⟨xs,_,h1⟩:=ab.1 hc0;unfold Gl at h1;split at h1
     .split at h1<;>cases h1
     .cases h1
   |cons v vs=>rw[hv]at h;simp[xR]at h
  .cases h
 |scope p =>
  simp only[bQ,ab]at h;obtain⟨p',_,h1⟩:=h;unfold GZ at h1;split at h1<;>cases h1
 |cond co p r =>
  simp only[bQ]at h;split at h<;>cases h
 |block id p =>
  simp only[bQ,ab]at h;obtain⟨p',_,h1⟩:=h;rcases wB ann n id p p' with⟨_,_,_,_,_,_,_,_,rfl,h3⟩ | h3<;>rw[h3]at h1<;>cases h1
 |loop p =>
  simp only[bQ,ab]at h;obtain⟨p',_,h1⟩:=h;cases h1
 |rangeFunc f ps p r =>
  simp only[bQ]at h;split at h
  case h_2=>cases h
  split at h<;>cases h
 |skip=>simp[bQ]at h
 |label l=>simp[bQ]at h
 |exit id=>simp[bQ]at h
 |ret=>simp[bQ]at h
 |_=>simp only[bQ,ad]at h;cases h
theorem JG{b:Frame}{a:Act}{k:List Item}{cs:List Frame}{w:World}{ops:Array Oper}{i:Nat}{is:List Nat}{o:Oper}{args:Array Operand}{ts:Array TypeId}(ho:ops[i]?=some o)(hg:o.guard=none)
  (hop:o.op=.call {callee:=.builtin .recover,args,argTypes:=ts }) (hro:b.roundOf=none) (hk:b.kind=.deferred):
  step P (lone (b.atR a (.inRegion ops (i::is)::k)) cs w)=.next (match recoverD cs with
   |some (v,cs')=>lone (b.atR (a.put o.dst v) (.inRegion ops is::k)) cs' w
   |none=>lone (b.atR (a.put o.dst .nilIface) (.inRegion ops is::k)) cs w):=by
 have hw:Region.wanted o (yielded ops a.tmps)=true:=by simp[Region.wanted,hg]
 have hgs:=stepGR_op (P:=P) (b:=b) (a:=a) (k:=k) (cs:=cs) (w:=w) (rest:=is) ho hw;rw[hro,Oper.semAt_none]at hgs;have hr:(execOp a.eval o).run P w=.ok .recover w:=by
  simp[execOp,hop,resolve,invoke,builtin]
 have htr:tryRecover (b.atR a (.inRegion ops (i::is)::k)) cs=recoverD cs:=tryRecover_deferred (fr:=b.atR a (.inRegion ops (i::is)::k)) hk cs;have hro':(b.atR a (.inRegion ops (i::is)::k)).roundOf=none:=hro;have hfin:=λv=>Bl (b:=b) (a:=a) (rest:=is) (k:=k) ho v
 cases hrec:recoverD cs with
 |none =>
  refine step_lone_go ?_;rw[hgs,<- hfin];simp[stepG.apply,hr,hro',htr,hrec]
 |some y =>
  obtain⟨v,cs'⟩:=y;refine step_lone_go ?_;rw[hgs,<- hfin];simp[stepG.apply,hr,hro',htr,hrec]
theorem Kk(hT:Wj P T)(hm:P.follows .mixedOrders=true)(hO:yz P (ix P) O){f:Nat}{args:List D}{th:Option D}{J:SK}{r:R}
  (h:cI T O (.xe f args th J)=some r):EA P (ix P) (.xe f args th J) r:=by
 simp only[cI]at h;split at h
 case h_2=>cases h
 rename_i fn hTf;split at h
 case isFalse=>cases h
 rename_i hlen;split at h
 case h_2=>cases h
 rename_i e0 q hrcv;obtain⟨live,t,nn,hbd,hqm,rfl⟩:=IU hrcv;have hTO:=hT f fn hTf;by_cases hfl:f<1000000
 rotate_left
 .rw[if_neg hfl]at hTO;rw[hTO.1]at hbd;cases hbd
 rw[if_pos hfl]at hTO;obtain⟨F,c,ann,hF,hname,hbody,hfn⟩:=hTO;obtain⟨hcode,hress,hnp⟩:=Nn hbody hfn;have hin:∃F c,P.funcs[f]?=some F/\F.name ≠ "runtime.NumGoroutine" /\ F.body=some c:=⟨F,c,hF,hname,hbody⟩;cases hac:aV O q (restrict live ((t,th.getD .oD)::kQ 0 args)) ([]::J)with
 |none=>rw[hac]at h;cases h
 |some y =>
 obtain⟨x,e,J1⟩:=y;rw[hac]at h;have hx:(∀id,x ≠ .exit id)/\(∀d,x ≠ .eA d)/\∃s J2,J1=s::J2/\yQ e J1 fn.res=some []/\r=.val (.dj []) J2:=by
  cases x with
  |exit id=>simp at h
  |eA d=>simp at h
  |normal =>
   dsimp only at h;split at h
   .rename_i s J2 hres;cases h;exact⟨by simp,by simp,_,J2,rfl,hres,rfl⟩
   .cases h
  |ret =>
   dsimp only at h;split at h
   .rename_i s J2 hres;cases h;exact⟨by simp,by simp,_,J2,rfl,hres,rfl⟩
   .cases h
 obtain⟨hx1,hx2,s,J2,rfl,hres,rfl⟩:=hx;obtain⟨id,ops,y,o,zZ,rfl,hy,hops,hop⟩:=Uk rfl hqm (by rw[<- hbd];exact hcode);have walk:∀(base:Nat) (g:G) (w:World) (vs:Array Value) (u:FrameMode),Inv (ix P) base g J w->pV J->0<J.length->bA g args vs.toList->MZ g th u ->
   ∀(c0:Frame) (cs:List Frame),c0.mode=u->∃(v:Value) (u':FrameMode) (w':World) (fr:Frame) (g':G),eB J J2/\settle u'=.returning/\Ev g w g' w'/\Inv (ix P) base g' J2 w' /\
    Steps P (lone (Frame.enter P f vs .deferred) (c0::cs) w) (lone fr ({c0 with mode:=u' }::cs) w')/\fr.kind=.deferred/\fr.going P w' (.returned v):=by
  intro base g w vs u hi hl hp hr hfa c0 cs hmode;obtain⟨b,a,hfr,hbdf,hbf,hbk,hro,ha⟩:=Gp ann.cZ .deferred hF hbody (by omega) (J:=[]::J) hi.push (hl.push hi) (by simp) hr;obtain⟨hdst,hn,hgrd⟩:=Jk hop;obtain⟨hkc,hmk⟩:=Vf hop;obtain⟨args0,ts0,hopo⟩:=Rh hkc;have ho0:ops[0]?=some o:=by
   have:=congrArg (·[0]?) hops;simpa using this
  have hsize:ops.size=1:=by
   have:=congrArg List.length hops;simpa using this
  have hguard:o.guard=none:=by
   rcases hgrd with⟨h1,_⟩ | ⟨_,_,_,_,h2,_⟩
   .exact h1
   .cases h2
  have hdt:o.dst=some t:=hdst.symm;have hrec:∃(v:Value) (u':FrameMode),bB g (th.getD .oD) v/\settle u'=.returning /\
    step P (lone (b.atR a [.inRegion ops [0],.code y]) (c0::cs) w)=.next (lone (b.atR (a.put o.dst v) [.inRegion ops [],.code y]) ({c0 with mode:=u' }::cs) w):=by
   have hst:=JG (P:=P) (b:=b) (a:=a) (k:=[.code y]) (cs:=c0::cs) (w:=w) (is:=[]) ho0 hguard hopo hro hbk;cases th with
   |none =>
    obtain rfl:u=.returning:=hfa;refine⟨.nilIface,.returning,.oD,rfl,?_⟩;rw[hst];have:recoverD (c0::cs)=none:=by simp[recoverD,hmode]
    rw[this];have:({c0 with mode:=.returning }:Frame)=c0:=by cases c0;simp only at hmode;subst hmode;rfl
    rw[this]
   |some d =>
    obtain⟨v,hv,rfl⟩:=hfa;refine⟨v,.panicking [{v,recovered:=true }],hv,rfl,?_⟩;rw[hst];have:recoverD (c0::cs)=some (v,{c0 with mode:=.panicking [{v,recovered:=true }] }::cs):=by simp[recoverD,hmode]
    rw[this]
  obtain⟨v,u',hv,hset,hstep⟩:=hrec;have ha1:At (ix P) base ann.cZ g w F.ntmps b g w (λ_=>0) ((t,th.getD .oD)::kQ 0 args) ([]::J) (a.put o.dst v):=by
   refine ha.go (Ev.refl g w) ha.inv (.refl _) ?_ AX put_defers;have:=ha.fr.put (df:=a.defers) (dst:=o.dst) (d:=th.getD .oD) (c:=v) (by
    have:∀d,bB g d v->ch g (λ_=>0) (kQ 0 args) d v:=λd h=>ch.of h
    exact this _ hv) (hmk rfl) (λt ht=>by rw[ha.size];exact hn t ht)
   rw[hdt]at this ⊢;exact this
  obtain⟨g1,w1,B1,a1,t1,k1,k2,k3,k4,k5⟩:=sZ (b:=b) (cs:={c0 with mode:=u' }::cs) (k:=[]) hm hO y hy hac (ha1.restrict live);obtain⟨w2,uu,n1,n2,n4,n5,n6,n7⟩:=Mq (b:=b) (cs:={c0 with mode:=u' }::cs) (fr:=b) (w:=w) hro k4 hx1 k2 _ k1;have huu:uu=.returning:=by
   cases x with
   |exit id=>exact absurd rfl (hx1 id)
   |eA d=>exact absurd rfl (hx2 d)
   |normal=>exact n2
   |ret=>exact n2
  subst huu;obtain⟨rv,hv1,hv2⟩:=CK (P:=P) n4 n6 hress hres;obtain⟨i3,l3⟩:=n6.pop k2.low;have hgo:eB J J2:=KC k5 rfl l3;refine⟨rv,u',w2,{b.atR a1 t1 with mode:=.returning,defers:=b.defers },g1.cut J2.length,hgo,hset,n5.cut (λl i L h=>by rw[hgo.len];exact hi.lvl h),i3,?_,hbk,⟨rfl,hbdf,F,?_,hv1⟩⟩
  .rw[hfr];refine .head stepR_seq (.head stepR_region ?_);rw[hsize];exact .head hstep (.head (stepR_region_end (ops:=ops)) n1)
  .show P.funcs[b.fn]?=some F
   rw[hbf];exact hF
 refine⟨hin,λbase g w vs u hi hl hp hr hfa=>⟨?_,λc0 cs hmode=>?_⟩⟩
 .obtain⟨_,_,_,_,_,hgo,_⟩:=walk base g w vs u hi hl hp hr hfa {(default:Frame)with mode:=u } [] rfl;exact hgo
 .obtain⟨v,u',w',fr,g',hgo,hset,he,hi',hs,hk,hg⟩:=walk base g w vs u hi hl hp hr hfa c0 cs hmode;exact⟨.returned v,u',w',fr,⟨v,g',rfl,hset,he,hi'⟩,hs,hk,hg⟩
end
end Go.az
namespace Go.az
def gK{α:Type}(O:bI)(F:bI->Option α)(x:α):Prop :=
 ∃L:List (Q×R),(∀p∈L,O p.1=some p.2)/\∀O':bI,(∀p∈L,O' p.1=some p.2)->F O'=some x
variable {α β γ:Type} {O:bI}
theorem gK.const{x:α}:gK O (λ_=>some x) x:=⟨[],by simp,λ_ _=>rfl⟩
theorem gK.of{F:bI->Option α}{x:α}(h:∀O',F O'=some x):gK O F x:=⟨[],by simp,λO' _=>h O'⟩
theorem gK.ask{q:Q}{r:R}(h:O q=some r):gK O (λO'=>O' q) r:=⟨[(q,r)],by simpa using h,λO' h'=>h' (q,r) (by simp)⟩
theorem gK.andThen{F:bI->Option α}{G:bI->Option β}{x:α}{y:β}(h1:gK O F x)(h2:gK O G y){H:bI->Option γ}{z:γ}
  (h:∀O',F O'=some x->G O'=some y->H O'=some z):gK O H z:=by
 obtain⟨L1,k1,k2⟩:=h1;obtain⟨L2,k3,k4⟩:=h2;refine⟨L1++L2,λp hp=>?_,λO' h'=>h O' (k2 O' λp hp=>h' p (by simp[hp])) (k4 O' λp hp=>h' p (by simp[hp]))⟩;rcases aZ.1 hp with hp | hp
 .exact k1 p hp
 .exact k3 p hp
theorem gK.map{F:bI->Option α}{x:α}(h1:gK O F x){H:bI->Option β}{z:β}(h:∀O',F O'=some x->H O'=some z):gK O H z:=by
 obtain⟨L1,k1,k2⟩:=h1;exact⟨L1,k1,λO' h'=>h O' (k2 O' h')⟩
theorem HM{α:Type}{us:List α}{f:α->Option R}{r:R}(h:agree (us.map f)=some r):∀u∈us,f u=some r:=by
 cases us with
 |nil=>simp[agree]at h
 |cons v vs =>
  simp only[aN,agree]at h;split at h
  .rename_i hall;intro u hu;rcases bw.1 hu with rfl | hu
   .exact h
   .rw[hall (f u) (bO.2 ⟨u,hu,rfl⟩)];exact h
  .cases h
theorem HO{α:Type}{us:List α}{f:α->Option R}{r:R}(hne:us≠[])(h:∀u∈us,f u=some r):agree (us.map f)=some r:=by
 cases us with
 |nil=>exact absurd rfl hne
 |cons v vs =>
  simp only[aN,agree];rw[if_pos,h v (by simp)];intro x hx;obtain⟨u,hu,rfl⟩:=bO.1 hx;rw[h u (by simp[hu]),h v (by simp)]
theorem KG{kp:Bool}{fv:D}{args:List D}{J:SK}{x:D×SK}(h:oe O kp fv args J=some x):gK O (λO'=>oe O' kp fv args J) x:=by
 cases fv<;>simp only[oe,reduceCtorEq]at h
 .rename_i f first cap
  cases hq:O (.call kp f (first++args++cap) J)with
  |none=>rw[hq]at h;cases h
  |some r=>exact(gK.ask hq).map λO' h'=>by simp only[oe,h'];rw[hq]at h;exact h
 .rename_i l i;cases hq:O (.round l i args J)with
  |none=>rw[hq]at h;cases h
  |some r=>exact(gK.ask hq).map λO' h'=>by simp only[oe,h'];rw[hq]at h;exact h
theorem KE{fv:D}{args:List D}{J:SK}{x:D×SK}(h:EK O fv args J=some x):gK O (λO'=>EK O' fv args J) x:=by
 cases fv<;>simp only[EK,reduceCtorEq]at h;rename_i f first cap
 cases hq:O (.call false f (first++args++cap) J)with
 |none=>rw[hq]at h;cases h
 |some r=>exact(gK.ask hq).map λO' h'=>by simp only[EK,h'];rw[hq]at h;exact h
theorem H4{op:Op}{e:Env}{J:SK}{x:Env×SK}(h:vn O op e J=some x):gK O (λO'=>vn O' op e J) x:=by
 obtain⟨dst,CE,zZ,k⟩:=op;cases k
 case call kp f args =>
  simp only[vn]at h;cases hc:oe O kp (ba e f) (args.map (ba e)) J with
  |none=>rw[hc]at h;cases h
  |some y=>exact(KG hc).map λO' h'=>by simp only[vn,h'];rw[hc]at h;exact h
 all_goals exact .of λO'=>h
theorem uq:∀{ops:List Op} {e:Env} {J:SK} {x:Env×SK},kK O ops e J=some x->gK O (λO'=>kK O' ops e J) x
 |[],e,J,x,h => .of λO'=>h
 |op::r,e,J,x,h=>by
  simp only[kK]at h;cases hg:op.CE with
  |none =>
   rw[hg]at h;simp only[af]at h;obtain⟨y,h1,h2⟩:=h;exact(H4 h1).andThen (uq h2) λO' k1 k2=>by simp only[kK,hg,k1,Option.bind_some,k2]
  |some p =>
   obtain⟨g,want⟩:=p;rw[hg]at h;dsimp only at h;cases hb:(get e g).bit<;>rw[hb]at h<;>try (cases h;done)
   rename_i b;dsimp only at h;split at h
   .rename_i hw;simp only[af]at h;obtain⟨y,h1,h2⟩:=h;exact(H4 h1).andThen (uq h2) λO' k1 k2=>by simp only[kK,hg,hb,if_pos hw,k1,Option.bind_some,k2]
   .rename_i hw;exact(uq h).map λO' k1=>by simp only[kK,hg,hb,if_neg hw,k1]
theorem KF{fv:D}{args:List D}{J:SK}{r:R}(h:zR O fv args J=some r):gK O (λO'=>zR O' fv args J) r:=by
 cases fv<;>simp only[zR,reduceCtorEq]at h;exact(gK.ask h).map λO' h'=>by simp only[zR,h']
theorem KD{live:List Nat}{dst:Option Nat}{post:List Op}{e:Env}{r:Option R}{x:Exit×Env×SK}(h:tZ O live dst post e r=some x):gK O (λO'=>tZ O' live dst post e r) x:=by
 cases r with
 |none=>simp[tZ]at h
 |some r =>
  cases r with
  |val d J' =>
   simp only[tZ,ab]at h;obtain⟨y,h1,rfl⟩:=h;exact(uq h1).map λO' k=>by simp only[tZ,k,aQ]
  |eA d J'=>exact .of λO'=>h
  |B6=>simp[tZ]at h
theorem Ma{live:List Nat}{op:Op}{post:List Op}{e:Env}{J:SK}{x:Exit×Env×SK}(h:Ff O live op post e J=some x):gK O (λO'=>Ff O' live op post e J) x:=by
 obtain⟨dst,CE,zZ,k⟩:=op;cases CE with
 |some _=>simp[Ff]at h
 |none =>
 cases k
 case call kp f args =>
  cases kp with
  |true=>simp[Ff]at h
  |false =>
   simp only[Ff]at h;cases hc:zR O (ba e f) (args.map (ba e)) J with
   |none=>rw[hc]at h;simp[tZ]at h
   |some r =>
    rw[hc]at h;exact(KF hc).andThen (KD h) λO' k1 k2=>by simp only[Ff,k1,k2]
 case RM y=>exact .of λO'=>h
 all_goals simp[Ff]at h
theorem bV:∀{c:bX} {e:Env} {J:SK} {x:Exit×Env×SK},aV O c e J=some x->gK O (λO'=>aV O' c e J) x
 |.FB,e,J,x,h => .of λO'=>h
 |.cn _,e,J,x,h => .of λO'=>h
 |.exit id,e,J,x,h => .of λO'=>h
 |.ret,e,J,x,h => .of λO'=>h
 |.sy live ops,e,J,x,h=>by
  simp only[aV,ab]at h;obtain⟨y,h1,rfl⟩:=h;exact(uq h1).map λO' k=>by simp only[aV,k,aQ]
 |.seq a b,e,J,x,h=>by
  simp only[aV,af]at h;obtain⟨⟨x1,e1,J1⟩,h1,h2⟩:=h;cases x1 with
  |normal=>exact(bV h1).andThen (bV h2) λO' k1 k2=>by simp only[aV,k1,Option.bind_some,k2]
  |exit id=>exact(bV h1).map λO' k1=>by simp only[aV,k1,Option.bind_some];exact h2
  |ret=>exact(bV h1).map λO' k1=>by simp only[aV,k1,Option.bind_some];exact h2
  |eA d=>exact(bV h1).map λO' k1=>by simp only[aV,k1,Option.bind_some];exact h2
 |.ite c a b,e,J,x,h=>by
  simp only[aV]at h;cases hb:ba e c<;>rw[hb]at h<;>try (cases h;done)
  rename_i t;cases t with
  |true=>exact(bV (by simpa using h)).map λO' k=>by simp only[aV,hb,if_true,k]
  |false=>exact(bV (by simpa using h)).map λO' k=>by simp only[aV,hb,ar,if_false,k]
 |.cT id a,e,J,x,h=>by
  simp only[aV,ab]at h;obtain⟨y,h1,rfl⟩:=h;exact(bV h1).map λO' k=>by simp only[aV,k,aQ]
 |.VC a,e,J,x,h=>by
  simp only[aV,ab]at h;obtain⟨y,h1,rfl⟩:=h;exact(bV h1).map λO' k=>by simp only[aV,k,aQ]
 |.Lh live pre op post,e,J,x,h=>by
  simp only[aV,af]at h;obtain⟨⟨e1,J1⟩,h1,h2⟩:=h;exact(uq h1).andThen (Ma h2) λO' k1 k2=>by simp only[aV,k1,Option.bind_some,k2]
 |.OI ..,e,J,x,h=>by simp[aV]at h
 |.gv live it nx ok b a rest,e,J,x,h=>by
  simp only[aV]at h;cases hq:O (.gv live it nx ok b a rest e J)with
  |none=>rw[hq]at h;cases h
  |some r=>exact(gK.ask hq).map λO' h'=>by simp only[aV,h'];rw[hq]at h;exact h
 |.loop live bk a,e,J,x,h=>by
  simp only[aV]at h;cases hq:O (.loop live bk a e J)with
  |none=>rw[hq]at h;cases h
  |some r=>exact(gK.ask hq).map λO' k=>by simp only[aV,k];rw[hq]at h;exact h
 |.Jw live f params zh body,e,J,x,h=>by
  simp only[aV]at h;split at h
  case h_2=>cases h
  rename_i l i J1 hn;cases hc:EK O (ba e f) [.kJ l i] J1 with
  |none=>rw[hc]at h;cases h
  |some y =>
   rw[hc]at h;exact(KE hc).map λO' k=>by simp only[aV,hn,k];exact h
theorem Jd{fv:D}{args:List D}{th:Option D}{J:SK}{r:R}(h:pA O fv args th J=some r):gK O (λO'=>pA O' fv args th J) r:=by
 cases fv<;>simp only[pA,reduceCtorEq]at h;exact(gK.ask h).map λO' h'=>by simp only[pA,h']
theorem KI{res:List CQ}{J:SK}{fv:D}{args:List D}{y:Exit×Env×SK}{r:R}(h:yF O res J fv args (some y)=some r):gK O (λO'=>yF O' res J fv args (some y)) r:=by
 obtain⟨x,e,J1⟩:=y;have one:∀th,uj res J e (pA O fv args th J1)=some r->gK O (λO'=>uj res J e (pA O' fv args th J1)) r:=by
  intro th h;cases hc:pA O fv args th J1 with
  |none=>rw[hc]at h;cases h
  |some rr=>exact(Jd hc).map λO' k=>by rw[k,<- hc];exact h
 cases x with
 |exit id=>simp[yF]at h
 |normal=>exact one none h
 |ret=>exact one none h
 |eA d=>exact one (some d) h
theorem KH{fn:Fn}{J:SK}{y:bX×bD×List bD×bX}{e0:Env}{J0:SK}{r:R}(h:yE O fn J (some y) e0 J0=some r):gK O (λO'=>yE O' fn J (some y) e0 J0) r:=by
 obtain⟨a,f,args,q⟩:=y;simp only[yE]at h;split at h
 case h_2=>cases h
 rename_i e J1 hA;cases hq:aV O q e J1 with
 |none=>rw[hq]at h;simp[yF]at h
 |some z =>
  rw[hq]at h;exact((bV hA).andThen (bV hq) λO' k1 k2=>(show(λO'=>(aV O' a e0 J0,aV O' q e J1) |> some) O'=some (some (.normal,e,J1),some z)by simp[k1,k2])).andThen (KI h) λO' k1 k2=>by
   simp only[ad,aj]at k1;simp only[yE,k1.1,k1.2,k2]
theorem xM:∀{c A:bX} {r:bD×List bD×bX} {e e1:Env} {J J1:SK},gG c=some (A,r)->aV O A e J=some (.normal,e1,J1)->aV O c e J=none
 |.OI f xs q,A,r,e,e1,J,J1,h,ha=>rfl
 |.seq a b,A,r,e,e1,J,J1,h,ha=>by
  simp only[gG,ab]at h;obtain⟨⟨A',r'⟩,h1,h2⟩:=h;cases h2;simp only[aV,af,Prod.exists]at ha;obtain⟨x2,e2,J2,h3,h4⟩:=ha;cases x2 with
  |normal=>simp only[aV,h3,Option.bind_some];exact xM h1 h4
  |_=>simp at h4
 |.FB,_,_,_,_,_,_,h,_ | .cn _,_,_,_,_,_,_,h,_ | .sy ..,_,_,_,_,_,_,h,_ | .ite ..,_,_,_,_,_,_,h,_ | .cT ..,_,_,_,_,_,_,h,_ | .loop ..,_,_,_,_,_,_,h,_
 |.VC ..,_,_,_,_,_,_,h,_ | .Jw ..,_,_,_,_,_,_,h,_ | .gv ..,_,_,_,_,_,_,h,_ | .Lh ..,_,_,_,_,_,_,h,_ | .exit _,_,_,_,_,_,_,h,_ | .ret,_,_,_,_,_,_,h,_=>by simp[gG]at h
theorem MD{c:bX}{y:bX×bD×List bD×bX}{fn:Fn}{J:SK}{e0:Env}{J0:SK}{r:R}(hs:gG c=some y)(h:yE O fn J (some y) e0 J0=some r):aV O c e0 J0=none:=by
 obtain⟨a,f,args,q⟩:=y;simp only[yE]at h;split at h
 case h_2=>cases h
 rename_i e J1 hA;exact xM hs hA
theorem CF{l i b:Nat}{rest:bX}{y:Option (Exit×Env×SK)}{r:R}(h:wL O l i b rest y=some r):gK O (λO'=>wL O' l i b rest y) r:=by
 cases y with
 |none=>simp[wL]at h
 |some y =>
 obtain⟨x,e,J1⟩:=y;cases x with
 |normal=>simp[wL]at h
 |eA d=>simp[wL]at h
 |ret=>exact .of λO'=>h
 |exit j =>
  simp only[wL]at h;by_cases hj:j=b
  .rw[if_pos hj]at h;simp only[ab]at h;obtain⟨z,h1,rfl⟩:=h;exact(bV h1).map λO' k=>by simp only[wL,if_pos hj,k,aQ]
  .rw[if_neg hj]at h;exact .of λO'=>by simp only[wL,if_neg hj];exact h
theorem ET{T:zQ}:∀{q:Q} {r:R},cI T O q=some r->gK O (λO'=>cI T O' q) r
 |.call kp f args J,r,h=>by
  simp only[cI]at h;cases hT:T f with
  |none =>
   rw[hT]at h;dsimp only at h;exact .of λO'=>by simp only[cI,hT];exact h
  |some fn =>
  rw[hT]at h;dsimp only at h;split at h
  case isFalse=>cases h
  rename_i hl;cases hc:aV O fn.body (kQ 0 args) (if kp then J else []::J)with
  |none =>
   rw[hc]at h;dsimp only at h;cases kp with
   |true=>simp at h
   |false =>
    simp only[ar,if_false]at h;cases hsp:gG fn.body with
    |none=>rw[hsp]at h;simp[yE]at h
    |some y =>
     rw[hsp]at h;refine(KH h).map λO' k=>?_
     have hn:aV O' fn.body (kQ 0 args) ([]::J)=none:=MD hsp k;simp only[cI,hT,if_pos hl,ar,if_false,hn,hsp,k]
  |some y =>
   rw[hc]at h;obtain⟨yx,ye,yJ⟩:=y;exact(bV hc).map λO' k=>by
    simp only[cI,hT,if_pos hl,k];cases yx<;>exact h
 |.loop live bk c e J,r,h=>by
  simp only[cI]at h;cases hc:aV O c (restrict live e) (if bk then []::J else J)with
  |none=>rw[hc]at h;cases h
  |some y =>
   obtain⟨x,e1,J1⟩:=y;rw[hc]at h;dsimp only at h;cases x with
   |normal =>
    dsimp only at h;exact(bV hc).andThen (gK.ask h) λO' k1 k2=>by simp only[cI,k1];exact k2
   |exit id=>exact(bV hc).map λO' k1=>by simp only[cI,k1];exact h
   |ret=>exact(bV hc).map λO' k1=>by simp only[cI,k1];exact h
   |eA d=>exact(bV hc).map λO' k1=>by simp only[cI,k1];exact h
 |.round l i args J,r,h=>by
  simp only[cI]at h;cases hb:dn J l i with
  |none=>rw[hb]at h;cases h
  |some bl =>
  rw[hb]at h;cases bl with
  |cells=>cases h
  |dead=>cases h
  |loop lp =>
  dsimp only at h;split at h
  case isFalse=>cases h
  rename_i hl;cases hc:aV O lp.zh (zD lp.params args lp.env) ([]::J)with
  |none=>rw[hc]at h;cases h
  |some y =>
  obtain⟨x,e1,J1⟩:=y;rw[hc]at h;cases x with
  |exit id=>cases h
  |ret=>cases h
  |eA d=>cases h
  |normal =>
  dsimp only at h;cases hb1:dn J1 l i with
  |none=>rw[hb1]at h;cases h
  |some bl1 =>
  rw[hb1]at h;cases bl1 with
  |cells=>cases h
  |dead=>cases h
  |loop lp1 =>
  dsimp only at h;split at h
  case isFalse=>cases h
  rename_i hs;cases hd:aV O lp.body e1 (aR J1 l i (.loop {lp1 with state:=1 }))with
  |none=>rw[hd]at h;cases h
  |some z =>
  rw[hd]at h;exact(bV hc).andThen (bV hd) λO' k1 k2=>by simp only[cI,hb,if_pos hl,k1,hb1,if_pos hs,k2];exact h
 |.xe f args th J,r,h=>by
  simp only[cI]at h;cases hT:T f with
  |none=>rw[hT]at h;cases h
  |some fn =>
  rw[hT]at h;dsimp only at h;split at h
  case isFalse=>cases h
  rename_i hl;cases hr:rG th args fn.body with
  |none=>rw[hr]at h;cases h
  |some y =>
  obtain⟨e0,q⟩:=y;rw[hr]at h;dsimp only at h;cases hc:aV O q e0 ([]::J)with
  |none=>rw[hc]at h;cases h
  |some z =>
   rw[hc]at h;exact(bV hc).map λO' k=>by simp only[cI,hT,if_pos hl,hr,k];exact h
 |.gv live it nx ok b c rest e J,r,h=>by
  simp only[cI]at h;cases hop:ba (restrict live e) it<;>rw[hop]at h<;>try (cases h;done)
  rename_i l i;dsimp only at h;split at h
  .rename_i m n js hit;cases hc:aV O c ((ok,.bool false)::(nx,.undef)::restrict live e) J with
   |none=>rw[hc]at h;simp[wL]at h
   |some y =>
    rw[hc]at h;exact(bV hc).andThen (CF h) λO' k k2=>by simp only[cI,hop,hit,k,k2]
  .rename_i m n js us hne hit;have one:∀u,zY O live it l i nx ok b c rest (aV O c ((ok,.bool true)::(nx,.undef)::restrict live e) (aR J l i (.cells 1 (m::.int .i64 (n:Nat)::.int .i64 (u:Nat)::js))))=some r ->
     gK O (λO'=>zY O' live it l i nx ok b c rest (aV O' c ((ok,.bool true)::(nx,.undef)::restrict live e) (aR J l i (.cells 1 (m::.int .i64 (n:Nat)::.int .i64 (u:Nat)::js))))) r:=by
    intro u hu;cases hc:aV O c ((ok,.bool true)::(nx,.undef)::restrict live e) (aR J l i (.cells 1 (m::.int .i64 (n:Nat)::.int .i64 (u:Nat)::js)))with
    |none=>rw[hc]at hu;simp[zY,wL]at hu
    |some y =>
     obtain⟨x,e1,J1⟩:=y;rw[hc]at hu;cases x with
     |normal=>exact(bV hc).andThen (gK.ask hu) λO' k1 k2=>by simp only[k1];exact k2
     |exit id=>exact(bV hc).andThen (CF (b:=b) (rest:=rest) (y:=some (.exit id,e1,J1)) hu) λO' k1 k2=>by simp only[k1];exact k2
     |ret=>exact(bV hc).andThen (CF (b:=b) (rest:=rest) (y:=some (.ret,e1,J1)) hu) λO' k1 k2=>by simp only[k1];exact k2
     |eA d=>simp[zY,wL]at hu
   have all:∀vs:List Nat,(∀v∈vs,zY O live it l i nx ok b c rest (aV O c ((ok,.bool true)::(nx,.undef)::restrict live e) (aR J l i (.cells 1 (m::.int .i64 (n:Nat)::.int .i64 (v:Nat)::js))))=some r) ->
     ∃L:List (Q×R),(∀p∈L,O p.1=some p.2)/\∀O':bI,(∀p∈L,O' p.1=some p.2)->∀v∈vs,zY O' live it l i nx ok b c rest (aV O' c ((ok,.bool true)::(nx,.undef)::restrict live e) (aR J l i (.cells 1 (m::.int .i64 (n:Nat)::.int .i64 (v:Nat)::js))))=some r:=by
    intro vs;induction vs with
    |nil=>intro _;exact⟨[],by simp,by simp⟩
    |cons v vs ih =>
     intro hv;obtain⟨L1,h1,h2⟩:=one v (hv v (by simp));obtain⟨L2,h3,h4⟩:=ih λv' hv'=>hv v' (by simp[hv'])
     refine⟨L1++L2,λp hp=>?_,λO' h' v' hv'=>?_⟩
     .rcases aZ.1 hp with hp | hp
      .exact h1 p hp
      .exact h3 p hp
     .rcases bw.1 hv' with rfl | hv'
      .exact h2 O' λp hp=>h' p (by simp[hp])
      .exact h4 O' (λp hp=>h' p (by simp[hp])) v' hv'
   obtain⟨L,h1,h2⟩:=all us (HM h);refine⟨L,h1,λO' h'=>?_⟩;have h3:=h2 O' h';simp only[cI,hop,hit];cases us with
   |nil=>first | exact(hne rfl).elim | exact(hne _ rfl).elim | exact(hne _ _ _ rfl).elim | exact hne.elim
   |cons v vs=>exact HO (by simp) h3
  .cases h
theorem MF{T:zQ}{O O':bI}(h:∀q r,O q=some r->O' q=some r){q:Q}{r:R}(hq:cI T O q=some r):cI T O' q=some r:=by
 obtain⟨L,h1,h2⟩:=ET hq;exact h2 O' λp hp=>h _ _ (h1 p hp)
theorem Dt{T:zQ}:∀{n m:Nat},n<=m->∀{q:Q} {r:R},it T n q=some r->it T m q=some r
 |0,m,_,q,r,h=>by simp[it]at h
 |n+1,0,hnm,q,r,h=>by omega
 |n+1,m+1,hnm,q,r,h=>MF (λ_ _ hh=>Dt (Nat.le_of_succ_le_succ hnm) hh) h
theorem tL{T:zQ}{q:Q}{r:R}:lim T q=some r↔∃n,it T n q=some r:=by
 constructor
 .intro h;unfold lim at h;split at h
  .rename_i hex;cases h;exact⟨_,hex.choose_spec.choose_spec⟩
  .cases h
 .rintro⟨n,h⟩;have hex:∃n r,it T n q=some r:=⟨n,r,h⟩;unfold lim;rw[dif_pos hex];have h1:=Dt (Nat.le_max_left n hex.choose) h;have h2:=Dt (Nat.le_max_right n hex.choose) hex.choose_spec.choose_spec;rw[h1]at h2;cases h2;rfl
theorem NA{T:zQ}:∀{L:List (Q×R)},(∀p∈L,lim T p.1=some p.2)->∃n,∀p∈L,it T n p.1=some p.2
 |[],_=>⟨0,by simp⟩
 |p::L,h=>by
  obtain⟨n,hn⟩:=NA (L:=L) λq hq=>h q (by simp[hq])
  obtain⟨m,hm⟩:=tL.1 (h p (by simp));refine⟨max n m,λq hq=>?_⟩;rcases bw.1 hq with rfl | hq
  .exact Dt (Nat.le_max_right n m) hm
  .exact Dt (Nat.le_max_left n m) (hn q hq)
theorem fZ{T:zQ}{q:Q}{r:R}(h:cI T (lim T) q=some r):lim T q=some r:=by
 obtain⟨L,h1,h2⟩:=ET h;obtain⟨n,hn⟩:=NA h1;exact tL.2 ⟨n+1,h2 (it T n) hn⟩
open Go.ChangeMaps (setBlock)
section
variable {P:Program} {T:zQ} {O:bI} {CR:eJ} {base:Nat} {g:G} {J:SK} {w:World}
theorem Inv.setIter(hi:Inv CR base g J w){l i b lm im bm n:Nat}{b0:aI}{js:List Nat}(hL:g.loc l i=some (.it b))(hb:dn J l i=some b0)(hm:g.loc lm im=some (.mp bm))(hnd:js.Nodup)(hlt:∀j∈js,j<n){w1:World}(hw1:w1=w\/w1=w.drew):
  Inv CR base (g.cj l i (.it b)) (aR J l i (.cells 1 (.kJ lm im::.int .i64 (n:Nat)::js.map (λj:Nat=>D.int .i64 j)))) (setBlock w1 b (.mapIter (some bm) n js.reverse.toArray n)) /\
   Ev g w (g.cj l i (.it b)) (setBlock w1 b (.mapIter (some bm) n js.reverse.toArray n)):=by
 have hlt':=(hi.lo l i _ b hL rfl).2;have hh:w1.heap=w.heap:=by rcases hw1 with rfl | rfl<;>rfl
 have hos:w1.os=w.os:=by rcases hw1 with rfl | rfl<;>rfl
 have htp:w1.tape=w.tape:=by rcases hw1 with rfl | rfl<;>rfl
 have hout:w1.output=w.output:=by rcases hw1 with rfl | rfl<;>rfl
 have hm2:(g.cj l i (.it b)).loc lm im=some (.mp bm):=by
  rw[G.bz λhc=>by rw[hc.1,hc.2,hL]at hm;cases hm];exact hm
 refine hi.setCells hL hb (Loc.le_refl _) ⟨rfl,lm,im,bm,n,js,rfl,hm2,?_,hnd,hlt⟩ (λb' hb' hne=>?_) hos htp hout (by simp[setBlock,hh]) (λb' hb' => .inl hb')
 .simp[setBlock,hh,hlt']
 .have:b≠b':=λhc=>hne (by rw[hc];rfl)
  simp[setBlock,hh,this]
theorem Inv.TI(hi:Inv CR base g J w){l i b:Nat}{L:Loc}{b0:aI}(hL:g.loc l i=some L)(hd:L=.it b\/L=.dead)(hb:dn J l i=some b0):
  Inv CR base (g.cj l i .dead) (aR J l i .dead) w/\Ev g w (g.cj l i .dead) w:=by
 have hle:g.le (g.cj l i .dead):=G.jg λL0 e=>by rw[hL]at e;cases e;rcases hd with rfl | rfl<;>simp[Loc.le]
 refine⟨hi.DM l i hle (λl' i' c=>dI c) (λl' i' c=>G.bz c) (λ_ _ _ _ _ _ _=>rfl) ?_ hi.oc ?_ ?_ (aH _) ⟨_,G.aE⟩ (λ_ _ _=>rfl),⟨hle,rfl,rfl,rfl,aH _,λ_ _ _=>rfl,?_,λb o v hv => .inl hv⟩⟩
 .intro L e;rw[G.aE]at e;cases e;exact⟨_,na hb,trivial⟩
 .intro l' i' L b e eb o;by_cases c:l'=l/\i'=i
  .obtain⟨rfl,rfl⟩:=c;rw[G.aE]at e;cases e;cases eb
  .rw[G.bz c]at e;exact hi.sep l' i' L b e eb o
 .intro L b e eb;rw[G.aE]at e;cases e;cases eb
 .intro b hb';obtain⟨l',i',L,e,eb⟩:=hb';by_cases c:l'=l/\i'=i
  .obtain⟨rfl,rfl⟩:=c;rw[G.aE]at e;cases e;cases eb
  .rw[G.bz c]at e;exact .inl ⟨l',i',L,e,eb⟩
theorem O0{l i n:Nat}{m:D}{js:List D}{us:List Nat}(h:EX J l i=some (m,n,js,us)):
  ∃lm im es,cells? J l i 1=some (m::.int .i64 (n:Nat)::js)/\Ai J m=some (lm,im,es)/\es.length=n/\us=(List.range n).filter λj:Nat => !(js.contains (.int .i64 j)):=by
 unfold EX at h;split at h
 case h_2=>cases h
 rename_i m' n' js' hc;split at h
 case h_2=>cases h
 rename_i lm im es hm;split at h
 case isFalse=>cases h
 rename_i hl;cases h;exact⟨lm,im,es,by rw[hl];exact hc,hm,rfl,rfl⟩
theorem vK.map{S:Frame->Prop}{g g':G}{b:Frame}{a:Act}{todo:List Item}{x:Exit}(hg:∀d v,d.clean=true->bB g d v->bB g' d v)(h:vK S g b a todo x):vK S g' b a todo x:=by
 cases x with
 |eA d=>obtain⟨h0,v,h1,h2⟩:=h;exact⟨h0,v,hg _ _ h0 h1,h2⟩
 |_=>exact h
theorem KW(hm:P.follows .mixedOrders=true)(hO:yz P (ix P) O){live:List Nat}{it:bD}{nx ok bid:Nat}{c rest:bX}{e:Env}{J:SK}{r:R}
  (h:cI T O (.gv live it nx ok bid c rest e J)=some r):EA P (ix P) (.gv live it nx ok bid c rest e J) r:=by
 cases r with
 |val=>trivial
 |eA=>trivial
 |B6 x e' J' =>
 intro ann cT rid ops p n it0 qs hit hmap hc hrest base g0 w0 b a k cs g w B ha;subst hit;obtain⟨rid',ops',p',heq,o0,o1,hops,h1,h2,h3,h4,h5,h6,c1,c2,c3,c4,c5⟩:=GF hmap;cases heq;simp only[cI]at h;have har:=ha.restrict live;cases hop:ba (restrict live e) (.t it0)<;>rw[hop]at h<;>try (cases h;done)
 rename_i l i;dsimp only at h;cases hitd:EX J l i with
 |none=>rw[hitd]at h;cases h
 |some y =>
 obtain⟨m,n',js,us⟩:=y;obtain⟨lm,im,es,hcs,hmd,hes,hus⟩:=O0 hitd;obtain⟨tmps,df⟩:=a;have hiv:bB g (.kJ l i) (tmps.getD it0 Go.undef):=by
  have h0:=har.fr.strip it0;simp only[ba]at hop;rw[hop]at h0;exact h0
 have hblk:∃cs',dn J l i=some (.cells 1 cs')/\cs'=m::.int .i64 (n':Nat)::js:=by
  unfold cells? at hcs;split at hcs
  case h_2=>cases hcs
  rename_i v' cs' hb;split at hcs
  case isFalse=>cases hcs
  rename_i hv;subst hv;cases hcs;exact⟨_,hb,rfl⟩
 obtain⟨cs',hblk,rfl⟩:=hblk;obtain⟨bi,bm,lm',im',js',hpt,hloc,hjs,hml,hheap,hnd,hlt⟩:∃bi bm lm' im',∃js':List Nat,tmps.getD it0 Go.undef=.pointer (some ⟨bi,0,none⟩)/\g.loc l i=some (.it bi)/\(m=.kJ lm' im'/\js=js'.map (λj:Nat=>D.int .i64 j))/\g.loc lm' im'=some (.mp bm) /\
   w.heap[bi]?=some (.mapIter (some bm) n' js'.reverse.toArray n')/\js'.Nodup/\∀j∈js',j<n':=by
  generalize tmps.getD it0 Go.undef=cv at hiv;cases hiv with
  |kJ _ _ bb r1 =>
   obtain⟨b0,hb0,hrel⟩:=ha.inv.vQ _ _ _ r1;rw[hblk]at hb0;cases hb0;exact hrel.elim
  |NF _ _ bb r1 =>
   obtain⟨b0,hb0,hrel⟩:=ha.inv.vQ _ _ _ r1;rw[hblk]at hb0;cases hb0;obtain⟨h0,_⟩:=hrel;cases h0
  |Oz _ _ bb L r1 r2 =>
   obtain⟨b0,hb0,hrel⟩:=ha.inv.vQ _ _ _ r1;rw[hblk]at hb0;cases hb0;rcases r2 with⟨c,rfl⟩ | rfl
   .obtain⟨h0,_⟩:=hrel;cases h0
   .exact hrel.elim
  |Rf _ _ bb L r1 r2 =>
   obtain⟨b0,hb0,hrel⟩:=ha.inv.vQ _ _ _ r1;rw[hblk]at hb0;cases hb0;rcases r2 with rfl | rfl
   rotate_left
   .exact hrel.elim
   obtain⟨_,lm',im',bm,n2,js',hce,hlm,hh,hnd,hlt⟩:=hrel;simp only[gn,D.int.injEq,true_and]at hce;obtain⟨rfl,hn2,rfl⟩:=hce;have hn2:n'=n2:=by omega
   subst hn2;exact⟨bb,bm,lm',im',js',rfl,r1,⟨rfl,rfl⟩,hlm,hh,hnd,hlt⟩
 obtain⟨rfl,rfl⟩:=hjs;obtain⟨b2,cK,clock,v2,hc2,hl2,hblk2,hheap2,hrel2,hok⟩:=yL ha.inv (.NF lm' im' bm hml) hmd;cases hc2;have hlen2:es.length=cK.toList.length:=by have:=hrel2.length;simpa using this
 have hck:clock=n':=by rw[hok.2];omega
 subst hck;have hborn:∀y∈cK.toList,y.born<clock:=by
  intro y hy;have h0:y.born∈cK.toList.map (·.born):=bO.2 ⟨y,hy,rfl⟩;rw[hok.1]at h0;have:=List.mem_range.1 h0;omega
 have ho0:ops[0]?=some o0:=by have:=congrArg (·[0]?) hops;simpa using this
 have ho1:ops[1]?=some o1:=by have:=congrArg (·[1]?) hops;simpa using this
 have hsize:ops.size=2:=by have:=congrArg List.length hops;simpa using this
 have hw0:∀a:Act,Region.wanted o0 (yielded ops a.tmps)=true:=λa=>by simp[Region.wanted,h3]
 have hw1:∀a:Act,Region.wanted o1 (yielded ops a.tmps)=true:=λa=>by simp[Region.wanted,h6]
 have hnd0:∀c,o0.op ≠ .defer c:=by intro c hc;rw[h1]at hc;cases hc
 have hnd1:∀c,o1.op ≠ .defer c:=by intro c hc;rw[h4]at hc;cases hc
 have region:∀(bv:Bool) (vs:Array Value) (w1:World) (g1:G) (J1:SK),(execOp (Act.mk tmps df).eval o0).run P w=.ok (.value (.tuple (#[.bool bv]++vs))) w1->Ev g w g1 w1->Inv (ix P) base g1 J1 w1->eB J J1 ->
   ∃a1,Steps P (lone (b.atR ⟨tmps,df⟩ (.code (.seq (.region rid ops false) p)::.inLoop (.seq (.region rid ops false) p)::.inBlock bid::(qs.toList.map Item.code++k))) cs w)
    (lone (b.atR a1 (.code p::.inLoop (.seq (.region rid ops false) p)::.inBlock bid::(qs.toList.map Item.code++k))) cs w1)/\At (ix P) base ann.cZ g0 w0 n b g1 w1 B ((ok,.bool bv)::(nx,.undef)::restrict live e) J1 a1:=by
  intro bv vs w1 g1 J1 hrun he hi hgo;have hts:tmps.size=n:=ha.size;have ha1:At (ix P) base ann.cZ g0 w0 n b g1 w1 B ((nx,.undef)::restrict live e) J1 ((Act.mk tmps df).put (some nx) (.tuple (#[.bool bv]++vs))):=by
   refine har.go he hi hgo ?_ AX put_defers;exact(har.fr.ev he).put (dst:=some nx) (d:=.undef) (ch.of (.undef _)) (λt ht=>by cases ht;exact c4) (λt ht=>by cases ht;rw[hts];exact c1)
  have hget:((Act.mk tmps df).put (some nx) (.tuple (#[.bool bv]++vs))).eval (.tmp nx)=.tuple (#[.bool bv]++vs):=by
   simp[Act.eval,Act.put,hts,c1]
  have hrun1:(execOp ((Act.mk tmps df).put (some nx) (.tuple (#[.bool bv]++vs))).eval o1).run P w1=.ok (.value (.bool bv)) w1:=by
   simp only[execOp,h4,hget];have hz:(#[Value.bool bv]++vs)[0]?=some (.bool bv):=by
    rw[Array.getElem?_append_left (by simp)];rfl
   simp[Instr.extract,hz]
  have ha2:At (ix P) base ann.cZ g0 w0 n b g1 w1 B ((ok,.bool bv)::(nx,.undef)::restrict live e) J1 (((Act.mk tmps df).put (some nx) (.tuple (#[.bool bv]++vs))).put (some ok) (.bool bv)):=by
   refine ha1.go (Ev.refl g1 w1) hi (.refl _) ?_ AX put_defers;exact ha1.fr.put (dst:=some ok) (d:=.bool bv) (ch.of (.bool bv)) (λt ht=>by cases ht;exact c5) (λt ht=>by cases ht;rw[ha1.size];exact c2)
  refine⟨_,.head stepR_seq (.head stepR_region ?_),ha2⟩;rw[hsize];have s0:=wW (P:=P) (b:=b) (a:=⟨tmps,df⟩) (k:=.code p::.inLoop (.seq (.region rid ops false) p)::.inBlock bid::(qs.toList.map Item.code++k)) (cs:=cs) (rest:=[1]) ho0 (hw0 _) hnd0 hrun rfl;rw[h2]at s0;have s1:=wW (P:=P) (b:=b) (k:=.code p::.inLoop (.seq (.region rid ops false) p)::.inBlock bid::(qs.toList.map Item.code++k)) (cs:=cs) (rest:=[]) ho1 (hw1 _) hnd1 hrun1 rfl;rw[h5]at s1;exact .head s0 (.head s1 (.one (stepR_region_end (ops:=ops))))
 have hnext:∀(w:World),(Instr.next (.pointer (some ⟨bi,0,none⟩)) false o0.type).run P w=(Instr.next (.pointer (some ⟨bi,0,none⟩)) false o0.type).run P w:=λ_=>rfl
 have hev0:(Act.mk tmps df).eval (.tmp it0)=.pointer (some ⟨bi,0,none⟩):=hpt;have finish:∀(y:Exit×Env×SK) (g1:G) (w1:World) (B1:Nat->Nat) (a1:Act) (t1:List Item) (Jm:SK) (wm:World) (am:Act) (gm:G),wL O l i bid rest (some y)=some (.B6 x e' J')->g.le g1->eB J y.2.2 ->
   Steps P (lone (b.atR ⟨tmps,df⟩ (.code (.seq (.region rid ops false) p)::.inLoop (.seq (.region rid ops false) p)::.inBlock bid::(qs.toList.map Item.code++k))) cs w)
    (lone (b.atR am (.code p::.inLoop (.seq (.region rid ops false) p)::.inBlock bid::(qs.toList.map Item.code++k))) cs wm) ->
   vK (λfr=>Steps P (lone (b.atR am (.code p::.inLoop (.seq (.region rid ops false) p)::.inBlock bid::(qs.toList.map Item.code++k))) cs wm) (lone fr cs w1)) g1 b a1 t1 y.1 ->
   At (ix P) base ann.cZ g0 w0 n b g1 w1 B1 y.2.1 y.2.2 a1->zP (.inLoop (.seq (.region rid ops false) p)::.inBlock bid::(qs.toList.map Item.code++k)) y.1 t1 ->
   ∃g' w' B' a' todo,vK (λfr=>Steps P (lone (b.atR ⟨tmps,df⟩ (.code (.seq (.region rid ops false) p)::.inLoop (.seq (.region rid ops false) p)::.inBlock bid::(qs.toList.map Item.code++k))) cs w) (lone fr cs w')) g' b a' todo x /\
    At (ix P) base ann.cZ g0 w0 n b g' w' B' e' J' a'/\g.le g'/\zP k x todo/\eB J J':=by
  intro y g1 w1 B1 a1 t1 Jm wm am gm hme hle hgo s1 s2 hA hLd;obtain⟨y1,e1,J1⟩:=y;obtain⟨L1,hL1,hle1⟩:=hle.loc l i _ hloc;have hLd1:L1=.it bi\/L1=.dead:=hle1;obtain⟨bb,hbb,_⟩:=hA.inv.vQ l i _ hL1;obtain⟨i2,e2⟩:=hA.inv.TI hL1 hLd1 hbb;have hgo2:eB J1 (aR J1 l i .dead):=eB.set λ_=>trivial
  have hA2:At (ix P) base ann.cZ g0 w0 n b (g1.cj l i .dead) w1 B1 e1 (aR J1 l i .dead) a1:=hA.go e2 i2 hgo2 (hA.fr.ev e2) rfl rfl;cases y1 with
  |normal=>simp[wL]at hme
  |eA d=>simp[wL]at hme
  |ret =>
   simp only[wL,ad,R.B6.injEq]at hme;obtain⟨rfl,rfl,rfl⟩:=hme;obtain⟨k',rfl⟩:=hLd;exact⟨_,w1,B1,a1,_,Steps.trans s1 s2,hA2,hle.trans' e2.le,⟨k',rfl⟩,hgo.trans hgo2⟩
  |exit j =>
   obtain⟨k',rfl,hk'⟩:=hLd;simp only[wL]at hme;split at hme
   .rename_i hj;subst hj;simp only[ab,Prod.exists,R.B6.injEq]at hme;obtain⟨x',e'',J'',hac,rfl,rfl,rfl⟩:=hme;have hout:Steps P (lone (b.atR ⟨tmps,df⟩ (.code (.seq (.region rid ops false) p)::.inLoop (.seq (.region rid ops false) p)::.inBlock j::(qs.toList.map Item.code++k))) cs w) (lone (b.atR a1 (qs.toList.map Item.code++k)) cs w1) :=
     Steps.trans s1 (Steps.trans s2 (.one (stepR_exit (by rw[hk'];simp[exitTo]))))
    cases qs with
    |none =>
     obtain rfl:rest=.FB:=hrest;simp only[aV,ad,aj]at hac;obtain⟨rfl,rfl,rfl⟩:=hac;exact⟨_,w1,B1,a1,k,hout,hA2,hle.trans' e2.le,rfl,hgo.trans hgo2⟩
    |some q =>
     obtain⟨g3,w3,B3,a3,t3,k1,k2,k3,k4,k5⟩:=sZ (b:=b) (cs:=cs) (k:=k) hm hO q hrest hac hA2;exact⟨g3,w3,B3,a3,t3,k1.imp λ_ hs=>Steps.trans hout hs,k2,(hle.trans' e2.le).trans' k3,k4,(hgo.trans hgo2).trans k5⟩
   .rename_i hj;simp only[ad,R.B6.injEq]at hme;obtain⟨rfl,rfl,rfl⟩:=hme;refine⟨_,w1,B1,a1,_,Steps.trans s1 s2,hA2,hle.trans' e2.le,⟨k',rfl,?_⟩,hgo.trans hgo2⟩;rw[hk'];simp only[exitTo];rw[if_neg (by simpa using Ne.symm hj)];cases qs<;>rfl
 rw[hitd]at h;rcases run_next_at (P:=P) w o0.type bi bm clock clock js'.reverse.toArray cK clock hheap hheap2 hborn (aH _)with⟨hz,hrun⟩ | ⟨en,hen,w1,hw1',hrun⟩
 ·
  have hus0:us=[]:=by
   rw[hus,List.filter_eq_nil_iff];intro j hj;have hjlt:=List.mem_range.1 hj;have h0:j∈cK.toList.map (·.born):=by rw[hok.1];exact List.mem_range.2 (by omega)
   obtain⟨y,hy,rfl⟩:=bO.1 h0;have hnone:leftOf cK js'.reverse.toArray = #[]:=Array.eq_empty_of_size_eq_zero hz;unfold leftOf at hnone;rw[Array.filter_eq_empty_iff]at hnone;have h1:=hnone y (by simpa using hy);simp only[cG,Bool.not_eq_false,List.contains_toArray,List.contains_eq_mem,List.mem_reverse,ao,Bool.not_eq_true]at h1 ⊢;simp at h1 ⊢;exact⟨_,h1,rfl⟩
  subst hus0;dsimp only at h;obtain⟨a1,s1,hA1⟩:=region false #[] w g J (by simp only[execOp,h1,hev0,Sem.run_bind,hrun,Result.andThen_ok,Sem.run_pure];rfl) (Ev.refl g w) ha.inv (.refl J);cases hac:aV O c ((ok,.bool false)::(nx,.undef)::restrict live e) J with
  |none=>rw[hac]at h;simp[wL]at h
  |some y =>
   rw[hac]at h;obtain⟨y1,ey,Jy⟩:=y;obtain⟨g2,w2,B2,a2,t2,k1,k2,k3,k4,k5⟩:=sZ (b:=b) (cs:=cs) (k:=.inLoop (.seq (.region rid ops false) p)::.inBlock bid::(qs.toList.map Item.code++k)) hm hO p hc hac hA1;exact finish (y1,ey,Jy) g2 w2 B2 a2 t2 J w a1 g h k3 k5 s1 k1 k2 k4
 ·
  have henm:en∈cK.toList/\en.born ∉ js':=by
   unfold leftOf at hen;simp at hen;simpa using hen
  have hbn:en.born<clock:=hborn en henm.1;have hmem:en.born∈us:=by
   rw[hus];simp only[cF,List.mem_range,cG,hbn,true_and];simp;intro x hx hxe;have:x=en.born:=by omega
   subst this;exact henm.2 hx
  have hans:zY O live (.t it0) l i nx ok bid c rest (aV O c ((ok,.bool true)::(nx,.undef)::restrict live e) (aR J l i (.cells 1 (.kJ lm' im'::.int .i64 (clock:Nat)::.int .i64 (en.born:Nat)::js'.map (λj:Nat=>D.int .i64 j)))))=some (.B6 x e' J'):=by
   split at h
   .rename_i hsm;cases hsm;simp at hmem
   .rename_i hsm;cases hsm;exact HM h en.born hmem
   .rename_i hsm;cases hsm
  obtain⟨i1,e1⟩:=ha.inv.setIter (js:=en.born::js') hloc hblk hml (List.nodup_cons.2 ⟨henm.2,hnd⟩) (by
   intro j hj;rcases bw.1 hj with rfl | hj
   .exact hbn
   .exact hlt j hj) hw1'
  have hgo1:eB J (aR J l i (.cells 1 (.kJ lm' im'::.int .i64 (clock:Nat)::.int .i64 (en.born:Nat)::js'.map (λj:Nat=>D.int .i64 j)))):=by
   refine eB.mk dD λhS=>hS.set λhl=>?_
   have h0:=hS l i _ hblk hl;simp only[aI.low,D.mY,D.low,ae,Bool.true_and]at h0 ⊢;exact h0
  have hpush:js'.reverse.toArray.push en.born=(en.born::js').reverse.toArray:=by simp
  rw[hpush]at hrun;obtain⟨a1,s1,hA1⟩:=region true #[en.key,en.val] _ _ _ (by simp only[execOp,h1,hev0,Sem.run_bind,hrun,Result.andThen_ok,Sem.run_pure];rfl) e1 i1 hgo1;simp only[aN]at hA1;cases hac:aV O c ((ok,.bool true)::(nx,.undef)::restrict live e) (aR J l i (.cells 1 (.kJ lm' im'::.int .i64 (clock:Nat)::.int .i64 (en.born:Nat)::js'.map (λj:Nat=>D.int .i64 j))))with
  |none=>rw[hac]at hans;simp[zY,wL]at hans
  |some y =>
   rw[hac]at hans;obtain⟨y1,ey,Jy⟩:=y;obtain⟨g2,w2,B2,a2,t2,k1,k2,k3,k4,k5⟩:=sZ (b:=b) (cs:=cs) (k:=.inLoop (.seq (.region rid ops false) p)::.inBlock bid::(qs.toList.map Item.code++k)) hm hO p hc hac hA1;cases y1 with
   |normal =>
    simp only[zY]at hans;obtain rfl:=k4;obtain⟨g3,w3,B3,a3,t3,m1,m2,m3,m4,m5⟩:=hO _ _ hans ann cT rid ops p n it0 qs rfl hmap hc hrest base g0 w0 b a2 k cs g2 w2 B2 k2;exact⟨g3,w3,B3,a3,t3,m1.imp λ_ hs=>Steps.trans s1 (Steps.trans k1 (.head stepR_inLoop hs)),m2,(e1.le.trans' k3).trans' m3,m4,(hgo1.trans k5).trans m5⟩
   |exit j=>exact finish (.exit j,ey,Jy) g2 w2 B2 a2 t2 J _ a1 g hans (e1.le.trans' k3) (hgo1.trans k5) s1 k1 k2 k4
   |ret=>exact finish (.ret,ey,Jy) g2 w2 B2 a2 t2 J _ a1 g hans (e1.le.trans' k3) (hgo1.trans k5) s1 k1 k2 k4
   |eA d=>simp[zY,wL]at hans
end
theorem kW.cut{fb:Nat}{V:List Nat}{g:G}{w:World}{B:Nat->Nat}{e0:Env}{tmps:Array Value}{p:Nat×D}{n:Nat}(h:kW fb V g w B e0 tmps p)(hl:p.2.low n=true):kW fb V (g.cut n) w B e0 tmps p:=by
 obtain⟨t,d⟩:=p;unfold kW at h ⊢;dsimp only at h ⊢ hl;split
 .rename_i s cs;obtain⟨h1,h2,h3,h4⟩:=h;obtain⟨c,el,k1,k2,k3⟩:=h4.cT;exact⟨h1,h2,h3,h4.lo,λhh=>h4.free (G.Ft hh),h4.rz,c,el,k1,k2.cut hl,k3⟩
 .rename_i hd;cases d with
  |own s cs=>exact absurd rfl (hd s cs)
  |_=>exact bB.cut h hl
theorem Wv{g g':G}{n:Nat}(h:g.le g')(hn:∀l i L,g.loc l i=some L->l<n):g.le (g'.cut n) :=
 ⟨λl i L e=>by rw[G.rZ (hn l i L e)];exact h.loc l i L e,h.oc⟩
section
variable {P:Program} {T:zQ} {O:bI}
theorem Mh(hm:P.follows .mixedOrders=true)(hO:yz P (ix P) O){live:List Nat}{bk:Bool}{c:bX}{env:Env}{J:SK}{r:R}
  (h:cI T O (.loop live bk c env J)=some r):EA P (ix P) (.loop live bk c env J) r:=by
 simp only[cI]at h;cases hac:aV O c (restrict live env) (if bk then []::J else J)with
 |none=>simp[hac]at h
 |some y =>
 obtain⟨x,e1,J1⟩:=y;rw[hac]at h;dsimp only at h;have DM:∀e2 J2,(if bk then(let r:=pw (J.length-1) (restrict (yo live x e1) e1) J1;(r.1,r.2.tail))else(e1,J1))=(e2,J2) ->
   ∀(ann:tW) cT code n,bQ P ann n cT code=some c->∀base g0 w0 b a k cs g w B,At (ix P) base ann.cZ g0 w0 n b g w B env J a ->
   Ends P ann n base g0 w0 b cs g w a (.code code::.inLoop code::k) (.inLoop code::k) J x e2 J2:=by
  intro e2 J2 he ann cT code n hc base g0 w0 b a k cs g w B ha;cases bk with
  |false =>
   simp only[ar,if_false,aj]at he hac;obtain⟨rfl,rfl⟩:=he;exact sZ hm hO code hc hac (ha.restrict live)
  |true =>
   simp only[if_true]at he hac;have ha1:At (ix P) base ann.cZ g0 w0 n b g w B (restrict live env) ([]::J) a :=
    {ha.restrict live with inv:=ha.inv.push,low:=ha.low.push ha.inv,pos:=by simp }
   obtain⟨g1,w1,B1,a1,todo,k1,k2,k3,k4,k5⟩:=sZ (cs:=cs) (k:=.inLoop code::k) hm hO code hc hac ha1;have hents:=k2.fr.cK (yo live x e1);obtain⟨g2,i2,ev2,hents2⟩:=I7 (CR:=ix P) (base:=base) (J.length-1) _ J1 g1 k2.inv hents;obtain⟨hlow,hgo⟩:=Ee (J.length-1) (restrict (yo live x e1) e1) J1;cases hfz:pw (J.length-1) (restrict (yo live x e1) e1) J1 with
   |mk e3 J3 =>
   rw[hfz]at he i2 hents2 hlow hgo;simp only[aj]at he;obtain⟨rfl,rfl⟩:=he;have hl3:pV J3:=hgo.low k2.low;have hlen3:J3.length=J.length+1:=by
    have h1:=hgo.len;have h2:=k5.len;simp at h1 h2;omega
   cases J3 with
   |nil=>simp at hlen3
   |cons s J2 =>
   have hlen2:J2.length=J.length:=by simpa using hlen3
   have hpos:=ha.pos;rw[show J.length-1+1=J2.length from by omega]at hlow;have hlvl:∀l i L,g.loc l i=some L->l<J2.length:=λl i L h=>by rw[hlen2];exact ha.inv.lvl h
   have hlvl0:∀l i L,g0.loc l i=some L->l<J2.length:=λl i L h=>by
    obtain⟨L',h',_⟩:=ha.ev.le.loc l i L h;exact hlvl l i L' h'
   obtain⟨i3,l3⟩:=i2.pop hl3;obtain⟨rs,hmk⟩:=k2.marks;have hmk2:=hmk.ev ev2;have hle:g.le (g2.cut J2.length):=Wv (k3.trans' ev2.le) hlvl;refine⟨g2.cut J2.length,w1,B1,a1,todo,k1.map λd v hcl hv=>(hv.mono ev2.le).cut (pW hcl),⟨kW.fr k2.fr λp hp=>(hents2 p hp).cut (hlow p hp),(k2.ev.trans ev2).cut hlvl0,i3,l3,by simpa[hlen2]using hpos,k2.size,⟨rs,hmk2.eq,hmk2.nodup,λr hr=>?_⟩,uy ha.round hle⟩,hle,k4,⟨hlen2,λ_=>l3⟩⟩;have:=hmk2.all r hr;exact⟨this.lo,λhh=>this.free (G.Ft hh),this.rz,this.cT⟩
 cases hfin:(if bk then(let r:=pw (J.length-1) (restrict (yo live x e1) e1) J1;(r.1,r.2.tail))else(e1,J1))with
 |mk e2 J2 =>
 have turn':=DM e2 J2 hfin;rw[hfin]at h;dsimp only at h;cases x with
 |normal =>
  dsimp only at h;have hans:=hO _ _ h;cases r with
  |val=>trivial
  |eA=>trivial
  |B6 x e' J' =>
   obtain⟨hx,hloop⟩:=hans;refine⟨hx,λann cT code n hc base g0 w0 b a k cs g w B ha=>?_⟩;obtain⟨g1,w1,B1,a1,todo,k1,k2,k3,k4,k5⟩:=turn' ann cT code n hc base g0 w0 b a k cs g w B ha;obtain rfl:=k4;obtain⟨g2,w2,B2,a2,todo2,m1,m2,m3,m4,m5⟩:=hloop ann cT code n hc base g0 w0 b a1 k cs g1 w1 B1 k2;exact⟨g2,w2,B2,a2,todo2,m1.imp λ_ hs=>Steps.trans k1 (.head stepR_inLoop hs),m2,k3.trans' m3,m4,k5.trans m5⟩
 |exit id =>
  cases h;refine⟨by simp,λann cT code n hc base g0 w0 b a k cs g w B ha=>?_⟩;obtain⟨g1,w1,B1,a1,todo,k1,k2,k3,k4,k5⟩:=turn' ann cT code n hc base g0 w0 b a k cs g w B ha;exact⟨g1,w1,B1,a1,todo,k1,k2,k3,k4.skip (λ_=>by simp) (by simp),k5⟩
 |ret =>
  cases h;refine⟨by simp,λann cT code n hc base g0 w0 b a k cs g w B ha=>?_⟩;obtain⟨g1,w1,B1,a1,todo,k1,k2,k3,k4,k5⟩:=turn' ann cT code n hc base g0 w0 b a k cs g w B ha;exact⟨g1,w1,B1,a1,todo,k1,k2,k3,k4.skip (λ_=>by simp) (by simp),k5⟩
 |eA d =>
  cases h;refine⟨by simp,λann cT code n hc base g0 w0 b a k cs g w B ha=>?_⟩;obtain⟨g1,w1,B1,a1,todo,k1,k2,k3,k4,k5⟩:=turn' ann cT code n hc base g0 w0 b a k cs g w B ha;exact⟨g1,w1,B1,a1,todo,k1,k2,k3,trivial,k5⟩
theorem GO{g:G}:∀(ts:List Nat) (ds:List D) (vs:List Value) (e:Env) (tmps:Array Value),bA g ds vs->ds.length=ts.length->(∀t∈ts,t<tmps.size)->xU g e tmps ->
  xU g (zD ts ds e) ((ts.zip vs).foldl (λtmps (t,a)=>tmps.setIfInBounds t a) tmps)/\((ts.zip vs).foldl (λtmps (t,a)=>tmps.setIfInBounds t a) tmps).size=tmps.size
 |[],ds,vs,e,tmps,hr,hl,hs,he=>by
  have:ds=[]:=by simpa using hl
  subst this;exact⟨he,rfl⟩
 |t::ts,[],vs,e,tmps,hr,hl,hs,he=>by simp at hl
 |t::ts,d::ds,vs,e,tmps,hr,hl,hs,he=>by
  cases hr with
  |cons _ c _ cs h1 h2 =>
   have he2:xU g ((t,d)::e) (tmps.setIfInBounds t c):=λu=>by
    simp only[get];rw[bU];by_cases hu:t=u
    .subst hu;rw[if_pos rfl];simpa[hs t (by simp)]using h1
    .rw[if_neg hu,Array.getElem?_setIfInBounds_ne hu,<- bU];exact he u
   obtain⟨k1,k2⟩:=GO ts ds cs ((t,d)::e) (tmps.setIfInBounds t c) h2 (by simpa using hl) (λu hu=>by simpa using hs u (by simp[hu])) he2;exact⟨k1,by simpa using k2⟩
theorem xU.fr{g:G}{w:World}{e:Env}{tmps:Array Value}{fb:Nat}{V:List Nat}{B:Nat->Nat}(h:xU g e tmps):Fr fb V g w B e tmps:=by
 have hno:∀t s cs,get e t ≠ .own s cs:=λt s cs=>NL (h t) s cs
 refine⟨λt=>?_,λt s cs ht=>absurd ht (hno t s cs),λt t' s s' cs cs' ht=>absurd ht (hno t s cs)⟩;have:=h t;cases hd:get e t with
 |own s cs=>trivial
 |vr=>rw[hd]at this;cases this
 |emp=>rw[hd]at this;cases this
 |_=>rw[hd]at this;exact this
theorem vK.steps{S:Frame->Prop}{g:G}{b:Frame}{a:Act}{todo:List Item}{x:Exit}(hx:∀d,x ≠ .eA d)(h:vK S g b a todo x):S (b.atR a todo):=by
 cases x with
 |eA d=>exact absurd rfl (hx d)
 |_=>exact h
theorem K1(hm:P.follows .mixedOrders=true)(hO:yz P (ix P) O){l i:Nat}{args:List D}{J:SK}{r:R}
  (h:cI T O (.round l i args J)=some r):EA P (ix P) (.round l i args J) r:=by
 simp only[cI]at h;split at h
 case h_2=>cases h
 rename_i lp hlp;split at h
 case isFalse=>cases h
 rename_i hlen;split at h
 case h_2=>cases h
 rename_i e1 J1 hasg;split at h
 case h_2=>cases h
 rename_i lp1 hlp1;split at h
 case isFalse=>cases h
 rename_i hst;split at h
 case h_2=>cases h
 rename_i x e2 s J2 hbody;split at h
 case h_2=>cases h
 rename_i lp2 hlp2;have hxt:∀d,x ≠ .eA d:=by
  intro d hd;subst hd;cases h
 have walk:∀base g w (vs:Array Value) b,Inv (ix P) base g J w->pV J->0<J.length->bA g args vs.toList->bB g (.kJ l i) (.func (.yield b) #[] #[]) ->
   ∃f tmps zh body,(Instr.yield b vs).run P w=.ok (.round b f tmps zh body) w/\∀cs,∃fb a' todo g' w' r2,Steps P (lone (Frame.round b f tmps zh body .normal) cs w) (lone (Frame.atR fb a' todo) cs w') /\
    fb.roundOf=some b/\fb.kind=.normal/\zP [] x todo/\Ev g w g' w'/\Inv (ix P) base g' J2 w'/\pV J2/\J2.length=J.length/\g'.loc l i=some (.lp b)/\w'.heap[b]?=some (.loop r2)/\y8 (ix P) g' lp2 r2:=by
  intro base g w vs b hi hl hp hr hy;cases hy with
  |kJ _ _ _ hL =>
  obtain⟨b0,hb0,hrel⟩:=hi.vQ l i _ hL;rw[hlp]at hb0;cases hb0;obtain⟨r,hheap,hR⟩:=hrel;have hpar:r.params.toList=lp.params:=hR.params;have hsize:vs.size=r.params.size:=by
   have h1:=hr.length;have h2:r.params.toList.length=lp.params.length:=by rw[hpar]
   simp at h1 h2;omega
  have hyield:=run_yield (P:=P) hheap hsize;have hfold:(r.params.zip vs).foldl (λtmps (t,a)=>tmps.setIfInBounds t a) r.tmps=(lp.params.zip vs.toList).foldl (λtmps (t,a)=>tmps.setIfInBounds t a) r.tmps:=by
   rw[<- Array.foldl_toList,Array.toList_zip,hpar]
  rw[hfold]at hyield;obtain⟨hrelE,hsizeE⟩:=GO lp.params args vs.toList lp.env r.tmps hr hlen hR.small hR.env;obtain⟨ann,cT,hboth⟩:∃ann cT,bQ P ann r.tmps.size cT _=some _:=hR.both;simp only[bQ]at hboth;split at hboth
  case h_2=>cases hboth
  rename_i C' A' B' hC hA hB;cases hboth;refine⟨_,_,_,_,hyield,λcs=>?_⟩;generalize htm:(lp.params.zip vs.toList).foldl (λtmps (t,a)=>tmps.setIfInBounds t a) r.tmps=tm at hrelE hsizeE
  let fb:Frame:=Frame.round b r.fn tm r.assign r.body .normal
  have hfr:Frame.round b r.fn tm r.assign r.body .normal=fb.atR ⟨tm,[]⟩ [.code r.assign,.beginRound,.code r.body]:=rfl;have ha:At (ix P) base ann.cZ g w r.tmps.size fb g w (λ_=>0) (zD lp.params args lp.env) ([]::J) ⟨tm,[]⟩ :=
   ⟨hrelE.fr,Ev.refl g w,hi.push,hl.push hi,by simp,hsizeE,⟨[],rfl,List.nodup_nil,by simp[ua,fb,Frame.round]⟩,.inr ⟨b,l,i,rfl,hL⟩⟩
  obtain⟨g1,w1,B1,a1,t1,k1,k2,k3,k4,k5⟩:=sZ (b:=fb) (cs:=cs) (k:=[.beginRound,.code r.body]) hm hO r.assign hA hasg ha;obtain rfl:=k4;obtain⟨L1,hL1,hle1⟩:=k3.loc l i _ hL;rw[Loc.NB hle1]at hL1;obtain⟨b1,hb1,hrel1⟩:=k2.inv.vQ l i _ hL1;rw[hlp1]at hb1;cases hb1;obtain⟨r1,hheap1,hR1⟩:=hrel1;have hready:r1.state=.ready:=by rw[hR1.state,hst];rfl
  have hbegin:=run_beginRound (P:=P) hheap1 hready;obtain⟨i2,ev2⟩:=k2.inv.JC (r:={r1 with state:=.busy }) (lp:={lp1 with state:=1 }) hL1 hlp1 ⟨rfl,hR1.wQ,hR1.env,hR1.params,hR1.small,hR1.both⟩;have hgo2:eB J1 (aR J1 l i (.loop {lp1 with state:=1 })):=⟨dD,λh=>h.set λhl=>(h l i _ hlp1 hl:aI.low (l+1) (.loop lp1))⟩;have ha2:=k2.go ev2 i2 hgo2 (k2.fr.ev ev2) rfl rfl;obtain⟨g3,w3,B3,a3,t3,m1,m2,m3,m4,m5⟩:=sZ (b:=fb) (cs:=cs) (k:=[]) hm hO r.body hB hbody ha2;have hlen2:J2.length=J.length:=by
   have h1:=m5.len;have h2:=hgo2.len;have h3:=k5.len;simp at h1 h2 h3;omega
  have hlvl:∀l i L,g.loc l i=some L->l<J2.length:=λl i L h=>by rw[hlen2];exact hi.lvl h
  obtain⟨i3,l3⟩:=m2.inv.pop m2.low;obtain⟨L3,hL3,hle3⟩:=(k3.trans' (ev2.le.trans' m3)).loc l i _ hL;rw[Loc.NB hle3]at hL3;have hL3':(g3.cut J2.length).loc l i=some (.lp b):=by rw[G.rZ (hlvl l i _ hL)];exact hL3
  obtain⟨b3,hb3,hrel3⟩:=i3.vQ l i _ hL3';rw[hlp2]at hb3;cases hb3;obtain⟨r3,hheap3,hR3⟩:=hrel3;refine⟨fb,a3,t3,g3.cut J2.length,w3,r3,?_,rfl,rfl,m4,m2.ev.cut hlvl,i3,l3,hlen2,hL3',hheap3,hR3⟩;rw[hfr];exact Steps.trans k1 (.head (stepR_beginRound rfl hbegin) (m1.steps hxt))
 have fin:∀(bv:Bool) (st:Nat) (pd:Option Exit) (jump:Option Code),AT pd=some jump->bv=jump.isNone->st=(if jump.isNone then 0 else 2) ->
   (∀(fb:Frame) (a':Act) (todo:List Item) (c:Frame) (cs:List Frame) (w' w2:World) (b:Nat),fb.roundOf=some b->fb.kind=.normal->zP [] x todo->(Instr.endRound b jump).run P w'=.ok (.bool bv) w2 ->
    step P (lone (Frame.atR fb a' todo) (c::cs) w')=.next (lone (c.finish (.bool bv)) cs w2)) ->
   Nc P (ix P) l i args J (.bool bv) (aR J2 l i (.loop {lp2 with state:=st,wQ:=pd })):=by
  intro bv st pd jump hpd hbv hstv hend;refine⟨⟨lp,hlp⟩,λbase g w vs b hi hl hp hr hy=>?_⟩;obtain⟨f,tmps,zh,body,hyield,hwalk⟩:=walk base g w vs b hi hl hp hr hy;refine⟨?_,f,tmps,zh,body,hyield,λc cs=>?_⟩
  .obtain⟨_,_,_,_,_,_,_,_,_,_,_,_,h7,h8,_⟩:=hwalk [];exact⟨dD.trans h8,λ_=>h7.set λhl=>(h7 l i _ hlp2 hl:aI.low (l+1) (.loop lp2))⟩
  .obtain⟨fb,a',todo,g',w',r2,k1,k2,k3,k4,k5,k6,k7,k8,k9,k10,k11⟩:=hwalk (c::cs);have hrun:=run_endRound (P:=P) jump k10;rw[<- hbv]at hrun;have hR2:y8 (ix P) g' {lp2 with state:=st,wQ:=pd } {r2 with state:=if jump.isNone then .ready else .done,pending:=jump } :=
    ⟨by rw[hstv];cases jump<;>rfl,hpd,k11.env,k11.params,k11.small,k11.both⟩
   obtain⟨i4,ev4⟩:=k6.JC k9 hlp2 hR2;exact⟨.bool bv,g',_,.trans k1 (.one (hend fb a' todo c cs w' _ b k2 k3 k4 (by rw[hbv];rw[hbv]at hrun;exact hrun))),k5.trans ev4,i4,.bool bv⟩
 cases x with
 |normal =>
  dsimp only at h;cases h;exact fin true 0 none none rfl rfl rfl λfb a' todo c cs w' w2 b h1 h2 h3 h4=>by
   obtain rfl:=h3;exact stepR_round_end h1 h2 h4
 |exit id =>
  dsimp only at h;cases h;exact fin false 2 (some (.exit id)) (some (.exit id)) rfl rfl rfl λfb a' todo c cs w' w2 b h1 h2 h3 h4=>by
   obtain⟨k',rfl,hk⟩:=h3;exact stepR_round_exit h1 h2 (by rw[hk];rfl) h4
 |ret =>
  dsimp only at h;cases h;exact fin false 2 (some .ret) (some .ret) rfl rfl rfl λfb a' todo c cs w' w2 b h1 h2 h3 h4=>by
   obtain⟨k',rfl⟩:=h3;exact stepR_round_ret h1 h2 h4
 |eA d=>exact absurd rfl (hxt d)
theorem Lb(hT:Wj P T)(hm:P.follows .mixedOrders=true)(hO:yz P (ix P) O):yz P (ix P) (cI T O):=λq r h=>by
 cases q with
 |call kp f args J=>exact LR hT hm hO h
 |loop live bk c e J=>exact Mh hm hO h
 |round l i args J=>exact K1 hm hO h
 |gv live it nx ok b c rest e J=>exact KW hm hO h
 |xe f args th J=>exact Kk hT hm hO h
theorem KL(hT:Wj P T)(hm:P.follows .mixedOrders=true):∀n,yz P (ix P) (it T n)
 |0=>λq r h=>by simp[it]at h
 |n+1=>Lb hT hm (KL hT hm n)
theorem O2(hT:Wj P T)(hm:P.follows .mixedOrders=true):yz P (ix P) (lim T):=λq r h=>by
 unfold lim at h;split at h
 .rename_i hex;cases h;exact KL hT hm _ _ _ hex.choose_spec.choose_spec
 .cases h
end
end Go.az
