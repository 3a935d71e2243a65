import Derived.Test.YtnlkaeapgmkbnaaDoorBase11
import Derived.Lib.ItoaNum
import Derived.Test.YtnlkaeapgmkbnaaDoorBase10
import Derived.Test.YtnlkaeapgmkbnaaDoorBase8
import Derived.Test.YtnlkaeapgmkbnaaDoorBase4
import Derived.Test.YtnlkaeapgmkbnaaDoorBase0
set_option linter.all false
namespace Go.Abs
open Go
theorem km{P:Program}{b:Frame}{a:Act}{k:List Item}{cs:List Frame}{w:World}{c:Code}:
  step P (lone (b.atR a (.code (.scope c)::k)) cs w)=.next (lone (b.atR a (.code c::.inScope c::k)) cs w) :=
 step_lone_go (by simp[stepG,stepG.exec,Frame.atR])
theorem q8{P:Program}{b:Frame}{a:Act}{k:List Item}{cs:List Frame}{w:World}{c:Code}:
  step P (lone (b.atR a (.inScope c::k)) cs w)=.next (lone (b.atR a k) cs w) :=
 step_lone_go (by simp[stepG,stepG.exec,Frame.atR])
def H8(o:Obj):Prop:=∃c t fz v,o=.cells c t fz∧c[0]?=some v∧(v=.nilIface∨∃te pe,v=.iface te pe)
def EZ(o:Obj):Prop:=∃t fz,o=.cells (Lib.pow10Tab.map (Value.int .u64)).toArray t fz
def H9(o:Obj):Prop:=∃c t fz m,o=.cells c t fz∧c[0]?=some (.int .i64 m)
def EV(P:Program)(b:Nat)(Q:Obj→Prop):Prop :=
 (P.globalNamed "strconv.ErrSyntax" = some b∧Q=H8)∨(P.globalNamed "strconv.ErrRange" = some b∧Q=H8) ∨
 (P.globalNamed "internal/strconv.uint64pow10" = some b∧Q=EZ)∨(P.globalNamed "internal/bytealg.MaxLen" = some b∧Q=H9)
def dO(P:Program):cm:=⟨fun c code n=>∃ann aR,aP P ann n aR code=some c,EV P⟩
section
variable {P:Program} {O:aN} {ann:jq} {n:Nat} {base:Nat} {g0 g:G} {w0 w:World} {b:Frame} {B:Nat→Nat} {e e':Env} {σ σ':SK} {a:Act}
 {k:List Item} {cs:List Frame} {x:Exit}
def Ends(P:Program)(ann:jq)(n base:Nat)(g0:G)(w0:World)(b:Frame)(cs:List Frame)(g:G)(w:World)(a:Act)(start k:List Item)(σ:SK)(x:Exit)(e':Env)(σ':SK):Prop :=
 ∃g' w' B' a' todo,jy (fun fr=>Steps P (lone (b.atR a start) cs w) (lone fr cs w')) g' b a' todo x ∧
  At (dO P) base ann.bH g0 w0 n b g' w' B' e' σ' a'∧g.le g'∧lC k x todo∧ct σ σ'
theorem Ends.step{start start' k:List Item}{w1:World}(h:step P (lone (b.atR a start) cs w)=.next (lone (b.atR a start') cs w1))(hw:Ends P ann n base g0 w0 b cs g w1 a start' k σ x e' σ'):
  Ends P ann n base g0 w0 b cs g w a start k σ x e' σ':=by
 obtain⟨g',w',B',a',todo,h1,h2⟩:=hw;exact⟨g',w',B',a',todo,h1.imp fun _ h1 => .head h h1,h2⟩
theorem jy.of{S:Frame→Prop}{g:G}{b:Frame}{a:Act}{todo:List Item}{x:Exit}(hx:∀d,x ≠ .eO d)(h:S (b.atR a todo)):jy S g b a todo x:=by
 cases x with
 |eO d=>exact absurd rfl (hx d)
 |_=>exact h
theorem jy.mono{S:Frame→Prop}{g g':G}(hg:g.le g'){b:Frame}{a:Act}{todo:List Item}{x:Exit}(h:jy S g b a todo x):jy S g' b a todo x:=by
 cases x with
 |eO d=>obtain⟨h0,v,h1,h2⟩:=h;exact⟨h0,v,h1.mono hg,h2⟩
 |_=>exact h
theorem lC.skip{i:Item}(hi:∀id,i ≠ .inBlock id){x:Exit}{t:List Item}(hx:x ≠ .normal)(h:lC (i::k) x t):lC k x t:=by
 cases x with
 |normal=>exact absurd rfl hx
 |exit id =>
  obtain⟨k',h1,h2⟩:=h;refine⟨k',h1,h2.trans ?_⟩;cases i<;>first | rfl | exact absurd rfl (hi _)
 |ret=>exact h
 |eO d=>trivial
theorem pQ{b7:Nat}{ops:Array Oper}{tail:Nat}:∀{l:List Oper} {i:Nat} {xs:List Op},sn P ann n b7 ops tail i l=some xs→(∀j o,l[j]?=some o→ops[i+j]?=some o) →
  xs.length=l.length∧∀j x,xs[j]?=some x→∃o,ops[i+j]?=some o∧(∃nt,wh P ann n b7 ops nt (i+j) o=some x)
 |[],i,xs,h,_=>by simp only[sn,ad]at h;subst h;exact⟨rfl,fun j x hj=>by simp at hj⟩
 |o::l,i,xs,h,hl=>by
  simp only[sn]at h;split at h
  ·rename_i x xs' h1 h2;cases h;obtain⟨h3,h4⟩:=pQ h2 fun j o' hj=>by
    have:=hl (j+1) o' (by simpa using hj);rwa[show i+(j+1)=i+1+j from by omega]at this
   refine⟨by simp[h3],fun j y hj=>?_⟩;cases j with
   |zero =>
    simp only[cu,ad]at hj;subst hj;exact⟨o,hl 0 o rfl,⟨_,h1⟩⟩
   |succ j =>
    have:=h4 j y (by simpa using hj);rwa[show i+1+j=i+(j+1)from by omega]at this
  ·cases h
theorem oo{S:Nat→Op→Prop}:∀{xs:List Op} {i:Nat},(∀j x,xs[j]?=some x→S (i+j) x)→jx S (List.range' i xs.length) xs
 |[],i,h => .nil
 |x::xs,i,h=>by
  simp only[aZ,List.range'_succ];refine .cons (h 0 x rfl) (oo fun j y hj=>?_);have:=h (j+1) y (by simpa using hj);rwa[show i+(j+1)=i+1+j from by omega]at this
theorem ve(hO:kJ P (dO P) O){b7 i:Nat}{ops:Array Oper}{is:List Nat}{op:Op}{xs:List Op}{live:List Nat}{x:Exit}(hop:o5 P ann n b7 ops i op)(hF:jx (o5 P ann n b7 ops) is xs)
  (h:qI O live op xs e σ=some (x,e',σ')) (ha:At (dO P) base ann.bH g0 w0 n b g w B e σ a):
  ∃g' w' B' a' todo,jy (fun fr=>Steps P (lone (b.atR a (.inRegion ops (i::is)::k)) cs w) (lone fr cs w')) g' b a' todo x ∧
   At (dO P) base ann.bH g0 w0 n b g' w' B' e' σ' a'∧g.le g'∧lC k x todo∧ct σ σ':=by
 obtain⟨o,lI,ho,hopc⟩:=hop;obtain⟨hdst,hn,hgrd⟩:=sk hopc;obtain⟨hkc,hmk⟩:=Es hopc;have hd:=tL hkc;have hkeq:=yi hkc;unfold qI at h;split at h
 ·rename_i fo args hg hk;have hguard:o.guard=none:=by
   rcases hgrd with⟨h1,_⟩ | ⟨_,_,_,_,h2,_⟩
   ·exact h1
   ·rw[hg]at h2;cases h2
  have hw:Region.wanted o (yielded ops a.tmps)=true:=by simp[Region.wanted,hguard]
  rw[hk]at hkeq hmk;obtain⟨f0,args0,ts0,hopo,hF0,hX0⟩:=hkeq;cases hc:ng O (aC e fo) (args.map (aC e)) σ with
  |none=>rw[hc]at h;simp[lE]at h
  |some r =>
  rw[hc]at h;obtain⟨f,first,cap,hfe,hq⟩:=vP hc;cases r with
  |mF=>simp[lE]at h
  |val d σ1 =>
   simp only[lE,ab,Prod.exists]at h;obtain⟨e1,σ2,h1,h2⟩:=h;cases h2;obtain⟨g1,w1,B1,a1,k1,k2,k3,k4⟩:=vf (k:=k) (cs:=cs) (rest:=is) (kp:=false) hO ha ho hw hn (hmk rfl) hopo hF0 hX0 (d:=d) (σ':=σ1) (by rw[hfe];simp only[jL,hq,R.mE]);rw[hdst]at h1;obtain⟨g2,w2,B2,a2,m1,m2,m3,m4⟩:=mj (k:=k) (cs:=cs) (tl:=[]) hO is xs _ _ _ _ _ _ hF h1 k2;refine⟨g2,w2,B2,a2,k,?_,m2.restrict _,k3.trans' m3,rfl,k4.trans m4⟩;rw[gS]at m1;exact .trans k1 (.trans m1 (.one stepR_region_end))
  |eO d σ1 =>
   simp only[lE,ad,af]at h;obtain⟨rfl,rfl,rfl⟩:=h;obtain⟨hcl,⟨Fn,cd,hfn1,hfn2,hfn3⟩,hcall⟩:=hO _ _ hq;obtain⟨tmps,df⟩:=a;have hfv:=ha.fr.aC (df:=df) hF0;have hxs:=nD (df:=df) ha.fr hX0;rw[hfe]at hfv;generalize hev:(Act.mk tmps df).eval f0=fv at hfv;cases hfv with
   |fn _ _ _ first' cap' r1 r2 =>
    have hrun:(execOp (Act.mk tmps df).eval o).run P w=.ok (.enter f (first'++args0.map (Act.mk tmps df).eval++cap')) w:=by
     simp only[execOp,hopo,Sem.run_bind,dF hev,Result.andThen_ok,invoke,jC hfn1 hfn2 hfn3]
    have hargs:aH g (first++args.map (aC e)++cap) (first'++args0.map (Act.mk tmps df).eval++cap').toList:=by
     simpa using(r1.append hxs).append r2
    obtain⟨hgo,hcalls⟩:=hcall base g w _ ha.inv ha.low ha.pos hargs;obtain⟨en,w',fr,⟨v,g',rfl,he,hi,hr⟩,hcomes,hfr,hleave⟩:=hcalls (b.atR ⟨tmps,df⟩ (.inRegion ops (i::is)::k)::cs);refine⟨g',w',B,⟨tmps,df⟩,.inRegion ops (i::is)::k,⟨hcl,v,hr,Steps.head (pY ho hw hd hrun) (Steps.trans hcomes (Steps.one ?_))⟩,ha.go he hi hgo (ha.fr.ev he) rfl rfl,he.le,trivial,hgo⟩;rw[step_leave_panicked hleave];rfl
 ·rename_i X hg hk;have hguard:o.guard=none:=by
   rcases hgrd with⟨h1,_⟩ | ⟨_,_,_,_,h2,_⟩
   ·exact h1
   ·rw[hg]at h2;cases h2
  have hw:Region.wanted o (yielded ops a.tmps)=true:=by simp[Region.wanted,hguard]
  rw[hk]at hkeq;obtain⟨y,hopo,hX0⟩:=hkeq;split at h
  case h_2=>cases h
  rename_i t d hX;split at h
  case isFalse=>cases h
  rename_i hcl;cases h;obtain⟨tmps,df⟩:=a;have hr:=ha.fr.aC (df:=df) hX0;rw[hX]at hr;generalize hev:(Act.mk tmps df).eval y=cv at hr;cases hr with
  |nu _ _ c h1 =>
   have hrun:(execOp (Act.mk tmps df).eval o).run P w=.halt (.panic (.iface t c)) w:=by
    simp only[execOp,hopo,hev];rfl
   exact⟨g,w,B,⟨tmps,df⟩,.inRegion ops (i::is)::k,⟨by simpa[D.clean]using hcl,_,.nu t d c h1,.one (uR ho hw hd hrun)⟩,ha,g.le_refl,trivial,.refl σ⟩
 ·cases h
theorem jx.split{α β:Type}{R:α→β→Prop}:∀{xs:List α} {ys:List β} (j:Nat),jx R xs ys→∃a b,xs=a++b∧jx R a (ys.take j)∧jx R b (ys.drop j)
 |xs,ys,0,h=>⟨[],xs,rfl,by simpa using jx.nil,by simpa using h⟩
 |[],_,j+1,h=>by cases h;exact⟨[],[],rfl,by simpa using jx.nil,by simpa using jx.nil⟩
 |x::xs,_,j+1,h=>by
  cases h with
  |cons h1 h2 =>
   obtain⟨a,b,k1,k2,k3⟩:=jx.split j h2;exact⟨x::a,b,by rw[k1];rfl,by simpa using jx.cons h1 k2,by simpa using k3⟩
theorem ri{α β γ:Type}{S:α→β→Prop}{f:γ→α}{g:γ→β}:∀{l:List γ},(∀p∈l,S (f p) (g p))→jx S (l.map f) (l.map g)
 |[],_ => .nil
 |p::l,h => .cons (h p (by simp)) (ri fun q hq=>h q (by simp[hq]))
theorem Fr.Nx{fb:Nat}{V:List Nat}{g:G}{w:World}{B:Nat→Nat}{e e':Env}{tmps:Array Value}(hf:Fr fb V g w B e' tmps)(h:oj e e'):Fr fb V g w B e tmps:=by
 have hg:∀t,get e' t=get e t:=h;refine⟨fun t=>?_,fun t s cs ht=>hf.own t s cs (by rw[hg];exact ht),fun t t' s s' cs cs' h1 h2=>hf.inj t t' s s' cs cs' (by rw[hg];exact h1) (by rw[hg];exact h2)⟩;have:=hf.rel t;rw[hg]at this;exact this.imp fun d c hr=>by
  cases d<;>first | exact hr | skip
  rename_i x s off;obtain⟨s',cs,b,o,e1,e2⟩:=hr;exact⟨s',cs,b,o,by rw[← hg];exact e1,e2⟩
theorem At.Nx{CR:cm}{V:List Nat}{w:World}{e e':Env}(ha:At CR base V g0 w0 n b g w B e' σ a)(h:oj e e'):At CR base V g0 w0 n b g w B e σ a:={ha with fr:=ha.fr.Nx h }
theorem pS(hm:P.follows .mixedOrders=true)(hO:kJ P (dO P) O){id:Nat}{ops:Array Oper}{draw:Bool}{c:bC}(hc:uK P ann n id ops draw=some c)
  (h:aA O c e σ=some (x,e',σ')) (ha:At (dO P) base ann.bH g0 w0 n b g w B e σ a):Ends P ann n base g0 w0 b cs g w a (.code (.region id ops draw)::k) k σ x e' σ':=by
 simp only[uK]at hc;cases draw with
 |false =>
  simp only[ai,if_false,ab]at hc;obtain⟨xs,hxs,rfl⟩:=hc;obtain⟨hlen,hall⟩:=pQ hxs fun j o hj=>by simpa using hj
  have h2:jx (o5 P ann n id ops) (List.range ops.size) xs:=by
   have:=oo (S:=o5 P ann n id ops) (xs:=xs) (i:=0) fun j y hj=>let ⟨o,k1,nt,k2⟩:=hall j y hj;⟨o,nt,k1,k2⟩
   rw[hlen]at this;rw[List.range_eq_range'];simpa using this
  unfold py at h;generalize look id none ann.eO=jo at h;cases jo with
  |some j =>
   dsimp only at h;split at h
   ·rename_i y r hdr;simp only[aA,ae,Prod.exists]at h;obtain⟨e1,σ1,h1,h3⟩:=h;obtain⟨is,js,hsplit,hA,hB⟩:=h2.split j;rw[hdr]at hB;cases hB with
    |cons hop hF =>
     rename_i i is';obtain⟨g1,w1,B1,a1,k1,k2,k3,k4⟩:=mj (k:=k) (cs:=cs) (tl:=i::is') hO _ _ _ _ _ _ _ _ hA h1 ha;obtain⟨g2,w2,B2,a2,t2,m1,m2,m3,m4,m5⟩:=ve (k:=k) (cs:=cs) hO hop hF h3 k2;refine⟨g2,w2,B2,a2,t2,m1.imp fun fr hs => .head stepR_region (Steps.trans ?_ hs),m2,k3.trans' m3,m4,k4.trans m5⟩;rw[hsplit];exact k1
   ·simp only[aA,ab,Prod.exists]at h;obtain⟨e1,σ1,h1,h2'⟩:=h;cases h2';obtain⟨g1,w1,B1,a1,k1,k2,k3,k4⟩:=uI (k:=k) (cs:=cs) hO _ _ _ _ _ _ _ _ h2 h1 ha;exact⟨g1,w1,B1,a1,k,.head stepR_region (.trans k1 (.one stepR_region_end)),k2.restrict _,k3,rfl,k4⟩
  |none =>
  simp only[aA,ab,Prod.exists]at h;obtain⟨e1,σ1,h1,h2'⟩:=h;cases h2';obtain⟨g1,w1,B1,a1,k1,k2,k3,k4⟩:=uI (k:=k) (cs:=cs) hO _ _ _ _ _ _ _ _ h2 h1 ha;exact⟨g1,w1,B1,a1,k,.head stepR_region (.trans k1 (.one stepR_region_end)),k2.restrict _,k3,rfl,k4⟩
 |true =>
  simp only[if_true]at hc;split at hc
  case h_2=>cases hc
  rename_i xs hxs;simp only[an,ah]at hc;obtain⟨⟨⟨hcalm,hedge⟩,_⟩,hc⟩:=hc;cases hc;obtain⟨hlen,hall⟩:=pQ hxs fun j o hj=>by simpa using hj
  have hlen':xs.length=ops.size:=by simpa using hlen
  obtain⟨ys,hysT⟩:=rG hlen' hcalm hedge ops.size (w.tape w.drawn (.order b.fn id)) (Array.replicate ops.size false) (by simp) (fun i hi=>by
    simp[aU]at hi;by_cases hlt:i<ops.size<;>simp[hlt]at hi) (by
    simp only[uc];exact gv (sQ _ _) (by simp))
  have hU:uc ops.size (Array.replicate ops.size false)=List.range ops.size:=by
   simp only[uc];rw[List.filter_eq_self];intro i hi;have:i<ops.size:=by simpa using hi
   simp[aU,this]
  rw[hU]at hysT;have hmap:((List.range ops.size).map fun i=>(i,(xs[i]?).getD default)).map (·.2)=xs:=by
   simp only[List.map_map];apply eA;intro j;by_cases hj:j<ops.size
   ·simp[hj,show j<xs.length from by omega]
   ·rw[bQ (by simp;omega),bQ (by omega)]
  have hlin:Region.schedule (P.follows .mixedOrders) ops (w.tape w.drawn (.order b.fn id))=Region.linearise.go .any ops ops.size (w.tape w.drawn (.order b.fn id)) (Array.replicate ops.size false) []:=by
   simp[Region.schedule,hm,Region.linearise]
  have hat:∀p∈(List.range ops.size).map fun i=>(i,(xs[i]?).getD default),o5 P ann n id ops p.1 p.2:=fun p hp=>by
   obtain⟨j,hj,rfl⟩:=bg.1 hp;have hj':j<ops.size:=by simpa using hj
   have hjx:xs[j]?=some (xs[j]'(by omega)):=by simp[show j<xs.length from by omega]
   obtain⟨o,k1,nt,k2⟩:=hall j _ hjx;rw[hjx];simp only[cn]at k1 k2;exact⟨o,_,k1,k2⟩
  have ha1:=ha.draw {w with drawn:=w.drawn+1 } rfl rfl rfl rfl;have plain:∀{x e' σ'},aA O (.b7 (look id [] ann.live) xs) e σ=some (x,e',σ')→Ends P ann n base g0 w0 b cs g w a (.code (.region id ops true)::k) k σ x e' σ':=by
   intro x e' σ' h;have hys:=hysT.sched;simp only[aA,ab,Prod.exists]at h;obtain⟨e1,σ1,h1,h2⟩:=h;cases h2;obtain⟨e2,h2,heq⟩:=pU hys (by rw[hmap];exact h1);have h3:jx (o5 P ann n id ops) (Region.schedule (P.follows .mixedOrders) ops (w.tape w.drawn (.order b.fn id))) ys:=by
    rw[hlin];exact rN hys hat
   obtain⟨g1,w1,B1,a1,k1,k2,k3,k4⟩:=uI (k:=k) (cs:=cs) hO _ _ _ _ _ _ _ _ h3 h2 ha1;refine⟨g1,w1,B1,a1,k,.head stepR_region_draw (.trans k1 (.one stepR_region_end)),?_,k3,rfl,k4⟩;have:=k2.restrict (look id [] ann.live);rw[sv heq]at this;exact this
  cases hjo:(look id none ann.eO).filter fun j=>decide (lB (cX ops.toList [])≤j)with
  |none=>rw[hjo]at h;exact plain h
  |some j =>
  rw[hjo]at h;have htj:lB (cX ops.toList [])≤j:=by
   have:=(Option.filter_eq_some_iff.1 hjo).2;simpa using this
  cases hdr:xs.drop j with
  |nil=>simp only[py,hdr]at h;exact plain h
  |cons y r =>
  simp only[py,hdr]at h;simp only[aA,ae,Prod.exists]at h;obtain⟨e1,σ1,h1,h3⟩:=h;have hjlt:j<xs.length:=by
   rcases Nat.lt_or_ge j xs.length with h | h
   ·exact h
   ·rw[iy h]at hdr;cases hdr
  let R:=(List.range ops.size).map fun i=>(i,(xs[i]?).getD default)
  obtain⟨is1,ys1,h4,h5,h6⟩:=sC hysT (A:=R.take j) (B:=R.drop j) (by simp[R]) (fun p hp=>by
   obtain⟨m,hm',rfl⟩:=List.mem_iff_getElem.1 hp;simp[R];omega)
  have hmapA:(R.take j).map (·.2)=xs.take j:=by rw[List.map_take,hmap]
  have hmapB:(R.drop j).map (·.2)=y::r:=by rw[List.map_drop,hmap,hdr]
  obtain⟨e2,h7,heq⟩:=pU h6 (by rw[hmapA];exact h1);have hA:jx (o5 P ann n id ops) is1 ys1:=rN h6 fun p hp=>hat p (bJ hp)
  have hB:jx (o5 P ann n id ops) ((R.drop j).map (·.1)) ((R.drop j).map (·.2)):=ri fun p hp=>hat p (bI hp)
  obtain⟨g1,w1,B1,a1,k1,k2,k3,k4⟩:=mj (k:=k) (cs:=cs) (tl:=(R.drop j).map (·.1)) hO _ _ _ _ _ _ _ _ hA h7 ha1;rw[hmapB]at hB;generalize hbs:(R.drop j).map (·.1)=bs at hB k1 h4;cases hB with
  |cons hop hF =>
   obtain⟨g2,w2,B2,a2,t2,m1,m2,m3,m4,m5⟩:=ve (k:=k) (cs:=cs) hO hop hF h3 (k2.Nx heq);refine⟨g2,w2,B2,a2,t2,m1.imp fun fr hs => .head stepR_region_draw (Steps.trans ?_ hs),m2,k3.trans' m3,m4,k4.trans m5⟩;rw[hlin,h4];exact k1
theorem x8(L n l i u off m w:Nat)(σ:SK):(∃l' i' u' off' m' w',(bB L n (.sl l i u off m w) σ).1=.sl l' i' u' off' m' w')∨(∃m' cs',(bB L n (.sl l i u off m w) σ).1=.ch m' cs')∨(bB L n (.sl l i u off m w) σ).1=.undef:=by
 cases n with
 |zero=>simp[bB]
 |succ n =>
  simp only[bB]
  repeat' split
  all_goals simp
theorem wZ{g:G}{d:D}{c:Value}(h:aI g d c):aI g d.qQ c:=by
 cases h<;>first | exact .kE | (simp only[D.qQ];constructor<;>assumption) | (exact .wE _ _ _ _ (by assumption) (by assumption))
theorem ma{g:G}:∀{ds:List D} {cs:List Value},aH g ds cs→aH g (ds.map D.qQ) cs
 |[],_,h=>by cases h;exact .nil
 |d::ds,_,h=>by
  cases h with
  |cons _ c _ cs h1 h2=>exact .cons _ _ _ _ (wZ h1) (ma h2)
theorem zE{CR:cm}{g:G}{w:World}{σ:SK}{l i u:Nat}{c:Value}(hi:Inv CR base g σ w)(hr:aI g (.ref l i u 0) c):
  ∃g',Inv CR base g' (qU l i u σ).2 w∧Ev g w g' w∧aI g' (qU l i u σ).1 c:=by
 unfold qU;cases hc:cells? σ l i u with
 |none=>exact⟨g,hi,Ev.refl g w,.undef c⟩
 |some cs =>
  unfold cells? at hc;split at hc
  case h_2=>cases hc
  rename_i v' cs' hb;split at hc
  case isFalse=>cases hc
  rename_i hv;subst hv;cases hc;cases hr with
  |ref _ _ _ _ b o L k1 k2 k3 k4 =>
   obtain⟨g1,i1,e1,hk⟩:=hi.kill k1 hb k2;rcases hk with⟨rfl,_⟩ | ⟨b1,o1,vs,sz,rfl,hrow,hrl⟩
   ·exact absurd rfl k4
   ·obtain⟨rfl,rfl⟩:=k3 b1 o1 sz rfl;obtain⟨g2,i2,e2,r2⟩:=lg (kB (CR:=CR) (base:=base) 0 deep) cs _ g1 w vs i1 (hrl.mono e1.le);exact⟨g2,i2,e1.trans e2,.bE _ _ _ vs (G.n9 e2.le hrow) (ma r2)⟩
theorem tx:∀{e:Env} {t:Nat},get e t ≠ .undef→∃p∈e,p.2=get e t
 |[],t,h=>absurd rfl h
 |(t',d)::e,t,h=>by
  have hg:get ((t',d)::e) t=if t'=t then d else get e t:=rfl
  rw[hg]at h ⊢;split at h
  ·rename_i ht;rw[if_pos ht];exact⟨(t',d),by simp,rfl⟩
  ·rename_i ht;rw[if_neg ht];obtain⟨p,hp,he⟩:=tx h;exact⟨p,by simp[hp],he⟩
theorem GC{CR:cm}{V:List Nat}{v:Nat}{e:Env}{σ:SK}{g:G}{a:Act}(ha:At CR base V g0 w0 n b g w B e σ a):
  ∃g',At CR base V g0 w0 n b g' w B (wj v e) σ a∧g.le g':=by
 unfold wj;split
 case h_2=>exact⟨g,ha,g.le_refl⟩
 rename_i s cs hg;split
 case isFalse=>exact⟨g,ha,g.le_refl⟩
 rename_i hvr;obtain⟨hV,hp,hob⟩:=ha.fr.own v s cs hg;obtain⟨c,el,hb,hr,h5⟩:=hob.aR;have hle:g.le (g.dG (B v) c.toList):=⟨fun l i L e=>⟨L,e,L.le_refl⟩,fun b o x e=>by
  simp only[G.dG];rw[if_neg (fun hB=>by rw[hB,hob.gL]at e;cases e)];exact e⟩
 have hrow:(g.dG (B v) c.toList).row (B v) 0 c.toList:=fun j x hx=>by simp only[G.dG,if_pos];simpa using hx
 have hother:∀x,x≠B v→∀o,(g.dG (B v) c.toList).fp x o=g.fp x o:=fun x hx o=>by simp[G.dG,hx]
 have hget:∀t,get ((v,D.bE cs)::e) t=if v=t then .bE cs else get e t:=fun t=>rfl
 have hi:=ha.inv;refine⟨_,⟨⟨?_,?_,?_⟩,?_,?_,ha.low,ha.pos,ha.size,?_,jb ha.round hle⟩,hle⟩
 ·intro t;rw[hget];by_cases ht:v=t
  ·subst ht;rw[if_pos rfl,hp];exact aI.bE _ _ 0 c.toList hrow (hr.mono hle)
  ·rw[if_neg ht];have h0:=(ha.fr.rel t).ev hle;cases hd:get e t<;>rw[hd]at h0<;>first | trivial | exact h0 | skip
   rename_i x s1 off;obtain⟨s2,cs2,b2,o2,e1,e2⟩:=h0;obtain⟨p,hpe,hpd⟩:=tx (e:=e) (t:=t) (by rw[hd];simp);have h1:=b6.1 hvr p hpe;rw[hpd,hd]at h1;have hx:x≠v:=by simpa using h1
   exact⟨s2,cs2,b2,o2,by rw[hget,if_neg (fun h=>hx h.symm)];exact e1,e2⟩
 ·intro t s1 cs1 h;rw[hget]at h;split at h
  ·cases h
  ·rename_i ht;obtain⟨h1,h2,h3⟩:=ha.fr.own t s1 cs1 h;obtain⟨c1,el1,hb1,hr1,h6⟩:=h3.aR;exact⟨h1,h2,h3.lo,h3.free,fun o=>by rw[hother _ (fun hB=>ht (ha.fr.inj _ _ _ _ _ _ hg h hB.symm))];exact h3.gL o,c1,el1,hb1,hr1.mono hle,h6⟩
 ·intro t t' s1 s2 cs1 cs2 h h' hB;rw[hget]at h h';split at h
  ·cases h
  ·split at h'
   ·cases h'
   ·exact ha.fr.inj _ _ _ _ _ _ h h' hB
 ·have he:=ha.ev;exact⟨G.le_trans he.le hle,he.os,he.tape,he.output,he.size,he.kept,he.wF,fun x o y hy=>by
   by_cases hx:x=B v
   ·subst hx;exact .inr (.inr hob.lo)
   ·rw[hother x hx]at hy;exact he.q4 x o y hy⟩
 ·refine⟨hi.ge,fun l i L e=>let ⟨x,hx,hr⟩:=hi.jZ l i L e;⟨x,hx,hr.mono hle fun _ _=>rfl⟩,?_,?_,hi.inj,hi.lo,hi.vH,fun x Q h=>let ⟨⟨y,hy⟩,r⟩:=hi.sT x Q h;⟨⟨y,hle.fp _ _ _ hy⟩,r⟩⟩
  ·intro x o y hy;by_cases hx:x=B v
   ·subst hx;have hy':c.toList[o]?=some y:=by simpa[G.dG]using hy
    refine⟨?_,h5 y (av hy')⟩;simp only[World.cell?,hb];simpa using hy'
   ·rw[hother x hx]at hy;exact hi.fp x o y hy
  ·intro l i L x e eb o;by_cases hx:x=B v
   ·subst hx;exact absurd ⟨l,i,L,e,eb⟩ hob.free
   ·rw[hother x hx];exact hi.sep l i L x e eb o
 ·obtain⟨rs,hm⟩:=ha.marks;refine⟨rs,hm.eq,hm.nodup,fun r hr1=>?_⟩;have h1:=hm.all r hr1;exact⟨h1.lo,h1.free,fun o=>by rw[hother r (fun hB=>by have h7:=h1.aR;rw[hB,hb]at h7;cases h7)];exact h1.gL o,h1.aR⟩
theorem zF{v:Nat}{e:Env}{σ:SK}{g:G}{a:Act}(ha:At (dO P) base ann.bH g0 w0 n b g w B e σ a):
  ∃g',At (dO P) base ann.bH g0 w0 n b g' w B (qX v e σ).1 (qX v e σ).2 a∧g.le g'∧ct σ (qX v e σ).2:=by
 obtain⟨tmps,df⟩:=a;unfold qX;split
 ·rename_i hg;have hr0:aI g .cH (tmps.getD v Go.undef):=by have:=ha.fr.strip v;rw[hg]at this;exact this
  have hrt:a8 g B e (.ch 0 []) (tmps.getD v Go.undef):=by
   generalize tmps.getD v Go.undef=c at hr0;cases hr0;exact aI.kE
  exact⟨g,ha.go (Ev.refl g w) ha.inv (.refl _) (ha.fr.Ad hrt (by rw[hg];simp)) rfl rfl,g.le_refl,.refl _⟩
 ·rename_i l i u hg;have hr0:aI g (.ref l i u 0) (tmps.getD v Go.undef):=by have:=ha.fr.strip v;rw[hg]at this;exact this
  obtain⟨g1,i1,e1,r1⟩:=zE (CR:=dO P) ha.inv hr0;have hgo:ct σ (qU l i u σ).2:=by
   unfold qU;split
   ·rename_i cs hc;exact(ct.set (b:=.dead) (fun _=>trivial)).trans (mg 0 deep cs _).2
   ·exact .refl _
  have hrt:a8 g1 B e (qU l i u σ).1 (tmps.getD v Go.undef):=by
   unfold qU at r1 ⊢;split at r1<;>exact r1
  exact⟨g1,ha.go e1 i1 hgo ((ha.fr.ev e1).Ad hrt (by rw[hg];simp)) rfl rfl,e1.le,hgo⟩
 ·rename_i s0 cs0 hg;obtain⟨_,_,hob⟩:=ha.fr.own v s0 cs0 hg;obtain⟨c,el,hb,hr,h5⟩:=hob.aR;exact⟨g,ha.go (Ev.refl g w) ha.inv (.refl _) (ha.fr.uN hg ⟨hob.lo,hob.free,hob.gL,c,el,hb,ma hr,h5⟩ (fun _ _ _=>rfl)) rfl rfl,g.le_refl,.refl _⟩
 ·split
  ·obtain⟨g',h1,h2⟩:=GC (v:=v-1000000) ha;exact⟨g',h1,h2,.refl _⟩
  ·exact⟨g,ha,g.le_refl,.refl _⟩
 ·exact⟨g,ha,g.le_refl,.refl _⟩
theorem lh:∀(vs:List Nat) {e:Env} {σ:SK} {g:G} {a:Act},At (dO P) base ann.bH g0 w0 n b g w B e σ a →
  ∃g',At (dO P) base ann.bH g0 w0 n b g' w B (jl vs e σ).1 (jl vs e σ).2 a∧g.le g'∧ct σ (jl vs e σ).2
 |[],e,σ,g,a,ha=>⟨g,ha,g.le_refl,.refl _⟩
 |v::vs,e,σ,g,a,ha=>by
  simp only[jl];split
  ·rename_i l i0 u off m w1 hg;obtain⟨tmps,df⟩:=a;have hr0:aI g (.sl l i0 u off m w1) (tmps.getD v Go.undef):=by have:=ha.fr.strip v;rw[hg]at this;exact this
   obtain⟨g1,i1,e1,r1⟩:=kB (CR:=dO P) (base:=base) 0 deep _ σ g w _ ha.inv hr0;have hgo:=(kL 0 deep (.sl l i0 u off m w1) σ).2;have hrt:a8 g1 B e (bB 0 deep (.sl l i0 u off m w1) σ).1 (tmps.getD v Go.undef):=by
    rcases x8 0 deep l i0 u off m w1 σ with⟨l',i',u',off',m',w',hd1⟩ | ⟨m',cs',hd1⟩ | hd1<;>rw[hd1]at r1 ⊢ <;> exact r1
   have ha1:At (dO P) base ann.bH g0 w0 n b g1 w B ((v,(bB 0 deep (.sl l i0 u off m w1) σ).1)::e) (bB 0 deep (.sl l i0 u off m w1) σ).2 ⟨tmps,df⟩ :=
    ha.go e1 i1 hgo ((ha.fr.ev e1).Ad hrt (by rw[hg];simp)) rfl rfl
   obtain⟨g2,a2,l2,o2⟩:=lh vs ha1;exact⟨g2,a2,G.le_trans e1.le l2,hgo.trans o2⟩
  ·rename_i s0 cs0 hg;obtain⟨tmps,df⟩:=a;obtain⟨_,_,hob⟩:=ha.fr.own v s0 cs0 hg;obtain⟨c,el,hb,hr,h5⟩:=hob.aR;obtain⟨g1,i1,e1,r1⟩:=lg (kB (CR:=dO P) (base:=base) 0 deep) cs0 σ g w _ ha.inv hr;have hgo:=(mg 0 deep cs0 σ).2;have hob1:=hob.ev e1;have ha1:At (dO P) base ann.bH g0 w0 n b g1 w B ((v,.own s0 (bB.frzL (bB 0 deep) cs0 σ).1)::e) (bB.frzL (bB 0 deep) cs0 σ).2 ⟨tmps,df⟩ :=
    ha.go e1 i1 hgo ((ha.fr.ev e1).uN hg ⟨hob1.lo,hob1.free,hob1.gL,c,el,hb,r1,h5⟩ (fun _ _ _=>rfl)) rfl rfl
   obtain⟨g2,a2,l2,o2⟩:=lh vs ha1;exact⟨g2,a2,G.le_trans e1.le l2,hgo.trans o2⟩
  ·rename_i cs0 hg;obtain⟨tmps,df⟩:=a;have hr0:aI g (.agg cs0) (tmps.getD v Go.undef):=by have:=ha.fr.strip v;rw[hg]at this;exact this
   have hrt:a8 g B e (.agg (cs0.map D.qQ)) (tmps.getD v Go.undef):=by
    generalize tmps.getD v Go.undef=c at hr0;cases hr0 with
    |agg _ cs h1 h2=>exact aI.agg _ cs (ma h1) h2
   have ha1:At (dO P) base ann.bH g0 w0 n b g w B ((v,.agg (cs0.map D.qQ))::e) σ ⟨tmps,df⟩ :=
    ha.go (Ev.refl g w) ha.inv (.refl _) (ha.fr.Ad hrt (by rw[hg];simp)) rfl rfl
   exact lh vs ha1
  ·split
   ·obtain⟨g1,a1,l1,o1⟩:=zF (v:=v-1000000) ha;obtain⟨g2,a2,l2,o2⟩:=lh vs a1;exact⟨g2,a2,G.le_trans l1 l2,o1.trans o2⟩
   ·exact lh vs ha
  ·exact lh vs ha
theorem nV{O:aN}{e:Env}{σ:SK}:aA O lU e σ=none:=by
 simp[lU,aA,eN,jF,aK,aC,vW]
theorem wq(hm:P.follows .mixedOrders=true)(hO:kJ P (dO P) O){id:Nat}{ops:Array Oper}{draw:Bool}{aR:Nat}{c:bC}(hc:aP P ann n aR (.region id ops draw)=some c)
  (h:aA O c e σ=some (x,e',σ')) (ha:At (dO P) base ann.bH g0 w0 n b g w B e σ a):Ends P ann n base g0 w0 b cs g w a (.code (.region id ops draw)::k) k σ x e' σ':=by
 simp only[aP]at hc;split at hc
 case h_2=>cases hc;rw[nV]at h;cases h
 rename_i c0 hc0;cases hc;cases hv:look id [] ann.fz with
 |nil=>rw[hv]at h;exact pS hm hO hc0 h ha
 |cons v vs =>
  rw[hv]at h;simp only[kn,aA,Option.bind_some]at h;obtain⟨g1,a1,l1,o1⟩:=lh (v::vs) ha;obtain⟨g2,w2,B2,a2,t2,m1,m2,m3,m4,m5⟩:=pS (k:=k) (cs:=cs) hm hO hc0 h a1;exact⟨g2,w2,B2,a2,t2,m1,m2,G.le_trans l1 m3,m4,o1.trans m5⟩
theorem xg(ha:At (dO P) base ann.bH g0 w0 n b g w B e σ a){ps:Array Tmp}{lK body:Code}{live:List Nat}{C1 C2:bC}{aR:Nat}
  (h1:aP P ann n aR lK=some C1) (h2:aP P ann n aR body=some C2) (hps:∀t∈ps.toList,t<n) {l i:Nat} {σ1:SK}
  (hn:cG σ (.loop {state:=0,j4:=none,env:=jY live e,params:=ps.toList,lK:=C1,body:=C2 })=some (l,i,σ1)):
  ∃lb mk w1 g1,(Instr.enterLoop b.fn a.tmps ps lK body b.roundOf).run P w=.ok (lb,mk) w1∧Inv (dO P) base g1 σ1 w1∧Ev g w g1 w1∧g1.loc l i=some (.lp lb) ∧
   ∃rs,Marks w0.heap.size g1 w1 (mk++a.defers) b.defers rs:=by
 obtain⟨rs,hmarks⟩:=ha.marks;have hrel:∀(r:Loop) (g':G),g.le g'→r.state=.ready→r.pending=none→r.tmps=a.tmps→r.params=ps→r.assign=lK→r.body=body →
   kT (dO P) g' {state:=0,j4:=none,env:=jY live e,params:=ps.toList,lK:=C1,body:=C2 } r:=by
  intro r g' hle k1 k2 k3 k4 k5 k6;refine⟨k1,by rw[k2];rfl,by rw[k3];exact(ha.fr.jY live).mono hle,by rw[k4],by rw[k3,ha.size];exact hps,?_⟩;rw[k3,k5,k6,ha.size];exact⟨ann,aR,by simp[aP,h1,h2,aF]⟩
 rcases ha.round with hr | ⟨r,l',i',hr,hl'⟩
 ·rw[hr,run_enterLoop_outer];have i1:=ha.inv.alloc (.deferred (some []));have e1:=Ev.alloc g w (.deferred (some []));have:=i1.vt hn {state:=.ready,pending:=none,fn:=b.fn,tmps:=a.tmps,params:=ps,assign:=lK,body,defers:=w.heap.size } (hrel _ g g.le_refl rfl rfl rfl rfl rfl rfl);obtain⟨i2,e2⟩:=this;have hsz:(w.alloc (.deferred (some []))).heap.size=w.heap.size+1:=by simp
  rw[hsz]at i2 e2;have hm0:kH w0.heap.size g (w.alloc (.deferred (some []))) w.heap.size:=by
   refine⟨ha.ev.size,fun hb=>Nat.lt_irrefl _ (ha.inv.ya hb),fun o=>?_,ic⟩;cases hh:g.fp w.heap.size o with
   |none=>rfl
   |some v=>exact absurd (ha.inv.di hh) (Nat.lt_irrefl _)
  refine⟨_,_,_,_,rfl,i2,e1.trans e2,G.aj,w.heap.size::rs,?_,?_,?_⟩
  ·simp[hmarks.eq,mark]
  ·rw[aY,List.nodup_cons];exact⟨fun hin=>Nat.lt_irrefl _ (hmarks.all _ hin).lt,hmarks.nodup⟩
  ·intro r hr;rcases aJ.1 hr with rfl | hr
   ·exact hm0.ev e2
   ·exact((hmarks.all r hr).ev e1).ev e2
 ·obtain⟨blkr,hbr,hrelr⟩:=ha.inv.jZ l' i' _ hl';cases blkr with
  |cells=>exact hrelr.elim
  |dead=>exact hrelr.elim
  |loop lpr =>
   obtain⟨r0,hr0,_⟩:=hrelr;rw[hr,run_enterLoop_inner hr0];obtain⟨i2,e2⟩:=ha.inv.vt hn {state:=.ready,pending:=none,fn:=b.fn,tmps:=a.tmps,params:=ps,assign:=lK,body,defers:=r0.defers } (hrel _ g g.le_refl rfl rfl rfl rfl rfl rfl);exact⟨_,_,_,_,rfl,i2,e2,G.aj,rs,by simpa using hmarks.ev e2⟩
theorem yG(hO:kJ P (dO P) O){f:Operand}{ps:Array Tmp}{lK body:Code}{aR:Nat}{c:bC}(hc:aP P ann n aR (.rangeFunc f ps lK body)=some c)
  (h:aA O c e σ=some (x,e',σ')) (ha:At (dO P) base ann.bH g0 w0 n b g w B e σ a):Ends P ann n base g0 w0 b cs g w a (.code (.rangeFunc f ps lK body)::k) k σ x e' σ':=by
 simp only[aP]at hc;split at hc
 case h_2=>cases hc
 rename_i F C1 C2 hf h1 h2;simp only[an]at hc;obtain⟨hps,hc⟩:=hc;cases hc;have hps':∀t∈ps.toList,t<n:=fun t ht=>by
  have:=b6.1 hps t ht;simp only[ah,aq]at this;exact this.1
 simp only[aA]at h;split at h
 case h_2=>cases h
 rename_i l i σ1 hn;split at h
 case h_2=>cases h
 rename_i dv σ2 hcall;split at h
 case h_2=>cases h
 rename_i lp hlp;split at h
 ·cases h
 rename_i hst;cases h;obtain⟨lb,mk,w1,g1,hent,i1,e1,hloc1,rs,hmarks1⟩:=xg ha h1 h2 hps' hn;unfold oq at hcall;split at hcall
 case h_2=>cases hcall
 rename_i fi first cap hfe
 obtain⟨tmps,df⟩:=a;have hfv:=ha.fr.aC (df:=df) hf;rw[hfe]at hfv;obtain⟨⟨Fn,cd,hfn1,hfn2,hfn3⟩,hcallok⟩:=hO _ _ (og hcall);generalize hev:(Act.mk tmps df).eval f=fv at hfv;cases hfv with
 |fn _ _ _ first' cap' r1 r2 =>
  have hgo1:=ct.new hn;have hargs:aH g1 (first++[.fJ l i]++cap) (first' ++ #[Value.func (.yield lb) #[] #[]]++cap').toList:=by
   have hy:aH g1 [D.fJ l i] [.func (.yield lb) #[] #[]]:=.cons _ _ _ _ (.fJ l i lb hloc1) .nil;simpa using((r1.mono e1.le).append hy).append (r2.mono e1.le)
  obtain⟨hgo2,hcalls⟩:=hcallok base g1 w1 _ i1 (hgo1.low ha.low) (by rw[hgo1.len];exact ha.pos) hargs;obtain⟨en,w2,fr,⟨v,g2,rfl,e2,i2,hr⟩,hcomes,hfr,hleave⟩:=hcalls (b.atR {tmps:=tmps,defers:=mk++df } (.inRangeFunc lb::k)::cs);have hres:(resolve (Act.mk tmps df).eval (rangeCall f lb) 0).run P w1=.ok {target:=.fn (.func fi) cap',args:=first' ++ #[Value.func (.yield lb) #[] #[]] } w1:=by
   rw[dF hev];simp[Act.eval]
  have hinv:(invoke (.fn (.func fi) cap') (first' ++ #[Value.func (.yield lb) #[] #[]])).run P w1=.ok (.enter fi (first' ++ #[Value.func (.yield lb) #[] #[]]++cap')) w1:=by
   simp only[invoke,jC hfn1 hfn2 hfn3]
  have hstep1:=stepR_rangeFunc (P:=P) (b:=b) (a:=⟨tmps,df⟩) (k:=k) (cs:=cs) (w:=w) hent hres hinv;obtain⟨L2,hL2,hle2⟩:=e2.le.loc l i _ hloc1;rw[Loc.vp hle2]at hL2;obtain⟨bb,hbb,hrelb⟩:=i2.jZ l i _ hL2;rw[hlp]at hbb;cases hbb;obtain⟨r,hr1,hr2⟩:=hrelb;have hbusy:r.state ≠ .busy:=by
   rw[hr2.state];intro hs;match hstv:lp.state with
   |0=>rw[hstv]at hs;cases hs
   |1=>exact hst hstv
   |2=>rw[hstv]at hs;cases hs
   |m+3=>rw[hstv]at hs;cases hs
  have hend:=run_endLoop (P:=P) hr1 hbusy;have hrel3:kT (dO P) g2 {lp with state:=3 } {r with state:=.exhausted }:=⟨rfl,hr2.j4,hr2.env,hr2.params,hr2.small,hr2.both⟩;obtain⟨i3,e3⟩:=i2.sD hL2 hlp hrel3;have hgo3:ct σ2 (az σ2 l i (.loop {lp with state:=3 })):=⟨bP,fun h=>h.set fun hl=>(h l i _ hlp hl:b8.low (l+1) (.loop lp))⟩;have hgo:=(hgo1.trans hgo2).trans hgo3;have hev3:=(e1.trans e2).trans e3;refine⟨g2,w2.putObj lb (.loop {r with state:=.exhausted }),B,{tmps:=tmps,defers:=mk++df },(r.pending.map Item.code).toList++k,jy.of ?_ (Steps.head hstep1 (Steps.trans hcomes (Steps.head (step_leave_returned hleave) ?_))),?_,hev3.le,?_,hgo⟩
  ·intro d hd;have hp:=hr2.j4;cases hpe:lp.j4 with
   |none=>rw[hpe]at hd;cases hd
   |some y=>rw[hpe]at hd hp;simp only[kI]at hd;subst hd;simp[l4]at hp
  ·rw[finish_atR_inRangeFunc];exact .one (stepR_endRangeFunc hend)
  ·exact⟨(ha.fr.ev hev3).restrict _,ha.ev.trans hev3,i3,hgo.low ha.low,by rw[hgo.len];exact ha.pos,ha.size,⟨rs,(hmarks1.ev e2).ev e3⟩,jb ha.round hev3.le⟩
  ·have hp:=hr2.j4;cases hpe:lp.j4 with
   |none=>rw[hpe]at hp;simp only[l4,ad]at hp;rw[← hp];rfl
   |some y =>
    rw[hpe]at hp;cases y with
    |normal=>simp[l4]at hp
    |exit id=>simp only[l4,ad]at hp;rw[← hp];exact⟨k,rfl,rfl⟩
    |ret=>simp only[l4,ad]at hp;rw[← hp];exact⟨k,rfl⟩
    |eO d=>simp[l4]at hp
theorem pA{ann:jq}{x:Code}{c:bC}{f:aM}{xs:List aM}(h:vS P ann n x=some (c,f,xs)):∃id ops m o fo args ts op live,x=.region id ops false∧ops.toList=[m,o]∧o.op=.defer {callee:=.value fo,args,argTypes:=ts }∧o.dst=none∧o.guard=none ∧
  aF fo=some f∧jv args.toList=some xs∧wh P ann n id ops false 0 m=some op∧op.k ≠ .vy∧c=.b7 live [op]:=by
 unfold vS at h;split at h
 case h_2=>cases h
 rename_i id ops;split at h
 case h_2=>cases h
 rename_i m o ho;split at h
 case h_2=>cases h
 rename_i c0 t h1 h2 h3 h4;obtain⟨callee,args,ts⟩:=c0;dsimp only at h;split at h
 case h_2=>cases h
 rename_i fo;split at h
 case h_2=>cases h
 rename_i h5 h6 h7;split at h
 ·cases h
 rename_i h8;cases h;exact⟨id,ops,m,o,fo,args,ts,_,_,rfl,ho,h1,h2,h3,h6,h7,h5,h8,rfl⟩
theorem ib(ann:jq)(x:Code)(x' y':bC):(∃f xs,sb x=some (f,xs)∧wu P ann n x x' y'=.zf f xs y') ∨
  (sb x=none∧∃p0 bid l0 p' live it nx ok b c,x=.seq p0 (.block bid l0)∧x'=.seq p' (.cU live it nx ok b c .dY)∧wu P ann n x x' y'=.seq p' (.cU live it nx ok b c y')) ∨
  (sb x=none∧∃z,(z=y'∨z=.EF y')∧(Ah ann x=false→z=y')∧wu P ann n x x' y'=.seq x' z) ∨
  (sb x=none∧∃live op f xs,vS P ann n x=some (.b7 live [op],f,xs)∧wu P ann n x x' y'=.seq (.b7 live [op]) (.zf f xs y')):=by
 unfold wu;split
 ·rename_i f xs h;exact .inl ⟨f,xs,h,rfl⟩
 ·rename_i h;split
  ·rename_i c f xs hM;obtain⟨_,_,_,_,_,_,_,op,live,_,_,_,_,_,_,_,_,_,rfl⟩:=pA hM;exact .inr (.inr (.inr ⟨h,live,op,f,xs,hM,rfl⟩))
  split
  ·exact .inr (.inl ⟨h,_,_,_,_,_,_,_,_,_,_,rfl,rfl,rfl⟩)
  ·refine .inr (.inr (.inl ⟨h,_,?_,fun hs=>by rw[hs];rfl,rfl⟩));split
   ·exact .inr rfl
   ·exact .inl rfl
theorem jK(ann:jq)(n id:Nat)(x:Code)(x':bC):(∃it nx ok live sg A c,uF ann n x=some (it,nx,ok)∧x'=.loop live sg (.seq A c)∧zx ann n id x x'=.cU live (.t it) nx ok id c .dY)∨zx ann n id x x'=.aR id x':=by
 unfold zx;split
 ·rename_i it nx ok live sg A c h;exact .inl ⟨it,nx,ok,live,sg,A,c,h,rfl,rfl⟩
 ·exact .inr rfl
theorem pN{x:Code}{it nx ok:Nat}(h:uF ann n x=some (it,nx,ok)):∃rid ops p,x=.loop (.seq (.region rid ops false) p)∧∃o0 o1,ops.toList=[o0,o1] ∧
  o0.op=.next (.tmp it) false∧o0.dst=some nx∧o0.guard=none∧o1.op=.extract (.tmp nx) 0∧o1.dst=some ok∧o1.guard=none∧nx<n∧ok<n∧nx≠ok∧nx ∉ ann.bH∧ok ∉ ann.bH:=by
 unfold uF at h;split at h
 case h_2=>cases h
 rename_i rid ops p;split at h
 case h_2=>cases h
 rename_i o0 o1 hl;split at h
 case h_2=>cases h
 rename_i h1 h2 h3 h4 h5 h6;split at h
 case isFalse=>cases h
 rename_i hc;cases h;obtain⟨rfl,c1,c2,c3,c4,c5⟩:=hc;exact⟨rid,ops,p,rfl,o0,o1,hl,h1,h2,h3,h4,h5,h6,c1,c2,c3,c4,c5⟩
theorem v8{rid:Nat}{ops:Array Oper}{p:Code}{aR:Nat}{live:List Nat}{sg:Bool}{A c:bC}{q:Nat×Nat×Nat}(hm:uF ann n (.loop (.seq (.region rid ops false) p))=some q)
  (h:aP P ann n aR (.loop (.seq (.region rid ops false) p))=some (.loop live sg (.seq A c))):aP P ann n aR p=some c:=by
 obtain⟨it,nx,ok⟩:=q;obtain⟨rid',ops',p',heq,o0,o1,hl,_,_,_,g5,_⟩:=pN hm;cases heq;simp only[aP,ab]at h;obtain⟨y,h1,h2⟩:=h;cases h2;split at h1
 case h_2=>cases h1
 rename_i x' y' k1 k2;have hd:sb (.region rid ops false)=none:=by simp[sb,hl]
 have hd2:vS P ann n (.region rid ops false)=none:=by simp[vS,hl,g5]
 rcases ib ann (.region rid ops false) x' y' with⟨f,xs,h3,_⟩ | ⟨_,p0,bid,l0,_,_,_,_,_,_,_,h3,_⟩ | ⟨_,z,_,hz,h3⟩ | ⟨_,_,_,_,_,h3,_⟩
 ·rw[hd]at h3;cases h3
 ·cases h3
 ·have hs2:ops.size=2:=by have:=congrArg List.length hl;simpa using this
  obtain rfl:=hz (by simp[Ah,hs2]);rw[h3]at h1;cases h1;exact k2
 ·rw[hd2]at h3;cases h3
theorem yo{x1:Exit}(hO:kJ P (dO P) O){x:Code}{aR bid it nx ok:Nat}{live:List Nat}{sg:Bool}{A c rest:bC}{qs:Option Code}(hm:uF ann n x=some (it,nx,ok))(hx:aP P ann n bid x=some (.loop live sg (.seq A c)))(hr:wS P ann n aR rest qs)
  (h:aA O (.cU live (.t it) nx ok bid c rest) e σ=some (x1,e',σ')) (ha:At (dO P) base ann.bH g0 w0 n b g w B e σ a):
  Ends P ann n base g0 w0 b cs g w a (.code (.block bid x)::(qs.toList.map Item.code++k)) k σ x1 e' σ':=by
 obtain⟨rid,ops,p,rfl,_⟩:=pN hm;have hc:=v8 hm hx;simp only[aA]at h;obtain⟨g1,w1,B1,a1,t1,k1,k2,k3,k4,k5⟩:=hO _ _ (rn h) ann aR rid ops p n it qs rfl hm hc hr base g0 w0 b a k cs g w B ha;exact⟨g1,w1,B1,a1,t1,k1.imp fun _ hs => .head stepR_block (.head stepR_loop hs),k2,k3,k4,k5⟩
theorem zB{g g':G}{n:Nat}(h:g.le g')(hn:∀l i L,g.loc l i=some L→l<n):g.le (g'.cut n) :=
 ⟨fun l i L e=>by rw[G.gU (hn l i L e)];exact h.loc l i L e,h.fp⟩
theorem jy.map'{S:Frame→Prop}{g g':G}{b:Frame}{a:Act}{todo:List Item}{x:Exit}(hg:∀d v,d.clean=true→aI g d v→aI g' d v)(h:jy S g b a todo x):jy S g' b a todo x:=by
 cases x with
 |eO d=>obtain⟨h1,v,h2,h3⟩:=h;exact⟨h1,v,hg d v h1 h2,h3⟩
 |_=>exact h
theorem oi.Nu{fb:Nat}{V:List Nat}{g:G}{w:World}{B:Nat→Nat}{e0:Env}{tmps:Array Value}{p:Nat×D}{n:Nat}(h:oi fb V g w B e0 tmps p)(hl:p.2.low n=true):oi fb V (g.cut n) w B e0 tmps p:=by
 obtain⟨t,d⟩:=p;unfold oi at h ⊢;dsimp only at h ⊢ hl;split
 ·rename_i s cs;obtain⟨h1,h2,h3,h4⟩:=h;obtain⟨c,el,k1,k2,k3⟩:=h4.aR;exact⟨h1,h2,h3,h4.lo,fun hh=>h4.free (G.oS hh),h4.gL,c,el,k1,k2.cut hl,k3⟩
 ·rename_i hd;cases d with
  |own s cs=>exact absurd rfl (hd s cs)
  |_=>exact aI.cut h hl
theorem Hj{code:Code}{c:bC}{x:Exit}(h:aA O (.EF c) e σ=some (x,e',σ'))
  (hin:∀{e1:Env} {σ1:SK},aA O c e ([]::σ)=some (x,e1,σ1)→At (dO P) base ann.bH g0 w0 n b g w B e ([]::σ) a→Ends P ann n base g0 w0 b cs g w a (.code code::k) k ([]::σ) x e1 σ1)
  (ha:At (dO P) base ann.bH g0 w0 n b g w B e σ a):Ends P ann n base g0 w0 b cs g w a (.code code::k) k σ x e' σ':=by
 simp only[aA,ab,Prod.exists,af]at h;obtain⟨x1,e1,σ1,hac,rfl,he2,hs2⟩:=h;have ha1:At (dO P) base ann.bH g0 w0 n b g w B e ([]::σ) a :=
  {ha with inv:=ha.inv.push,low:=ha.low.push ha.inv,pos:=by simp }
 obtain⟨g1,w1,B1,a1,todo,k1,k2,k3,k4,k5⟩:=hin hac ha1;have hents:=k2.fr.bA (keys e1);obtain⟨g2,i2,ev2,hents2⟩:=sc (CR:=dO P) (base:=base) (σ.length-1) _ σ1 g1 k2.inv hents;obtain⟨hlow,hgo⟩:=nX (σ.length-1) (restrict (keys e1) e1) σ1;cases hfz:gF (σ.length-1) (restrict (keys e1) e1) σ1 with
 |mk e3 σ3 =>
 rw[hfz]at he2 hs2 i2 hents2 hlow hgo;dsimp only at he2 hs2 i2 hents2 hlow hgo;subst he2;have hl3:gu σ3:=hgo.low k2.low;have hlen3:σ3.length=σ.length+1:=by
  have h1:=hgo.len;have h2:=k5.len;simp at h1 h2;omega
 cases σ3 with
 |nil=>simp at hlen3
 |cons s σ2 =>
 simp only[List.tail_cons]at hs2;subst hs2;have hlen2:σ2.length=σ.length:=by simpa using hlen3
 have hpos:=ha.pos;rw[show σ.length-1+1=σ2.length from by omega]at hlow;have hlvl:∀l i L,g.loc l i=some L→l<σ2.length:=fun l i L h=>by rw[hlen2];exact ha.inv.lvl h
 have hlvl0:∀l i L,g0.loc l i=some L→l<σ2.length:=fun l i L h=>by
  obtain⟨L',h',_⟩:=ha.ev.le.loc l i L h;exact hlvl l i L' h'
 obtain⟨i3,l3⟩:=i2.pop hl3;obtain⟨rs,hmk⟩:=k2.marks;have hmk2:=hmk.ev ev2;have hle:g.le (g2.cut σ2.length):=zB (k3.trans' ev2.le) hlvl;refine⟨g2.cut σ2.length,w1,B1,a1,todo,k1.map' fun d v hcl hv=>(hv.mono ev2.le).cut (ie hcl),⟨oi.fr k2.fr fun p hp=>(hents2 p hp).Nu (hlow p hp),(k2.ev.trans ev2).cut hlvl0,i3,l3,by simpa[hlen2]using hpos,k2.size,⟨rs,hmk2.eq,hmk2.nodup,fun r hr=>?_⟩,jb ha.round hle⟩,hle,k4,⟨hlen2,fun _=>l3⟩⟩;have:=hmk2.all r hr;exact⟨this.lo,fun hh=>this.free (G.oS hh),this.gL,this.aR⟩
theorem iA(hm:P.follows .mixedOrders=true)(hO:kJ P (dO P) O)(code:Code):∀{aR:Nat} {c:bC} {e e':Env} {σ σ':SK} {x:Exit} {g:G} {w:World} {B:Nat→Nat} {a:Act} {k:List Item},
  aP P ann n aR code=some c→aA O c e σ=some (x,e',σ')→At (dO P) base ann.bH g0 w0 n b g w B e σ a→Ends P ann n base g0 w0 b cs g w a (.code code::k) k σ x e' σ':=by
 induction hsz:SizeOf.sizeOf code using Nat.strongRecOn generalizing code with
 |_ N ih =>
 intro aR c e e' σ σ' x g w B a k hc h ha;have seq2:∀{p q:Code} {x' y':bC},(∀{e e':Env} {σ σ':SK} {x:Exit} {g:G} {w:World} {B:Nat→Nat} {a:Act} {k:List Item},aA O x' e σ=some (x,e',σ')→At (dO P) base ann.bH g0 w0 n b g w B e σ a→Ends P ann n base g0 w0 b cs g w a (.code p::k) k σ x e' σ') →
   (∀{e e':Env} {σ σ':SK} {x:Exit} {g:G} {w:World} {B:Nat→Nat} {a:Act},aA O y' e σ=some (x,e',σ')→At (dO P) base ann.bH g0 w0 n b g w B e σ a→Ends P ann n base g0 w0 b cs g w a (.code q::k) k σ x e' σ') →
   aA O (.seq x' y') e σ=some (x,e',σ')→Ends P ann n base g0 w0 b cs g w a (.code (.seq p q)::k) k σ x e' σ':=by
  intro p q x' y' ih1 ih2 h;simp only[aA,ae,Prod.exists]at h;obtain⟨x1,e1,σ1,h3,h4⟩:=h;obtain⟨g1,w1,B1,a1,t1,k1,k2,k3,k4,k5⟩:=ih1 (k:=.code q::k) h3 ha;cases x1 with
  |normal =>
   obtain rfl:=k4;obtain⟨g2,w2,B2,a2,t2,m1,m2,m3,m4,m5⟩:=ih2 h4 k2;exact⟨g2,w2,B2,a2,t2,m1.imp fun _ hs => .head stepR_seq (Steps.trans k1 hs),m2,k3.trans' m3,m4,k5.trans m5⟩
  |exit id =>
   simp only[ad,af]at h4;obtain⟨rfl,rfl,rfl⟩:=h4;exact⟨g1,w1,B1,a1,t1,k1.imp fun _ hs => .head stepR_seq hs,k2,k3,k4.skip (fun _=>by simp) (by simp),k5⟩
  |ret =>
   simp only[ad,af]at h4;obtain⟨rfl,rfl,rfl⟩:=h4;exact⟨g1,w1,B1,a1,t1,k1.imp fun _ hs => .head stepR_seq hs,k2,k3,k4.skip (fun _=>by simp) (by simp),k5⟩
  |eO d =>
   simp only[ad,af]at h4;obtain⟨rfl,rfl,rfl⟩:=h4;exact⟨g1,w1,B1,a1,t1,k1.imp fun _ hs => .head stepR_seq hs,k2,k3,k4.skip (fun _=>by simp) (by simp),k5⟩
 cases code with
 |skip =>
  simp only[aP,ad]at hc;subst hc;simp only[aA,ad,af]at h;obtain⟨rfl,rfl,rfl⟩:=h;exact⟨g,w,B,a,k,.one stepR_skip,ha,g.le_refl,rfl,.refl _⟩
 |region id ops draw=>exact wq hm hO hc h ha
 |seq p q =>
  simp only[aP]at hc;split at hc
  case h_2=>cases hc
  rename_i p' q' h1 h2;cases hc;rcases ib ann p p' q' with⟨f,xs,_,h3⟩ | ⟨_,p0,bid,l0,p1,live,it,nx,ok,bb,c0,rfl,rfl,h3⟩ | ⟨_,z,hz,_,h3⟩ | ⟨_,live,op,f,xs,_,h3⟩
  ·rw[h3]at h;simp[aA]at h
  ·rw[h3]at h;simp only[aP]at h1;split at h1
   case h_2=>cases h1
   rename_i p2 q2 g1 g2;simp only[ab,ad]at g2 h1;obtain⟨l1,g3,rfl⟩:=g2;rcases jK ann n bid l0 l1 with⟨it',nx',ok',live',sg,A,c1,g4,rfl,g5⟩ | g5
   ·rw[g5]at h1;rcases ib ann p0 p2 (.cU live' (.t it') nx' ok' bid c1 .dY)with⟨f,xs,_,g6⟩ | ⟨_,_,_,_,_,_,_,_,_,_,_,_,_,g6⟩ | ⟨_,z,rfl | rfl,_,g6⟩ | ⟨_,_,_,_,_,_,g6⟩
    rotate_left 4
    ·rw[g6]at h1;cases h1
    ·rw[g6]at h1;cases h1
    ·rw[g6]at h1;cases h1
    rotate_left 1
    ·rw[g6]at h1;cases h1
    ·rw[g6]at h1;cases h1;simp only[aA,ae,Prod.exists]at h;obtain⟨x1,e1,σ1,h4,h5⟩:=h;obtain⟨f1,w1,B1,a1,t1,k1,k2,k3,k4,k5⟩:=ih _ (by simp at hsz ⊢;omega) p0 rfl (k:=.code (.block bid l0)::.code q::k) g1 h4 ha;cases x1 with
     |normal =>
      obtain rfl:=k4;obtain⟨f2,w2,B2,a2,t2,m1,m2,m3,m4,m5⟩:=yo (aR:=aR) (qs:=some q) (k:=k) (cs:=cs) hO g4 g3 h2 h5 k2;exact⟨f2,w2,B2,a2,t2,m1.imp fun _ hs => .head stepR_seq (.head stepR_seq (Steps.trans k1 hs)),m2,k3.trans' m3,m4,k5.trans m5⟩
     |exit id =>
      simp only[ad,af]at h5;obtain⟨rfl,rfl,rfl⟩:=h5;exact⟨f1,w1,B1,a1,t1,k1.imp fun _ hs => .head stepR_seq (.head stepR_seq hs),k2,k3,(k4.skip (fun _=>by simp) (by simp)).skip (fun _=>by simp) (by simp),k5⟩
     |ret =>
      simp only[ad,af]at h5;obtain⟨rfl,rfl,rfl⟩:=h5;exact⟨f1,w1,B1,a1,t1,k1.imp fun _ hs => .head stepR_seq (.head stepR_seq hs),k2,k3,(k4.skip (fun _=>by simp) (by simp)).skip (fun _=>by simp) (by simp),k5⟩
     |eO d =>
      simp only[ad,af]at h5;obtain⟨rfl,rfl,rfl⟩:=h5;exact⟨f1,w1,B1,a1,t1,k1.imp fun _ hs => .head stepR_seq (.head stepR_seq hs),k2,k3,trivial,k5⟩
   ·rw[g5]at h1;rcases ib ann p0 p2 (.aR bid l1)with⟨f,xs,_,g6⟩ | ⟨_,_,_,_,_,_,_,_,_,_,_,_,_,g6⟩ | ⟨_,z,rfl | rfl,_,g6⟩ | ⟨_,_,_,_,_,_,g6⟩<;>rw[g6]at h1<;>cases h1
  ·rw[h3]at h;rcases hz with rfl | rfl
   ·exact seq2 (fun h ha=>ih _ (by simp at hsz;omega) p rfl h1 h ha) (fun h ha=>ih _ (by simp at hsz;omega) q rfl h2 h ha) h
   ·exact seq2 (fun h ha=>ih _ (by simp at hsz;omega) p rfl h1 h ha) (fun h ha=>Hj h (fun h ha=>ih _ (by simp at hsz;omega) q rfl h2 h ha) ha) h
  ·rw[h3]at h;simp only[aA,ae,ab]at h;obtain⟨_,⟨_,_,rfl⟩,h⟩:=h;cases h
 |cond co p q =>
  simp only[aP]at hc;split at hc
  case h_2=>cases hc
  rename_i C p' q' h0 h1 h2;cases hc;simp only[aA]at h;split at h
  case h_2=>cases h
  rename_i t ht;obtain⟨tmps,df⟩:=a;have hrel:=ha.fr.aC (df:=df) h0;rw[ht]at hrel;have hev:=hrel.fu;refine Ends.step (stepR_cond hev) ?_;cases t with
  |true=>exact ih _ (by simp at hsz;omega) p rfl h1 (by simpa using h) ha
  |false=>exact ih _ (by simp at hsz;omega) q rfl h2 (by simpa using h) ha
 |block id p =>
  simp only[aP,ab]at hc;obtain⟨p',h1,rfl⟩:=hc;rcases jK ann n id p p' with⟨it',nx',ok',live',sg,A,c1,g4,rfl,g5⟩ | g5
  ·rw[g5]at h;have:=yo (aR:=aR) (qs:=none) (k:=k) (cs:=cs) hO g4 h1 rfl h ha;simpa using this
  rw[g5]at h;simp only[aA,ab,Prod.exists]at h;obtain⟨x1,e1,σ1,h3,h4⟩:=h;obtain⟨g1,w1,B1,a1,t1,k1,k2,k3,k4,k5⟩:=ih _ (by simp at hsz;omega) p rfl (k:=.inBlock id::k) h1 h3 ha;cases x1 with
  |normal =>
   cases h4;obtain rfl:=k4;exact⟨g1,w1,B1,a1,k,.head stepR_block (Steps.trans k1 (.one stepR_inBlock)),k2,k3,rfl,k5⟩
  |exit j =>
   obtain⟨k',rfl,hk'⟩:=k4;dsimp only at h4;split at h4
   ·rename_i hj;subst hj;cases h4;refine⟨g1,w1,B1,a1,k,.head stepR_block (Steps.trans k1 (.one (stepR_exit ?_))),k2,k3,rfl,k5⟩;rw[hk'];simp[exitTo]
   ·rename_i hj;cases h4;refine⟨g1,w1,B1,a1,_,Steps.head stepR_block k1,k2,k3,⟨k',rfl,?_⟩,k5⟩;rw[hk'];simp[exitTo,Ne.symm hj]
  |ret =>
   cases h4;exact⟨g1,w1,B1,a1,t1,Steps.head stepR_block k1,k2,k3,k4,k5⟩
  |eO d =>
   cases h4;exact⟨g1,w1,B1,a1,t1,k1.imp fun _ hs => .head stepR_block hs,k2,k3,trivial,k5⟩
 |loop p =>
  simp only[aP,ab]at hc;obtain⟨p',h1,rfl⟩:=hc;simp only[aA]at h;obtain⟨hx,hloop⟩:=hO _ _ (rn h);exact Ends.step stepR_loop (hloop ann aR p n h1 base g0 w0 b a k cs g w B ha)
 |rangeFunc f ps p q=>exact yG hO hc h ha
 |scope p =>
  simp only[aP,ab]at hc;obtain⟨p',h1,rfl⟩:=hc;unfold pV at h;split at h
  ·rw[nV]at h;cases h
  simp only[aA,Option.bind_some]at h;obtain⟨g1,w1,B1,a1,t1,k1,k2,k3,k4,k5⟩:=ih _ (by simp at hsz;omega) p rfl (k:=.inScope p::k) h1 h ha;cases x with
  |normal =>
   obtain rfl:=k4;exact⟨g1,w1,B1,a1,k,.head km (Steps.trans k1 (.one q8)),k2,k3,rfl,k5⟩
  |exit id=>exact⟨g1,w1,B1,a1,t1,Steps.head km k1,k2,k3,k4.skip (fun _=>by simp) (by simp),k5⟩
  |ret=>exact⟨g1,w1,B1,a1,t1,Steps.head km k1,k2,k3,k4.skip (fun _=>by simp) (by simp),k5⟩
  |eO d=>exact⟨g1,w1,B1,a1,t1,k1.imp fun _ hs => .head km hs,k2,k3,trivial,k5⟩
 |label l =>
  simp only[aP,ad]at hc;subst hc;simp only[aA,ad,af]at h;obtain⟨rfl,rfl,rfl⟩:=h;exact⟨g,w,B,a,k,.one stepR_label,ha,g.le_refl,rfl,.refl _⟩
 |exit id =>
  simp only[aP,ad]at hc;subst hc;simp only[aA,ad,af]at h;obtain⟨rfl,rfl,rfl⟩:=h;exact⟨g,w,B,a,_,.refl _ _,ha,g.le_refl,⟨k,rfl,rfl⟩,.refl _⟩
 |ret =>
  simp only[aP,ad]at hc;subst hc;simp only[aA,ad,af]at h;obtain⟨rfl,rfl,rfl⟩:=h;exact⟨g,w,B,a,_,.refl _ _,ha,g.le_refl,⟨k,rfl⟩,.refl _⟩
 |_ =>
  simp only[aP,ad]at hc;subst hc;rw[nV]at h;cases h
end
section
variable {P:Program} {CR:cm} {base fb:Nat} {V:List Nat} {g:G} {σ σ':SK} {w:World} {B:Nat→Nat} {e:Env} {tmps:Array Value} {d:D}
theorem tP{t:TypeId}{ag:Bool}{sz:Nat}{b o:Nat}{vs:List Value}{cs:List D}(hag:iU P t=some ag)(hsz:bx P t=some sz)(hone:(ag || sz == 1)=true)(hpos:0<sz)
  (hrd:Rd w b o vs) (hrl:aH g cs vs) (h1:∀x∈vs,x.oneCell'=true)
  (h:(if sz≤cs.length then if ag then some (D.agg (cs.take sz),σ)else match(generalizing:=false) cs with | d::_=>some (d,σ) | []=>none else none)=some (d,σ')):
  ∃v,(loadVar t ⟨b,o,none⟩).run P w=.ok v w∧aI g d v:=by
 split at h
 case isFalse=>cases h
 rename_i hlen;obtain⟨v,hv,hv2⟩:=l7 hag hsz hone hrd (by rw[← hrl.length];exact hlen);cases ag with
 |true =>
  simp only[if_true,ad,af]at h;obtain⟨rfl,rfl⟩:=h;simp only[if_true]at hv2;subst hv2;exact⟨_,hv,.agg _ _ (by simpa using hrl.take sz) fun y hy=>h1 y (bJ (by simpa using hy))⟩
 |false =>
  simp only[ai,if_false]at h hv2;obtain⟨y,r,rfl,rfl⟩:=hv2;cases cs with
  |nil=>simp at hlen;omega
  |cons d0 cs =>
   simp only[ad,af]at h;obtain⟨rfl,rfl⟩:=h;cases hrl with
   |cons _ _ _ _ ha hb=>exact⟨_,hv,ha⟩
def yH(tmps:Array Value):ResultVar→Sem Value
 |.tmp t=>pure (tmps.getD t Go.undef)
 |.cell a t=>do loadVar t (← asAddr (tmps.getD a Go.undef))
theorem uL(F:Func):results F tmps=(do
  let vs←F.results.mapM (yH tmps)
  pure (if h:vs.size=1 then vs[0]else .tuple vs)):=rfl
theorem GR(hf:Fr fb V g w B e tmps)(hi:Inv CR base g σ w){ann:jq}{r:ResultVar}{R:o7}(hR:Ae P ann r=some R)(h:su e σ R=some d):
  ∃v,(yH tmps r).run P w=.ok v w∧aI g d v:=by
 cases r with
 |tmp t =>
  simp only[Ae,ad]at hR;subst hR;simp only[su,ad]at h;subst h;exact⟨_,rfl,hf.strip t⟩
 |cell x t =>
  simp only[Ae]at hR;split at hR
  case h_2=>cases hR
  rename_i ag sz hag hsz;simp only[an,ah,aq]at hR;obtain⟨⟨hone,hpos⟩,hR⟩:=hR;by_cases hc:ann.bH.contains x=true
  ·rw[if_pos hc]at hR;cases hR;simp only[su,ab,Prod.exists]at h;obtain⟨d',σ',h,rfl⟩:=h;simp only[aK]at h;split at h
   case h_2=>cases h
   rename_i s cs off hin;obtain⟨hg,hp⟩:=hf.gK hin;obtain⟨_,_,hob⟩:=hf.own x s cs hg;obtain⟨ca,el,hheap,hrl,h1⟩:=hob.aR;have hrd:Rd w (B x) off (ca.toList.drop off):=by
    have:Rd w (B x) 0 ca.toList:=fun j y ey=>by simp only[World.cell?,hheap];simpa using ey
    simpa using this.drop off
   obtain⟨v,h2,h3⟩:=tP hag hsz hone hpos hrd (hrl.drop off) (fun y hy=>h1 y (bI hy)) h;exact⟨v,by simp only[yH,hp];simpa[asAddr]using h2,h3⟩
  ·rw[if_neg hc]at hR;cases hR;simp only[su,ab,Prod.exists]at h;obtain⟨d',σ',h,rfl⟩:=h;simp only[aK]at h;split at h
   case h_2=>cases h
   rename_i cs hcs;rcases vd hi (hf.strip x) hcs with rfl | ⟨b,off,vs,hcv,hrd,hrl,h1⟩
   ·simp at h;omega
   ·obtain⟨v,h2,h3⟩:=tP hag hsz hone hpos hrd hrl h1 h;exact⟨v,by simp only[yH,hcv];simpa[asAddr]using h2,h3⟩
theorem vA(hf:Fr fb V g w B e tmps)(hi:Inv CR base g σ w){ann:jq}:∀{rs:List ResultVar} {Rs:List o7} {ds:List D},oB P ann rs=some Rs→lM e σ Rs=some ds →
  ∃vs,(rs.mapM (yH tmps)).run P w=.ok vs w∧aH g ds vs
 |[],Rs,ds,h1,h2=>by
  simp only[oB,ad]at h1;subst h1;simp only[lM,ad]at h2;subst h2;exact⟨[],by simp,.nil⟩
 |r::rs,Rs,ds,h1,h2=>by
  simp only[oB]at h1;split at h1
  case h_2=>cases h1
  rename_i R Rs' k1 k2;cases h1;simp only[lM,ae,ab]at h2;obtain⟨d,h3,ds',h4,rfl⟩:=h2;obtain⟨v,h5,h6⟩:=GR hf hi k1 h3;obtain⟨vs,h7,h8⟩:=vA hf hi k2 h4;exact⟨v::vs,by simp only[List.mapM_cons,Sem.run_bind,h5,Result.andThen_ok,h7,Sem.run_pure],.cons _ _ _ _ h6 h8⟩
theorem mQ(hf:Fr fb V g w B e tmps)(hi:Inv CR base g σ w){ann:jq}{F:Func}{Rs:List o7}{ds:List D}(h1:oB P ann F.results.toList=some Rs)(h2:lM e σ Rs=some ds):
  ∃v,(results F tmps).run P w=.ok v w∧aI g (iS ds) v:=by
 obtain⟨vs,h3,h4⟩:=vA (tmps:=tmps) hf hi h1 h2;have hrun:∀v,(if h:vs.toArray.size=1 then vs.toArray[0]else Value.tuple vs.toArray)=v→(results F tmps).run P w=.ok v w:=by
  intro v hv;subst hv;rw[uL];simp only[Sem.run_bind,Array.mapM_eq_mapM_toList,Sem.run_map,h3,Result.andThen_ok,Sem.run_pure]
 cases h4 with
 |nil=>exact⟨_,hrun _ rfl,by simpa[iS]using aI.er (g:=g) [] #[] .nil⟩
 |cons d c ds' cs' k1 k2 =>
  cases k2 with
  |nil=>exact⟨c,hrun _ (by simp),by simpa[iS]using k1⟩
  |cons d2 c2 ds2 cs2 k3 k4=>exact⟨_,hrun _ rfl,by simpa[iS]using aI.er (g:=g) _ (c::c2::cs2).toArray (.cons _ _ _ _ k1 (.cons _ _ _ _ k3 k4))⟩
end
section
variable {P:Program} {CR:cm} {base n:Nat} {V:List Nat} {g0 g:G} {w0 w:World} {b:Frame} {B:Nat→Nat} {e:Env} {σ:SK} {a:Act}
theorem uU{df0:List Deferred}:∀(rs:List Nat) (w:World) (g:G) (a:Act) (fr:Frame) (cs:List Frame),fr.mode ≠ .run→fr.defers=rs.map mark++df0→(rs++iP df0).Nodup→(∀r∈rs++iP df0,kH w0.heap.size g w r) →
  Fr w0.heap.size V g w B e a.tmps→Ev g0 w0 g w→Inv CR base g σ w →
  ∃w',Steps P (lone fr cs w) (lone {fr with defers:=df0 } cs w')∧Fr w0.heap.size V g w' B e a.tmps∧Ev g0 w0 g w'∧Inv CR base g σ w'∧(∀r∈iP df0,kH w0.heap.size g w' r)
 |[],w,g,a,fr,cs,hm,hd,hn,hall,hf,he,hi=>by
  refine⟨w,?_,hf,he,hi,by simpa using hall⟩;have:{fr with defers:=df0 }=fr:=by cases fr;simp only[aS,aL]at hd;subst hd;rfl
  rw[this];exact .refl _ _
 |r::rs,w,g,a,fr,cs,hm,hd,hn,hall,hf,he,hi=>by
  have hr:=hall r (by simp);have htake:=run_takeDeferred (P:=P) hr.aR;have hstep:=step_collected (P:=P) (cs:=cs) (d:=mark r) (ds:=rs.map mark++df0) hm (by rw[hd];rfl) rfl htake;have hoth:∀b',b'≠r→(w.putObj r (.deferred none)).heap[b']?=w.heap[b']?:=fun b' hne=>World.putObj_heap_other hne
  have hi':Inv CR base g σ (w.putObj r (.deferred none)):=hi.oT (fun b' _ hk=>hoth b' fun hh=>by
   subst hh;rcases hk with hk | ⟨o,v,hk⟩
   ·exact hr.free hk
   ·rw[hr.gL]at hk;cases hk) (by simp)
  have he':Ev g0 w0 g (w.putObj r (.deferred none)) :=
   ⟨he.le,he.os,he.tape,he.output,by simpa using he.size,fun b' hb' hnb=>by rw[hoth b' (by have:=hr.lo;omega)];exact he.kept b' hb' hnb,he.wF,he.q4⟩
  have hf':Fr w0.heap.size V g (w.putObj r (.deferred none)) B e a.tmps:=⟨hf.rel,fun t s cs' ht=>by
   obtain⟨h1,h2,h3⟩:=hf.own t s cs' ht;obtain⟨c,el,hb,hrl,h5⟩:=h3.aR;refine⟨h1,h2,h3.lo,h3.free,h3.gL,c,el,?_,hrl,h5⟩;rw[hoth (B t) (fun hh=>by rw[hh,hr.aR]at hb;cases hb)];exact hb,hf.inj⟩
  rw[aY,List.nodup_cons]at hn;obtain⟨w',h1,h2,h3,h4⟩:=uU rs (w.putObj r (.deferred none)) g a {fr with defers:=rs.map mark++df0 } cs hm rfl hn.2 (fun r' hr'=>by
   have hm':=hall r' (by rw[aY];exact List.mem_cons_of_mem _ hr');refine⟨hm'.lo,hm'.free,hm'.gL,?_⟩;rw[hoth r' (fun hh=>hn.1 (hh ▸ hr'))];exact hm'.aR) hf' he' hi'
  refine⟨w',.head ?_ h1,h2,h3,h4⟩;rw[hstep];rfl
end
open Go.RowKit
structure MZ(w:World)(b o:Nat)(zs:List Int)(w':World):Prop where
 row:∀c el,w.heap[b]?=some (.cells c el (0,0))→o+zs.length≤c.size→∃c',w'.heap[b]?=some (.cells c' el (0,0))∧c'.size=c.size ∧
  ∀j,c'[j]?=if o≤j∧j<o+zs.length then(zs.map (Value.int .i64))[j-o]? else c[j]?
 other:∀x,x<w.heap.size→x≠b→w'.heap[x]?=w.heap[x]?
 size:w.heap.size≤w'.heap.size
 os:w'.os=w.os
 tape:w'.tape=w.tape
 output:w'.output=w.output
def natVal(k b o cap:Nat)(zs:List Int):Value:=if k=1 then .tuple #[]else .slice (some ⟨b,o,none⟩) (rm zs).length cap
def NY(P:Program)(k f:Nat):Prop :=
 (∃F c,P.funcs[f]?=some F∧F.name ≠ "runtime.NumGoroutine" ∧ F.body=some c) ∧
 ∀(b o cap:Nat) (zs:List Int) (w:World) (c:Array Value) (el:TypeId),w.heap[b]?=some (.cells c el (0,0))→o+zs.length≤c.size →
  (∀j z,zs[j]?=some z→c[o+j]?=some (.int .i64 z))→zs.length<4611686018427387904→zs.length≤cap →
  Calls P f #[.slice (some ⟨b,o,none⟩) zs.length cap] w fun e w'=>e=.returned (natVal k b o cap zs)∧MZ w b o (yy k zs) w'
def vN(P:Program)(CR:cm)(k f:Nat):Prop:=∀args σ r,yw k args σ=some r→∃d σ',r=.val d σ'∧ko P CR f args σ d σ'
theorem ov(x:Int):∀l:List Int,(zN x l).length=l.length+1
 |[]=>rfl
 |y::l=>by
  unfold zN;split
  ·rfl
  ·simp[ov x l]
theorem sH:∀l:List Int,(vF l).length=l.length
 |[]=>rfl
 |x::l=>by simp[vF,ov,sH l]
theorem kX(x:Int):∀l:List Int,(tp x l).length≤l.length
 |[]=>al _
 |y::l=>by
  unfold tp;split
  ·have:=kX x l;simp;omega
  ·have:=kX y l;simp;omega
theorem zA:∀l:List Int,(rm l).length≤l.length
 |[]=>al _
 |x::l=>by have:=kX x l;simp[rm];omega
def ES(P:Program)(f:Nat)(fn:Fn):Prop:=∃F c ann,P.funcs[f]?=some F∧F.name ≠ "runtime.NumGoroutine" ∧ F.body=some c∧MJ P ann F=some fn
def E0(P:Program)(T:lN):Prop :=
 ∀f fn,T f=some fn→if f<1000000 then ES P f fn else fn.body=.exit 0∧vN P (dO P) fn.uH (f-1000000)
theorem vU{args:List D}:∀{k t:Nat},get (gn k args) t=if k≤t then(args[t-k]?).getD .undef else .undef:=by
 induction args with
 |nil=>intro k t;simp[gn,get]
 |cons d ds ih =>
  intro k t;simp only[gn,get,ih];by_cases h:k=t
  ·subst h;simp
  ·rw[if_neg h];by_cases h2:k≤t
   ·rw[if_pos h2,if_pos (by omega),show t-k=(t-(k+1))+1 from by omega,List.getElem?_cons_succ]
   ·rw[if_neg h2,if_neg (by omega)]
theorem vi{P:Program}{ann:jq}{F:Func}{c:Code}{fn:Fn}(hb:F.body=some c)(h:MJ P ann F=some fn):
  aP P ann F.ntmps 0 c=some fn.body∧oB P ann F.results.toList=some fn.res∧fn.uH≤F.ntmps:=by
 unfold MJ at h;rw[hb]at h;dsimp only at h;split at h
 case h_2=>cases h
 rename_i c' rs h1 h2;simp only[an]at h;obtain⟨h3,h⟩:=h;cases h;exact⟨h1,h2,h3⟩
section
variable {P:Program} {T:lN} {O:aN}
theorem pC{f:Nat}{F:Func}{c:Code}(V:List Nat){args:List D}(kd:CallKind)(hF:P.funcs[f]?=some F)(hbody:F.body=some c)(hlen:args.length≤F.ntmps)
  {base:Nat} {g:G} {w:World} {vs:Array Value} {σ:SK} (hi:Inv (dO P) base g σ w) (hl:gu σ) (hp:0<σ.length) (hr:aH g args vs.toList):
  ∃b a,Frame.enter P f vs kd=b.atR a [.code c]∧b.defers=[]∧b.fn=f∧b.kind=kd∧b.roundOf=none∧At (dO P) base V g w F.ntmps b g w (fun _=>0) (gn 0 args) σ a:=by
 have hsz:vs.size=args.length:=by have:=hr.length;simpa using this.symm
 let b:Frame:=Frame.enter P f vs kd
 let a:Act:=⟨vs++Array.replicate (F.ntmps-vs.size) Go.undef,[]⟩
 have hfr:Frame.enter P f vs kd=b.atR a [.code c]:=by
  simp[b,a,Frame.enter,Frame.atR,hF,hbody]
 have hrel:∀t,aI g (get (gn 0 args) t) (a.tmps.getD t Go.undef):=by
  intro t;rw[vU,if_pos (Nat.zero_le _),Nat.sub_zero];cases ht:args[t]? with
  |none=>exact .undef _
  |some d =>
   obtain⟨c0,hc0,hrc⟩:=hr.get ht;have hlt:t<vs.size:=by have:=(ar.1 ht).1;omega
   have:a.tmps.getD t Go.undef=c0:=by
    simp only[a,aU];rw[Array.getElem?_append_left hlt];simp at hc0;rw[hc0];rfl
   rw[this];exact hrc
 have hno:∀t s cs,get (gn 0 args) t ≠ .own s cs:=fun t s cs=>vw (hrel t) s cs
 refine⟨b,a,hfr,rfl,rfl,rfl,rfl,⟨⟨fun t=>?_,fun t s cs ht=>absurd ht (hno t s cs),fun t t' s s' cs cs' ht=>absurd ht (hno t s cs)⟩,Ev.refl g w,hi,hl,hp,?_,⟨[],rfl,List.nodup_nil,by simp[iP,b,Frame.enter]⟩,.inl rfl⟩⟩
 ·have:=hrel t;cases hd:get (gn 0 args) t with
  |own s cs=>trivial
  |vr=>rw[hd]at this;cases this
  |emp=>rw[hd]at this;cases this
  |_=>rw[hd]at this;exact this
 ·simp only[a,Array.size_append,Array.size_replicate];omega
def ue(g:G):Exit→FrameMode→Prop
 |.eO d,u=>uW g (some d) u∧d.clean=true
 |_,u=>u=.returning
theorem uJ{ann:jq}{base n:Nat}{g0 g1:G}{w0 w1:World}{b:Frame}{B:Nat→Nat}{e:Env}{σ:SK}{a:Act}{cs:List Frame}{x:Exit}{todo:List Item}
  (hro:b.roundOf=none) (hL:lC [] x todo) (hne:∀id,x ≠ .exit id) (ha:At (dO P) base ann.bH g0 w0 n b g1 w1 B e σ a) {fr:Frame} {w:World} (start:Frame) (hs:jy (fun fr=>Steps P (lone start cs w) (lone fr cs w1)) g1 b a todo x):
  ∃w2 u,Steps P (lone start cs w) (lone {b.atR a todo with mode:=u,defers:=b.defers } cs w2)∧ue g1 x u ∧
   Fr w0.heap.size ann.bH g1 w2 B e a.tmps∧Ev g0 w0 g1 w2∧Inv (dO P) base g1 σ w2∧(∀r∈iP b.defers,kH w0.heap.size g1 w2 r):=by
 obtain⟨rs,hmk⟩:=ha.marks;have fin:∀u:FrameMode,u ≠ .run→Steps P (lone start cs w) (lone {b.atR a todo with mode:=u } cs w1) →
   ∃w2,Steps P (lone start cs w) (lone {b.atR a todo with mode:=u,defers:=b.defers } cs w2) ∧
   Fr w0.heap.size ann.bH g1 w2 B e a.tmps∧Ev g0 w0 g1 w2∧Inv (dO P) base g1 σ w2∧(∀r∈iP b.defers,kH w0.heap.size g1 w2 r):=by
  intro u hu hst;obtain⟨w2,u1,u2,u3,u4,u5⟩:=uU (P:=P) (df0:=b.defers) rs w1 g1 a {b.atR a todo with mode:=u } cs hu hmk.eq hmk.nodup hmk.all ha.fr ha.ev ha.inv;exact⟨w2,.trans hst u1,u2,u3,u4,u5⟩
 cases x with
 |exit id=>exact absurd rfl (hne id)
 |normal =>
  obtain rfl:=hL;obtain⟨w2,k⟩:=fin .returning (by simp) (Steps.trans hs (.one (stepR_end hro)));exact⟨w2,.returning,k.1,rfl,k.2⟩
 |ret =>
  obtain⟨k',rfl⟩:=hL;obtain⟨w2,k⟩:=fin .returning (by simp) (Steps.trans hs (.one (stepR_ret hro)));exact⟨w2,.returning,k.1,rfl,k.2⟩
 |eO d =>
  obtain⟨hcl,v,hr,hs⟩:=hs;obtain⟨w2,k⟩:=fin (.panicking [{v,recovered:=false }]) (by simp) hs;exact⟨w2,_,k.1,⟨⟨v,hr,rfl⟩,hcl⟩,k.2⟩
theorem xe{x:Code}{f:aM}{xs:List aM}(h:sb x=some (f,xs)):∃id ops o fo args ts,x=.region id ops false∧ops.toList=[o]∧o.op=.defer {callee:=.value fo,args,argTypes:=ts }∧o.dst=none∧o.guard=none∧aF fo=some f∧jv args.toList=some xs:=by
 unfold sb at h;split at h
 case h_2=>cases h
 rename_i id ops;split at h
 case h_2=>cases h
 rename_i o ho;split at h
 case h_2=>cases h
 rename_i c h1 h2 h3;obtain⟨callee,args,ts⟩:=c;dsimp only at h;split at h
 case h_2=>cases h
 rename_i fo;split at h
 case h_2=>cases h
 rename_i h4 h5;cases h;exact⟨id,ops,o,fo,args,ts,rfl,ho,h1,h2,h3,h4,h5⟩
theorem wy{ann:jq}{n id:Nat}{ops:Array Oper}{draw:Bool}{c:bC}(h:uK P ann n id ops draw=some c):dw c=none:=by
 unfold uK at h;split at h
 ·dsimp only at h;split at h
  ·split at h
   ·cases h;unfold py;split
    ·split<;>rfl
    ·rfl
   ·cases h
  ·cases h
 ·obtain⟨xs,_,rfl⟩:=ab.1 h;unfold py;split
  ·split<;>rfl
  ·rfl
theorem yT(hm:P.follows .mixedOrders=true)(hO:kJ P (dO P) O){ann:jq}{n aR base:Nat}{g0:G}{w0:World}{b:Frame}{cs:List Frame}(hro:b.roundOf=none):∀(code:Code) {c A q:bC} {fo:aM} {as:List aM} {e e1:Env} {σ σ1:SK} {g:G} {w:World} {B:Nat→Nat} {a:Act} {k:List Item} {fi:Nat} {first cap:List D},
  aP P ann n aR code=some c→dw c=some (A,fo,as,q)→aA O A e σ=some (.normal,e1,σ1)→At (dO P) base ann.bH g0 w0 n b g w B e σ a→aC e1 fo=.fn fi first cap →
  ∃g1 w1 B1 a1 q0 first' cap' argv,Steps P (lone (b.atR a (.code code::k)) cs w) (lone (b.atR {a1 with defers:={target:=.fn (.func fi) cap',args:=first'++argv }::a1.defers } (.code q0::k)) cs w1) ∧
   At (dO P) base ann.bH g0 w0 n b g1 w1 B1 e1 σ1 a1∧aP P ann n aR q0=some q∧g.le g1∧ct σ σ1∧aH g1 first first'.toList∧aH g1 cap cap'.toList∧aH g1 (as.map (aC e1)) argv.toList:=by
 intro code;induction code with
 |seq x y ihx ihy =>
  intro c A q fo as e e1 σ σ1 g w B a k fi first cap hc hsp h ha hfe
  simp only[aP]at hc;split at hc
  case h_2=>cases hc
  rename_i x' y' h1 h2;cases hc;rcases ib ann x x' y' with⟨f,xs,h3,h4⟩ | ⟨_,p0,bid,l0,p1,live,it,nx,ok,bb,c0,rfl,rfl,h4⟩ | ⟨_,z,hz,_,h4⟩ | ⟨_,live,op,f,xs,hM,h4⟩
  rotate_left 3
  ·rw[h4]at hsp;simp only[dw,aG,ad,af]at hsp;obtain⟨rfl,rfl,rfl,rfl⟩:=hsp;simp only[aA,ae,ab,Prod.exists]at h;obtain⟨_,e9,σ9,⟨e8,σ8,h8,h9⟩,h⟩:=h;cases h9;cases h;obtain⟨id,ops,m,o,fc,args,ts,op',live',rfl,hops,ho,hd,hg,hf,hxs,hop,_,hc'⟩:=pA hM;cases hc';have ho0:ops[0]?=some m:=by
    have:=congrArg (·[0]?) hops;simpa using this
   have ho1:ops[1]?=some o:=by
    have:=congrArg (·[1]?) hops;simpa using this
   have hsize:ops.size=2:=by
    have:=congrArg List.length hops;simpa using this
   obtain⟨g1,w1,B1,a1,k1,k2,k3,k4⟩:=mj (k:=.code y::k) (cs:=cs) (tl:=[1]) hO _ _ _ _ _ _ _ _ (jx.cons ⟨m,false,ho0,hop⟩ .nil:jx (o5 P ann n id ops) [0] [op]) h8 ha;have ha2:=k2.restrict live;obtain⟨tmps,df⟩:=a1;have hfv:=ha2.fr.aC (df:=df) hf;have hargs:=nD (df:=df) ha2.fr hxs;rw[hfe]at hfv;generalize hev:(Act.mk tmps df).eval fc=fv at hfv;cases hfv with
   |fn _ _ _ first' cap' r1 r2 =>
    have hw:Region.wanted o (yielded ops tmps)=true:=by simp[Region.wanted,hg]
    have hres:(resolve (Act.mk tmps df).eval {callee:=.value fc,args,argTypes:=ts } o.type).run P w1=.ok {target:=.fn (.func fi) cap',args:=first'++args.map (Act.mk tmps df).eval } w1:=dF hev w1;have hstep:step P (lone (b.atR ⟨tmps,df⟩ (.inRegion ops [1]::.code y::k)) cs w1)=.next (lone (b.atR ⟨tmps,{target:=.fn (.func fi) cap',args:=first'++args.map (Act.mk tmps df).eval }::df⟩ (.inRegion ops []::.code y::k)) cs w1):=by
     have hgs:=stepGR_op (P:=P) (b:=b) (a:=⟨tmps,df⟩) (k:=.code y::k) (cs:=cs) (w:=w1) (rest:=[]) ho1 hw;rw[hro,Oper.semAt_none]at hgs;have hr:(execOp (Act.mk tmps df).eval o).run P w1=.ok (.defer {target:=.fn (.func fi) cap',args:=first'++args.map (Act.mk tmps df).eval }) w1:=by
      simp only[execOp,ho,Sem.run_bind,hres,Result.andThen_ok,Sem.run_pure]
     refine step_lone_go ?_;rw[hgs];have hfin:({b.atR ⟨tmps,df⟩ (.inRegion ops [1]::.code y::k)with defers:={target:=.fn (.func fi) cap',args:=first'++args.map (Act.mk tmps df).eval }::df }:Frame).finish Go.undef =
       b.atR ⟨tmps,{target:=.fn (.func fi) cap',args:=first'++args.map (Act.mk tmps df).eval }::df⟩ (.inRegion ops []::.code y::k):=by
      have:=Frame.finish_atR b ⟨tmps,{target:=.fn (.func fi) cap',args:=first'++args.map (Act.mk tmps df).eval }::df⟩ ops 1 [] (.code y::k) Go.undef;rw[ho1]at this;simp only[Option.bind_some,hd,Act.put]at this;exact this
     simp only[stepG.apply,Sem.runT_eq,hr,GStep.bare_after];exact congrArg (fun fr=>GStep.go {frame:=fr,callers:=cs,status:=.running,dying:=none } w1) hfin
    refine⟨g1,w1,B1,⟨tmps,df⟩,y,first',cap',args.map (Act.mk tmps df).eval,.head stepR_seq (.head stepR_region (.trans ?_ (.head hstep (.one (stepR_region_end (ops:=ops)))))),ha2,h2,k3,k4,r1,r2,hargs⟩;rw[hsize];exact k1
  ·rw[h4]at hsp;simp only[dw,ad,af]at hsp;obtain⟨rfl,rfl,rfl,rfl⟩:=hsp;simp only[aA,ad,af,true_and]at h;obtain⟨rfl,rfl⟩:=h;obtain⟨id,ops,o,fc,args,ts,rfl,hops,ho,hd,hg,hf,hxs⟩:=xe h3;obtain⟨tmps,df⟩:=a;have hfv:=ha.fr.aC (df:=df) hf;have hargs:=nD (df:=df) ha.fr hxs;rw[hfe]at hfv;generalize hev:(Act.mk tmps df).eval fc=fv at hfv;cases hfv with
   |fn _ _ _ first' cap' r1 r2 =>
    have ho0:ops[0]?=some o:=by
     have:=congrArg (·[0]?) hops;simpa using this
    have hsize:ops.size=1:=by
     have:=congrArg List.length hops;simpa using this
    have hw:Region.wanted o (yielded ops tmps)=true:=by simp[Region.wanted,hg]
    have hres:(resolve (Act.mk tmps df).eval {callee:=.value fc,args,argTypes:=ts } o.type).run P w=.ok {target:=.fn (.func fi) cap',args:=first'++args.map (Act.mk tmps df).eval } w:=dF hev w;have hstep:step P (lone (b.atR ⟨tmps,df⟩ (.inRegion ops [0]::.code y::k)) cs w)=.next (lone (b.atR ⟨tmps,{target:=.fn (.func fi) cap',args:=first'++args.map (Act.mk tmps df).eval }::df⟩ (.inRegion ops []::.code y::k)) cs w):=by
     have hgs:=stepGR_op (P:=P) (b:=b) (a:=⟨tmps,df⟩) (k:=.code y::k) (cs:=cs) (w:=w) (rest:=[]) ho0 hw;rw[hro,Oper.semAt_none]at hgs;have hr:(execOp (Act.mk tmps df).eval o).run P w=.ok (.defer {target:=.fn (.func fi) cap',args:=first'++args.map (Act.mk tmps df).eval }) w:=by
      simp only[execOp,ho,Sem.run_bind,hres,Result.andThen_ok,Sem.run_pure]
     refine step_lone_go ?_;rw[hgs];have hfin:({b.atR ⟨tmps,df⟩ (.inRegion ops [0]::.code y::k)with defers:={target:=.fn (.func fi) cap',args:=first'++args.map (Act.mk tmps df).eval }::df }:Frame).finish Go.undef =
       b.atR ⟨tmps,{target:=.fn (.func fi) cap',args:=first'++args.map (Act.mk tmps df).eval }::df⟩ (.inRegion ops []::.code y::k):=by
      have:=Frame.finish_atR b ⟨tmps,{target:=.fn (.func fi) cap',args:=first'++args.map (Act.mk tmps df).eval }::df⟩ ops 0 [] (.code y::k) Go.undef;rw[ho0]at this;simp only[Option.bind_some,hd,Act.put]at this;exact this
     simp only[stepG.apply,Sem.runT_eq,hr,GStep.bare_after];exact congrArg (fun fr=>GStep.go {frame:=fr,callers:=cs,status:=.running,dying:=none } w) hfin
    refine⟨g,w,B,⟨tmps,df⟩,y,first',cap',args.map (Act.mk tmps df).eval,.head stepR_seq (.head stepR_region (.trans ?_ (.one (stepR_region_end (ops:=ops))))),ha,h2,g.le_refl,.refl _,r1,r2,hargs⟩;rw[hsize];exact .one hstep
  ·rw[h4]at hsp;simp[dw]at hsp
  ·rcases hz with rfl | rfl
   rotate_left
   ·rw[h4]at hsp;simp[dw]at hsp
   rw[h4]at hsp;simp only[dw,ab]at hsp;obtain⟨⟨A',r⟩,hsp,h5⟩:=hsp;cases h5;simp only[aA,ae,Prod.exists]at h;obtain⟨x1,e2,σ2,h6,h7⟩:=h;cases x1 with
   |normal =>
    obtain⟨g2,w2,B2,a2,t2,m1,m2,m3,m4,m5⟩:=iA (b:=b) (cs:=cs) (k:=.code y::k) hm hO x h1 h6 ha;obtain rfl:=m4;obtain⟨g1,w1,B1,a1,q0,first',cap',argv,k1,k2,k3,k4,k5,k6⟩:=ihy (k:=k) h2 hsp h7 m2 hfe;exact⟨g1,w1,B1,a1,q0,first',cap',argv,.head stepR_seq (Steps.trans m1 k1),k2,k3,m3.trans' k4,m5.trans k5,k6⟩
   |_=>simp at h7
 |region id ops draw =>
  intro c A q fo as e e1 σ σ1 g w B a k fi first cap hc hsp h ha hfe
  simp only[aP]at hc;split at hc
  ·rename_i c0 hc0;cases hc;have h0:=wy hc0;cases hv:look id [] ann.fz with
   |nil=>rw[hv]at hsp;simp only[kn]at hsp;rw[h0]at hsp;cases hsp
   |cons v vs=>rw[hv]at hsp;simp only[kn,dw]at hsp;rw[h0]at hsp;cases hsp
  ·cases hc;simp[lU,dw]at hsp
 |scope x ih =>
  intro c A q fo as e e1 σ σ1 g w B a k fi first cap hc hsp h ha hfe
  simp only[aP,ab]at hc;obtain⟨x',_,rfl⟩:=hc;unfold pV at hsp;split at hsp
  ·simp[lU,dw]at hsp
  ·rename_i h0;simp only[dw,h0,Option.map_none]at hsp;cases hsp
 |block id x ih =>
  intro c A q fo as e e1 σ σ1 g w B a k fi first cap hc hsp h ha hfe
  simp only[aP,ab]at hc;obtain⟨x',_,rfl⟩:=hc;rcases jK ann n id x x' with⟨it',nx',ok',live',sg,A,c1,g4,rfl,g5⟩ | g5<;>rw[g5]at hsp<;>simp[dw]at hsp
 |cond co x y =>
  intro c A q fo as e e1 σ σ1 g w B a k fi first cap hc hsp h ha hfe
  simp only[aP]at hc;split at hc
  case h_2=>cases hc
  cases hc;simp[dw]at hsp
 |loop x =>
  intro c A q fo as e e1 σ σ1 g w B a k fi first cap hc hsp h ha hfe
  simp only[aP,ab]at hc;obtain⟨x',_,rfl⟩:=hc;simp[dw]at hsp
 |rangeFunc f ps x y =>
  intro c A q fo as e e1 σ σ1 g w B a k fi first cap hc hsp h ha hfe
  simp only[aP]at hc;split at hc
  case h_2=>cases hc
  simp only[an]at hc;obtain⟨_,hc⟩:=hc;cases hc;simp[dw]at hsp
 |_ =>
  intro c A q fo as e e1 σ σ1 g w B a k fi first cap hc hsp h ha hfe
  simp only[aP,ad]at hc;subst hc;simp[dw,lU]at hsp
end
section
variable {P:Program} {T:lN} {O:aN}
theorem ko.of{f:Nat}{args:List D}{σ σ':SK}{d:D}(h1:∃F c,P.funcs[f]?=some F∧F.name ≠ "runtime.NumGoroutine" ∧ F.body=some c)
  (h2:∀base g w (vs:Array Value),Inv (dO P) base g σ w→gu σ→0<σ.length→aH g args vs.toList →
   ∀cs,∃v w' fr g',ct σ σ'∧Steps P (lone (Frame.enter P f vs .normal) cs w) (lone fr cs w')∧fr.fn=f∧fr.leaving P w' (.returned v)∧Ev g w g' w'∧Inv (dO P) base g' σ' w'∧aI g' d v):
  ko P (dO P) f args σ d σ':=by
 refine⟨h1,fun base g w vs hi hl hp hr=>⟨?_,fun cs=>?_⟩⟩
 ·obtain⟨_,_,_,_,hgo,_⟩:=h2 base g w vs hi hl hp hr [];exact hgo
 ·obtain⟨v,w',fr,g',hgo,k1,k2,k3,k4,k5,k6⟩:=h2 base g w vs hi hl hp hr cs;exact⟨.returned v,w',fr,⟨v,g',rfl,k4,k5,k6⟩,k1,k2,k3⟩
theorem tO{n base:Nat}{V:List Nat}{g0 g g1:G}{w0 w w1:World}{b:Frame}{B:Nat→Nat}{e:Env}{σ σ1:SK}{tmps:Array Value}{F:Func}{ann:jq}{Rs:List o7}{r:R}
  (h:leave Rs σ e σ1=some r) (hress:oB P ann F.results.toList=some Rs) (hf:Fr w0.heap.size V g1 w1 B e tmps) (he:Ev g w g1 w1) (hi:Inv (dO P) base g1 σ1 w1) (hlow:gu σ1) (hlen:σ1.length=σ.length+1)
  (hp:0<σ.length) (hlvl0:∀l i L,g.loc l i=some L→l<σ.length):
  ∃d σ2 v g2,r=.val d σ2∧(results F tmps).run P w1=.ok v w1∧Ev g w g2 w1∧Inv (dO P) base g2 σ2 w1∧aI g2 d v∧gu σ2∧σ2.length=σ.length:=by
 unfold leave at h;split at h
 case h_2=>cases h
 rename_i ds hds;split at h
 case h_2=>cases h
 rename_i d s σ2 hfz;cases h;obtain⟨v,hv1,hv2⟩:=mQ (P:=P) hf hi hress hds;have hspec:=kL (σ.length-1) deep (iS ds) σ1;rw[hfz]at hspec;obtain⟨hlow2,hgo⟩:=hspec;have hl2:gu (s::σ2):=hgo.low hlow;have hlen2:σ2.length=σ.length:=by
  have k1:=hgo.len;simp at k1;omega
 obtain⟨g2,i2,e2,r2⟩:=kB (CR:=dO P) (base:=base) (σ.length-1) deep (iS ds) σ1 g1 w1 v hi hv2;rw[hfz]at i2 r2;obtain⟨i3,l3⟩:=i2.pop hl2;refine⟨d,σ2,v,g2.cut σ2.length,rfl,hv1,(he.trans e2).cut (fun l i L h=>by rw[hlen2];exact hlvl0 l i L h),i3,r2.cut ?_,l3,hlen2⟩;rw[hlen2];rwa[show σ.length-1+1=σ.length from by omega]at hlow2
theorem tz{s:List b8}{σ σ1 σ2:SK}(h:ct ([]::σ) σ1)(h2:σ1=s::σ2)(hl:gu σ2):ct σ σ2:=by
 subst h2;exact⟨by have:=h.len;simpa using this,fun _=>hl⟩
theorem uo(hT:E0 P T)(hm:P.follows .mixedOrders=true)(hO:kJ P (dO P) O){kp:Bool}{f:Nat}{args:List D}{σ:SK}{r:R}
  (h:bK T O (.call kp f args σ)=some r):oh P (dO P) (.call kp f args σ) r:=by
 simp only[bK]at h;cases hTf:T f with
 |none =>
  rw[hTf]at h;dsimp only at h;cases hT2:T (1000000+f)with
  |none=>rw[hT2]at h;cases h
  |some fn =>
   rw[hT2]at h;have h1:=hT _ fn hT2;rw[if_neg (by omega),show 1000000+f-1000000=f from by omega]at h1;obtain⟨d,σ',hr,h2⟩:=h1.2 _ _ _ h;subst hr;exact h2
 |some fn =>
 rw[hTf]at h;dsimp only at h;split at h
 case isFalse=>cases h
 rename_i hlen;have hTO:=hT f fn hTf;by_cases hfl:f<1000000
 rotate_left
 ·rw[if_neg hfl]at hTO;rw[hTO.1]at h;simp[aA,dw,lT]at h
 rw[if_pos hfl]at hTO;obtain⟨F,c,ann,hF,hname,hbody,hfn⟩:=hTO;obtain⟨hcode,hress,hnp⟩:=vi hbody hfn;have hin:∃F c,P.funcs[f]?=some F∧F.name ≠ "runtime.NumGoroutine" ∧ F.body=some c:=⟨F,c,hF,hname,hbody⟩;cases hac:aA O fn.body (gn 0 args) (if kp then σ else []::σ)with
 |none =>
  rw[hac]at h;dsimp only at h;cases kp with
  |true=>simp at h
  |false =>
  simp only[ai,if_false]at h;cases hsp:dw fn.body with
  |none=>rw[hsp]at h;simp[lT]at h
  |some y =>
  obtain⟨A,fo,as,q⟩:=y;rw[hsp]at h;simp only[lT]at h;split at h
  case h_2=>cases h
  rename_i e1 σ1 hA;have key:∀(x2:Exit) (e2:Env) (σ2:SK) (th:Option D),aA O q e1 σ1=some (x2,e2,σ2)→(∀id,x2 ≠ .exit id)→(match x2 with | .eO d=>th=some d | _=>th=none) →
    mK fn.res σ e2 (iB O (aC e1 fo) (as.map (aC e1)) th σ2)=some r→oh P (dO P) (.call false f args σ) r:=by
   intro x2 e2 σ2 th hq hne hth hd;cases hdc:iB O (aC e1 fo) (as.map (aC e1)) th σ2 with
   |none=>rw[hdc]at hd;cases hd
   |some rr =>
   rw[hdc]at hd;cases rr with
   |mF=>cases hd
   |eO=>cases hd
   |val dv σ3 =>
   simp only[mK]at hd;unfold iB at hdc;split at hdc
   case h_2=>cases hdc
   rename_i fi first cap hfe
   obtain⟨⟨FD,cD,hfd1,hfd2,hfd3⟩,hdcall⟩:=hO _ _ hdc;have walk:∀base g w (vs:Array Value),Inv (dO P) base g σ w→gu σ→0<σ.length→aH g args vs.toList →
     ∀cs,∃d σ4 v w' fr g',r=.val d σ4∧ct σ σ4∧Steps P (lone (Frame.enter P f vs .normal) cs w) (lone fr cs w')∧fr.fn=f∧fr.leaving P w' (.returned v)∧Ev g w g' w'∧Inv (dO P) base g' σ4 w'∧aI g' d v:=by
    intro base g w vs hi hl hp hr cs;obtain⟨b,a,hfr,hbd,hbf,hbk,hro,ha⟩:=pC ann.bH .normal hF hbody (by omega) (σ:=[]::σ) hi.push (hl.push hi) (by simp) hr;obtain⟨g1,w1,B1,a1,q0,first',cap',argv,s1,s2,s3,s4,s5,s6,s7,s8⟩:=yT (cs:=cs) (k:=[]) hm hO hro c hcode hsp (by simpa using hA) ha hfe;obtain⟨rs1,hmk1⟩:=s2.marks
    let dd:Deferred:={target:=.fn (.func fi) cap',args:=first'++argv }
    let b':Frame:={b with defers:=dd::a1.defers }
    have ha':At (dO P) base ann.bH g w F.ntmps b' g1 w1 B1 e1 σ1 {a1 with defers:=dd::a1.defers }:=by
     refine⟨s2.fr,s2.ev,s2.inv,s2.low,s2.pos,s2.size,⟨[],rfl,?_,?_⟩,s2.round⟩
     ·simp only[aL,b',iP,dd];rw[hmk1.eq,j7];exact hmk1.nodup
     ·simp only[aL,b',iP,dd];rw[hmk1.eq,j7];exact hmk1.all
    obtain⟨g2,w2,B2,a2,t2,m1,m2,m3,m4,m5⟩:=iA (b:=b') (cs:=cs) (k:=[]) hm hO q0 s3 hq ha';obtain⟨w3,u,n1,n2,n4,n5,n6,n7⟩:=uJ (b:=b') (cs:=cs) (fr:=b) (w:=w1) hro m4 hne m2 _ m1;have hdef:({b'.atR a2 t2 with mode:=u,defers:=b'.defers }:Frame).defers=dd::a1.defers:=rfl;have hu:u ≠ .run:=by
     cases x2 with
     |eO d=>obtain⟨⟨v,_,rfl⟩,_⟩:=n2;simp
     |normal=>obtain rfl:u=.returning:=n2;simp
     |ret=>obtain rfl:u=.returning:=n2;simp
     |exit id=>exact absurd rfl (hne id)
    have hfalls:uW g2 th u:=by
     cases x2 with
     |eO d=>subst hth;exact n2.1
     |normal=>subst hth;exact n2
     |ret=>subst hth;exact n2
     |exit id=>exact absurd rfl (hne id)
    have hargs:aH g2 (first++as.map (aC e1)++cap) (first'++argv++cap').toList:=by
     simpa using((s6.mono m3).append (s8.mono m3)).append (s7.mono m3)
    obtain⟨hgo3,hcd⟩:=hdcall base g2 w3 _ u n6 m2.low m2.pos hargs hfalls;have hinv:(invoke dd.target dd.args).run P w3=.ok (.enter fi (first'++argv++cap')) w3:=by
     simp only[dd,invoke,jC hfd1 hfd2 hfd3]
    have hstep:=step_defer (P:=P) (cs:=cs) (w:=w3) (fr:={b'.atR a2 t2 with mode:=u,defers:=b'.defers }) hu hdef rfl hinv;obtain⟨en,u',w4,frX,⟨v4,g4,rfl,hset,e4,i4⟩,hcomes,hkX,hgo4⟩:=hcd {({b'.atR a2 t2 with mode:=u,defers:=b'.defers }:Frame)with defers:=a1.defers } cs rfl;have hstep2:=step_going_returned (P:=P) (cs:=cs) (c:={({({b'.atR a2 t2 with mode:=u,defers:=b'.defers }:Frame)with defers:=a1.defers })with mode:=u' }) hkX hgo4;have hev4:Ev g w g4 w4:=n5.trans e4;have hmk4:∀r∈rs1++iP b.defers,kH w.heap.size g4 w4 r:=by
     intro r hr;refine kH.ev (n7 r ?_) e4;simp only[b',iP,dd];rw[hmk1.eq,j7];exact hr
    obtain⟨w5,p1,p2,p3,p4,p5⟩:=uU (P:=P) (df0:=b.defers) (V:=ann.bH) (g0:=g) (w0:=w) (B:=B2) (e:=e2) (σ:=σ3) (base:=base) (CR:=dO P) rs1 w4 g4 a2
     {({({b'.atR a2 t2 with mode:=u,defers:=b'.defers }:Frame)with defers:=a1.defers })with mode:=settle u' } cs (by rw[hset];simp) hmk1.eq hmk1.nodup hmk4 (n4.ev e4) hev4 i4
    have hlen3:σ3.length=σ.length+1:=by
     have k1:=hgo3.len;have k2:=m5.len;have k3:=s5.len;simp at k3;omega
    obtain⟨d,σ4,v,g5,hr5,hv5,e5,i5,r5,l5,len5⟩:=tO (n:=0) (g0:=g) (b:=b) hd hress p2 p3 p4 (hgo3.low m2.low) hlen3 hp (fun l i L h=>hi.lvl h);refine⟨d,σ4,v,w5,{({({b'.atR a2 t2 with mode:=u,defers:=b'.defers }:Frame)with defers:=a1.defers })with mode:=settle u',defers:=b.defers },g5,hr5,⟨len5,fun _=>l5⟩,?_,?_,?_,e5,i5,r5⟩
    ·rw[hfr];refine Steps.trans s1 (Steps.trans n1 (.head hstep (Steps.trans hcomes (.head hstep2 p1))))
    ·exact hbf
    ·refine⟨hset,hbd,hbk,F,?_,hv5⟩;show P.funcs[b.fn]?=some F
     rw[hbf];exact hF
   cases r with
   |val d σ' =>
    refine ko.of hin fun base g w vs hi hl hp hr cs=>?_
    obtain⟨d',σ4,v,w',fr,g',h1,h2,h3⟩:=walk base g w vs hi hl hp hr cs;cases h1;exact⟨v,w',fr,g',h2,h3⟩
   |mF=>trivial
   |eO =>
    unfold leave at hd;split at hd
    ·split at hd<;>cases hd
    ·cases hd
  cases hq:aA O q e1 σ1 with
  |none=>rw[hq]at h;simp[pB]at h
  |some y =>
  obtain⟨x2,e2,σ2⟩:=y;rw[hq]at h;cases x2 with
  |exit id=>simp[pB]at h
  |normal=>exact key _ _ _ none hq (by simp) rfl h
  |ret=>exact key _ _ _ none hq (by simp) rfl h
  |eO d=>exact key _ _ _ (some d) hq (by simp) rfl h
 |some y =>
 obtain⟨x,e,σ1⟩:=y;rw[hac]at h;have hx:∀id,x ≠ .exit id:=by intro id hid;subst hid;simp at h
 have walk:∀(base:Nat) (g:G) (w:World) (vs:Array Value),Inv (dO P) base g σ w→gu σ→0<σ.length→aH g args vs.toList →
   ∀cs:List Frame,∃(b:Frame) (a1:Act) (t1:List Item) (u:FrameMode) (w2:World) (g1:G) (B1:Nat→Nat),ct (if kp then σ else []::σ) σ1∧gu σ1∧Steps P (lone (Frame.enter P f vs .normal) cs w) (lone {b.atR a1 t1 with mode:=u,defers:=[] } cs w2)∧b.fn=f∧b.kind=.normal ∧
    ue g1 x u∧Fr w.heap.size ann.bH g1 w2 B1 e a1.tmps∧Ev g w g1 w2∧Inv (dO P) base g1 σ1 w2:=by
  intro base g w vs hi hl hp hr cs;have hi0:Inv (dO P) base g (if kp then σ else []::σ) w:=by cases kp;exact hi.push;exact hi
  have hl0:gu (if kp then σ else []::σ):=by cases kp;exact hl.push hi;exact hl
  have hp0:0<(if kp then σ else []::σ).length:=by cases kp;simp;exact hp
  obtain⟨b,a,hfr,hbd,hbf,hbk,hro,ha⟩:=pC ann.bH .normal hF hbody (by omega) hi0 hl0 hp0 hr;obtain⟨g1,w1,B1,a1,t1,k1,k2,k3,k4,k5⟩:=iA (b:=b) (cs:=cs) (k:=[]) hm hO c hcode hac ha;obtain⟨w2,u,n1,n2,n4,n5,n6,n7⟩:=uJ (b:=b) (cs:=cs) (fr:=b) (w:=w) hro k4 hx k2 _ k1;rw[hbd,← hfr]at n1;exact⟨b,a1,t1,u,w2,g1,B1,k5,k2.low,n1,hbf,hbk,n2,n4,n5,n6⟩
 have ret:(x=.normal∨x=.ret)→(match lM e σ1 fn.res with
    |some ds=>if kp then some (R.val (iS ds) σ1)else
      match bB (σ.length-1) deep (iS ds) σ1 with
      |(d,_::σ2)=>some (.val d σ2)
      |_=>none
    |none=>none)=some r→oh P (dO P) (.call kp f args σ) r:=by
  intro hxx h;have hu:∀{g1:G} {u:FrameMode},ue g1 x u→u=.returning:=by
   clear h;intro g1 u h;rcases hxx with rfl | rfl<;>exact h
  cases kp with
  |true =>
   simp only[if_true]at h;split at h
   case h_2=>cases h
   rename_i ds hds;cases h;refine ko.of hin fun base g w vs hi hl hp hr cs=>?_
   obtain⟨b,a1,t1,u,w2,g1,B1,k1,k2,k3,k4,k5,k6,k8,k9,k10⟩:=walk base g w vs hi hl hp hr cs;obtain⟨v,hv1,hv2⟩:=mQ (P:=P) k8 k10 hress hds;obtain rfl:=hu k6;refine⟨v,w2,_,g1,by simpa using k1,k3,k4,⟨rfl,rfl,k5,F,?_,hv1⟩,k9,k10,hv2⟩;show P.funcs[b.fn]?=some F
   rw[k4];exact hF
  |false =>
   simp only[ai,if_false]at h;have h':leave fn.res σ e σ1=some r:=h;cases r with
   |mF=>trivial
   |eO =>
    unfold leave at h';split at h'
    ·split at h'<;>cases h'
    ·cases h'
   |val d σ' =>
   refine ko.of hin fun base g w vs hi hl hp hr cs=>?_
   obtain⟨b,a1,t1,u,w2,g1,B1,k1,k2,k3,k4,k5,k6,k8,k9,k10⟩:=walk base g w vs hi hl hp hr cs;have hlen:σ1.length=σ.length+1:=by have:=k1.len;simpa using this
   obtain⟨d',σ4,v,g5,hr5,hv5,e5,i5,r5,l5,len5⟩:=tO (n:=0) (g0:=g) (w0:=w) (b:=b) h' hress k8 k9 k10 k2 hlen hp (fun l i L h=>hi.lvl h);cases hr5;obtain rfl:=hu k6;refine⟨v,w2,_,g5,⟨len5,fun _=>l5⟩,k3,k4,⟨rfl,rfl,k5,F,?_,hv5⟩,e5,i5,r5⟩;show P.funcs[b.fn]?=some F
   rw[k4];exact hF
 cases x with
 |exit id=>exact absurd rfl (hx id)
 |normal=>exact ret (.inl rfl) h
 |ret=>exact ret (.inr rfl) h
 |eO d =>
  dsimp only at h;unfold yW at h;split at h
  case h_2=>cases h
  rename_i s σ2;split at h
  case isFalse=>cases h
  rename_i hc;obtain⟨rfl,hcl⟩:=hc;cases h;refine⟨hcl,hin,fun base g w vs hi hl hp hr=>?_⟩;have hgo:ct σ σ2:=by
   obtain⟨b,a1,t1,u,w2,g1,B1,k1,k2,k3,k4,k5,k6,k8,k9,k10⟩:=walk base g w vs hi hl hp hr [];obtain⟨i3,l3⟩:=k10.pop k2;exact tz (by simpa using k1) rfl l3
  refine⟨hgo,fun cs=>?_⟩;obtain⟨b,a1,t1,u,w2,g1,B1,k1,k2,k3,k4,k5,⟨⟨v,k6,rfl⟩,_⟩,k8,k9,k10⟩:=walk base g w vs hi hl hp hr cs;obtain⟨i3,l3⟩:=k10.pop k2;refine⟨.panicked [{v,recovered:=false }],w2,_,⟨v,g1.cut σ2.length,rfl,k9.cut (fun l i L h=>by rw[hgo.len];exact hi.lvl h),i3,k6.cut (ie hcl)⟩,k3,k4,⟨rfl,rfl,F,?_⟩⟩;show P.funcs[b.fn]?=some F
  rw[k4];exact hF
end
theorem rY{th:Option D}{args:List D}{c q:bC}{e0:Env}(h:nd th args c=some (e0,q)):∃live t nn,c=.seq (.b7 live [⟨some t,none,nn,.vy⟩]) q∧(∀l i a b d c r,q ≠ .cU l i a b d c r)∧e0=restrict live ((t,th.getD .ia)::gn 0 args):=by
 unfold nd at h;split at h
 case h_2=>cases h
 rename_i live t nn q';split at h
 ·cases h
 ·rename_i hn;cases h;exact⟨live,t,nn,rfl,fun l i a b d c r hq=>hn l i a b d c r hq,rfl⟩
section
variable {P:Program} {T:lN} {O:aN} {ann:jq} {n aR:Nat}
theorem GQ{id:Nat}{ops:Array Oper}{draw:Bool}{live:List Nat}{op:Op}(hk:op.k=.vy)(h:aP P ann n aR (.region id ops draw)=some (.b7 live [op])):
  draw=false∧∃o lI,ops.toList=[o]∧wh P ann n id ops lI 0 o=some op:=by
 simp only[aP]at h;split at h
 ·rename_i c0 hc0;simp only[ad]at h;cases hv:look id [] ann.fz with
  |cons v vs=>rw[hv]at h;simp[kn]at h
  |nil =>
   rw[hv]at h;simp only[kn]at h;subst h;unfold uK at hc0;cases draw with
   |true =>
    simp only[if_true]at hc0;split at hc0
    case h_2=>cases hc0
    rename_i xs hxs;simp only[an,ah]at hc0;obtain⟨⟨_,hall⟩,hc0⟩:=hc0;have hxs1:xs=[op]:=by
     simp only[ad]at hc0;unfold py at hc0;split at hc0
     ·split at hc0
      ·cases hc0
      ·cases hc0;rfl
     ·cases hc0;rfl
    subst hxs1;simp[hk]at hall
   |false =>
    simp only[ai,if_false]at hc0;obtain⟨xs,hxs,h1⟩:=ab.1 hc0;have hxs1:xs=[op]:=by
     unfold py at h1;split at h1
     ·split at h1
      ·cases h1
      ·cases h1;rfl
     ·cases h1;rfl
    subst hxs1;refine⟨rfl,?_⟩;cases hl:ops.toList with
    |nil=>rw[hl]at hxs;simp[sn]at hxs
    |cons o l =>
     rw[hl]at hxs;simp only[sn]at hxs;split at hxs
     case h_2=>cases hxs
     rename_i x xs' h2 h3;cases hxs;cases l with
     |nil=>exact⟨o,_,rfl,h2⟩
     |cons o' l' =>
      simp only[sn]at h3;split at h3<;>cases h3
 ·simp only[ad,lU,bC.b7.injEq,fq,and_true]at h;obtain⟨_,rfl⟩:=h;cases hk
theorem z7{c:Code}{live:List Nat}{op:Op}{q:bC}(hk:op.k=.vy)(hq:∀l i a b d c r,q ≠ .cU l i a b d c r)(h:aP P ann n aR c=some (.seq (.b7 live [op]) q)):
  ∃id ops y o lI,c=.seq (.region id ops false) y∧aP P ann n aR y=some q∧ops.toList=[o]∧wh P ann n id ops lI 0 o=some op:=by
 have hf:∀{c:bC},c=lU→∀{live':List Nat},c=.b7 live' [op]→False:=by
  intro c h1 live' h2;rw[h1]at h2;simp only[lU,bC.b7.injEq,fq,and_true]at h2;obtain⟨_,rfl⟩:=h2;cases hk
 cases c with
 |seq x y =>
  simp only[aP]at h;split at h
  case h_2=>cases h
  rename_i x' y' h1 h2;simp only[ad]at h;rcases ib ann x x' y' with⟨f,xs,_,h3⟩ | ⟨_,p0,bid,l0,p1,live',it,nx,ok,bb,c0,rfl,rfl,h3⟩ | ⟨_,z,_,hz,h3⟩ | ⟨_,lv,op,f,xs,hM,h3⟩
  rotate_left 3
  ·rw[h3]at h;obtain⟨_,_,_,_,_,_,_,op',_,_,_,_,_,_,_,_,_,hr,hc⟩:=pA hM;cases hc;cases h;exact absurd hk hr
  ·rw[h3]at h;cases h
  ·rw[h3]at h;cases h;exact absurd rfl (hq _ _ _ _ _ _ _)
  ·rw[h3]at h;cases h;cases x with
   |region id ops draw =>
    obtain⟨rfl,o,lI,h5,h6⟩:=GQ hk h1;have hs1:ops.size=1:=by have:=congrArg List.length h5;simpa using this
    have hzz:=hz (by simp[Ah,hs1]);exact⟨id,ops,y,o,lI,rfl,by rw[hzz];exact h2,h5,h6⟩
   |seq p r =>
    simp only[aP]at h1;split at h1
    case h_2=>cases h1
    rename_i p' r' _ _;simp only[ad]at h1;rcases ib ann p p' r' with⟨f,xs,_,h3⟩ | ⟨_,_,_,_,_,_,_,_,_,_,_,_,_,h3⟩ | ⟨_,_,_,_,h3⟩ | ⟨_,_,_,_,_,_,h3⟩<;>rw[h3]at h1<;>cases h1
   |cond co p r =>
    simp only[aP]at h1;split at h1<;>cases h1
   |block id p =>
    simp only[aP,ab]at h1;obtain⟨p',_,h1⟩:=h1;rcases jK ann n id p p' with⟨_,_,_,_,_,_,_,_,rfl,h3⟩ | h3<;>rw[h3]at h1<;>cases h1
   |loop p =>
    simp only[aP,ab]at h1;obtain⟨p',_,h1⟩:=h1;cases h1
   |rangeFunc f ps p r =>
    simp only[aP]at h1;split at h1
    case h_2=>cases h1
    split at h1<;>cases h1
   |scope p =>
    simp only[aP,ab]at h1;obtain⟨p',_,h1⟩:=h1;unfold pV at h1;split at h1
    ·exact(hf rfl h1).elim
    ·cases h1
   |skip=>simp[aP]at h1
   |label l=>simp[aP]at h1
   |exit id=>simp[aP]at h1
   |ret=>simp[aP]at h1
   |_=>simp only[aP,ad]at h1;exact(hf rfl h1).elim
 |region id ops draw =>
  simp only[aP]at h;split at h
  ·rename_i c0 hc0;simp only[ad]at h;cases hv:look id [] ann.fz with
   |nil =>
    rw[hv]at h;simp only[kn]at h;subst h;unfold uK at hc0;split at hc0
    ·dsimp only at hc0;split at hc0
     ·simp only[an,ad]at hc0;obtain⟨_,hc0⟩:=hc0;unfold py at hc0;split at hc0
      ·split at hc0<;>cases hc0
      ·cases hc0
     ·cases hc0
    ·obtain⟨xs,_,h1⟩:=ab.1 hc0;unfold py at h1;split at h1
     ·split at h1<;>cases h1
     ·cases h1
   |cons v vs=>rw[hv]at h;simp[kn]at h
  ·cases h
 |scope p =>
  simp only[aP,ab]at h;obtain⟨p',_,h1⟩:=h;unfold pV at h1;split at h1<;>cases h1
 |cond co p r =>
  simp only[aP]at h;split at h<;>cases h
 |block id p =>
  simp only[aP,ab]at h;obtain⟨p',_,h1⟩:=h;rcases jK ann n id p p' with⟨_,_,_,_,_,_,_,_,rfl,h3⟩ | h3<;>rw[h3]at h1<;>cases h1
 |loop p =>
  simp only[aP,ab]at h;obtain⟨p',_,h1⟩:=h;cases h1
 |rangeFunc f ps p r =>
  simp only[aP]at h;split at h
  case h_2=>cases h
  split at h<;>cases h
 |skip=>simp[aP]at h
 |label l=>simp[aP]at h
 |exit id=>simp[aP]at h
 |ret=>simp[aP]at h
 |_=>simp only[aP,ad]at h;cases h
theorem sM{b:Frame}{a:Act}{k:List Item}{cs:List Frame}{w:World}{ops:Array Oper}{i:Nat}{is:List Nat}{o:Oper}{args:Array Operand}{ts:Array TypeId}(ho:ops[i]?=some o)(hg:o.guard=none)
  (hop:o.op=.call {callee:=.builtin .recover,args,argTypes:=ts }) (hro:b.roundOf=none) (hk:b.kind=.deferred):
  step P (lone (b.atR a (.inRegion ops (i::is)::k)) cs w)=.next (match recoverD cs with
   |some (v,cs')=>lone (b.atR (a.put o.dst v) (.inRegion ops is::k)) cs' w
   |none=>lone (b.atR (a.put o.dst .nilIface) (.inRegion ops is::k)) cs w):=by
 have hw:Region.wanted o (yielded ops a.tmps)=true:=by simp[Region.wanted,hg]
 have hgs:=stepGR_op (P:=P) (b:=b) (a:=a) (k:=k) (cs:=cs) (w:=w) (rest:=is) ho hw;rw[hro,Oper.semAt_none]at hgs;have hr:(execOp a.eval o).run P w=.ok .recover w:=by
  simp[execOp,hop,resolve,invoke,builtin]
 have htr:tryRecover (b.atR a (.inRegion ops (i::is)::k)) cs=recoverD cs:=tryRecover_deferred (fr:=b.atR a (.inRegion ops (i::is)::k)) hk cs;have hro':(b.atR a (.inRegion ops (i::is)::k)).roundOf=none:=hro;have hfin:=fun v=>mf (b:=b) (a:=a) (rest:=is) (k:=k) ho v
 cases hrec:recoverD cs with
 |none =>
  refine step_lone_go ?_;rw[hgs,← hfin];simp[stepG.apply,hr,hro',htr,hrec]
 |some y =>
  obtain⟨v,cs'⟩:=y;refine step_lone_go ?_;rw[hgs,← hfin];simp[stepG.apply,hr,hro',htr,hrec]
theorem tq(hT:E0 P T)(hm:P.follows .mixedOrders=true)(hO:kJ P (dO P) O){f:Nat}{args:List D}{th:Option D}{σ:SK}{r:R}
  (h:bK T O (.pz f args th σ)=some r):oh P (dO P) (.pz f args th σ) r:=by
 simp only[bK]at h;split at h
 case h_2=>cases h
 rename_i fn hTf;split at h
 case isFalse=>cases h
 rename_i hlen;split at h
 case h_2=>cases h
 rename_i e0 q hrcv;obtain⟨live,t,nn,hbd,hqm,rfl⟩:=rY hrcv;have hTO:=hT f fn hTf;by_cases hfl:f<1000000
 rotate_left
 ·rw[if_neg hfl]at hTO;rw[hTO.1]at hbd;cases hbd
 rw[if_pos hfl]at hTO;obtain⟨F,c,ann,hF,hname,hbody,hfn⟩:=hTO;obtain⟨hcode,hress,hnp⟩:=vi hbody hfn;have hin:∃F c,P.funcs[f]?=some F∧F.name ≠ "runtime.NumGoroutine" ∧ F.body=some c:=⟨F,c,hF,hname,hbody⟩;cases hac:aA O q (restrict live ((t,th.getD .ia)::gn 0 args)) ([]::σ)with
 |none=>rw[hac]at h;cases h
 |some y =>
 obtain⟨x,e,σ1⟩:=y;rw[hac]at h;have hx:(∀id,x ≠ .exit id)∧(∀d,x ≠ .eO d)∧∃s σ2,σ1=s::σ2∧lM e σ1 fn.res=some []∧r=.val (.er []) σ2:=by
  cases x with
  |exit id=>simp at h
  |eO d=>simp at h
  |normal =>
   dsimp only at h;split at h
   ·rename_i s σ2 hres;cases h;exact⟨by simp,by simp,_,σ2,rfl,hres,rfl⟩
   ·cases h
  |ret =>
   dsimp only at h;split at h
   ·rename_i s σ2 hres;cases h;exact⟨by simp,by simp,_,σ2,rfl,hres,rfl⟩
   ·cases h
 obtain⟨hx1,hx2,s,σ2,rfl,hres,rfl⟩:=hx;obtain⟨id,ops,y,o,lI,rfl,hy,hops,hop⟩:=z7 rfl hqm (by rw[← hbd];exact hcode);have walk:∀(base:Nat) (g:G) (w:World) (vs:Array Value) (u:FrameMode),Inv (dO P) base g σ w→gu σ→0<σ.length→aH g args vs.toList→uW g th u →
   ∀(c0:Frame) (cs:List Frame),c0.mode=u→∃(v:Value) (u':FrameMode) (w':World) (fr:Frame) (g':G),ct σ σ2∧settle u'=.returning∧Ev g w g' w'∧Inv (dO P) base g' σ2 w' ∧
    Steps P (lone (Frame.enter P f vs .deferred) (c0::cs) w) (lone fr ({c0 with mode:=u' }::cs) w')∧fr.kind=.deferred∧fr.going P w' (.returned v):=by
  intro base g w vs u hi hl hp hr hfa c0 cs hmode;obtain⟨b,a,hfr,hbdf,hbf,hbk,hro,ha⟩:=pC ann.bH .deferred hF hbody (by omega) (σ:=[]::σ) hi.push (hl.push hi) (by simp) hr;obtain⟨hdst,hn,hgrd⟩:=sk hop;obtain⟨hkc,hmk⟩:=Es hop;obtain⟨args0,ts0,hopo⟩:=yi hkc;have ho0:ops[0]?=some o:=by
   have:=congrArg (·[0]?) hops;simpa using this
  have hsize:ops.size=1:=by
   have:=congrArg List.length hops;simpa using this
  have hguard:o.guard=none:=by
   rcases hgrd with⟨h1,_⟩ | ⟨_,_,_,_,h2,_⟩
   ·exact h1
   ·cases h2
  have hdt:o.dst=some t:=hdst.symm;have hrec:∃(v:Value) (u':FrameMode),aI g (th.getD .ia) v∧settle u'=.returning ∧
    step P (lone (b.atR a [.inRegion ops [0],.code y]) (c0::cs) w)=.next (lone (b.atR (a.put o.dst v) [.inRegion ops [],.code y]) ({c0 with mode:=u' }::cs) w):=by
   have hst:=sM (P:=P) (b:=b) (a:=a) (k:=[.code y]) (cs:=c0::cs) (w:=w) (is:=[]) ho0 hguard hopo hro hbk;cases th with
   |none =>
    obtain rfl:u=.returning:=hfa;refine⟨.nilIface,.returning,.ia,rfl,?_⟩;rw[hst];have:recoverD (c0::cs)=none:=by simp[recoverD,hmode]
    rw[this];have:({c0 with mode:=.returning }:Frame)=c0:=by cases c0;simp only at hmode;subst hmode;rfl
    rw[this]
   |some d =>
    obtain⟨v,hv,rfl⟩:=hfa;refine⟨v,.panicking [{v,recovered:=true }],hv,rfl,?_⟩;rw[hst];have:recoverD (c0::cs)=some (v,{c0 with mode:=.panicking [{v,recovered:=true }] }::cs):=by simp[recoverD,hmode]
    rw[this]
  obtain⟨v,u',hv,hset,hstep⟩:=hrec;have ha1:At (dO P) base ann.bH g w F.ntmps b g w (fun _=>0) ((t,th.getD .ia)::gn 0 args) ([]::σ) (a.put o.dst v):=by
   refine ha.go (Ev.refl g w) ha.inv (.refl _) ?_ l6 put_defers;have:=ha.fr.put (df:=a.defers) (dst:=o.dst) (d:=th.getD .ia) (c:=v) (by
    have:∀d,aI g d v→a8 g (fun _=>0) (gn 0 args) d v:=fun d h=>a8.of h
    exact this _ hv) (hmk rfl) (fun t ht=>by rw[ha.size];exact hn t ht)
   rw[hdt]at this ⊢;exact this
  obtain⟨g1,w1,B1,a1,t1,k1,k2,k3,k4,k5⟩:=iA (b:=b) (cs:={c0 with mode:=u' }::cs) (k:=[]) hm hO y hy hac (ha1.restrict live);obtain⟨w2,uu,n1,n2,n4,n5,n6,n7⟩:=uJ (b:=b) (cs:={c0 with mode:=u' }::cs) (fr:=b) (w:=w) hro k4 hx1 k2 _ k1;have huu:uu=.returning:=by
   cases x with
   |exit id=>exact absurd rfl (hx1 id)
   |eO d=>exact absurd rfl (hx2 d)
   |normal=>exact n2
   |ret=>exact n2
  subst huu;obtain⟨rv,hv1,hv2⟩:=mQ (P:=P) n4 n6 hress hres;obtain⟨i3,l3⟩:=n6.pop k2.low;have hgo:ct σ σ2:=tz k5 rfl l3;refine⟨rv,u',w2,{b.atR a1 t1 with mode:=.returning,defers:=b.defers },g1.cut σ2.length,hgo,hset,n5.cut (fun l i L h=>by rw[hgo.len];exact hi.lvl h),i3,?_,hbk,⟨rfl,hbdf,F,?_,hv1⟩⟩
  ·rw[hfr];refine .head stepR_seq (.head stepR_region ?_);rw[hsize];exact .head hstep (.head (stepR_region_end (ops:=ops)) n1)
  ·show P.funcs[b.fn]?=some F
   rw[hbf];exact hF
 refine⟨hin,fun base g w vs u hi hl hp hr hfa=>⟨?_,fun c0 cs hmode=>?_⟩⟩
 ·obtain⟨_,_,_,_,_,hgo,_⟩:=walk base g w vs u hi hl hp hr hfa {(default:Frame)with mode:=u } [] rfl;exact hgo
 ·obtain⟨v,u',w',fr,g',hgo,hset,he,hi',hs,hk,hg⟩:=walk base g w vs u hi hl hp hr hfa c0 cs hmode;exact⟨.returned v,u',w',fr,⟨v,g',rfl,hset,he,hi'⟩,hs,hk,hg⟩
end
end Go.Abs
namespace Go.Abs
def cZ{α:Type}(O:aN)(F:aN→Option α)(x:α):Prop :=
 ∃L:List (Q×R),(∀p∈L,O p.1=some p.2)∧∀O':aN,(∀p∈L,O' p.1=some p.2)→F O'=some x
variable {α β γ:Type} {O:aN}
theorem cZ.const{x:α}:cZ O (fun _=>some x) x:=⟨[],by simp,fun _ _=>rfl⟩
theorem cZ.of{F:aN→Option α}{x:α}(h:∀O',F O'=some x):cZ O F x:=⟨[],by simp,fun O' _=>h O'⟩
theorem cZ.ask{q:Q}{r:R}(h:O q=some r):cZ O (fun O'=>O' q) r:=⟨[(q,r)],by simpa using h,fun O' h'=>h' (q,r) (by simp)⟩
theorem cZ.andThen{F:aN→Option α}{G:aN→Option β}{x:α}{y:β}(h1:cZ O F x)(h2:cZ O G y){H:aN→Option γ}{z:γ}
  (h:∀O',F O'=some x→G O'=some y→H O'=some z):cZ O H z:=by
 obtain⟨L1,k1,k2⟩:=h1;obtain⟨L2,k3,k4⟩:=h2;refine⟨L1++L2,fun p hp=>?_,fun O' h'=>h O' (k2 O' fun p hp=>h' p (by simp[hp])) (k4 O' fun p hp=>h' p (by simp[hp]))⟩;rcases a7.1 hp with hp | hp
 ·exact k1 p hp
 ·exact k3 p hp
theorem cZ.map{F:aN→Option α}{x:α}(h1:cZ O F x){H:aN→Option β}{z:β}(h:∀O',F O'=some x→H O'=some z):cZ O H z:=by
 obtain⟨L1,k1,k2⟩:=h1;exact⟨L1,k1,fun O' h'=>h O' (k2 O' h')⟩
theorem rh{α:Type}{us:List α}{f:α→Option R}{r:R}(h:agree (us.map f)=some r):∀u∈us,f u=some r:=by
 cases us with
 |nil=>simp[agree]at h
 |cons v vs =>
  simp only[aw,agree]at h;split at h
  ·rename_i hall;intro u hu;rcases aJ.1 hu with rfl | hu
   ·exact h
   ·rw[hall (f u) (bg.2 ⟨u,hu,rfl⟩)];exact h
  ·cases h
theorem rj{α:Type}{us:List α}{f:α→Option R}{r:R}(hne:us≠[])(h:∀u∈us,f u=some r):agree (us.map f)=some r:=by
 cases us with
 |nil=>exact absurd rfl hne
 |cons v vs =>
  simp only[aw,agree];rw[if_pos,h v (by simp)];intro x hx;obtain⟨u,hu,rfl⟩:=bg.1 hx;rw[h u (by simp[hu]),h v (by simp)]
theorem tD{kp:Bool}{fv:D}{args:List D}{σ:SK}{x:D×SK}(h:jL O kp fv args σ=some x):cZ O (fun O'=>jL O' kp fv args σ) x:=by
 cases fv<;>simp only[jL,reduceCtorEq]at h
 ·rename_i f first cap
  cases hq:O (.call kp f (first++args++cap) σ)with
  |none=>rw[hq]at h;cases h
  |some r=>exact(cZ.ask hq).map fun O' h'=>by simp only[jL,h'];rw[hq]at h;exact h
 ·rename_i l i;cases hq:O (.round l i args σ)with
  |none=>rw[hq]at h;cases h
  |some r=>exact(cZ.ask hq).map fun O' h'=>by simp only[jL,h'];rw[hq]at h;exact h
theorem tB{fv:D}{args:List D}{σ:SK}{x:D×SK}(h:oq O fv args σ=some x):cZ O (fun O'=>oq O' fv args σ) x:=by
 cases fv<;>simp only[oq,reduceCtorEq]at h;rename_i f first cap
 cases hq:O (.call false f (first++args++cap) σ)with
 |none=>rw[hq]at h;cases h
 |some r=>exact(cZ.ask hq).map fun O' h'=>by simp only[oq,h'];rw[hq]at h;exact h
theorem rz{op:Op}{e:Env}{σ:SK}{x:Env×SK}(h:jF O op e σ=some x):cZ O (fun O'=>jF O' op e σ) x:=by
 obtain⟨dst,mL,lI,k⟩:=op;cases k
 case call kp f args =>
  simp only[jF]at h;cases hc:jL O kp (aC e f) (args.map (aC e)) σ with
  |none=>rw[hc]at h;cases h
  |some y=>exact(tD hc).map fun O' h'=>by simp only[jF,h'];rw[hc]at h;exact h
 all_goals exact .of fun O'=>h
theorem iZ:∀{ops:List Op} {e:Env} {σ:SK} {x:Env×SK},eN O ops e σ=some x→cZ O (fun O'=>eN O' ops e σ) x
 |[],e,σ,x,h => .of fun O'=>h
 |op::r,e,σ,x,h=>by
  simp only[eN]at h;cases hg:op.mL with
  |none =>
   rw[hg]at h;simp only[ae]at h;obtain⟨y,h1,h2⟩:=h;exact(rz h1).andThen (iZ h2) fun O' k1 k2=>by simp only[eN,hg,k1,Option.bind_some,k2]
  |some p =>
   obtain⟨g,want⟩:=p;rw[hg]at h;dsimp only at h;cases hb:(get e g).bit<;>rw[hb]at h<;>try (cases h;done)
   rename_i b;dsimp only at h;split at h
   ·rename_i hw;simp only[ae]at h;obtain⟨y,h1,h2⟩:=h;exact(rz h1).andThen (iZ h2) fun O' k1 k2=>by simp only[eN,hg,hb,if_pos hw,k1,Option.bind_some,k2]
   ·rename_i hw;exact(iZ h).map fun O' k1=>by simp only[eN,hg,hb,if_neg hw,k1]
theorem tC{fv:D}{args:List D}{σ:SK}{r:R}(h:ng O fv args σ=some r):cZ O (fun O'=>ng O' fv args σ) r:=by
 cases fv<;>simp only[ng,reduceCtorEq]at h;exact(cZ.ask h).map fun O' h'=>by simp only[ng,h']
theorem tA{live:List Nat}{dst:Option Nat}{post:List Op}{e:Env}{r:Option R}{x:Exit×Env×SK}(h:lE O live dst post e r=some x):cZ O (fun O'=>lE O' live dst post e r) x:=by
 cases r with
 |none=>simp[lE]at h
 |some r =>
  cases r with
  |val d σ' =>
   simp only[lE,ab]at h;obtain⟨y,h1,rfl⟩:=h;exact(iZ h1).map fun O' k=>by simp only[lE,k,aG]
  |eO d σ'=>exact .of fun O'=>h
  |mF=>simp[lE]at h
theorem uy{live:List Nat}{op:Op}{post:List Op}{e:Env}{σ:SK}{x:Exit×Env×SK}(h:qI O live op post e σ=some x):cZ O (fun O'=>qI O' live op post e σ) x:=by
 obtain⟨dst,mL,lI,k⟩:=op;cases mL with
 |some _=>simp[qI]at h
 |none =>
 cases k
 case call kp f args =>
  cases kp with
  |true=>simp[qI]at h
  |false =>
   simp only[qI]at h;cases hc:ng O (aC e f) (args.map (aC e)) σ with
   |none=>rw[hc]at h;simp[lE]at h
   |some r =>
    rw[hc]at h;exact(tC hc).andThen (tA h) fun O' k1 k2=>by simp only[qI,k1,k2]
 case z6 y=>exact .of fun O'=>h
 all_goals simp[qI]at h
theorem aV:∀{c:bC} {e:Env} {σ:SK} {x:Exit×Env×SK},aA O c e σ=some x→cZ O (fun O'=>aA O' c e σ) x
 |.dY,e,σ,x,h => .of fun O'=>h
 |.bB _,e,σ,x,h => .of fun O'=>h
 |.exit id,e,σ,x,h => .of fun O'=>h
 |.ret,e,σ,x,h => .of fun O'=>h
 |.b7 live ops,e,σ,x,h=>by
  simp only[aA,ab]at h;obtain⟨y,h1,rfl⟩:=h;exact(iZ h1).map fun O' k=>by simp only[aA,k,aG]
 |.seq a b,e,σ,x,h=>by
  simp only[aA,ae]at h;obtain⟨⟨x1,e1,σ1⟩,h1,h2⟩:=h;cases x1 with
  |normal=>exact(aV h1).andThen (aV h2) fun O' k1 k2=>by simp only[aA,k1,Option.bind_some,k2]
  |exit id=>exact(aV h1).map fun O' k1=>by simp only[aA,k1,Option.bind_some];exact h2
  |ret=>exact(aV h1).map fun O' k1=>by simp only[aA,k1,Option.bind_some];exact h2
  |eO d=>exact(aV h1).map fun O' k1=>by simp only[aA,k1,Option.bind_some];exact h2
 |.ite c a b,e,σ,x,h=>by
  simp only[aA]at h;cases hb:aC e c<;>rw[hb]at h<;>try (cases h;done)
  rename_i t;cases t with
  |true=>exact(aV (by simpa using h)).map fun O' k=>by simp only[aA,hb,if_true,k]
  |false=>exact(aV (by simpa using h)).map fun O' k=>by simp only[aA,hb,ai,if_false,k]
 |.aR id a,e,σ,x,h=>by
  simp only[aA,ab]at h;obtain⟨y,h1,rfl⟩:=h;exact(aV h1).map fun O' k=>by simp only[aA,k,aG]
 |.EF a,e,σ,x,h=>by
  simp only[aA,ab]at h;obtain⟨y,h1,rfl⟩:=h;exact(aV h1).map fun O' k=>by simp only[aA,k,aG]
 |.yY live pre op post,e,σ,x,h=>by
  simp only[aA,ae]at h;obtain⟨⟨e1,σ1⟩,h1,h2⟩:=h;exact(iZ h1).andThen (uy h2) fun O' k1 k2=>by simp only[aA,k1,Option.bind_some,k2]
 |.zf ..,e,σ,x,h=>by simp[aA]at h
 |.cU live it nx ok b a rest,e,σ,x,h=>by
  simp only[aA]at h;cases hq:O (.cU live it nx ok b a rest e σ)with
  |none=>rw[hq]at h;cases h
  |some r=>exact(cZ.ask hq).map fun O' h'=>by simp only[aA,h'];rw[hq]at h;exact h
 |.loop live kF a,e,σ,x,h=>by
  simp only[aA]at h;cases hq:O (.loop live kF a e σ)with
  |none=>rw[hq]at h;cases h
  |some r=>exact(cZ.ask hq).map fun O' k=>by simp only[aA,k];rw[hq]at h;exact h
 |.tS live f params lK body,e,σ,x,h=>by
  simp only[aA]at h;split at h
  case h_2=>cases h
  rename_i l i σ1 hn;cases hc:oq O (aC e f) [.fJ l i] σ1 with
  |none=>rw[hc]at h;cases h
  |some y =>
   rw[hc]at h;exact(tB hc).map fun O' k=>by simp only[aA,hn,k];exact h
theorem se{fv:D}{args:List D}{th:Option D}{σ:SK}{r:R}(h:iB O fv args th σ=some r):cZ O (fun O'=>iB O' fv args th σ) r:=by
 cases fv<;>simp only[iB,reduceCtorEq]at h;exact(cZ.ask h).map fun O' h'=>by simp only[iB,h']
theorem tF{res:List o7}{σ:SK}{fv:D}{args:List D}{y:Exit×Env×SK}{r:R}(h:pB O res σ fv args (some y)=some r):cZ O (fun O'=>pB O' res σ fv args (some y)) r:=by
 obtain⟨x,e,σ1⟩:=y;have one:∀th,mK res σ e (iB O fv args th σ1)=some r→cZ O (fun O'=>mK res σ e (iB O' fv args th σ1)) r:=by
  intro th h;cases hc:iB O fv args th σ1 with
  |none=>rw[hc]at h;cases h
  |some rr=>exact(se hc).map fun O' k=>by rw[k,← hc];exact h
 cases x with
 |exit id=>simp[pB]at h
 |normal=>exact one none h
 |ret=>exact one none h
 |eO d=>exact one (some d) h
theorem tE{fn:Fn}{σ:SK}{y:bC×aM×List aM×bC}{e0:Env}{σ0:SK}{r:R}(h:lT O fn σ (some y) e0 σ0=some r):cZ O (fun O'=>lT O' fn σ (some y) e0 σ0) r:=by
 obtain⟨a,f,args,q⟩:=y;simp only[lT]at h;split at h
 case h_2=>cases h
 rename_i e σ1 hA;cases hq:aA O q e σ1 with
 |none=>rw[hq]at h;simp[pB]at h
 |some z =>
  rw[hq]at h;exact((aV hA).andThen (aV hq) fun O' k1 k2=>(show(fun O'=>(aA O' a e0 σ0,aA O' q e σ1) |> some) O'=some (some (.normal,e,σ1),some z)by simp[k1,k2])).andThen (tF h) fun O' k1 k2=>by
   simp only[ad,af]at k1;simp only[lT,k1.1,k1.2,k2]
theorem oD:∀{c A:bC} {r:aM×List aM×bC} {e e1:Env} {σ σ1:SK},dw c=some (A,r)→aA O A e σ=some (.normal,e1,σ1)→aA O c e σ=none
 |.zf f xs q,A,r,e,e1,σ,σ1,h,ha=>rfl
 |.seq a b,A,r,e,e1,σ,σ1,h,ha=>by
  simp only[dw,ab]at h;obtain⟨⟨A',r'⟩,h1,h2⟩:=h;cases h2;simp only[aA,ae,Prod.exists]at ha;obtain⟨x2,e2,σ2,h3,h4⟩:=ha;cases x2 with
  |normal=>simp only[aA,h3,Option.bind_some];exact oD h1 h4
  |_=>simp at h4
 |.dY,_,_,_,_,_,_,h,_ | .bB _,_,_,_,_,_,_,h,_ | .b7 ..,_,_,_,_,_,_,h,_ | .ite ..,_,_,_,_,_,_,h,_ | .aR ..,_,_,_,_,_,_,h,_ | .loop ..,_,_,_,_,_,_,h,_
 |.EF ..,_,_,_,_,_,_,h,_ | .tS ..,_,_,_,_,_,_,h,_ | .cU ..,_,_,_,_,_,_,h,_ | .yY ..,_,_,_,_,_,_,h,_ | .exit _,_,_,_,_,_,_,h,_ | .ret,_,_,_,_,_,_,h,_=>by simp[dw]at h
theorem uP{c:bC}{y:bC×aM×List aM×bC}{fn:Fn}{σ:SK}{e0:Env}{σ0:SK}{r:R}(hs:dw c=some y)(h:lT O fn σ (some y) e0 σ0=some r):aA O c e0 σ0=none:=by
 obtain⟨a,f,args,q⟩:=y;simp only[lT]at h;split at h
 case h_2=>cases h
 rename_i e σ1 hA;exact oD hs hA
theorem mM{l i b:Nat}{rest:bC}{y:Option (Exit×Env×SK)}{r:R}(h:jR O l i b rest y=some r):cZ O (fun O'=>jR O' l i b rest y) r:=by
 cases y with
 |none=>simp[jR]at h
 |some y =>
 obtain⟨x,e,σ1⟩:=y;cases x with
 |normal=>simp[jR]at h
 |eO d=>simp[jR]at h
 |ret=>exact .of fun O'=>h
 |exit j =>
  simp only[jR]at h;by_cases hj:j=b
  ·rw[if_pos hj]at h;simp only[ab]at h;obtain⟨z,h1,rfl⟩:=h;exact(aV h1).map fun O' k=>by simp only[jR,if_pos hj,k,aG]
  ·rw[if_neg hj]at h;exact .of fun O'=>by simp only[jR,if_neg hj];exact h
theorem ou{T:lN}:∀{q:Q} {r:R},bK T O q=some r→cZ O (fun O'=>bK T O' q) r
 |.call kp f args σ,r,h=>by
  simp only[bK]at h;cases hT:T f with
  |none =>
   rw[hT]at h;dsimp only at h;exact .of fun O'=>by simp only[bK,hT];exact h
  |some fn =>
  rw[hT]at h;dsimp only at h;split at h
  case isFalse=>cases h
  rename_i hl;cases hc:aA O fn.body (gn 0 args) (if kp then σ else []::σ)with
  |none =>
   rw[hc]at h;dsimp only at h;cases kp with
   |true=>simp at h
   |false =>
    simp only[ai,if_false]at h;cases hsp:dw fn.body with
    |none=>rw[hsp]at h;simp[lT]at h
    |some y =>
     rw[hsp]at h;refine(tE h).map fun O' k=>?_
     have hn:aA O' fn.body (gn 0 args) ([]::σ)=none:=uP hsp k;simp only[bK,hT,if_pos hl,ai,if_false,hn,hsp,k]
  |some y =>
   rw[hc]at h;obtain⟨yx,ye,yσ⟩:=y;exact(aV hc).map fun O' k=>by
    simp only[bK,hT,if_pos hl,k];cases yx<;>exact h
 |.loop live kF c e σ,r,h=>by
  simp only[bK]at h;cases hc:aA O c (restrict live e) (if kF then []::σ else σ)with
  |none=>rw[hc]at h;cases h
  |some y =>
   obtain⟨x,e1,σ1⟩:=y;rw[hc]at h;dsimp only at h;cases x with
   |normal =>
    dsimp only at h;exact(aV hc).andThen (cZ.ask h) fun O' k1 k2=>by simp only[bK,k1];exact k2
   |exit id=>exact(aV hc).map fun O' k1=>by simp only[bK,k1];exact h
   |ret=>exact(aV hc).map fun O' k1=>by simp only[bK,k1];exact h
   |eO d=>exact(aV hc).map fun O' k1=>by simp only[bK,k1];exact h
 |.round l i args σ,r,h=>by
  simp only[bK]at h;cases hb:bS σ l i with
  |none=>rw[hb]at h;cases h
  |some bl =>
  rw[hb]at h;cases bl with
  |cells=>cases h
  |dead=>cases h
  |loop lp =>
  dsimp only at h;split at h
  case isFalse=>cases h
  rename_i hl;cases hc:aA O lp.lK (lr lp.params args lp.env) ([]::σ)with
  |none=>rw[hc]at h;cases h
  |some y =>
  obtain⟨x,e1,σ1⟩:=y;rw[hc]at h;cases x with
  |exit id=>cases h
  |ret=>cases h
  |eO d=>cases h
  |normal =>
  dsimp only at h;cases hb1:bS σ1 l i with
  |none=>rw[hb1]at h;cases h
  |some bl1 =>
  rw[hb1]at h;cases bl1 with
  |cells=>cases h
  |dead=>cases h
  |loop lp1 =>
  dsimp only at h;split at h
  case isFalse=>cases h
  rename_i hs;cases hd:aA O lp.body e1 (az σ1 l i (.loop {lp1 with state:=1 }))with
  |none=>rw[hd]at h;cases h
  |some z =>
  rw[hd]at h;exact(aV hc).andThen (aV hd) fun O' k1 k2=>by simp only[bK,hb,if_pos hl,k1,hb1,if_pos hs,k2];exact h
 |.pz f args th σ,r,h=>by
  simp only[bK]at h;cases hT:T f with
  |none=>rw[hT]at h;cases h
  |some fn =>
  rw[hT]at h;dsimp only at h;split at h
  case isFalse=>cases h
  rename_i hl;cases hr:nd th args fn.body with
  |none=>rw[hr]at h;cases h
  |some y =>
  obtain⟨e0,q⟩:=y;rw[hr]at h;dsimp only at h;cases hc:aA O q e0 ([]::σ)with
  |none=>rw[hc]at h;cases h
  |some z =>
   rw[hc]at h;exact(aV hc).map fun O' k=>by simp only[bK,hT,if_pos hl,hr,k];exact h
 |.cU live it nx ok b c rest e σ,r,h=>by
  simp only[bK]at h;cases hop:aC (restrict live e) it<;>rw[hop]at h<;>try (cases h;done)
  rename_i l i;dsimp only at h;split at h
  ·rename_i m n js hit;cases hc:aA O c ((ok,.bool false)::(nx,.undef)::restrict live e) σ with
   |none=>rw[hc]at h;simp[jR]at h
   |some y =>
    rw[hc]at h;exact(aV hc).andThen (mM h) fun O' k k2=>by simp only[bK,hop,hit,k,k2]
  ·rename_i m n js us hne hit;have one:∀u,lH O live it l i nx ok b c rest (aA O c ((ok,.bool true)::(nx,.undef)::restrict live e) (az σ l i (.cells 1 (m::.int .i64 (n:Nat)::.int .i64 (u:Nat)::js))))=some r →
     cZ O (fun O'=>lH O' live it l i nx ok b c rest (aA O' c ((ok,.bool true)::(nx,.undef)::restrict live e) (az σ l i (.cells 1 (m::.int .i64 (n:Nat)::.int .i64 (u:Nat)::js))))) r:=by
    intro u hu;cases hc:aA O c ((ok,.bool true)::(nx,.undef)::restrict live e) (az σ l i (.cells 1 (m::.int .i64 (n:Nat)::.int .i64 (u:Nat)::js)))with
    |none=>rw[hc]at hu;simp[lH,jR]at hu
    |some y =>
     obtain⟨x,e1,σ1⟩:=y;rw[hc]at hu;cases x with
     |normal=>exact(aV hc).andThen (cZ.ask hu) fun O' k1 k2=>by simp only[k1];exact k2
     |exit id=>exact(aV hc).andThen (mM (b:=b) (rest:=rest) (y:=some (.exit id,e1,σ1)) hu) fun O' k1 k2=>by simp only[k1];exact k2
     |ret=>exact(aV hc).andThen (mM (b:=b) (rest:=rest) (y:=some (.ret,e1,σ1)) hu) fun O' k1 k2=>by simp only[k1];exact k2
     |eO d=>simp[lH,jR]at hu
   have all:∀vs:List Nat,(∀v∈vs,lH O live it l i nx ok b c rest (aA O c ((ok,.bool true)::(nx,.undef)::restrict live e) (az σ l i (.cells 1 (m::.int .i64 (n:Nat)::.int .i64 (v:Nat)::js))))=some r) →
     ∃L:List (Q×R),(∀p∈L,O p.1=some p.2)∧∀O':aN,(∀p∈L,O' p.1=some p.2)→∀v∈vs,lH O' live it l i nx ok b c rest (aA O' c ((ok,.bool true)::(nx,.undef)::restrict live e) (az σ l i (.cells 1 (m::.int .i64 (n:Nat)::.int .i64 (v:Nat)::js))))=some r:=by
    intro vs;induction vs with
    |nil=>intro _;exact⟨[],by simp,by simp⟩
    |cons v vs ih =>
     intro hv;obtain⟨L1,h1,h2⟩:=one v (hv v (by simp));obtain⟨L2,h3,h4⟩:=ih fun v' hv'=>hv v' (by simp[hv'])
     refine⟨L1++L2,fun p hp=>?_,fun O' h' v' hv'=>?_⟩
     ·rcases a7.1 hp with hp | hp
      ·exact h1 p hp
      ·exact h3 p hp
     ·rcases aJ.1 hv' with rfl | hv'
      ·exact h2 O' fun p hp=>h' p (by simp[hp])
      ·exact h4 O' (fun p hp=>h' p (by simp[hp])) v' hv'
   obtain⟨L,h1,h2⟩:=all us (rh h);refine⟨L,h1,fun O' h'=>?_⟩;have h3:=h2 O' h';simp only[bK,hop,hit];cases us with
   |nil=>first | exact(hne rfl).elim | exact(hne _ rfl).elim | exact(hne _ _ _ rfl).elim | exact hne.elim
   |cons v vs=>exact rj (by simp) h3
  ·cases h
theorem uQ{T:lN}{O O':aN}(h:∀q r,O q=some r→O' q=some r){q:Q}{r:R}(hq:bK T O q=some r):bK T O' q=some r:=by
 obtain⟨L,h1,h2⟩:=ou hq;exact h2 O' fun p hp=>h _ _ (h1 p hp)
theorem nw{T:lN}:∀{n m:Nat},n≤m→∀{q:Q} {r:R},it T n q=some r→it T m q=some r
 |0,m,_,q,r,h=>by simp[it]at h
 |n+1,0,hnm,q,r,h=>by omega
 |n+1,m+1,hnm,q,r,h=>uQ (fun _ _ hh=>nw (Nat.le_of_succ_le_succ hnm) hh) h
theorem jB{T:lN}{q:Q}{r:R}:lim T q=some r↔∃n,it T n q=some r:=by
 constructor
 ·intro h;unfold lim at h;split at h
  ·rename_i hex;cases h;exact⟨_,hex.choose_spec.choose_spec⟩
  ·cases h
 ·rintro⟨n,h⟩;have hex:∃n r,it T n q=some r:=⟨n,r,h⟩;unfold lim;rw[dif_pos hex];have h1:=nw (Nat.le_max_left n hex.choose) h;have h2:=nw (Nat.le_max_right n hex.choose) hex.choose_spec.choose_spec;rw[h1]at h2;cases h2;rfl
theorem vo{T:lN}:∀{L:List (Q×R)},(∀p∈L,lim T p.1=some p.2)→∃n,∀p∈L,it T n p.1=some p.2
 |[],_=>⟨0,by simp⟩
 |p::L,h=>by
  obtain⟨n,hn⟩:=vo (L:=L) fun q hq=>h q (by simp[hq])
  obtain⟨m,hm⟩:=jB.1 (h p (by simp));refine⟨max n m,fun q hq=>?_⟩;rcases aJ.1 hq with rfl | hq
  ·exact nw (Nat.le_max_right n m) hm
  ·exact nw (Nat.le_max_left n m) (hn q hq)
theorem eM{T:lN}{q:Q}{r:R}(h:bK T (lim T) q=some r):lim T q=some r:=by
 obtain⟨L,h1,h2⟩:=ou h;obtain⟨n,hn⟩:=vo h1;exact jB.2 ⟨n+1,h2 (it T n) hn⟩
open Go.ChangeMaps (setBlock)
section
variable {P:Program} {T:lN} {O:aN} {CR:cm} {base:Nat} {g:G} {σ:SK} {w:World}
theorem Inv.setIter(hi:Inv CR base g σ w){l i b lm im bm n:Nat}{b0:b8}{js:List Nat}(hL:g.loc l i=some (.it b))(hb:bS σ l i=some b0)(hm:g.loc lm im=some (.mp bm))(hnd:js.Nodup)(hlt:∀j∈js,j<n){w1:World}(hw1:w1=w∨w1=w.drew):
  Inv CR base (g.bf l i (.it b)) (az σ l i (.cells 1 (.fJ lm im::.int .i64 (n:Nat)::js.map (fun j:Nat=>D.int .i64 j)))) (setBlock w1 b (.mapIter (some bm) n js.reverse.toArray n)) ∧
   Ev g w (g.bf l i (.it b)) (setBlock w1 b (.mapIter (some bm) n js.reverse.toArray n)):=by
 have hlt':=(hi.lo l i _ b hL rfl).2;have hh:w1.heap=w.heap:=by rcases hw1 with rfl | rfl<;>rfl
 have hos:w1.os=w.os:=by rcases hw1 with rfl | rfl<;>rfl
 have htp:w1.tape=w.tape:=by rcases hw1 with rfl | rfl<;>rfl
 have hout:w1.output=w.output:=by rcases hw1 with rfl | rfl<;>rfl
 have hm2:(g.bf l i (.it b)).loc lm im=some (.mp bm):=by
  rw[G.aD fun hc=>by rw[hc.1,hc.2,hL]at hm;cases hm];exact hm
 refine hi.setCells hL hb (Loc.le_refl _) ⟨rfl,lm,im,bm,n,js,rfl,hm2,?_,hnd,hlt⟩ (fun b' hb' hne=>?_) hos htp hout (by simp[setBlock,hh]) (fun b' hb' => .inl hb')
 ·simp[setBlock,hh,hlt']
 ·have:b≠b':=fun hc=>hne (by rw[hc];rfl)
  simp[setBlock,hh,this]
theorem Inv.zD(hi:Inv CR base g σ w){l i b:Nat}{L:Loc}{b0:b8}(hL:g.loc l i=some L)(hd:L=.it b∨L=.dead)(hb:bS σ l i=some b0):
  Inv CR base (g.bf l i .dead) (az σ l i .dead) w∧Ev g w (g.bf l i .dead) w:=by
 have hle:g.le (g.bf l i .dead):=G.dX fun L0 e=>by rw[hL]at e;cases e;rcases hd with rfl | rfl<;>simp[Loc.le]
 refine⟨hi.nI l i hle (fun l' i' c=>bT c) (fun l' i' c=>G.aD c) (fun _ _ _ _ _ _ _=>rfl) ?_ hi.fp ?_ ?_ (al _) ⟨_,G.aj⟩ (fun _ _ _=>rfl),⟨hle,rfl,rfl,rfl,al _,fun _ _ _=>rfl,?_,fun b o v hv => .inl hv⟩⟩
 ·intro L e;rw[G.aj]at e;cases e;exact⟨_,e6 hb,trivial⟩
 ·intro l' i' L b e eb o;by_cases c:l'=l∧i'=i
  ·obtain⟨rfl,rfl⟩:=c;rw[G.aj]at e;cases e;cases eb
  ·rw[G.aD c]at e;exact hi.sep l' i' L b e eb o
 ·intro L b e eb;rw[G.aj]at e;cases e;cases eb
 ·intro b hb';obtain⟨l',i',L,e,eb⟩:=hb';by_cases c:l'=l∧i'=i
  ·obtain⟨rfl,rfl⟩:=c;rw[G.aj]at e;cases e;cases eb
  ·rw[G.aD c]at e;exact .inl ⟨l',i',L,e,eb⟩
theorem vX{l i n:Nat}{m:D}{js:List D}{us:List Nat}(h:ow σ l i=some (m,n,js,us)):
  ∃lm im es,cells? σ l i 1=some (m::.int .i64 (n:Nat)::js)∧mO σ m=some (lm,im,es)∧es.length=n∧us=(List.range n).filter fun j:Nat => !(js.contains (.int .i64 j)):=by
 unfold ow at h;split at h
 case h_2=>cases h
 rename_i m' n' js' hc;split at h
 case h_2=>cases h
 rename_i lm im es hm;split at h
 case isFalse=>cases h
 rename_i hl;cases h;exact⟨lm,im,es,by rw[hl];exact hc,hm,rfl,rfl⟩
theorem jy.map{S:Frame→Prop}{g g':G}{b:Frame}{a:Act}{todo:List Item}{x:Exit}(hg:∀d v,d.clean=true→aI g d v→aI g' d v)(h:jy S g b a todo x):jy S g' b a todo x:=by
 cases x with
 |eO d=>obtain⟨h0,v,h1,h2⟩:=h;exact⟨h0,v,hg _ _ h0 h1,h2⟩
 |_=>exact h
theorem tR(hm:P.follows .mixedOrders=true)(hO:kJ P (dO P) O){live:List Nat}{it:aM}{nx ok bid:Nat}{c rest:bC}{e:Env}{σ:SK}{r:R}
  (h:bK T O (.cU live it nx ok bid c rest e σ)=some r):oh P (dO P) (.cU live it nx ok bid c rest e σ) r:=by
 cases r with
 |val=>trivial
 |eO=>trivial
 |mF x e' σ' =>
 intro ann aR rid ops p n it0 qs hit hmap hc hrest base g0 w0 b a k cs g w B ha;subst hit;obtain⟨rid',ops',p',heq,o0,o1,hops,h1,h2,h3,h4,h5,h6,c1,c2,c3,c4,c5⟩:=pN hmap;cases heq;simp only[bK]at h;have har:=ha.restrict live;cases hop:aC (restrict live e) (.t it0)<;>rw[hop]at h<;>try (cases h;done)
 rename_i l i;dsimp only at h;cases hitd:ow σ l i with
 |none=>rw[hitd]at h;cases h
 |some y =>
 obtain⟨m,n',js,us⟩:=y;obtain⟨lm,im,es,hcs,hmd,hes,hus⟩:=vX hitd;obtain⟨tmps,df⟩:=a;have hiv:aI g (.fJ l i) (tmps.getD it0 Go.undef):=by
  have h0:=har.fr.strip it0;simp only[aC]at hop;rw[hop]at h0;exact h0
 have hblk:∃cs',bS σ l i=some (.cells 1 cs')∧cs'=m::.int .i64 (n':Nat)::js:=by
  unfold cells? at hcs;split at hcs
  case h_2=>cases hcs
  rename_i v' cs' hb;split at hcs
  case isFalse=>cases hcs
  rename_i hv;subst hv;cases hcs;exact⟨_,hb,rfl⟩
 obtain⟨cs',hblk,rfl⟩:=hblk;obtain⟨bi,bm,lm',im',js',hpt,hloc,hjs,hml,hheap,hnd,hlt⟩:∃bi bm lm' im',∃js':List Nat,tmps.getD it0 Go.undef=.pointer (some ⟨bi,0,none⟩)∧g.loc l i=some (.it bi)∧(m=.fJ lm' im'∧js=js'.map (fun j:Nat=>D.int .i64 j))∧g.loc lm' im'=some (.mp bm) ∧
   w.heap[bi]?=some (.mapIter (some bm) n' js'.reverse.toArray n')∧js'.Nodup∧∀j∈js',j<n':=by
  generalize tmps.getD it0 Go.undef=cv at hiv;cases hiv with
  |fJ _ _ bb r1 =>
   obtain⟨b0,hb0,hrel⟩:=ha.inv.jZ _ _ _ r1;rw[hblk]at hb0;cases hb0;exact hrel.elim
  |wc _ _ bb r1 =>
   obtain⟨b0,hb0,hrel⟩:=ha.inv.jZ _ _ _ r1;rw[hblk]at hb0;cases hb0;obtain⟨h0,_⟩:=hrel;cases h0
  |wE _ _ bb L r1 r2 =>
   obtain⟨b0,hb0,hrel⟩:=ha.inv.jZ _ _ _ r1;rw[hblk]at hb0;cases hb0;rcases r2 with⟨c,rfl⟩ | rfl
   ·obtain⟨h0,_⟩:=hrel;cases h0
   ·exact hrel.elim
  |zh _ _ bb L r1 r2 =>
   obtain⟨b0,hb0,hrel⟩:=ha.inv.jZ _ _ _ r1;rw[hblk]at hb0;cases hb0;rcases r2 with rfl | rfl
   rotate_left
   ·exact hrel.elim
   obtain⟨_,lm',im',bm,n2,js',hce,hlm,hh,hnd,hlt⟩:=hrel;simp only[fq,D.int.injEq,true_and]at hce;obtain⟨rfl,hn2,rfl⟩:=hce;have hn2:n'=n2:=by omega
   subst hn2;exact⟨bb,bm,lm',im',js',rfl,r1,⟨rfl,rfl⟩,hlm,hh,hnd,hlt⟩
 obtain⟨rfl,rfl⟩:=hjs;obtain⟨b2,bA,clock,v2,hc2,hl2,hblk2,hheap2,hrel2,hok⟩:=kN ha.inv (.wc lm' im' bm hml) hmd;cases hc2;have hlen2:es.length=bA.toList.length:=by have:=hrel2.length;simpa using this
 have hck:clock=n':=by rw[hok.2];omega
 subst hck;have hborn:∀y∈bA.toList,y.born<clock:=by
  intro y hy;have h0:y.born∈bA.toList.map (·.born):=bg.2 ⟨y,hy,rfl⟩;rw[hok.1]at h0;have:=List.mem_range.1 h0;omega
 have ho0:ops[0]?=some o0:=by have:=congrArg (·[0]?) hops;simpa using this
 have ho1:ops[1]?=some o1:=by have:=congrArg (·[1]?) hops;simpa using this
 have hsize:ops.size=2:=by have:=congrArg List.length hops;simpa using this
 have hw0:∀a:Act,Region.wanted o0 (yielded ops a.tmps)=true:=fun a=>by simp[Region.wanted,h3]
 have hw1:∀a:Act,Region.wanted o1 (yielded ops a.tmps)=true:=fun a=>by simp[Region.wanted,h6]
 have hnd0:∀c,o0.op ≠ .defer c:=by intro c hc;rw[h1]at hc;cases hc
 have hnd1:∀c,o1.op ≠ .defer c:=by intro c hc;rw[h4]at hc;cases hc
 have region:∀(bv:Bool) (vs:Array Value) (w1:World) (g1:G) (σ1:SK),(execOp (Act.mk tmps df).eval o0).run P w=.ok (.value (.tuple (#[.bool bv]++vs))) w1→Ev g w g1 w1→Inv (dO P) base g1 σ1 w1→ct σ σ1 →
   ∃a1,Steps P (lone (b.atR ⟨tmps,df⟩ (.code (.seq (.region rid ops false) p)::.inLoop (.seq (.region rid ops false) p)::.inBlock bid::(qs.toList.map Item.code++k))) cs w)
    (lone (b.atR a1 (.code p::.inLoop (.seq (.region rid ops false) p)::.inBlock bid::(qs.toList.map Item.code++k))) cs w1)∧At (dO P) base ann.bH g0 w0 n b g1 w1 B ((ok,.bool bv)::(nx,.undef)::restrict live e) σ1 a1:=by
  intro bv vs w1 g1 σ1 hrun he hi hgo;have hts:tmps.size=n:=ha.size;have ha1:At (dO P) base ann.bH g0 w0 n b g1 w1 B ((nx,.undef)::restrict live e) σ1 ((Act.mk tmps df).put (some nx) (.tuple (#[.bool bv]++vs))):=by
   refine har.go he hi hgo ?_ l6 put_defers;exact(har.fr.ev he).put (dst:=some nx) (d:=.undef) (a8.of (.undef _)) (fun t ht=>by cases ht;exact c4) (fun t ht=>by cases ht;rw[hts];exact c1)
  have hget:((Act.mk tmps df).put (some nx) (.tuple (#[.bool bv]++vs))).eval (.tmp nx)=.tuple (#[.bool bv]++vs):=by
   simp[Act.eval,Act.put,hts,c1]
  have hrun1:(execOp ((Act.mk tmps df).put (some nx) (.tuple (#[.bool bv]++vs))).eval o1).run P w1=.ok (.value (.bool bv)) w1:=by
   simp only[execOp,h4,hget];have hz:(#[Value.bool bv]++vs)[0]?=some (.bool bv):=by
    rw[Array.getElem?_append_left (by simp)];rfl
   simp[Instr.extract,hz]
  have ha2:At (dO P) base ann.bH g0 w0 n b g1 w1 B ((ok,.bool bv)::(nx,.undef)::restrict live e) σ1 (((Act.mk tmps df).put (some nx) (.tuple (#[.bool bv]++vs))).put (some ok) (.bool bv)):=by
   refine ha1.go (Ev.refl g1 w1) hi (.refl _) ?_ l6 put_defers;exact ha1.fr.put (dst:=some ok) (d:=.bool bv) (a8.of (.bool bv)) (fun t ht=>by cases ht;exact c5) (fun t ht=>by cases ht;rw[ha1.size];exact c2)
  refine⟨_,.head stepR_seq (.head stepR_region ?_),ha2⟩;rw[hsize];have s0:=jX (P:=P) (b:=b) (a:=⟨tmps,df⟩) (k:=.code p::.inLoop (.seq (.region rid ops false) p)::.inBlock bid::(qs.toList.map Item.code++k)) (cs:=cs) (rest:=[1]) ho0 (hw0 _) hnd0 hrun rfl;rw[h2]at s0;have s1:=jX (P:=P) (b:=b) (k:=.code p::.inLoop (.seq (.region rid ops false) p)::.inBlock bid::(qs.toList.map Item.code++k)) (cs:=cs) (rest:=[]) ho1 (hw1 _) hnd1 hrun1 rfl;rw[h5]at s1;exact .head s0 (.head s1 (.one (stepR_region_end (ops:=ops))))
 have hnext:∀(w:World),(Instr.next (.pointer (some ⟨bi,0,none⟩)) false o0.type).run P w=(Instr.next (.pointer (some ⟨bi,0,none⟩)) false o0.type).run P w:=fun _=>rfl
 have hev0:(Act.mk tmps df).eval (.tmp it0)=.pointer (some ⟨bi,0,none⟩):=hpt;have finish:∀(y:Exit×Env×SK) (g1:G) (w1:World) (B1:Nat→Nat) (a1:Act) (t1:List Item) (σm:SK) (wm:World) (am:Act) (gm:G),jR O l i bid rest (some y)=some (.mF x e' σ')→g.le g1→ct σ y.2.2 →
   Steps P (lone (b.atR ⟨tmps,df⟩ (.code (.seq (.region rid ops false) p)::.inLoop (.seq (.region rid ops false) p)::.inBlock bid::(qs.toList.map Item.code++k))) cs w)
    (lone (b.atR am (.code p::.inLoop (.seq (.region rid ops false) p)::.inBlock bid::(qs.toList.map Item.code++k))) cs wm) →
   jy (fun fr=>Steps P (lone (b.atR am (.code p::.inLoop (.seq (.region rid ops false) p)::.inBlock bid::(qs.toList.map Item.code++k))) cs wm) (lone fr cs w1)) g1 b a1 t1 y.1 →
   At (dO P) base ann.bH g0 w0 n b g1 w1 B1 y.2.1 y.2.2 a1→lC (.inLoop (.seq (.region rid ops false) p)::.inBlock bid::(qs.toList.map Item.code++k)) y.1 t1 →
   ∃g' w' B' a' todo,jy (fun fr=>Steps P (lone (b.atR ⟨tmps,df⟩ (.code (.seq (.region rid ops false) p)::.inLoop (.seq (.region rid ops false) p)::.inBlock bid::(qs.toList.map Item.code++k))) cs w) (lone fr cs w')) g' b a' todo x ∧
    At (dO P) base ann.bH g0 w0 n b g' w' B' e' σ' a'∧g.le g'∧lC k x todo∧ct σ σ':=by
  intro y g1 w1 B1 a1 t1 σm wm am gm hme hle hgo s1 s2 hA hLd;obtain⟨y1,e1,σ1⟩:=y;obtain⟨L1,hL1,hle1⟩:=hle.loc l i _ hloc;have hLd1:L1=.it bi∨L1=.dead:=hle1;obtain⟨bb,hbb,_⟩:=hA.inv.jZ l i _ hL1;obtain⟨i2,e2⟩:=hA.inv.zD hL1 hLd1 hbb;have hgo2:ct σ1 (az σ1 l i .dead):=ct.set fun _=>trivial
  have hA2:At (dO P) base ann.bH g0 w0 n b (g1.bf l i .dead) w1 B1 e1 (az σ1 l i .dead) a1:=hA.go e2 i2 hgo2 (hA.fr.ev e2) rfl rfl;cases y1 with
  |normal=>simp[jR]at hme
  |eO d=>simp[jR]at hme
  |ret =>
   simp only[jR,ad,R.mF.injEq]at hme;obtain⟨rfl,rfl,rfl⟩:=hme;obtain⟨k',rfl⟩:=hLd;exact⟨_,w1,B1,a1,_,Steps.trans s1 s2,hA2,hle.trans' e2.le,⟨k',rfl⟩,hgo.trans hgo2⟩
  |exit j =>
   obtain⟨k',rfl,hk'⟩:=hLd;simp only[jR]at hme;split at hme
   ·rename_i hj;subst hj;simp only[ab,Prod.exists,R.mF.injEq]at hme;obtain⟨x',e'',σ'',hac,rfl,rfl,rfl⟩:=hme;have hout:Steps P (lone (b.atR ⟨tmps,df⟩ (.code (.seq (.region rid ops false) p)::.inLoop (.seq (.region rid ops false) p)::.inBlock j::(qs.toList.map Item.code++k))) cs w) (lone (b.atR a1 (qs.toList.map Item.code++k)) cs w1) :=
     Steps.trans s1 (Steps.trans s2 (.one (stepR_exit (by rw[hk'];simp[exitTo]))))
    cases qs with
    |none =>
     obtain rfl:rest=.dY:=hrest;simp only[aA,ad,af]at hac;obtain⟨rfl,rfl,rfl⟩:=hac;exact⟨_,w1,B1,a1,k,hout,hA2,hle.trans' e2.le,rfl,hgo.trans hgo2⟩
    |some q =>
     obtain⟨g3,w3,B3,a3,t3,k1,k2,k3,k4,k5⟩:=iA (b:=b) (cs:=cs) (k:=k) hm hO q hrest hac hA2;exact⟨g3,w3,B3,a3,t3,k1.imp fun _ hs=>Steps.trans hout hs,k2,(hle.trans' e2.le).trans' k3,k4,(hgo.trans hgo2).trans k5⟩
   ·rename_i hj;simp only[ad,R.mF.injEq]at hme;obtain⟨rfl,rfl,rfl⟩:=hme;refine⟨_,w1,B1,a1,_,Steps.trans s1 s2,hA2,hle.trans' e2.le,⟨k',rfl,?_⟩,hgo.trans hgo2⟩;rw[hk'];simp only[exitTo];rw[if_neg (by simpa using Ne.symm hj)];cases qs<;>rfl
 rw[hitd]at h;rcases run_next_at (P:=P) w o0.type bi bm clock clock js'.reverse.toArray bA clock hheap hheap2 hborn (al _)with⟨hz,hrun⟩ | ⟨en,hen,w1,hw1',hrun⟩
 ·
  have hus0:us=[]:=by
   rw[hus,List.filter_eq_nil_iff];intro j hj;have hjlt:=List.mem_range.1 hj;have h0:j∈bA.toList.map (·.born):=by rw[hok.1];exact List.mem_range.2 (by omega)
   obtain⟨y,hy,rfl⟩:=bg.1 h0;have hnone:leftOf bA js'.reverse.toArray = #[]:=Array.eq_empty_of_size_eq_zero hz;unfold leftOf at hnone;rw[Array.filter_eq_empty_iff]at hnone;have h1:=hnone y (by simpa using hy);simp only[ix,Bool.not_eq_false,List.contains_toArray,List.contains_eq_mem,List.mem_reverse,aq,Bool.not_eq_true]at h1 ⊢;simp at h1 ⊢;exact⟨_,h1,rfl⟩
  subst hus0;dsimp only at h;obtain⟨a1,s1,hA1⟩:=region false #[] w g σ (by simp only[execOp,h1,hev0,Sem.run_bind,hrun,Result.andThen_ok,Sem.run_pure];rfl) (Ev.refl g w) ha.inv (.refl σ);cases hac:aA O c ((ok,.bool false)::(nx,.undef)::restrict live e) σ with
  |none=>rw[hac]at h;simp[jR]at h
  |some y =>
   rw[hac]at h;obtain⟨y1,ey,σy⟩:=y;obtain⟨g2,w2,B2,a2,t2,k1,k2,k3,k4,k5⟩:=iA (b:=b) (cs:=cs) (k:=.inLoop (.seq (.region rid ops false) p)::.inBlock bid::(qs.toList.map Item.code++k)) hm hO p hc hac hA1;exact finish (y1,ey,σy) g2 w2 B2 a2 t2 σ w a1 g h k3 k5 s1 k1 k2 k4
 ·
  have henm:en∈bA.toList∧en.born ∉ js':=by
   unfold leftOf at hen;simp at hen;simpa using hen
  have hbn:en.born<clock:=hborn en henm.1;have hmem:en.born∈us:=by
   rw[hus];simp only[oE,List.mem_range,ix,hbn,true_and];simp;intro x hx hxe;have:x=en.born:=by omega
   subst this;exact henm.2 hx
  have hans:lH O live (.t it0) l i nx ok bid c rest (aA O c ((ok,.bool true)::(nx,.undef)::restrict live e) (az σ l i (.cells 1 (.fJ lm' im'::.int .i64 (clock:Nat)::.int .i64 (en.born:Nat)::js'.map (fun j:Nat=>D.int .i64 j)))))=some (.mF x e' σ'):=by
   split at h
   ·rename_i hsm;cases hsm;simp at hmem
   ·rename_i hsm;cases hsm;exact rh h en.born hmem
   ·rename_i hsm;cases hsm
  obtain⟨i1,e1⟩:=ha.inv.setIter (js:=en.born::js') hloc hblk hml (List.nodup_cons.2 ⟨henm.2,hnd⟩) (by
   intro j hj;rcases aJ.1 hj with rfl | hj
   ·exact hbn
   ·exact hlt j hj) hw1'
  have hgo1:ct σ (az σ l i (.cells 1 (.fJ lm' im'::.int .i64 (clock:Nat)::.int .i64 (en.born:Nat)::js'.map (fun j:Nat=>D.int .i64 j)))):=by
   refine ct.mk bP fun hS=>hS.set fun hl=>?_
   have h0:=hS l i _ hblk hl;simp only[b8.low,D.eZ,D.low,ah,Bool.true_and]at h0 ⊢;exact h0
  have hpush:js'.reverse.toArray.push en.born=(en.born::js').reverse.toArray:=by simp
  rw[hpush]at hrun;obtain⟨a1,s1,hA1⟩:=region true #[en.key,en.val] _ _ _ (by simp only[execOp,h1,hev0,Sem.run_bind,hrun,Result.andThen_ok,Sem.run_pure];rfl) e1 i1 hgo1;simp only[aw]at hA1;cases hac:aA O c ((ok,.bool true)::(nx,.undef)::restrict live e) (az σ l i (.cells 1 (.fJ lm' im'::.int .i64 (clock:Nat)::.int .i64 (en.born:Nat)::js'.map (fun j:Nat=>D.int .i64 j))))with
  |none=>rw[hac]at hans;simp[lH,jR]at hans
  |some y =>
   rw[hac]at hans;obtain⟨y1,ey,σy⟩:=y;obtain⟨g2,w2,B2,a2,t2,k1,k2,k3,k4,k5⟩:=iA (b:=b) (cs:=cs) (k:=.inLoop (.seq (.region rid ops false) p)::.inBlock bid::(qs.toList.map Item.code++k)) hm hO p hc hac hA1;cases y1 with
   |normal =>
    simp only[lH]at hans;obtain rfl:=k4;obtain⟨g3,w3,B3,a3,t3,m1,m2,m3,m4,m5⟩:=hO _ _ hans ann aR rid ops p n it0 qs rfl hmap hc hrest base g0 w0 b a2 k cs g2 w2 B2 k2;exact⟨g3,w3,B3,a3,t3,m1.imp fun _ hs=>Steps.trans s1 (Steps.trans k1 (.head stepR_inLoop hs)),m2,(e1.le.trans' k3).trans' m3,m4,(hgo1.trans k5).trans m5⟩
   |exit j=>exact finish (.exit j,ey,σy) g2 w2 B2 a2 t2 σ _ a1 g hans (e1.le.trans' k3) (hgo1.trans k5) s1 k1 k2 k4
   |ret=>exact finish (.ret,ey,σy) g2 w2 B2 a2 t2 σ _ a1 g hans (e1.le.trans' k3) (hgo1.trans k5) s1 k1 k2 k4
   |eO d=>simp[lH,jR]at hans
end
theorem oi.cut{fb:Nat}{V:List Nat}{g:G}{w:World}{B:Nat→Nat}{e0:Env}{tmps:Array Value}{p:Nat×D}{n:Nat}(h:oi fb V g w B e0 tmps p)(hl:p.2.low n=true):oi fb V (g.cut n) w B e0 tmps p:=by
 obtain⟨t,d⟩:=p;unfold oi at h ⊢;dsimp only at h ⊢ hl;split
 ·rename_i s cs;obtain⟨h1,h2,h3,h4⟩:=h;obtain⟨c,el,k1,k2,k3⟩:=h4.aR;exact⟨h1,h2,h3,h4.lo,fun hh=>h4.free (G.oS hh),h4.gL,c,el,k1,k2.cut hl,k3⟩
 ·rename_i hd;cases d with
  |own s cs=>exact absurd rfl (hd s cs)
  |_=>exact aI.cut h hl
theorem Fa{g g':G}{n:Nat}(h:g.le g')(hn:∀l i L,g.loc l i=some L→l<n):g.le (g'.cut n) :=
 ⟨fun l i L e=>by rw[G.gU (hn l i L e)];exact h.loc l i L e,h.fp⟩
section
variable {P:Program} {T:lN} {O:aN}
theorem uD(hm:P.follows .mixedOrders=true)(hO:kJ P (dO P) O){live:List Nat}{kF:Bool}{c:bC}{env:Env}{σ:SK}{r:R}
  (h:bK T O (.loop live kF c env σ)=some r):oh P (dO P) (.loop live kF c env σ) r:=by
 simp only[bK]at h;cases hac:aA O c (restrict live env) (if kF then []::σ else σ)with
 |none=>simp[hac]at h
 |some y =>
 obtain⟨x,e1,σ1⟩:=y;rw[hac]at h;dsimp only at h;have nI:∀e2 σ2,(if kF then(let r:=gF (σ.length-1) (restrict (kD live x e1) e1) σ1;(r.1,r.2.tail))else(e1,σ1))=(e2,σ2) →
   ∀(ann:jq) aR code n,aP P ann n aR code=some c→∀base g0 w0 b a k cs g w B,At (dO P) base ann.bH g0 w0 n b g w B env σ a →
   Ends P ann n base g0 w0 b cs g w a (.code code::.inLoop code::k) (.inLoop code::k) σ x e2 σ2:=by
  intro e2 σ2 he ann aR code n hc base g0 w0 b a k cs g w B ha;cases kF with
  |false =>
   simp only[ai,if_false,af]at he hac;obtain⟨rfl,rfl⟩:=he;exact iA hm hO code hc hac (ha.restrict live)
  |true =>
   simp only[if_true]at he hac;have ha1:At (dO P) base ann.bH g0 w0 n b g w B (restrict live env) ([]::σ) a :=
    {ha.restrict live with inv:=ha.inv.push,low:=ha.low.push ha.inv,pos:=by simp }
   obtain⟨g1,w1,B1,a1,todo,k1,k2,k3,k4,k5⟩:=iA (cs:=cs) (k:=.inLoop code::k) hm hO code hc hac ha1;have hents:=k2.fr.bA (kD live x e1);obtain⟨g2,i2,ev2,hents2⟩:=sc (CR:=dO P) (base:=base) (σ.length-1) _ σ1 g1 k2.inv hents;obtain⟨hlow,hgo⟩:=nX (σ.length-1) (restrict (kD live x e1) e1) σ1;cases hfz:gF (σ.length-1) (restrict (kD live x e1) e1) σ1 with
   |mk e3 σ3 =>
   rw[hfz]at he i2 hents2 hlow hgo;simp only[af]at he;obtain⟨rfl,rfl⟩:=he;have hl3:gu σ3:=hgo.low k2.low;have hlen3:σ3.length=σ.length+1:=by
    have h1:=hgo.len;have h2:=k5.len;simp at h1 h2;omega
   cases σ3 with
   |nil=>simp at hlen3
   |cons s σ2 =>
   have hlen2:σ2.length=σ.length:=by simpa using hlen3
   have hpos:=ha.pos;rw[show σ.length-1+1=σ2.length from by omega]at hlow;have hlvl:∀l i L,g.loc l i=some L→l<σ2.length:=fun l i L h=>by rw[hlen2];exact ha.inv.lvl h
   have hlvl0:∀l i L,g0.loc l i=some L→l<σ2.length:=fun l i L h=>by
    obtain⟨L',h',_⟩:=ha.ev.le.loc l i L h;exact hlvl l i L' h'
   obtain⟨i3,l3⟩:=i2.pop hl3;obtain⟨rs,hmk⟩:=k2.marks;have hmk2:=hmk.ev ev2;have hle:g.le (g2.cut σ2.length):=Fa (k3.trans' ev2.le) hlvl;refine⟨g2.cut σ2.length,w1,B1,a1,todo,k1.map fun d v hcl hv=>(hv.mono ev2.le).cut (ie hcl),⟨oi.fr k2.fr fun p hp=>(hents2 p hp).cut (hlow p hp),(k2.ev.trans ev2).cut hlvl0,i3,l3,by simpa[hlen2]using hpos,k2.size,⟨rs,hmk2.eq,hmk2.nodup,fun r hr=>?_⟩,jb ha.round hle⟩,hle,k4,⟨hlen2,fun _=>l3⟩⟩;have:=hmk2.all r hr;exact⟨this.lo,fun hh=>this.free (G.oS hh),this.gL,this.aR⟩
 cases hfin:(if kF then(let r:=gF (σ.length-1) (restrict (kD live x e1) e1) σ1;(r.1,r.2.tail))else(e1,σ1))with
 |mk e2 σ2 =>
 have turn':=nI e2 σ2 hfin;rw[hfin]at h;dsimp only at h;cases x with
 |normal =>
  dsimp only at h;have hans:=hO _ _ h;cases r with
  |val=>trivial
  |eO=>trivial
  |mF x e' σ' =>
   obtain⟨hx,hloop⟩:=hans;refine⟨hx,fun ann aR code n hc base g0 w0 b a k cs g w B ha=>?_⟩;obtain⟨g1,w1,B1,a1,todo,k1,k2,k3,k4,k5⟩:=turn' ann aR code n hc base g0 w0 b a k cs g w B ha;obtain rfl:=k4;obtain⟨g2,w2,B2,a2,todo2,m1,m2,m3,m4,m5⟩:=hloop ann aR code n hc base g0 w0 b a1 k cs g1 w1 B1 k2;exact⟨g2,w2,B2,a2,todo2,m1.imp fun _ hs=>Steps.trans k1 (.head stepR_inLoop hs),m2,k3.trans' m3,m4,k5.trans m5⟩
 |exit id =>
  cases h;refine⟨by simp,fun ann aR code n hc base g0 w0 b a k cs g w B ha=>?_⟩;obtain⟨g1,w1,B1,a1,todo,k1,k2,k3,k4,k5⟩:=turn' ann aR code n hc base g0 w0 b a k cs g w B ha;exact⟨g1,w1,B1,a1,todo,k1,k2,k3,k4.skip (fun _=>by simp) (by simp),k5⟩
 |ret =>
  cases h;refine⟨by simp,fun ann aR code n hc base g0 w0 b a k cs g w B ha=>?_⟩;obtain⟨g1,w1,B1,a1,todo,k1,k2,k3,k4,k5⟩:=turn' ann aR code n hc base g0 w0 b a k cs g w B ha;exact⟨g1,w1,B1,a1,todo,k1,k2,k3,k4.skip (fun _=>by simp) (by simp),k5⟩
 |eO d =>
  cases h;refine⟨by simp,fun ann aR code n hc base g0 w0 b a k cs g w B ha=>?_⟩;obtain⟨g1,w1,B1,a1,todo,k1,k2,k3,k4,k5⟩:=turn' ann aR code n hc base g0 w0 b a k cs g w B ha;exact⟨g1,w1,B1,a1,todo,k1,k2,k3,trivial,k5⟩
theorem pR{g:G}:∀(ts:List Nat) (ds:List D) (vs:List Value) (e:Env) (tmps:Array Value),aH g ds vs→ds.length=ts.length→(∀t∈ts,t<tmps.size)→ku g e tmps →
  ku g (lr ts ds e) ((ts.zip vs).foldl (fun tmps (t,a)=>tmps.setIfInBounds t a) tmps)∧((ts.zip vs).foldl (fun tmps (t,a)=>tmps.setIfInBounds t a) tmps).size=tmps.size
 |[],ds,vs,e,tmps,hr,hl,hs,he=>by
  have:ds=[]:=by simpa using hl
  subst this;exact⟨he,rfl⟩
 |t::ts,[],vs,e,tmps,hr,hl,hs,he=>by simp at hl
 |t::ts,d::ds,vs,e,tmps,hr,hl,hs,he=>by
  cases hr with
  |cons _ c _ cs h1 h2 =>
   have he2:ku g ((t,d)::e) (tmps.setIfInBounds t c):=fun u=>by
    simp only[get];rw[aU];by_cases hu:t=u
    ·subst hu;rw[if_pos rfl];simpa[hs t (by simp)]using h1
    ·rw[if_neg hu,Array.getElem?_setIfInBounds_ne hu,← aU];exact he u
   obtain⟨k1,k2⟩:=pR ts ds cs ((t,d)::e) (tmps.setIfInBounds t c) h2 (by simpa using hl) (fun u hu=>by simpa using hs u (by simp[hu])) he2;exact⟨k1,by simpa using k2⟩
theorem ku.fr{g:G}{w:World}{e:Env}{tmps:Array Value}{fb:Nat}{V:List Nat}{B:Nat→Nat}(h:ku g e tmps):Fr fb V g w B e tmps:=by
 have hno:∀t s cs,get e t ≠ .own s cs:=fun t s cs=>vw (h t) s cs
 refine⟨fun t=>?_,fun t s cs ht=>absurd ht (hno t s cs),fun t t' s s' cs cs' ht=>absurd ht (hno t s cs)⟩;have:=h t;cases hd:get e t with
 |own s cs=>trivial
 |vr=>rw[hd]at this;cases this
 |emp=>rw[hd]at this;cases this
 |_=>rw[hd]at this;exact this
theorem jy.steps{S:Frame→Prop}{g:G}{b:Frame}{a:Act}{todo:List Item}{x:Exit}(hx:∀d,x ≠ .eO d)(h:jy S g b a todo x):S (b.atR a todo):=by
 cases x with
 |eO d=>exact absurd rfl (hx d)
 |_=>exact h
theorem tT(hm:P.follows .mixedOrders=true)(hO:kJ P (dO P) O){l i:Nat}{args:List D}{σ:SK}{r:R}
  (h:bK T O (.round l i args σ)=some r):oh P (dO P) (.round l i args σ) r:=by
 simp only[bK]at h;split at h
 case h_2=>cases h
 rename_i lp hlp;split at h
 case isFalse=>cases h
 rename_i hlen;split at h
 case h_2=>cases h
 rename_i e1 σ1 hasg;split at h
 case h_2=>cases h
 rename_i lp1 hlp1;split at h
 case isFalse=>cases h
 rename_i hst;split at h
 case h_2=>cases h
 rename_i x e2 s σ2 hbody;split at h
 case h_2=>cases h
 rename_i lp2 hlp2;have hxt:∀d,x ≠ .eO d:=by
  intro d hd;subst hd;cases h
 have walk:∀base g w (vs:Array Value) b,Inv (dO P) base g σ w→gu σ→0<σ.length→aH g args vs.toList→aI g (.fJ l i) (.func (.yield b) #[] #[]) →
   ∃f tmps lK body,(Instr.yield b vs).run P w=.ok (.round b f tmps lK body) w∧∀cs,∃fb a' todo g' w' r2,Steps P (lone (Frame.round b f tmps lK body .normal) cs w) (lone (Frame.atR fb a' todo) cs w') ∧
    fb.roundOf=some b∧fb.kind=.normal∧lC [] x todo∧Ev g w g' w'∧Inv (dO P) base g' σ2 w'∧gu σ2∧σ2.length=σ.length∧g'.loc l i=some (.lp b)∧w'.heap[b]?=some (.loop r2)∧kT (dO P) g' lp2 r2:=by
  intro base g w vs b hi hl hp hr hy;cases hy with
  |fJ _ _ _ hL =>
  obtain⟨b0,hb0,hrel⟩:=hi.jZ l i _ hL;rw[hlp]at hb0;cases hb0;obtain⟨r,hheap,hR⟩:=hrel;have hpar:r.params.toList=lp.params:=hR.params;have hsize:vs.size=r.params.size:=by
   have h1:=hr.length;have h2:r.params.toList.length=lp.params.length:=by rw[hpar]
   simp at h1 h2;omega
  have hyield:=run_yield (P:=P) hheap hsize;have hfold:(r.params.zip vs).foldl (fun tmps (t,a)=>tmps.setIfInBounds t a) r.tmps=(lp.params.zip vs.toList).foldl (fun tmps (t,a)=>tmps.setIfInBounds t a) r.tmps:=by
   rw[← Array.foldl_toList,Array.toList_zip,hpar]
  rw[hfold]at hyield;obtain⟨hrelE,hsizeE⟩:=pR lp.params args vs.toList lp.env r.tmps hr hlen hR.small hR.env;obtain⟨ann,aR,hboth⟩:∃ann aR,aP P ann r.tmps.size aR _=some _:=hR.both;simp only[aP]at hboth;split at hboth
  case h_2=>cases hboth
  rename_i C' A' B' hC hA hB;cases hboth;refine⟨_,_,_,_,hyield,fun cs=>?_⟩;generalize htm:(lp.params.zip vs.toList).foldl (fun tmps (t,a)=>tmps.setIfInBounds t a) r.tmps=tm at hrelE hsizeE
  let fb:Frame:=Frame.round b r.fn tm r.assign r.body .normal
  have hfr:Frame.round b r.fn tm r.assign r.body .normal=fb.atR ⟨tm,[]⟩ [.code r.assign,.beginRound,.code r.body]:=rfl;have ha:At (dO P) base ann.bH g w r.tmps.size fb g w (fun _=>0) (lr lp.params args lp.env) ([]::σ) ⟨tm,[]⟩ :=
   ⟨hrelE.fr,Ev.refl g w,hi.push,hl.push hi,by simp,hsizeE,⟨[],rfl,List.nodup_nil,by simp[iP,fb,Frame.round]⟩,.inr ⟨b,l,i,rfl,hL⟩⟩
  obtain⟨g1,w1,B1,a1,t1,k1,k2,k3,k4,k5⟩:=iA (b:=fb) (cs:=cs) (k:=[.beginRound,.code r.body]) hm hO r.assign hA hasg ha;obtain rfl:=k4;obtain⟨L1,hL1,hle1⟩:=k3.loc l i _ hL;rw[Loc.vp hle1]at hL1;obtain⟨b1,hb1,hrel1⟩:=k2.inv.jZ l i _ hL1;rw[hlp1]at hb1;cases hb1;obtain⟨r1,hheap1,hR1⟩:=hrel1;have hready:r1.state=.ready:=by rw[hR1.state,hst];rfl
  have hbegin:=run_beginRound (P:=P) hheap1 hready;obtain⟨i2,ev2⟩:=k2.inv.sD (r:={r1 with state:=.busy }) (lp:={lp1 with state:=1 }) hL1 hlp1 ⟨rfl,hR1.j4,hR1.env,hR1.params,hR1.small,hR1.both⟩;have hgo2:ct σ1 (az σ1 l i (.loop {lp1 with state:=1 })):=⟨bP,fun h=>h.set fun hl=>(h l i _ hlp1 hl:b8.low (l+1) (.loop lp1))⟩;have ha2:=k2.go ev2 i2 hgo2 (k2.fr.ev ev2) rfl rfl;obtain⟨g3,w3,B3,a3,t3,m1,m2,m3,m4,m5⟩:=iA (b:=fb) (cs:=cs) (k:=[]) hm hO r.body hB hbody ha2;have hlen2:σ2.length=σ.length:=by
   have h1:=m5.len;have h2:=hgo2.len;have h3:=k5.len;simp at h1 h2 h3;omega
  have hlvl:∀l i L,g.loc l i=some L→l<σ2.length:=fun l i L h=>by rw[hlen2];exact hi.lvl h
  obtain⟨i3,l3⟩:=m2.inv.pop m2.low;obtain⟨L3,hL3,hle3⟩:=(k3.trans' (ev2.le.trans' m3)).loc l i _ hL;rw[Loc.vp hle3]at hL3;have hL3':(g3.cut σ2.length).loc l i=some (.lp b):=by rw[G.gU (hlvl l i _ hL)];exact hL3
  obtain⟨b3,hb3,hrel3⟩:=i3.jZ l i _ hL3';rw[hlp2]at hb3;cases hb3;obtain⟨r3,hheap3,hR3⟩:=hrel3;refine⟨fb,a3,t3,g3.cut σ2.length,w3,r3,?_,rfl,rfl,m4,m2.ev.cut hlvl,i3,l3,hlen2,hL3',hheap3,hR3⟩;rw[hfr];exact Steps.trans k1 (.head (stepR_beginRound rfl hbegin) (m1.steps hxt))
 have fin:∀(bv:Bool) (st:Nat) (pd:Option Exit) (jump:Option Code),l4 pd=some jump→bv=jump.isNone→st=(if jump.isNone then 0 else 2) →
   (∀(fb:Frame) (a':Act) (todo:List Item) (c:Frame) (cs:List Frame) (w' w2:World) (b:Nat),fb.roundOf=some b→fb.kind=.normal→lC [] x todo→(Instr.endRound b jump).run P w'=.ok (.bool bv) w2 →
    step P (lone (Frame.atR fb a' todo) (c::cs) w')=.next (lone (c.finish (.bool bv)) cs w2)) →
   u7 P (dO P) l i args σ (.bool bv) (az σ2 l i (.loop {lp2 with state:=st,j4:=pd })):=by
  intro bv st pd jump hpd hbv hstv hend;refine⟨⟨lp,hlp⟩,fun base g w vs b hi hl hp hr hy=>?_⟩;obtain⟨f,tmps,lK,body,hyield,hwalk⟩:=walk base g w vs b hi hl hp hr hy;refine⟨?_,f,tmps,lK,body,hyield,fun c cs=>?_⟩
  ·obtain⟨_,_,_,_,_,_,_,_,_,_,_,_,h7,h8,_⟩:=hwalk [];exact⟨bP.trans h8,fun _=>h7.set fun hl=>(h7 l i _ hlp2 hl:b8.low (l+1) (.loop lp2))⟩
  ·obtain⟨fb,a',todo,g',w',r2,k1,k2,k3,k4,k5,k6,k7,k8,k9,k10,k11⟩:=hwalk (c::cs);have hrun:=run_endRound (P:=P) jump k10;rw[← hbv]at hrun;have hR2:kT (dO P) g' {lp2 with state:=st,j4:=pd } {r2 with state:=if jump.isNone then .ready else .done,pending:=jump } :=
    ⟨by rw[hstv];cases jump<;>rfl,hpd,k11.env,k11.params,k11.small,k11.both⟩
   obtain⟨i4,ev4⟩:=k6.sD k9 hlp2 hR2;exact⟨.bool bv,g',_,.trans k1 (.one (hend fb a' todo c cs w' _ b k2 k3 k4 (by rw[hbv];rw[hbv]at hrun;exact hrun))),k5.trans ev4,i4,.bool bv⟩
 cases x with
 |normal =>
  dsimp only at h;cases h;exact fin true 0 none none rfl rfl rfl fun fb a' todo c cs w' w2 b h1 h2 h3 h4=>by
   obtain rfl:=h3;exact stepR_round_end h1 h2 h4
 |exit id =>
  dsimp only at h;cases h;exact fin false 2 (some (.exit id)) (some (.exit id)) rfl rfl rfl fun fb a' todo c cs w' w2 b h1 h2 h3 h4=>by
   obtain⟨k',rfl,hk⟩:=h3;exact stepR_round_exit h1 h2 (by rw[hk];rfl) h4
 |ret =>
  dsimp only at h;cases h;exact fin false 2 (some .ret) (some .ret) rfl rfl rfl fun fb a' todo c cs w' w2 b h1 h2 h3 h4=>by
   obtain⟨k',rfl⟩:=h3;exact stepR_round_ret h1 h2 h4
 |eO d=>exact absurd rfl (hxt d)
theorem tZ(hT:E0 P T)(hm:P.follows .mixedOrders=true)(hO:kJ P (dO P) O):kJ P (dO P) (bK T O):=fun q r h=>by
 cases q with
 |call kp f args σ=>exact uo hT hm hO h
 |loop live kF c e σ=>exact uD hm hO h
 |round l i args σ=>exact tT hm hO h
 |cU live it nx ok b c rest e σ=>exact tR hm hO h
 |pz f args th σ=>exact tq hT hm hO h
theorem tK(hT:E0 P T)(hm:P.follows .mixedOrders=true):∀n,kJ P (dO P) (it T n)
 |0=>fun q r h=>by simp[it]at h
 |n+1=>tZ hT hm (tK hT hm n)
theorem vZ(hT:E0 P T)(hm:P.follows .mixedOrders=true):kJ P (dO P) (lim T):=fun q r h=>by
 unfold lim at h;split at h
 ·rename_i hex;cases h;exact tK hT hm _ _ _ hex.choose_spec.choose_spec
 ·cases h
end
end Go.Abs
