import Derived.Test.YtcgippbplkagkaaGreatBase11
import Derived.Lib.ItoaNum
import Derived.Test.YtcgippbplkagkaaGreatBase10
import Derived.Test.YtcgippbplkagkaaGreatBase8
import Derived.Test.YtcgippbplkagkaaGreatBase4
import Derived.Test.YtcgippbplkagkaaGreatBase0
set_option linter.all false
namespace Go.Abs
open Go
theorem pB{P:Program}{b:Frame}{a:Act}{k:List Item}{cs:List Frame}{w:World}{c:Code}:
  step P (lone (b.atR a (.code (.scope c)::k)) cs w)=.next (lone (b.atR a (.code c::.inScope c::k)) cs w) :=
 step_lone_go (by simp[stepG,stepG.exec,Frame.atR])
theorem yO{P:Program}{b:Frame}{a:Act}{k:List Item}{cs:List Frame}{w:World}{c:Code}:
  step P (lone (b.atR a (.inScope c::k)) cs w)=.next (lone (b.atR a k) cs w) :=
 step_lone_go (by simp[stepG,stepG.exec,Frame.atR])
def Xm(o:Obj):Prop:=∃c t fz v,o=.cells c t fz∧c[0]?=some v∧(v=.nilIface∨∃te pe,v=.iface te pe)
def abb(o:Obj):Prop:=∃t fz,o=.cells (Lib.pow10Tab.map (Value.int .u64)).toArray t fz
def aba(o:Obj):Prop:=∃c t fz m,o=.cells c t fz∧c[0]?=some (.int .i64 m)
def T9(P:Program)(b:Nat)(Q:Obj→Prop):Prop :=
 (P.globalNamed "strconv.ErrSyntax" = some b∧Q=Xm)∨(P.globalNamed "strconv.ErrRange" = some b∧Q=Xm) ∨
 (P.globalNamed "internal/strconv.uint64pow10" = some b∧Q=abb)∨(P.globalNamed "internal/bytealg.MaxLen" = some b∧Q=aba)
def gS(P:Program):dF:=⟨fun c code n=>∃ann bu,br P ann n bu code=some c,T9 P⟩
section
variable {P:Program} {O:bd} {ann:nv} {n:Nat} {base:Nat} {g0 g:G} {w0 w:World} {b:Frame} {B:Nat→Nat} {e e':Env} {σ σ':SK} {a:Act}
 {k:List Item} {cs:List Frame} {x:Exit}
def Ends(P:Program)(ann:nv)(n base:Nat)(g0:G)(w0:World)(b:Frame)(cs:List Frame)(g:G)(w:World)(a:Act)(start k:List Item)(σ:SK)(x:Exit)(e':Env)(σ':SK):Prop :=
 ∃g' w' B' a' todo,ou (fun fr=>Steps P (lone (b.atR a start) cs w) (lone fr cs w')) g' b a' todo x ∧
  At (gS P) base ann.cn g0 w0 n b g' w' B' e' σ' a'∧g.le g'∧rN k x todo∧dH σ σ'
theorem Ends.step{start start' k:List Item}{w1:World}(h:step P (lone (b.atR a start) cs w)=.next (lone (b.atR a start') cs w1))(hw:Ends P ann n base g0 w0 b cs g w1 a start' k σ x e' σ'):
  Ends P ann n base g0 w0 b cs g w a start k σ x e' σ':=by
 obtain⟨g',w',B',a',todo,h1,h2⟩:=hw;exact⟨g',w',B',a',todo,h1.imp fun _ h1 => .head h h1,h2⟩
theorem ou.of{S:Frame→Prop}{g:G}{b:Frame}{a:Act}{todo:List Item}{x:Exit}(hx:∀d,x ≠ .eR d)(h:S (b.atR a todo)):ou S g b a todo x:=by
 cases x with
 |eR d=>exact absurd rfl (hx d)
 |_=>exact h
theorem ou.mono{S:Frame→Prop}{g g':G}(hg:g.le g'){b:Frame}{a:Act}{todo:List Item}{x:Exit}(h:ou S g b a todo x):ou S g' b a todo x:=by
 cases x with
 |eR d=>obtain⟨h0,v,h1,h2⟩:=h;exact⟨h0,v,h1.mono hg,h2⟩
 |_=>exact h
theorem rN.skip{i:Item}(hi:∀id,i ≠ .inBlock id){x:Exit}{t:List Item}(hx:x ≠ .normal)(h:rN (i::k) x t):rN k x t:=by
 cases x with
 |normal=>exact absurd rfl hx
 |exit id =>
  obtain⟨k',h1,h2⟩:=h;refine⟨k',h1,h2.trans ?_⟩;cases i<;>first | rfl | exact absurd rfl (hi _)
 |ret=>exact h
 |eR d=>trivial
theorem xX{cL:Nat}{ops:Array Oper}{tail:Nat}:∀{l:List Oper} {i:Nat} {xs:List Op},Ae P ann n cL ops tail i l=some xs→(∀j o,l[j]?=some o→ops[i+j]?=some o) →
  xs.length=l.length∧∀j x,xs[j]?=some x→∃o,ops[i+j]?=some o∧(∃nt,ET P ann n cL ops nt (i+j) o=some x)
 |[],i,xs,h,_=>by simp only[Ae,ae]at h;subst h;exact⟨rfl,fun j x hj=>by simp at hj⟩
 |o::l,i,xs,h,hl=>by
  simp only[Ae]at h;split at h
  ·rename_i x xs' h1 h2;cases h;obtain⟨h3,h4⟩:=xX h2 fun j o' hj=>by
    have:=hl (j+1) o' (by simpa using hj);rwa[show i+(j+1)=i+1+j from by omega]at this
   refine⟨by simp[h3],fun j y hj=>?_⟩;cases j with
   |zero =>
    simp only[bH,ae]at hj;subst hj;exact⟨o,hl 0 o rfl,⟨_,h1⟩⟩
   |succ j =>
    have:=h4 j y (by simpa using hj);rwa[show i+1+j=i+(j+1)from by omega]at this
  ·cases h
theorem wc{S:Nat→Op→Prop}:∀{xs:List Op} {i:Nat},(∀j x,xs[j]?=some x→S (i+j) x)→ot S (List.range' i xs.length) xs
 |[],i,h => .nil
 |x::xs,i,h=>by
  simp only[bq,List.range'_succ];refine .cons (h 0 x rfl) (wc fun j y hj=>?_);have:=h (j+1) y (by simpa using hj);rwa[show i+(j+1)=i+1+j from by omega]at this
theorem DB(hO:pR P (gS P) O){cL i:Nat}{ops:Array Oper}{is:List Nat}{op:Op}{xs:List Op}{live:List Nat}{x:Exit}(hop:xd P ann n cL ops i op)(hF:ot (xd P ann n cL ops) is xs)
  (h:wG O live op xs e σ=some (x,e',σ')) (ha:At (gS P) base ann.cn g0 w0 n b g w B e σ a):
  ∃g' w' B' a' todo,ou (fun fr=>Steps P (lone (b.atR a (.inRegion ops (i::is)::k)) cs w) (lone fr cs w')) g' b a' todo x ∧
   At (gS P) base ann.cn g0 w0 n b g' w' B' e' σ' a'∧g.le g'∧rN k x todo∧dH σ σ':=by
 obtain⟨o,rU,ho,hopc⟩:=hop;obtain⟨hdst,hn,hgrd⟩:=Ad hopc;obtain⟨hkc,hmk⟩:=Tp hopc;have hd:=Bx hkc;have hkeq:=Ja hkc;unfold wG at h;split at h
 ·rename_i fo args hg hk;have hguard:o.guard=none:=by
   rcases hgrd with⟨h1,_⟩ | ⟨_,_,_,_,h2,_⟩
   ·exact h1
   ·rw[hg]at h2;cases h2
  have hw:Region.wanted o (yielded ops a.tmps)=true:=by simp[Region.wanted,hguard]
  rw[hk]at hkeq hmk;obtain⟨f0,args0,ts0,hopo,hF0,hX0⟩:=hkeq;cases hc:rP O (aR e fo) (args.map (aR e)) σ with
  |none=>rw[hc]at h;simp[ng]at h
  |some r =>
  rw[hc]at h;obtain⟨f,first,cap,hfe,hq⟩:=Eu hc;cases r with
  |tJ=>simp[ng]at h
  |val d σ1 =>
   simp only[ng,ab,Prod.exists]at h;obtain⟨e1,σ2,h1,h2⟩:=h;cases h2;obtain⟨g1,w1,B1,a1,k1,k2,k3,k4⟩:=DC (k:=k) (cs:=cs) (rest:=is) (kp:=false) hO ha ho hw hn (hmk rfl) hopo hF0 hX0 (d:=d) (σ':=σ1) (by rw[hfe];simp only[kN,hq,R.aP]);rw[hdst]at h1;obtain⟨g2,w2,B2,a2,m1,m2,m3,m4⟩:=tc (k:=k) (cs:=cs) (tl:=[]) hO is xs _ _ _ _ _ _ hF h1 k2;refine⟨g2,w2,B2,a2,k,?_,m2.restrict _,k3.trans' m3,rfl,k4.trans m4⟩;rw[dz]at m1;exact .trans k1 (.trans m1 (.one stepR_region_end))
  |eR d σ1 =>
   simp only[ng,ae,ai]at h;obtain⟨rfl,rfl,rfl⟩:=h;obtain⟨hcl,⟨Fn,cd,hfn1,hfn2,hfn3⟩,hcall⟩:=hO _ _ hq;obtain⟨tmps,df⟩:=a;have hfv:=ha.fr.aR (df:=df) hF0;have hxs:=va (df:=df) ha.fr hX0;rw[hfe]at hfv;generalize hev:(Act.mk tmps df).eval f0=fv at hfv;cases hfv with
   |fn _ _ _ first' cap' r1 r2 =>
    have hrun:(execOp (Act.mk tmps df).eval o).run P w=.ok (.enter f (first'++args0.map (Act.mk tmps df).eval++cap')) w:=by
     simp only[execOp,hopo,Sem.run_bind,fF hev,Result.andThen_ok,invoke,oD hfn1 hfn2 hfn3]
    have hargs:aY g (first++args.map (aR e)++cap) (first'++args0.map (Act.mk tmps df).eval++cap').toList:=by
     simpa using(r1.append hxs).append r2
    obtain⟨hgo,hcalls⟩:=hcall base g w _ ha.inv ha.low ha.pos hargs;obtain⟨en,w',fr,⟨v,g',rfl,he,hi,hr⟩,hcomes,hfr,hleave⟩:=hcalls (b.atR ⟨tmps,df⟩ (.inRegion ops (i::is)::k)::cs);refine⟨g',w',B,⟨tmps,df⟩,.inRegion ops (i::is)::k,⟨hcl,v,hr,Steps.head (yh ho hw hd hrun) (Steps.trans hcomes (Steps.one ?_))⟩,ha.go he hi hgo (ha.fr.ev he) rfl rfl,he.le,trivial,hgo⟩;rw[step_leave_panicked hleave];rfl
 ·rename_i X hg hk;have hguard:o.guard=none:=by
   rcases hgrd with⟨h1,_⟩ | ⟨_,_,_,_,h2,_⟩
   ·exact h1
   ·rw[hg]at h2;cases h2
  have hw:Region.wanted o (yielded ops a.tmps)=true:=by simp[Region.wanted,hguard]
  rw[hk]at hkeq;obtain⟨y,hopo,hX0⟩:=hkeq;split at h
  case h_2=>cases h
  rename_i t d hX;split at h
  case isFalse=>cases h
  rename_i hcl;cases h;obtain⟨tmps,df⟩:=a;have hr:=ha.fr.aR (df:=df) hX0;rw[hX]at hr;generalize hev:(Act.mk tmps df).eval y=cv at hr;cases hr with
  |o9 _ _ c h1 =>
   have hrun:(execOp (Act.mk tmps df).eval o).run P w=.halt (.panic (.iface t c)) w:=by
    simp only[execOp,hopo,hev];rfl
   exact⟨g,w,B,⟨tmps,df⟩,.inRegion ops (i::is)::k,⟨by simpa[D.clean]using hcl,_,.o9 t d c h1,.one (CZ ho hw hd hrun)⟩,ha,g.le_refl,trivial,.refl σ⟩
 ·cases h
theorem ot.split{α β:Type}{R:α→β→Prop}:∀{xs:List α} {ys:List β} (j:Nat),ot R xs ys→∃a b,xs=a++b∧ot R a (ys.take j)∧ot R b (ys.drop j)
 |xs,ys,0,h=>⟨[],xs,rfl,by simpa using ot.nil,by simpa using h⟩
 |[],_,j+1,h=>by cases h;exact⟨[],[],rfl,by simpa using ot.nil,by simpa using ot.nil⟩
 |x::xs,_,j+1,h=>by
  cases h with
  |cons h1 h2 =>
   obtain⟨a,b,k1,k2,k3⟩:=ot.split j h2;exact⟨x::a,b,by rw[k1];rfl,by simpa using ot.cons h1 k2,by simpa using k3⟩
theorem yW{α β γ:Type}{S:α→β→Prop}{f:γ→α}{g:γ→β}:∀{l:List γ},(∀p∈l,S (f p) (g p))→ot S (l.map f) (l.map g)
 |[],_ => .nil
 |p::l,h => .cons (h p (by simp)) (yW fun q hq=>h q (by simp[hq]))
theorem Fr.eqE{fb:Nat}{V:List Nat}{g:G}{w:World}{B:Nat→Nat}{e e':Env}{tmps:Array Value}(hf:Fr fb V g w B e' tmps)(h:vX e e'):Fr fb V g w B e tmps:=by
 have hg:∀t,get e' t=get e t:=h;refine⟨fun t=>?_,fun t s cs ht=>hf.own t s cs (by rw[hg];exact ht),fun t t' s s' cs cs' h1 h2=>hf.inj t t' s s' cs cs' (by rw[hg];exact h1) (by rw[hg];exact h2)⟩;have:=hf.rel t;rw[hg]at this;exact this.imp fun d c hr=>by
  cases d<;>first | exact hr | skip
  rename_i x s off;obtain⟨s',cs,b,o,e1,e2⟩:=hr;exact⟨s',cs,b,o,by rw[← hg];exact e1,e2⟩
theorem At.eqE{CR:dF}{V:List Nat}{w:World}{e e':Env}(ha:At CR base V g0 w0 n b g w B e' σ a)(h:vX e e'):At CR base V g0 w0 n b g w B e σ a:={ha with fr:=ha.fr.eqE h }
theorem x9(hm:P.follows .mixedOrders=true)(hO:pR P (gS P) O){id:Nat}{ops:Array Oper}{draw:Bool}{c:bQ}(hc:CS P ann n id ops draw=some c)
  (h:aL O c e σ=some (x,e',σ')) (ha:At (gS P) base ann.cn g0 w0 n b g w B e σ a):Ends P ann n base g0 w0 b cs g w a (.code (.region id ops draw)::k) k σ x e' σ':=by
 simp only[CS]at hc;cases draw with
 |false =>
  simp only[al,if_false,ab]at hc;obtain⟨xs,hxs,rfl⟩:=hc;obtain⟨hlen,hall⟩:=xX hxs fun j o hj=>by simpa using hj
  have h2:ot (xd P ann n id ops) (List.range ops.size) xs:=by
   have:=wc (S:=xd P ann n id ops) (xs:=xs) (i:=0) fun j y hj=>let ⟨o,k1,nt,k2⟩:=hall j y hj;⟨o,nt,k1,k2⟩
   rw[hlen]at this;rw[List.range_eq_range'];simpa using this
  unfold xC at h;generalize look id none ann.eR=jo at h;cases jo with
  |some j =>
   dsimp only at h;split at h
   ·rename_i y r hdr;simp only[aL,ah,Prod.exists]at h;obtain⟨e1,σ1,h1,h3⟩:=h;obtain⟨is,js,hsplit,hA,hB⟩:=h2.split j;rw[hdr]at hB;cases hB with
    |cons hop hF =>
     rename_i i is';obtain⟨g1,w1,B1,a1,k1,k2,k3,k4⟩:=tc (k:=k) (cs:=cs) (tl:=i::is') hO _ _ _ _ _ _ _ _ hA h1 ha;obtain⟨g2,w2,B2,a2,t2,m1,m2,m3,m4,m5⟩:=DB (k:=k) (cs:=cs) hO hop hF h3 k2;refine⟨g2,w2,B2,a2,t2,m1.imp fun fr hs => .head stepR_region (Steps.trans ?_ hs),m2,k3.trans' m3,m4,k4.trans m5⟩;rw[hsplit];exact k1
   ·simp only[aL,ab,Prod.exists]at h;obtain⟨e1,σ1,h1,h2'⟩:=h;cases h2';obtain⟨g1,w1,B1,a1,k1,k2,k3,k4⟩:=CI (k:=k) (cs:=cs) hO _ _ _ _ _ _ _ _ h2 h1 ha;exact⟨g1,w1,B1,a1,k,.head stepR_region (.trans k1 (.one stepR_region_end)),k2.restrict _,k3,rfl,k4⟩
  |none =>
  simp only[aL,ab,Prod.exists]at h;obtain⟨e1,σ1,h1,h2'⟩:=h;cases h2';obtain⟨g1,w1,B1,a1,k1,k2,k3,k4⟩:=CI (k:=k) (cs:=cs) hO _ _ _ _ _ _ _ _ h2 h1 ha;exact⟨g1,w1,B1,a1,k,.head stepR_region (.trans k1 (.one stepR_region_end)),k2.restrict _,k3,rfl,k4⟩
 |true =>
  simp only[if_true]at hc;split at hc
  case h_2=>cases hc
  rename_i xs hxs;simp only[aJ,ak]at hc;obtain⟨⟨⟨hcalm,hedge⟩,_⟩,hc⟩:=hc;cases hc;obtain⟨hlen,hall⟩:=xX hxs fun j o hj=>by simpa using hj
  have hlen':xs.length=ops.size:=by simpa using hlen
  obtain⟨ys,hysT⟩:=zm hlen' hcalm hedge ops.size (w.tape w.drawn (.order b.fn id)) (Array.replicate ops.size false) (by simp) (fun i hi=>by
    simp[bz]at hi;by_cases hlt:i<ops.size<;>simp[hlt]at hi) (by
    simp only[BX];exact fQ (AB _ _) (by simp))
  have hU:BX ops.size (Array.replicate ops.size false)=List.range ops.size:=by
   simp only[BX];rw[List.filter_eq_self];intro i hi;have:i<ops.size:=by simpa using hi
   simp[bz,this]
  rw[hU]at hysT;have hmap:((List.range ops.size).map fun i=>(i,(xs[i]?).getD default)).map (·.2)=xs:=by
   simp only[List.map_map];apply kh;intro j;by_cases hj:j<ops.size
   ·simp[hj,show j<xs.length from by omega]
   ·rw[bT (by simp;omega),bT (by omega)]
  have hlin:Region.schedule (P.follows .mixedOrders) ops (w.tape w.drawn (.order b.fn id))=Region.linearise.go .any ops ops.size (w.tape w.drawn (.order b.fn id)) (Array.replicate ops.size false) []:=by
   simp[Region.schedule,hm,Region.linearise]
  have hat:∀p∈(List.range ops.size).map fun i=>(i,(xs[i]?).getD default),xd P ann n id ops p.1 p.2:=fun p hp=>by
   obtain⟨j,hj,rfl⟩:=bp.1 hp;have hj':j<ops.size:=by simpa using hj
   have hjx:xs[j]?=some (xs[j]'(by omega)):=by simp[show j<xs.length from by omega]
   obtain⟨o,k1,nt,k2⟩:=hall j _ hjx;rw[hjx];simp only[dA]at k1 k2;exact⟨o,_,k1,k2⟩
  have ha1:=ha.draw {w with drawn:=w.drawn+1 } rfl rfl rfl rfl;have plain:∀{x e' σ'},aL O (.cL (look id [] ann.live) xs) e σ=some (x,e',σ')→Ends P ann n base g0 w0 b cs g w a (.code (.region id ops true)::k) k σ x e' σ':=by
   intro x e' σ' h;have hys:=hysT.sched;simp only[aL,ab,Prod.exists]at h;obtain⟨e1,σ1,h1,h2⟩:=h;cases h2;obtain⟨e2,h2,heq⟩:=yc hys (by rw[hmap];exact h1);have h3:ot (xd P ann n id ops) (Region.schedule (P.follows .mixedOrders) ops (w.tape w.drawn (.order b.fn id))) ys:=by
    rw[hlin];exact zy hys hat
   obtain⟨g1,w1,B1,a1,k1,k2,k3,k4⟩:=CI (k:=k) (cs:=cs) hO _ _ _ _ _ _ _ _ h3 h2 ha1;refine⟨g1,w1,B1,a1,k,.head stepR_region_draw (.trans k1 (.one stepR_region_end)),?_,k3,rfl,k4⟩;have:=k2.restrict (look id [] ann.live);rw[Ai heq]at this;exact this
  cases hjo:(look id none ann.eR).filter fun j=>decide (rL (ez ops.toList [])≤j)with
  |none=>rw[hjo]at h;exact plain h
  |some j =>
  rw[hjo]at h;have htj:rL (ez ops.toList [])≤j:=by
   have:=(Option.filter_eq_some_iff.1 hjo).2;simpa using this
  cases hdr:xs.drop j with
  |nil=>simp only[xC,hdr]at h;exact plain h
  |cons y r =>
  simp only[xC,hdr]at h;simp only[aL,ah,Prod.exists]at h;obtain⟨e1,σ1,h1,h3⟩:=h;have hjlt:j<xs.length:=by
   rcases Nat.lt_or_ge j xs.length with h | h
   ·exact h
   ·rw[az h]at hdr;cases hdr
  let R:=(List.range ops.size).map fun i=>(i,(xs[i]?).getD default)
  obtain⟨is1,ys1,h4,h5,h6⟩:=Aq hysT (A:=R.take j) (B:=R.drop j) (by simp[R]) (fun p hp=>by
   obtain⟨m,hm',rfl⟩:=List.mem_iff_getElem.1 hp;simp[R];omega)
  have hmapA:(R.take j).map (·.2)=xs.take j:=by rw[List.map_take,hmap]
  have hmapB:(R.drop j).map (·.2)=y::r:=by rw[List.map_drop,hmap,hdr]
  obtain⟨e2,h7,heq⟩:=yc h6 (by rw[hmapA];exact h1);have hA:ot (xd P ann n id ops) is1 ys1:=zy h6 fun p hp=>hat p (cq hp)
  have hB:ot (xd P ann n id ops) ((R.drop j).map (·.1)) ((R.drop j).map (·.2)):=yW fun p hp=>hat p (cp hp)
  obtain⟨g1,w1,B1,a1,k1,k2,k3,k4⟩:=tc (k:=k) (cs:=cs) (tl:=(R.drop j).map (·.1)) hO _ _ _ _ _ _ _ _ hA h7 ha1;rw[hmapB]at hB;generalize hbs:(R.drop j).map (·.1)=bs at hB k1 h4;cases hB with
  |cons hop hF =>
   obtain⟨g2,w2,B2,a2,t2,m1,m2,m3,m4,m5⟩:=DB (k:=k) (cs:=cs) hO hop hF h3 (k2.eqE heq);refine⟨g2,w2,B2,a2,t2,m1.imp fun fr hs => .head stepR_region_draw (Steps.trans ?_ hs),m2,k3.trans' m3,m4,k4.trans m5⟩;rw[hlin,h4];exact k1
theorem IZ(L n l i u off m w:Nat)(σ:SK):(∃l' i' u' off' m' w',(cb L n (.sl l i u off m w) σ).1=.sl l' i' u' off' m' w')∨(∃m' cs',(cb L n (.sl l i u off m w) σ).1=.aE m' cs')∨(cb L n (.sl l i u off m w) σ).1=.undef:=by
 cases n with
 |zero=>simp[cb]
 |succ n =>
  simp only[cb]
  repeat' split
  all_goals simp
theorem F6{g:G}{d:D}{c:Value}(h:a8 g d c):a8 g d.vv c:=by
 cases h<;>first | exact .pN | (simp only[D.vv];constructor<;>assumption) | (exact .Fa _ _ _ _ (by assumption) (by assumption))
theorem sV{g:G}:∀{ds:List D} {cs:List Value},aY g ds cs→aY g (ds.map D.vv) cs
 |[],_,h=>by cases h;exact .nil
 |d::ds,_,h=>by
  cases h with
  |cons _ c _ cs h1 h2=>exact .cons _ _ _ _ (F6 h1) (sV h2)
theorem KJ{CR:dF}{g:G}{w:World}{σ:SK}{l i u:Nat}{c:Value}(hi:Inv CR base g σ w)(hr:a8 g (.ref l i u 0) c):
  ∃g',Inv CR base g' (uQ l i u σ).2 w∧Ev g w g' w∧a8 g' (uQ l i u σ).1 c:=by
 unfold uQ;cases hc:cells? σ l i u with
 |none=>exact⟨g,hi,Ev.refl g w,.undef c⟩
 |some cs =>
  unfold cells? at hc;split at hc
  case h_2=>cases hc
  rename_i v' cs' hb;split at hc
  case isFalse=>cases hc
  rename_i hv;subst hv;cases hc;cases hr with
  |ref _ _ _ _ b o L k1 k2 k3 k4 =>
   obtain⟨g1,i1,e1,hk⟩:=hi.kill k1 hb k2;rcases hk with⟨rfl,_⟩ | ⟨b1,o1,vs,sz,rfl,hrow,hrl⟩
   ·exact absurd rfl k4
   ·obtain⟨rfl,rfl⟩:=k3 b1 o1 sz rfl;obtain⟨g2,i2,e2,r2⟩:=rp (pK (CR:=CR) (base:=base) 0 deep) cs _ g1 w vs i1 (hrl.mono e1.le);exact⟨g2,i2,e1.trans e2,.aK _ _ _ vs (G.vN e2.le hrow) (sV r2)⟩
theorem Bg:∀{e:Env} {t:Nat},get e t ≠ .undef→∃p∈e,p.2=get e t
 |[],t,h=>absurd rfl h
 |(t',d)::e,t,h=>by
  have hg:get ((t',d)::e) t=if t'=t then d else get e t:=rfl
  rw[hg]at h ⊢;split at h
  ·rename_i ht;rw[if_pos ht];exact⟨(t',d),by simp,rfl⟩
  ·rename_i ht;rw[if_neg ht];obtain⟨p,hp,he⟩:=Bg h;exact⟨p,by simp[hp],he⟩
theorem Vp{CR:dF}{V:List Nat}{v:Nat}{e:Env}{σ:SK}{g:G}{a:Act}(ha:At CR base V g0 w0 n b g w B e σ a):
  ∃g',At CR base V g0 w0 n b g' w B (K3 v e) σ a∧g.le g':=by
 unfold K3;split
 case h_2=>exact⟨g,ha,g.le_refl⟩
 rename_i s cs hg;split
 case isFalse=>exact⟨g,ha,g.le_refl⟩
 rename_i hvr;obtain⟨hV,hp,hob⟩:=ha.fr.own v s cs hg;obtain⟨c,el,hb,hr,h5⟩:=hob.bu;have hle:g.le (g.fH (B v) c.toList):=⟨fun l i L e=>⟨L,e,L.le_refl⟩,fun b o x e=>by
  simp only[G.fH];rw[if_neg (fun hB=>by rw[hB,hob.lD]at e;cases e)];exact e⟩
 have hrow:(g.fH (B v) c.toList).row (B v) 0 c.toList:=fun j x hx=>by simp only[G.fH,if_pos];simpa using hx
 have hother:∀x,x≠B v→∀o,(g.fH (B v) c.toList).jV x o=g.jV x o:=fun x hx o=>by simp[G.fH,hx]
 have hget:∀t,get ((v,D.aK cs)::e) t=if v=t then .aK cs else get e t:=fun t=>rfl
 have hi:=ha.inv;refine⟨_,⟨⟨?_,?_,?_⟩,?_,?_,ha.low,ha.pos,ha.size,?_,nC ha.round hle⟩,hle⟩
 ·intro t;rw[hget];by_cases ht:v=t
  ·subst ht;rw[if_pos rfl,hp];exact a8.aK _ _ 0 c.toList hrow (hr.mono hle)
  ·rw[if_neg ht];have h0:=(ha.fr.rel t).ev hle;cases hd:get e t<;>rw[hd]at h0<;>first | trivial | exact h0 | skip
   rename_i x s1 off;obtain⟨s2,cs2,b2,o2,e1,e2⟩:=h0;obtain⟨p,hpe,hpd⟩:=Bg (e:=e) (t:=t) (by rw[hd];simp);have h1:=gp.1 hvr p hpe;rw[hpd,hd]at h1;have hx:x≠v:=by simpa using h1
   exact⟨s2,cs2,b2,o2,by rw[hget,if_neg (fun h=>hx h.symm)];exact e1,e2⟩
 ·intro t s1 cs1 h;rw[hget]at h;split at h
  ·cases h
  ·rename_i ht;obtain⟨h1,h2,h3⟩:=ha.fr.own t s1 cs1 h;obtain⟨c1,el1,hb1,hr1,h6⟩:=h3.bu;exact⟨h1,h2,h3.lo,h3.free,fun o=>by rw[hother _ (fun hB=>ht (ha.fr.inj _ _ _ _ _ _ hg h hB.symm))];exact h3.lD o,c1,el1,hb1,hr1.mono hle,h6⟩
 ·intro t t' s1 s2 cs1 cs2 h h' hB;rw[hget]at h h';split at h
  ·cases h
  ·split at h'
   ·cases h'
   ·exact ha.fr.inj _ _ _ _ _ _ h h' hB
 ·have he:=ha.ev;exact⟨G.le_trans he.le hle,he.os,he.tape,he.output,he.size,he.kept,he.Fe,fun x o y hy=>by
   by_cases hx:x=B v
   ·subst hx;exact .inr (.inr hob.lo)
   ·rw[hother x hx]at hy;exact he.yJ x o y hy⟩
 ·refine⟨hi.ge,fun l i L e=>let ⟨x,hx,hr⟩:=hi.o8 l i L e;⟨x,hx,hr.mono hle fun _ _=>rfl⟩,?_,?_,hi.inj,hi.lo,hi.Ee,fun x Q h=>let ⟨⟨y,hy⟩,r⟩:=hi.BW x Q h;⟨⟨y,hle.jV _ _ _ hy⟩,r⟩⟩
  ·intro x o y hy;by_cases hx:x=B v
   ·subst hx;have hy':c.toList[o]?=some y:=by simpa[G.fH]using hy
    refine⟨?_,h5 y (aj hy')⟩;simp only[World.cell?,hb];simpa using hy'
   ·rw[hother x hx]at hy;exact hi.jV x o y hy
  ·intro l i L x e eb o;by_cases hx:x=B v
   ·subst hx;exact absurd ⟨l,i,L,e,eb⟩ hob.free
   ·rw[hother x hx];exact hi.sep l i L x e eb o
 ·obtain⟨rs,hm⟩:=ha.marks;refine⟨rs,hm.eq,hm.nodup,fun r hr1=>?_⟩;have h1:=hm.all r hr1;exact⟨h1.lo,h1.free,fun o=>by rw[hother r (fun hB=>by have h7:=h1.bu;rw[hB,hb]at h7;cases h7)];exact h1.lD o,h1.bu⟩
theorem KK{v:Nat}{e:Env}{σ:SK}{g:G}{a:Act}(ha:At (gS P) base ann.cn g0 w0 n b g w B e σ a):
  ∃g',At (gS P) base ann.cn g0 w0 n b g' w B (yH v e σ).1 (yH v e σ).2 a∧g.le g'∧dH σ (yH v e σ).2:=by
 obtain⟨tmps,df⟩:=a;unfold yH;split
 ·rename_i hg;have hr0:a8 g .bw (tmps.getD v Go.undef):=by have:=ha.fr.strip v;rw[hg]at this;exact this
  have hrt:bI g B e (.aE 0 []) (tmps.getD v Go.undef):=by
   generalize tmps.getD v Go.undef=c at hr0;cases hr0;exact a8.pN
  exact⟨g,ha.go (Ev.refl g w) ha.inv (.refl _) (ha.fr.La hrt (by rw[hg];simp)) rfl rfl,g.le_refl,.refl _⟩
 ·rename_i l i u hg;have hr0:a8 g (.ref l i u 0) (tmps.getD v Go.undef):=by have:=ha.fr.strip v;rw[hg]at this;exact this
  obtain⟨g1,i1,e1,r1⟩:=KJ (CR:=gS P) ha.inv hr0;have hgo:dH σ (uQ l i u σ).2:=by
   unfold uQ;split
   ·rename_i cs hc;exact(dH.set (b:=.dead) (fun _=>trivial)).trans (s9 0 deep cs _).2
   ·exact .refl _
  have hrt:bI g1 B e (uQ l i u σ).1 (tmps.getD v Go.undef):=by
   unfold uQ at r1 ⊢;split at r1<;>exact r1
  exact⟨g1,ha.go e1 i1 hgo ((ha.fr.ev e1).La hrt (by rw[hg];simp)) rfl rfl,e1.le,hgo⟩
 ·rename_i s0 cs0 hg;obtain⟨_,_,hob⟩:=ha.fr.own v s0 cs0 hg;obtain⟨c,el,hb,hr,h5⟩:=hob.bu;exact⟨g,ha.go (Ev.refl g w) ha.inv (.refl _) (ha.fr.CV hg ⟨hob.lo,hob.free,hob.lD,c,el,hb,sV hr,h5⟩ (fun _ _ _=>rfl)) rfl rfl,g.le_refl,.refl _⟩
 ·split
  ·obtain⟨g',h1,h2⟩:=Vp (v:=v-1000000) ha;exact⟨g',h1,h2,.refl _⟩
  ·exact⟨g,ha,g.le_refl,.refl _⟩
 ·exact⟨g,ha,g.le_refl,.refl _⟩
theorem rq:∀(vs:List Nat) {e:Env} {σ:SK} {g:G} {a:Act},At (gS P) base ann.cn g0 w0 n b g w B e σ a →
  ∃g',At (gS P) base ann.cn g0 w0 n b g' w B (nZ vs e σ).1 (nZ vs e σ).2 a∧g.le g'∧dH σ (nZ vs e σ).2
 |[],e,σ,g,a,ha=>⟨g,ha,g.le_refl,.refl _⟩
 |v::vs,e,σ,g,a,ha=>by
  simp only[nZ];split
  ·rename_i l i0 u off m w1 hg;obtain⟨tmps,df⟩:=a;have hr0:a8 g (.sl l i0 u off m w1) (tmps.getD v Go.undef):=by have:=ha.fr.strip v;rw[hg]at this;exact this
   obtain⟨g1,i1,e1,r1⟩:=pK (CR:=gS P) (base:=base) 0 deep _ σ g w _ ha.inv hr0;have hgo:=(pY 0 deep (.sl l i0 u off m w1) σ).2;have hrt:bI g1 B e (cb 0 deep (.sl l i0 u off m w1) σ).1 (tmps.getD v Go.undef):=by
    rcases IZ 0 deep l i0 u off m w1 σ with⟨l',i',u',off',m',w',hd1⟩ | ⟨m',cs',hd1⟩ | hd1<;>rw[hd1]at r1 ⊢ <;> exact r1
   have ha1:At (gS P) base ann.cn g0 w0 n b g1 w B ((v,(cb 0 deep (.sl l i0 u off m w1) σ).1)::e) (cb 0 deep (.sl l i0 u off m w1) σ).2 ⟨tmps,df⟩ :=
    ha.go e1 i1 hgo ((ha.fr.ev e1).La hrt (by rw[hg];simp)) rfl rfl
   obtain⟨g2,a2,l2,o2⟩:=rq vs ha1;exact⟨g2,a2,G.le_trans e1.le l2,hgo.trans o2⟩
  ·rename_i s0 cs0 hg;obtain⟨tmps,df⟩:=a;obtain⟨_,_,hob⟩:=ha.fr.own v s0 cs0 hg;obtain⟨c,el,hb,hr,h5⟩:=hob.bu;obtain⟨g1,i1,e1,r1⟩:=rp (pK (CR:=gS P) (base:=base) 0 deep) cs0 σ g w _ ha.inv hr;have hgo:=(s9 0 deep cs0 σ).2;have hob1:=hob.ev e1;have ha1:At (gS P) base ann.cn g0 w0 n b g1 w B ((v,.own s0 (cb.frzL (cb 0 deep) cs0 σ).1)::e) (cb.frzL (cb 0 deep) cs0 σ).2 ⟨tmps,df⟩ :=
    ha.go e1 i1 hgo ((ha.fr.ev e1).CV hg ⟨hob1.lo,hob1.free,hob1.lD,c,el,hb,r1,h5⟩ (fun _ _ _=>rfl)) rfl rfl
   obtain⟨g2,a2,l2,o2⟩:=rq vs ha1;exact⟨g2,a2,G.le_trans e1.le l2,hgo.trans o2⟩
  ·rename_i cs0 hg;obtain⟨tmps,df⟩:=a;have hr0:a8 g (.agg cs0) (tmps.getD v Go.undef):=by have:=ha.fr.strip v;rw[hg]at this;exact this
   have hrt:bI g B e (.agg (cs0.map D.vv)) (tmps.getD v Go.undef):=by
    generalize tmps.getD v Go.undef=c at hr0;cases hr0 with
    |agg _ cs h1 h2=>exact a8.agg _ cs (sV h1) h2
   have ha1:At (gS P) base ann.cn g0 w0 n b g w B ((v,.agg (cs0.map D.vv))::e) σ ⟨tmps,df⟩ :=
    ha.go (Ev.refl g w) ha.inv (.refl _) (ha.fr.La hrt (by rw[hg];simp)) rfl rfl
   exact rq vs ha1
  ·split
   ·obtain⟨g1,a1,l1,o1⟩:=KK (v:=v-1000000) ha;obtain⟨g2,a2,l2,o2⟩:=rq vs a1;exact⟨g2,a2,G.le_trans l1 l2,o1.trans o2⟩
   ·exact rq vs ha
  ·exact rq vs ha
theorem vC{O:bd}{e:Env}{σ:SK}:aL O su e σ=none:=by
 simp[su,aL,iI,oF,a7,aR,Aa]
theorem EW(hm:P.follows .mixedOrders=true)(hO:pR P (gS P) O){id:Nat}{ops:Array Oper}{draw:Bool}{bu:Nat}{c:bQ}(hc:br P ann n bu (.region id ops draw)=some c)
  (h:aL O c e σ=some (x,e',σ')) (ha:At (gS P) base ann.cn g0 w0 n b g w B e σ a):Ends P ann n base g0 w0 b cs g w a (.code (.region id ops draw)::k) k σ x e' σ':=by
 simp only[br]at hc;split at hc
 case h_2=>cases hc;rw[vC]at h;cases h
 rename_i c0 hc0;cases hc;cases hv:look id [] ann.fz with
 |nil=>rw[hv]at h;exact x9 hm hO hc0 h ha
 |cons v vs =>
  rw[hv]at h;simp only[pD,aL,Option.bind_some]at h;obtain⟨g1,a1,l1,o1⟩:=rq (v::vs) ha;obtain⟨g2,w2,B2,a2,t2,m1,m2,m3,m4,m5⟩:=x9 (k:=k) (cs:=cs) hm hO hc0 h a1;exact⟨g2,w2,B2,a2,t2,m1,m2,G.le_trans l1 m3,m4,o1.trans m5⟩
theorem Gj(ha:At (gS P) base ann.cn g0 w0 n b g w B e σ a){ps:Array Tmp}{q8 body:Code}{live:List Nat}{C1 C2:bQ}{bu:Nat}
  (h1:br P ann n bu q8=some C1) (h2:br P ann n bu body=some C2) (hps:∀t∈ps.toList,t<n) {l i:Nat} {σ1:SK}
  (hn:dP σ (.loop {state:=0,oV:=none,env:=o5 live e,params:=ps.toList,q8:=C1,body:=C2 })=some (l,i,σ1)):
  ∃lb mk w1 g1,(Instr.enterLoop b.fn a.tmps ps q8 body b.roundOf).run P w=.ok (lb,mk) w1∧Inv (gS P) base g1 σ1 w1∧Ev g w g1 w1∧g1.loc l i=some (.lp lb) ∧
   ∃rs,Marks w0.heap.size g1 w1 (mk++a.defers) b.defers rs:=by
 obtain⟨rs,hmarks⟩:=ha.marks;have hrel:∀(r:Loop) (g':G),g.le g'→r.state=.ready→r.pending=none→r.tmps=a.tmps→r.params=ps→r.assign=q8→r.body=body →
   qI (gS P) g' {state:=0,oV:=none,env:=o5 live e,params:=ps.toList,q8:=C1,body:=C2 } r:=by
  intro r g' hle k1 k2 k3 k4 k5 k6;refine⟨k1,by rw[k2];rfl,by rw[k3];exact(ha.fr.o5 live).mono hle,by rw[k4],by rw[k3,ha.size];exact hps,?_⟩;rw[k3,k5,k6,ha.size];exact⟨ann,bu,by simp[br,h1,h2,aW]⟩
 rcases ha.round with hr | ⟨r,l',i',hr,hl'⟩
 ·rw[hr,run_enterLoop_outer];have i1:=ha.inv.alloc (.deferred (some []));have e1:=Ev.alloc g w (.deferred (some []));have:=i1.DW hn {state:=.ready,pending:=none,fn:=b.fn,tmps:=a.tmps,params:=ps,assign:=q8,body,defers:=w.heap.size } (hrel _ g g.le_refl rfl rfl rfl rfl rfl rfl);obtain⟨i2,e2⟩:=this;have hsz:(w.alloc (.deferred (some []))).heap.size=w.heap.size+1:=by simp
  rw[hsz]at i2 e2;have hm0:pQ w0.heap.size g (w.alloc (.deferred (some []))) w.heap.size:=by
   refine⟨ha.ev.size,fun hb=>Nat.lt_irrefl _ (ha.inv.I0 hb),fun o=>?_,mf⟩;cases hh:g.jV w.heap.size o with
   |none=>rfl
   |some v=>exact absurd (ha.inv.eO hh) (Nat.lt_irrefl _)
  refine⟨_,_,_,_,rfl,i2,e1.trans e2,G.ao,w.heap.size::rs,?_,?_,?_⟩
  ·simp[hmarks.eq,mark]
  ·rw[dI,List.nodup_cons];exact⟨fun hin=>Nat.lt_irrefl _ (hmarks.all _ hin).lt,hmarks.nodup⟩
  ·intro r hr;rcases bj.1 hr with rfl | hr
   ·exact hm0.ev e2
   ·exact((hmarks.all r hr).ev e1).ev e2
 ·obtain⟨blkr,hbr,hrelr⟩:=ha.inv.o8 l' i' _ hl';cases blkr with
  |cells=>exact hrelr.elim
  |dead=>exact hrelr.elim
  |loop lpr =>
   obtain⟨r0,hr0,_⟩:=hrelr;rw[hr,run_enterLoop_inner hr0];obtain⟨i2,e2⟩:=ha.inv.DW hn {state:=.ready,pending:=none,fn:=b.fn,tmps:=a.tmps,params:=ps,assign:=q8,body,defers:=r0.defers } (hrel _ g g.le_refl rfl rfl rfl rfl rfl rfl);exact⟨_,_,_,_,rfl,i2,e2,G.ao,rs,by simpa using hmarks.ev e2⟩
theorem Jv(hO:pR P (gS P) O){f:Operand}{ps:Array Tmp}{q8 body:Code}{bu:Nat}{c:bQ}(hc:br P ann n bu (.rangeFunc f ps q8 body)=some c)
  (h:aL O c e σ=some (x,e',σ')) (ha:At (gS P) base ann.cn g0 w0 n b g w B e σ a):Ends P ann n base g0 w0 b cs g w a (.code (.rangeFunc f ps q8 body)::k) k σ x e' σ':=by
 simp only[br]at hc;split at hc
 case h_2=>cases hc
 rename_i F C1 C2 hf h1 h2;simp only[aJ]at hc;obtain⟨hps,hc⟩:=hc;cases hc;have hps':∀t∈ps.toList,t<n:=fun t ht=>by
  have:=gp.1 hps t ht;simp only[ak,av]at this;exact this.1
 simp only[aL]at h;split at h
 case h_2=>cases h
 rename_i l i σ1 hn;split at h
 case h_2=>cases h
 rename_i dv σ2 hcall;split at h
 case h_2=>cases h
 rename_i lp hlp;split at h
 ·cases h
 rename_i hst;cases h;obtain⟨lb,mk,w1,g1,hent,i1,e1,hloc1,rs,hmarks1⟩:=Gj ha h1 h2 hps' hn;unfold we at hcall;split at hcall
 case h_2=>cases hcall
 rename_i fi first cap hfe
 obtain⟨tmps,df⟩:=a;have hfv:=ha.fr.aR (df:=df) hf;rw[hfe]at hfv;obtain⟨⟨Fn,cd,hfn1,hfn2,hfn3⟩,hcallok⟩:=hO _ _ (vT hcall);generalize hev:(Act.mk tmps df).eval f=fv at hfv;cases hfv with
 |fn _ _ _ first' cap' r1 r2 =>
  have hgo1:=dH.new hn;have hargs:aY g1 (first++[.iN l i]++cap) (first' ++ #[Value.func (.yield lb) #[] #[]]++cap').toList:=by
   have hy:aY g1 [D.iN l i] [.func (.yield lb) #[] #[]]:=.cons _ _ _ _ (.iN l i lb hloc1) .nil;simpa using((r1.mono e1.le).append hy).append (r2.mono e1.le)
  obtain⟨hgo2,hcalls⟩:=hcallok base g1 w1 _ i1 (hgo1.low ha.low) (by rw[hgo1.len];exact ha.pos) hargs;obtain⟨en,w2,fr,⟨v,g2,rfl,e2,i2,hr⟩,hcomes,hfr,hleave⟩:=hcalls (b.atR {tmps:=tmps,defers:=mk++df } (.inRangeFunc lb::k)::cs);have hres:(resolve (Act.mk tmps df).eval (rangeCall f lb) 0).run P w1=.ok {target:=.fn (.func fi) cap',args:=first' ++ #[Value.func (.yield lb) #[] #[]] } w1:=by
   rw[fF hev];simp[Act.eval]
  have hinv:(invoke (.fn (.func fi) cap') (first' ++ #[Value.func (.yield lb) #[] #[]])).run P w1=.ok (.enter fi (first' ++ #[Value.func (.yield lb) #[] #[]]++cap')) w1:=by
   simp only[invoke,oD hfn1 hfn2 hfn3]
  have hstep1:=stepR_rangeFunc (P:=P) (b:=b) (a:=⟨tmps,df⟩) (k:=k) (cs:=cs) (w:=w) hent hres hinv;obtain⟨L2,hL2,hle2⟩:=e2.le.loc l i _ hloc1;rw[Loc.DT hle2]at hL2;obtain⟨bb,hbb,hrelb⟩:=i2.o8 l i _ hL2;rw[hlp]at hbb;cases hbb;obtain⟨r,hr1,hr2⟩:=hrelb;have hbusy:r.state ≠ .busy:=by
   rw[hr2.state];intro hs;match hstv:lp.state with
   |0=>rw[hstv]at hs;cases hs
   |1=>exact hst hstv
   |2=>rw[hstv]at hs;cases hs
   |m+3=>rw[hstv]at hs;cases hs
  have hend:=run_endLoop (P:=P) hr1 hbusy;have hrel3:qI (gS P) g2 {lp with state:=3 } {r with state:=.exhausted }:=⟨rfl,hr2.oV,hr2.env,hr2.params,hr2.small,hr2.both⟩;obtain⟨i3,e3⟩:=i2.Ar hL2 hlp hrel3;have hgo3:dH σ2 (aN σ2 l i (.loop {lp with state:=3 })):=⟨cI,fun h=>h.set fun hl=>(h l i _ hlp hl:aF.low (l+1) (.loop lp))⟩;have hgo:=(hgo1.trans hgo2).trans hgo3;have hev3:=(e1.trans e2).trans e3;refine⟨g2,w2.putObj lb (.loop {r with state:=.exhausted }),B,{tmps:=tmps,defers:=mk++df },(r.pending.map Item.code).toList++k,ou.of ?_ (Steps.head hstep1 (Steps.trans hcomes (Steps.head (step_leave_returned hleave) ?_))),?_,hev3.le,?_,hgo⟩
  ·intro d hd;have hp:=hr2.oV;cases hpe:lp.oV with
   |none=>rw[hpe]at hd;cases hd
   |some y=>rw[hpe]at hd hp;simp only[dK]at hd;subst hd;simp[sF]at hp
  ·rw[finish_atR_inRangeFunc];exact .one (stepR_endRangeFunc hend)
  ·exact⟨(ha.fr.ev hev3).restrict _,ha.ev.trans hev3,i3,hgo.low ha.low,by rw[hgo.len];exact ha.pos,ha.size,⟨rs,(hmarks1.ev e2).ev e3⟩,nC ha.round hev3.le⟩
  ·have hp:=hr2.oV;cases hpe:lp.oV with
   |none=>rw[hpe]at hp;simp only[sF,ae]at hp;rw[← hp];rfl
   |some y =>
    rw[hpe]at hp;cases y with
    |normal=>simp[sF]at hp
    |exit id=>simp only[sF,ae]at hp;rw[← hp];exact⟨k,rfl,rfl⟩
    |ret=>simp only[sF,ae]at hp;rw[← hp];exact⟨k,rfl⟩
    |eR d=>simp[sF]at hp
theorem xD{ann:nv}{x:Code}{c:bQ}{f:ba}{xs:List ba}(h:Ey P ann n x=some (c,f,xs)):∃id ops m o fo args ts op live,x=.region id ops false∧ops.toList=[m,o]∧o.op=.defer {callee:=.value fo,args,argTypes:=ts }∧o.dst=none∧o.guard=none ∧
  aW fo=some f∧om args.toList=some xs∧ET P ann n id ops false 0 m=some op∧op.k ≠ .CQ∧c=.cL live [op]:=by
 unfold Ey at h;split at h
 case h_2=>cases h
 rename_i id ops;split at h
 case h_2=>cases h
 rename_i m o ho;split at h
 case h_2=>cases h
 rename_i c0 t h1 h2 h3 h4;obtain⟨callee,args,ts⟩:=c0;dsimp only at h;split at h
 case h_2=>cases h
 rename_i fo;split at h
 case h_2=>cases h
 rename_i h5 h6 h7;split at h
 ·cases h
 rename_i h8;cases h;exact⟨id,ops,m,o,fo,args,ts,_,_,rfl,ho,h1,h2,h3,h6,h7,h5,h8,rfl⟩
theorem mb(ann:nv)(x:Code)(x' y':bQ):(∃f xs,zV x=some (f,xs)∧EX P ann n x x' y'=.Ge f xs y') ∨
  (zV x=none∧∃p0 bid l0 p' live it nx ok b c,x=.seq p0 (.block bid l0)∧x'=.seq p' (.ew live it nx ok b c .ei)∧EX P ann n x x' y'=.seq p' (.ew live it nx ok b c y')) ∨
  (zV x=none∧∃z,(z=y'∨z=.TM y')∧(Le ann x=false→z=y')∧EX P ann n x x' y'=.seq x' z) ∨
  (zV x=none∧∃live op f xs,Ey P ann n x=some (.cL live [op],f,xs)∧EX P ann n x x' y'=.seq (.cL live [op]) (.Ge f xs y')):=by
 unfold EX;split
 ·rename_i f xs h;exact .inl ⟨f,xs,h,rfl⟩
 ·rename_i h;split
  ·rename_i c f xs hM;obtain⟨_,_,_,_,_,_,_,op,live,_,_,_,_,_,_,_,_,_,rfl⟩:=xD hM;exact .inr (.inr (.inr ⟨h,live,op,f,xs,hM,rfl⟩))
  split
  ·exact .inr (.inl ⟨h,_,_,_,_,_,_,_,_,_,_,rfl,rfl,rfl⟩)
  ·refine .inr (.inr (.inl ⟨h,_,?_,fun hs=>by rw[hs];rfl,rfl⟩));split
   ·exact .inr rfl
   ·exact .inl rfl
theorem oL(ann:nv)(n id:Nat)(x:Code)(x':bQ):(∃it nx ok live sg A c,CC ann n x=some (it,nx,ok)∧x'=.loop live sg (.seq A c)∧Kz ann n id x x'=.ew live (.t it) nx ok id c .ei)∨Kz ann n id x x'=.bu id x':=by
 unfold Kz;split
 ·rename_i it nx ok live sg A c h;exact .inl ⟨it,nx,ok,live,sg,A,c,h,rfl,rfl⟩
 ·exact .inr rfl
theorem xR{x:Code}{it nx ok:Nat}(h:CC ann n x=some (it,nx,ok)):∃rid ops p,x=.loop (.seq (.region rid ops false) p)∧∃o0 o1,ops.toList=[o0,o1] ∧
  o0.op=.next (.tmp it) false∧o0.dst=some nx∧o0.guard=none∧o1.op=.extract (.tmp nx) 0∧o1.dst=some ok∧o1.guard=none∧nx<n∧ok<n∧nx≠ok∧nx ∉ ann.cn∧ok ∉ ann.cn:=by
 unfold CC at h;split at h
 case h_2=>cases h
 rename_i rid ops p;split at h
 case h_2=>cases h
 rename_i o0 o1 hl;split at h
 case h_2=>cases h
 rename_i h1 h2 h3 h4 h5 h6;split at h
 case isFalse=>cases h
 rename_i hc;cases h;obtain⟨rfl,c1,c2,c3,c4,c5⟩:=hc;exact⟨rid,ops,p,rfl,o0,o1,hl,h1,h2,h3,h4,h5,h6,c1,c2,c3,c4,c5⟩
theorem EK{rid:Nat}{ops:Array Oper}{p:Code}{bu:Nat}{live:List Nat}{sg:Bool}{A c:bQ}{q:Nat×Nat×Nat}(hm:CC ann n (.loop (.seq (.region rid ops false) p))=some q)
  (h:br P ann n bu (.loop (.seq (.region rid ops false) p))=some (.loop live sg (.seq A c))):br P ann n bu p=some c:=by
 obtain⟨it,nx,ok⟩:=q;obtain⟨rid',ops',p',heq,o0,o1,hl,_,_,_,g5,_⟩:=xR hm;cases heq;simp only[br,ab]at h;obtain⟨y,h1,h2⟩:=h;cases h2;split at h1
 case h_2=>cases h1
 rename_i x' y' k1 k2;have hd:zV (.region rid ops false)=none:=by simp[zV,hl]
 have hd2:Ey P ann n (.region rid ops false)=none:=by simp[Ey,hl,g5]
 rcases mb ann (.region rid ops false) x' y' with⟨f,xs,h3,_⟩ | ⟨_,p0,bid,l0,_,_,_,_,_,_,_,h3,_⟩ | ⟨_,z,_,hz,h3⟩ | ⟨_,_,_,_,_,h3,_⟩
 ·rw[hd]at h3;cases h3
 ·cases h3
 ·have hs2:ops.size=2:=by have:=congrArg List.length hl;simpa using this
  obtain rfl:=hz (by simp[Le,hs2]);rw[h3]at h1;cases h1;exact k2
 ·rw[hd2]at h3;cases h3
theorem Jj{x1:Exit}(hO:pR P (gS P) O){x:Code}{bu bid it nx ok:Nat}{live:List Nat}{sg:Bool}{A c rest:bQ}{qs:Option Code}(hm:CC ann n x=some (it,nx,ok))(hx:br P ann n bid x=some (.loop live sg (.seq A c)))(hr:FV P ann n bu rest qs)
  (h:aL O (.ew live (.t it) nx ok bid c rest) e σ=some (x1,e',σ')) (ha:At (gS P) base ann.cn g0 w0 n b g w B e σ a):
  Ends P ann n base g0 w0 b cs g w a (.code (.block bid x)::(qs.toList.map Item.code++k)) k σ x1 e' σ':=by
 obtain⟨rid,ops,p,rfl,_⟩:=xR hm;have hc:=EK hm hx;simp only[aL]at h;obtain⟨g1,w1,B1,a1,t1,k1,k2,k3,k4,k5⟩:=hO _ _ (y8 h) ann bu rid ops p n it qs rfl hm hc hr base g0 w0 b a k cs g w B ha;exact⟨g1,w1,B1,a1,t1,k1.imp fun _ hs => .head stepR_block (.head stepR_loop hs),k2,k3,k4,k5⟩
theorem KE{g g':G}{n:Nat}(h:g.le g')(hn:∀l i L,g.loc l i=some L→l<n):g.le (g'.cut n) :=
 ⟨fun l i L e=>by rw[G.lW (hn l i L e)];exact h.loc l i L e,h.jV⟩
theorem ou.map'{S:Frame→Prop}{g g':G}{b:Frame}{a:Act}{todo:List Item}{x:Exit}(hg:∀d v,d.clean=true→a8 g d v→a8 g' d v)(h:ou S g b a todo x):ou S g' b a todo x:=by
 cases x with
 |eR d=>obtain⟨h1,v,h2,h3⟩:=h;exact⟨h1,v,hg d v h1 h2,h3⟩
 |_=>exact h
theorem vW.abN{fb:Nat}{V:List Nat}{g:G}{w:World}{B:Nat→Nat}{e0:Env}{tmps:Array Value}{p:Nat×D}{n:Nat}(h:vW fb V g w B e0 tmps p)(hl:p.2.low n=true):vW fb V (g.cut n) w B e0 tmps p:=by
 obtain⟨t,d⟩:=p;unfold vW at h ⊢;dsimp only at h ⊢ hl;split
 ·rename_i s cs;obtain⟨h1,h2,h3,h4⟩:=h;obtain⟨c,el,k1,k2,k3⟩:=h4.bu;exact⟨h1,h2,h3,h4.lo,fun hh=>h4.free (G.wR hh),h4.lD,c,el,k1,k2.cut hl,k3⟩
 ·rename_i hd;cases d with
  |own s cs=>exact absurd rfl (hd s cs)
  |_=>exact a8.cut h hl
theorem Wd{code:Code}{c:bQ}{x:Exit}(h:aL O (.TM c) e σ=some (x,e',σ'))
  (hin:∀{e1:Env} {σ1:SK},aL O c e ([]::σ)=some (x,e1,σ1)→At (gS P) base ann.cn g0 w0 n b g w B e ([]::σ) a→Ends P ann n base g0 w0 b cs g w a (.code code::k) k ([]::σ) x e1 σ1)
  (ha:At (gS P) base ann.cn g0 w0 n b g w B e σ a):Ends P ann n base g0 w0 b cs g w a (.code code::k) k σ x e' σ':=by
 simp only[aL,ab,Prod.exists,ai]at h;obtain⟨x1,e1,σ1,hac,rfl,he2,hs2⟩:=h;have ha1:At (gS P) base ann.cn g0 w0 n b g w B e ([]::σ) a :=
  {ha with inv:=ha.inv.push,low:=ha.low.push ha.inv,pos:=by simp }
 obtain⟨g1,w1,B1,a1,todo,k1,k2,k3,k4,k5⟩:=hin hac ha1;have hents:=k2.fr.b9 (keys e1);obtain⟨g2,i2,ev2,hents2⟩:=zY (CR:=gS P) (base:=base) (σ.length-1) _ σ1 g1 k2.inv hents;obtain⟨hlow,hgo⟩:=vG (σ.length-1) (restrict (keys e1) e1) σ1;cases hfz:kJ (σ.length-1) (restrict (keys e1) e1) σ1 with
 |mk e3 σ3 =>
 rw[hfz]at he2 hs2 i2 hents2 hlow hgo;dsimp only at he2 hs2 i2 hents2 hlow hgo;subst he2;have hl3:kX σ3:=hgo.low k2.low;have hlen3:σ3.length=σ.length+1:=by
  have h1:=hgo.len;have h2:=k5.len;simp at h1 h2;omega
 cases σ3 with
 |nil=>simp at hlen3
 |cons s σ2 =>
 simp only[List.tail_cons]at hs2;subst hs2;have hlen2:σ2.length=σ.length:=by simpa using hlen3
 have hpos:=ha.pos;rw[show σ.length-1+1=σ2.length from by omega]at hlow;have hlvl:∀l i L,g.loc l i=some L→l<σ2.length:=fun l i L h=>by rw[hlen2];exact ha.inv.lvl h
 have hlvl0:∀l i L,g0.loc l i=some L→l<σ2.length:=fun l i L h=>by
  obtain⟨L',h',_⟩:=ha.ev.le.loc l i L h;exact hlvl l i L' h'
 obtain⟨i3,l3⟩:=i2.pop hl3;obtain⟨rs,hmk⟩:=k2.marks;have hmk2:=hmk.ev ev2;have hle:g.le (g2.cut σ2.length):=KE (k3.trans' ev2.le) hlvl;refine⟨g2.cut σ2.length,w1,B1,a1,todo,k1.map' fun d v hcl hv=>(hv.mono ev2.le).cut (mg hcl),⟨vW.fr k2.fr fun p hp=>(hents2 p hp).abN (hlow p hp),(k2.ev.trans ev2).cut hlvl0,i3,l3,by simpa[hlen2]using hpos,k2.size,⟨rs,hmk2.eq,hmk2.nodup,fun r hr=>?_⟩,nC ha.round hle⟩,hle,k4,⟨hlen2,fun _=>l3⟩⟩;have:=hmk2.all r hr;exact⟨this.lo,fun hh=>this.free (G.wR hh),this.lD,this.bu⟩
theorem mB(hm:P.follows .mixedOrders=true)(hO:pR P (gS P) O)(code:Code):∀{bu:Nat} {c:bQ} {e e':Env} {σ σ':SK} {x:Exit} {g:G} {w:World} {B:Nat→Nat} {a:Act} {k:List Item},
  br P ann n bu code=some c→aL O c e σ=some (x,e',σ')→At (gS P) base ann.cn g0 w0 n b g w B e σ a→Ends P ann n base g0 w0 b cs g w a (.code code::k) k σ x e' σ':=by
 induction hsz:SizeOf.sizeOf code using Nat.strongRecOn generalizing code with
 |_ N ih =>
 intro bu c e e' σ σ' x g w B a k hc h ha;have seq2:∀{p q:Code} {x' y':bQ},(∀{e e':Env} {σ σ':SK} {x:Exit} {g:G} {w:World} {B:Nat→Nat} {a:Act} {k:List Item},aL O x' e σ=some (x,e',σ')→At (gS P) base ann.cn g0 w0 n b g w B e σ a→Ends P ann n base g0 w0 b cs g w a (.code p::k) k σ x e' σ') →
   (∀{e e':Env} {σ σ':SK} {x:Exit} {g:G} {w:World} {B:Nat→Nat} {a:Act},aL O y' e σ=some (x,e',σ')→At (gS P) base ann.cn g0 w0 n b g w B e σ a→Ends P ann n base g0 w0 b cs g w a (.code q::k) k σ x e' σ') →
   aL O (.seq x' y') e σ=some (x,e',σ')→Ends P ann n base g0 w0 b cs g w a (.code (.seq p q)::k) k σ x e' σ':=by
  intro p q x' y' ih1 ih2 h;simp only[aL,ah,Prod.exists]at h;obtain⟨x1,e1,σ1,h3,h4⟩:=h;obtain⟨g1,w1,B1,a1,t1,k1,k2,k3,k4,k5⟩:=ih1 (k:=.code q::k) h3 ha;cases x1 with
  |normal =>
   obtain rfl:=k4;obtain⟨g2,w2,B2,a2,t2,m1,m2,m3,m4,m5⟩:=ih2 h4 k2;exact⟨g2,w2,B2,a2,t2,m1.imp fun _ hs => .head stepR_seq (Steps.trans k1 hs),m2,k3.trans' m3,m4,k5.trans m5⟩
  |exit id =>
   simp only[ae,ai]at h4;obtain⟨rfl,rfl,rfl⟩:=h4;exact⟨g1,w1,B1,a1,t1,k1.imp fun _ hs => .head stepR_seq hs,k2,k3,k4.skip (fun _=>by simp) (by simp),k5⟩
  |ret =>
   simp only[ae,ai]at h4;obtain⟨rfl,rfl,rfl⟩:=h4;exact⟨g1,w1,B1,a1,t1,k1.imp fun _ hs => .head stepR_seq hs,k2,k3,k4.skip (fun _=>by simp) (by simp),k5⟩
  |eR d =>
   simp only[ae,ai]at h4;obtain⟨rfl,rfl,rfl⟩:=h4;exact⟨g1,w1,B1,a1,t1,k1.imp fun _ hs => .head stepR_seq hs,k2,k3,k4.skip (fun _=>by simp) (by simp),k5⟩
 cases code with
 |skip =>
  simp only[br,ae]at hc;subst hc;simp only[aL,ae,ai]at h;obtain⟨rfl,rfl,rfl⟩:=h;exact⟨g,w,B,a,k,.one stepR_skip,ha,g.le_refl,rfl,.refl _⟩
 |region id ops draw=>exact EW hm hO hc h ha
 |seq p q =>
  simp only[br]at hc;split at hc
  case h_2=>cases hc
  rename_i p' q' h1 h2;cases hc;rcases mb ann p p' q' with⟨f,xs,_,h3⟩ | ⟨_,p0,bid,l0,p1,live,it,nx,ok,bb,c0,rfl,rfl,h3⟩ | ⟨_,z,hz,_,h3⟩ | ⟨_,live,op,f,xs,_,h3⟩
  ·rw[h3]at h;simp[aL]at h
  ·rw[h3]at h;simp only[br]at h1;split at h1
   case h_2=>cases h1
   rename_i p2 q2 g1 g2;simp only[ab,ae]at g2 h1;obtain⟨l1,g3,rfl⟩:=g2;rcases oL ann n bid l0 l1 with⟨it',nx',ok',live',sg,A,c1,g4,rfl,g5⟩ | g5
   ·rw[g5]at h1;rcases mb ann p0 p2 (.ew live' (.t it') nx' ok' bid c1 .ei)with⟨f,xs,_,g6⟩ | ⟨_,_,_,_,_,_,_,_,_,_,_,_,_,g6⟩ | ⟨_,z,rfl | rfl,_,g6⟩ | ⟨_,_,_,_,_,_,g6⟩
    rotate_left 4
    ·rw[g6]at h1;cases h1
    ·rw[g6]at h1;cases h1
    ·rw[g6]at h1;cases h1
    rotate_left 1
    ·rw[g6]at h1;cases h1
    ·rw[g6]at h1;cases h1;simp only[aL,ah,Prod.exists]at h;obtain⟨x1,e1,σ1,h4,h5⟩:=h;obtain⟨f1,w1,B1,a1,t1,k1,k2,k3,k4,k5⟩:=ih _ (by simp at hsz ⊢;omega) p0 rfl (k:=.code (.block bid l0)::.code q::k) g1 h4 ha;cases x1 with
     |normal =>
      obtain rfl:=k4;obtain⟨f2,w2,B2,a2,t2,m1,m2,m3,m4,m5⟩:=Jj (bu:=bu) (qs:=some q) (k:=k) (cs:=cs) hO g4 g3 h2 h5 k2;exact⟨f2,w2,B2,a2,t2,m1.imp fun _ hs => .head stepR_seq (.head stepR_seq (Steps.trans k1 hs)),m2,k3.trans' m3,m4,k5.trans m5⟩
     |exit id =>
      simp only[ae,ai]at h5;obtain⟨rfl,rfl,rfl⟩:=h5;exact⟨f1,w1,B1,a1,t1,k1.imp fun _ hs => .head stepR_seq (.head stepR_seq hs),k2,k3,(k4.skip (fun _=>by simp) (by simp)).skip (fun _=>by simp) (by simp),k5⟩
     |ret =>
      simp only[ae,ai]at h5;obtain⟨rfl,rfl,rfl⟩:=h5;exact⟨f1,w1,B1,a1,t1,k1.imp fun _ hs => .head stepR_seq (.head stepR_seq hs),k2,k3,(k4.skip (fun _=>by simp) (by simp)).skip (fun _=>by simp) (by simp),k5⟩
     |eR d =>
      simp only[ae,ai]at h5;obtain⟨rfl,rfl,rfl⟩:=h5;exact⟨f1,w1,B1,a1,t1,k1.imp fun _ hs => .head stepR_seq (.head stepR_seq hs),k2,k3,trivial,k5⟩
   ·rw[g5]at h1;rcases mb ann p0 p2 (.bu bid l1)with⟨f,xs,_,g6⟩ | ⟨_,_,_,_,_,_,_,_,_,_,_,_,_,g6⟩ | ⟨_,z,rfl | rfl,_,g6⟩ | ⟨_,_,_,_,_,_,g6⟩<;>rw[g6]at h1<;>cases h1
  ·rw[h3]at h;rcases hz with rfl | rfl
   ·exact seq2 (fun h ha=>ih _ (by simp at hsz;omega) p rfl h1 h ha) (fun h ha=>ih _ (by simp at hsz;omega) q rfl h2 h ha) h
   ·exact seq2 (fun h ha=>ih _ (by simp at hsz;omega) p rfl h1 h ha) (fun h ha=>Wd h (fun h ha=>ih _ (by simp at hsz;omega) q rfl h2 h ha) ha) h
  ·rw[h3]at h;simp only[aL,ah,ab]at h;obtain⟨_,⟨_,_,rfl⟩,h⟩:=h;cases h
 |cond co p q =>
  simp only[br]at hc;split at hc
  case h_2=>cases hc
  rename_i C p' q' h0 h1 h2;cases hc;simp only[aL]at h;split at h
  case h_2=>cases h
  rename_i t ht;obtain⟨tmps,df⟩:=a;have hrel:=ha.fr.aR (df:=df) h0;rw[ht]at hrel;have hev:=hrel.jX;refine Ends.step (stepR_cond hev) ?_;cases t with
  |true=>exact ih _ (by simp at hsz;omega) p rfl h1 (by simpa using h) ha
  |false=>exact ih _ (by simp at hsz;omega) q rfl h2 (by simpa using h) ha
 |block id p =>
  simp only[br,ab]at hc;obtain⟨p',h1,rfl⟩:=hc;rcases oL ann n id p p' with⟨it',nx',ok',live',sg,A,c1,g4,rfl,g5⟩ | g5
  ·rw[g5]at h;have:=Jj (bu:=bu) (qs:=none) (k:=k) (cs:=cs) hO g4 h1 rfl h ha;simpa using this
  rw[g5]at h;simp only[aL,ab,Prod.exists]at h;obtain⟨x1,e1,σ1,h3,h4⟩:=h;obtain⟨g1,w1,B1,a1,t1,k1,k2,k3,k4,k5⟩:=ih _ (by simp at hsz;omega) p rfl (k:=.inBlock id::k) h1 h3 ha;cases x1 with
  |normal =>
   cases h4;obtain rfl:=k4;exact⟨g1,w1,B1,a1,k,.head stepR_block (Steps.trans k1 (.one stepR_inBlock)),k2,k3,rfl,k5⟩
  |exit j =>
   obtain⟨k',rfl,hk'⟩:=k4;dsimp only at h4;split at h4
   ·rename_i hj;subst hj;cases h4;refine⟨g1,w1,B1,a1,k,.head stepR_block (Steps.trans k1 (.one (stepR_exit ?_))),k2,k3,rfl,k5⟩;rw[hk'];simp[exitTo]
   ·rename_i hj;cases h4;refine⟨g1,w1,B1,a1,_,Steps.head stepR_block k1,k2,k3,⟨k',rfl,?_⟩,k5⟩;rw[hk'];simp[exitTo,Ne.symm hj]
  |ret =>
   cases h4;exact⟨g1,w1,B1,a1,t1,Steps.head stepR_block k1,k2,k3,k4,k5⟩
  |eR d =>
   cases h4;exact⟨g1,w1,B1,a1,t1,k1.imp fun _ hs => .head stepR_block hs,k2,k3,trivial,k5⟩
 |loop p =>
  simp only[br,ab]at hc;obtain⟨p',h1,rfl⟩:=hc;simp only[aL]at h;obtain⟨hx,hloop⟩:=hO _ _ (y8 h);exact Ends.step stepR_loop (hloop ann bu p n h1 base g0 w0 b a k cs g w B ha)
 |rangeFunc f ps p q=>exact Jv hO hc h ha
 |scope p =>
  simp only[br,ab]at hc;obtain⟨p',h1,rfl⟩:=hc;unfold yd at h;split at h
  ·rw[vC]at h;cases h
  simp only[aL,Option.bind_some]at h;obtain⟨g1,w1,B1,a1,t1,k1,k2,k3,k4,k5⟩:=ih _ (by simp at hsz;omega) p rfl (k:=.inScope p::k) h1 h ha;cases x with
  |normal =>
   obtain rfl:=k4;exact⟨g1,w1,B1,a1,k,.head pB (Steps.trans k1 (.one yO)),k2,k3,rfl,k5⟩
  |exit id=>exact⟨g1,w1,B1,a1,t1,Steps.head pB k1,k2,k3,k4.skip (fun _=>by simp) (by simp),k5⟩
  |ret=>exact⟨g1,w1,B1,a1,t1,Steps.head pB k1,k2,k3,k4.skip (fun _=>by simp) (by simp),k5⟩
  |eR d=>exact⟨g1,w1,B1,a1,t1,k1.imp fun _ hs => .head pB hs,k2,k3,trivial,k5⟩
 |label l =>
  simp only[br,ae]at hc;subst hc;simp only[aL,ae,ai]at h;obtain⟨rfl,rfl,rfl⟩:=h;exact⟨g,w,B,a,k,.one stepR_label,ha,g.le_refl,rfl,.refl _⟩
 |exit id =>
  simp only[br,ae]at hc;subst hc;simp only[aL,ae,ai]at h;obtain⟨rfl,rfl,rfl⟩:=h;exact⟨g,w,B,a,_,.refl _ _,ha,g.le_refl,⟨k,rfl,rfl⟩,.refl _⟩
 |ret =>
  simp only[br,ae]at hc;subst hc;simp only[aL,ae,ai]at h;obtain⟨rfl,rfl,rfl⟩:=h;exact⟨g,w,B,a,_,.refl _ _,ha,g.le_refl,⟨k,rfl⟩,.refl _⟩
 |_ =>
  simp only[br,ae]at hc;subst hc;rw[vC]at h;cases h
end
section
variable {P:Program} {CR:dF} {base fb:Nat} {V:List Nat} {g:G} {σ σ':SK} {w:World} {B:Nat→Nat} {e:Env} {tmps:Array Value} {d:D}
theorem Bz{t:TypeId}{ag:Bool}{sz:Nat}{b o:Nat}{vs:List Value}{cs:List D}(hag:nw P t=some ag)(hsz:bX P t=some sz)(hone:(ag || sz == 1)=true)(hpos:0<sz)
  (hrd:Rd w b o vs) (hrl:aY g cs vs) (h1:∀x∈vs,x.oneCell'=true)
  (h:(if sz≤cs.length then if ag then some (D.agg (cs.take sz),σ)else match(generalizing:=false) cs with | d::_=>some (d,σ) | []=>none else none)=some (d,σ')):
  ∃v,(loadVar t ⟨b,o,none⟩).run P w=.ok v w∧a8 g d v:=by
 split at h
 case isFalse=>cases h
 rename_i hlen;obtain⟨v,hv,hv2⟩:=sN hag hsz hone hrd (by rw[← hrl.length];exact hlen);cases ag with
 |true =>
  simp only[if_true,ae,ai]at h;obtain⟨rfl,rfl⟩:=h;simp only[if_true]at hv2;subst hv2;exact⟨_,hv,.agg _ _ (by simpa using hrl.take sz) fun y hy=>h1 y (cq (by simpa using hy))⟩
 |false =>
  simp only[al,if_false]at h hv2;obtain⟨y,r,rfl,rfl⟩:=hv2;cases cs with
  |nil=>simp at hlen;omega
  |cons d0 cs =>
   simp only[ae,ai]at h;obtain⟨rfl,rfl⟩:=h;cases hrl with
   |cons _ _ _ _ ha hb=>exact⟨_,hv,ha⟩
def Jw(tmps:Array Value):ResultVar→Sem Value
 |.tmp t=>pure (tmps.getD t Go.undef)
 |.cell a t=>do loadVar t (← asAddr (tmps.getD a Go.undef))
theorem CT(F:Func):results F tmps=(do
  let vs←F.results.mapM (Jw tmps)
  pure (if h:vs.size=1 then vs[0]else .tuple vs)):=rfl
theorem VK(hf:Fr fb V g w B e tmps)(hi:Inv CR base g σ w){ann:nv}{r:ResultVar}{R:uy}(hR:Lb P ann r=some R)(h:ya e σ R=some d):
  ∃v,(Jw tmps r).run P w=.ok v w∧a8 g d v:=by
 cases r with
 |tmp t =>
  simp only[Lb,ae]at hR;subst hR;simp only[ya,ae]at h;subst h;exact⟨_,rfl,hf.strip t⟩
 |cell x t =>
  simp only[Lb]at hR;split at hR
  case h_2=>cases hR
  rename_i ag sz hag hsz;simp only[aJ,ak,av]at hR;obtain⟨⟨hone,hpos⟩,hR⟩:=hR;by_cases hc:ann.cn.contains x=true
  ·rw[if_pos hc]at hR;cases hR;simp only[ya,ab,Prod.exists]at h;obtain⟨d',σ',h,rfl⟩:=h;simp only[a7]at h;split at h
   case h_2=>cases h
   rename_i s cs off hin;obtain⟨hg,hp⟩:=hf.lC hin;obtain⟨_,_,hob⟩:=hf.own x s cs hg;obtain⟨ca,el,hheap,hrl,h1⟩:=hob.bu;have hrd:Rd w (B x) off (ca.toList.drop off):=by
    have:Rd w (B x) 0 ca.toList:=fun j y ey=>by simp only[World.cell?,hheap];simpa using ey
    simpa using this.drop off
   obtain⟨v,h2,h3⟩:=Bz hag hsz hone hpos hrd (hrl.drop off) (fun y hy=>h1 y (cp hy)) h;exact⟨v,by simp only[Jw,hp];simpa[asAddr]using h2,h3⟩
  ·rw[if_neg hc]at hR;cases hR;simp only[ya,ab,Prod.exists]at h;obtain⟨d',σ',h,rfl⟩:=h;simp only[a7]at h;split at h
   case h_2=>cases h
   rename_i cs hcs;rcases Dy hi (hf.strip x) hcs with rfl | ⟨b,off,vs,hcv,hrd,hrl,h1⟩
   ·simp at h;omega
   ·obtain⟨v,h2,h3⟩:=Bz hag hsz hone hpos hrd hrl h1 h;exact⟨v,by simp only[Jw,hcv];simpa[asAddr]using h2,h3⟩
theorem D5(hf:Fr fb V g w B e tmps)(hi:Inv CR base g σ w){ann:nv}:∀{rs:List ResultVar} {Rs:List uy} {ds:List D},wu P ann rs=some Rs→qD e σ Rs=some ds →
  ∃vs,(rs.mapM (Jw tmps)).run P w=.ok vs w∧aY g ds vs
 |[],Rs,ds,h1,h2=>by
  simp only[wu,ae]at h1;subst h1;simp only[qD,ae]at h2;subst h2;exact⟨[],by simp,.nil⟩
 |r::rs,Rs,ds,h1,h2=>by
  simp only[wu]at h1;split at h1
  case h_2=>cases h1
  rename_i R Rs' k1 k2;cases h1;simp only[qD,ah,ab]at h2;obtain⟨d,h3,ds',h4,rfl⟩:=h2;obtain⟨v,h5,h6⟩:=VK hf hi k1 h3;obtain⟨vs,h7,h8⟩:=D5 hf hi k2 h4;exact⟨v::vs,by simp only[List.mapM_cons,Sem.run_bind,h5,Result.andThen_ok,h7,Sem.run_pure],.cons _ _ _ _ h6 h8⟩
theorem um(hf:Fr fb V g w B e tmps)(hi:Inv CR base g σ w){ann:nv}{F:Func}{Rs:List uy}{ds:List D}(h1:wu P ann F.results.toList=some Rs)(h2:qD e σ Rs=some ds):
  ∃v,(results F tmps).run P w=.ok v w∧a8 g (mS ds) v:=by
 obtain⟨vs,h3,h4⟩:=D5 (tmps:=tmps) hf hi h1 h2;have hrun:∀v,(if h:vs.toArray.size=1 then vs.toArray[0]else Value.tuple vs.toArray)=v→(results F tmps).run P w=.ok v w:=by
  intro v hv;subst hv;rw[CT];simp only[Sem.run_bind,Array.mapM_eq_mapM_toList,Sem.run_map,h3,Result.andThen_ok,Sem.run_pure]
 cases h4 with
 |nil=>exact⟨_,hrun _ rfl,by simpa[mS]using a8.fj (g:=g) [] #[] .nil⟩
 |cons d c ds' cs' k1 k2 =>
  cases k2 with
  |nil=>exact⟨c,hrun _ (by simp),by simpa[mS]using k1⟩
  |cons d2 c2 ds2 cs2 k3 k4=>exact⟨_,hrun _ rfl,by simpa[mS]using a8.fj (g:=g) _ (c::c2::cs2).toArray (.cons _ _ _ _ k1 (.cons _ _ _ _ k3 k4))⟩
end
section
variable {P:Program} {CR:dF} {base n:Nat} {V:List Nat} {g0 g:G} {w0 w:World} {b:Frame} {B:Nat→Nat} {e:Env} {σ:SK} {a:Act}
theorem C6{df0:List Deferred}:∀(rs:List Nat) (w:World) (g:G) (a:Act) (fr:Frame) (cs:List Frame),fr.mode ≠ .run→fr.defers=rs.map mark++df0→(rs++ni df0).Nodup→(∀r∈rs++ni df0,pQ w0.heap.size g w r) →
  Fr w0.heap.size V g w B e a.tmps→Ev g0 w0 g w→Inv CR base g σ w →
  ∃w',Steps P (lone fr cs w) (lone {fr with defers:=df0 } cs w')∧Fr w0.heap.size V g w' B e a.tmps∧Ev g0 w0 g w'∧Inv CR base g σ w'∧(∀r∈ni df0,pQ w0.heap.size g w' r)
 |[],w,g,a,fr,cs,hm,hd,hn,hall,hf,he,hi=>by
  refine⟨w,?_,hf,he,hi,by simpa using hall⟩;have:{fr with defers:=df0 }=fr:=by cases fr;simp only[bf,bR]at hd;subst hd;rfl
  rw[this];exact .refl _ _
 |r::rs,w,g,a,fr,cs,hm,hd,hn,hall,hf,he,hi=>by
  have hr:=hall r (by simp);have htake:=run_takeDeferred (P:=P) hr.bu;have hstep:=step_collected (P:=P) (cs:=cs) (d:=mark r) (ds:=rs.map mark++df0) hm (by rw[hd];rfl) rfl htake;have hoth:∀b',b'≠r→(w.putObj r (.deferred none)).heap[b']?=w.heap[b']?:=fun b' hne=>World.putObj_heap_other hne
  have hi':Inv CR base g σ (w.putObj r (.deferred none)):=hi.zX (fun b' _ hk=>hoth b' fun hh=>by
   subst hh;rcases hk with hk | ⟨o,v,hk⟩
   ·exact hr.free hk
   ·rw[hr.lD]at hk;cases hk) (by simp)
  have he':Ev g0 w0 g (w.putObj r (.deferred none)) :=
   ⟨he.le,he.os,he.tape,he.output,by simpa using he.size,fun b' hb' hnb=>by rw[hoth b' (by have:=hr.lo;omega)];exact he.kept b' hb' hnb,he.Fe,he.yJ⟩
  have hf':Fr w0.heap.size V g (w.putObj r (.deferred none)) B e a.tmps:=⟨hf.rel,fun t s cs' ht=>by
   obtain⟨h1,h2,h3⟩:=hf.own t s cs' ht;obtain⟨c,el,hb,hrl,h5⟩:=h3.bu;refine⟨h1,h2,h3.lo,h3.free,h3.lD,c,el,?_,hrl,h5⟩;rw[hoth (B t) (fun hh=>by rw[hh,hr.bu]at hb;cases hb)];exact hb,hf.inj⟩
  rw[dI,List.nodup_cons]at hn;obtain⟨w',h1,h2,h3,h4⟩:=C6 rs (w.putObj r (.deferred none)) g a {fr with defers:=rs.map mark++df0 } cs hm rfl hn.2 (fun r' hr'=>by
   have hm':=hall r' (by rw[dI];exact List.mem_cons_of_mem _ hr');refine⟨hm'.lo,hm'.free,hm'.lD,?_⟩;rw[hoth r' (fun hh=>hn.1 (hh ▸ hr'))];exact hm'.bu) hf' he' hi'
  refine⟨w',.head ?_ h1,h2,h3,h4⟩;rw[hstep];rfl
end
open Go.RowKit
structure abc(w:World)(b o:Nat)(zs:List Int)(w':World):Prop where
 row:∀c el,w.heap[b]?=some (.cells c el (0,0))→o+zs.length≤c.size→∃c',w'.heap[b]?=some (.cells c' el (0,0))∧c'.size=c.size ∧
  ∀j,c'[j]?=if o≤j∧j<o+zs.length then(zs.map (Value.int .i64))[j-o]? else c[j]?
 other:∀x,x<w.heap.size→x≠b→w'.heap[x]?=w.heap[x]?
 size:w.heap.size≤w'.heap.size
 os:w'.os=w.os
 tape:w'.tape=w.tape
 output:w'.output=w.output
def natVal(k b o cap:Nat)(zs:List Int):Value:=if k=1 then .tuple #[]else .slice (some ⟨b,o,none⟩) (y7 zs).length cap
def acd(P:Program)(k f:Nat):Prop :=
 (∃F c,P.funcs[f]?=some F∧F.name ≠ "runtime.NumGoroutine" ∧ F.body=some c) ∧
 ∀(b o cap:Nat) (zs:List Int) (w:World) (c:Array Value) (el:TypeId),w.heap[b]?=some (.cells c el (0,0))→o+zs.length≤c.size →
  (∀j z,zs[j]?=some z→c[o+j]?=some (.int .i64 z))→zs.length<4611686018427387904→zs.length≤cap →
  Calls P f #[.slice (some ⟨b,o,none⟩) zs.length cap] w fun e w'=>e=.returned (natVal k b o cap zs)∧abc w b o (Jp k zs) w'
def Xl(P:Program)(CR:dF)(k f:Nat):Prop:=∀args σ r,ZB k args σ=some r→∃d σ',r=.val d σ'∧tM P CR f args σ d σ'
theorem wj(x:Int):∀l:List Int,(KQ x l).length=l.length+1
 |[]=>rfl
 |y::l=>by
  unfold KQ;split
  ·rfl
  ·simp[wj x l]
theorem Av:∀l:List Int,(Ea l).length=l.length
 |[]=>rfl
 |x::l=>by simp[Ea,wj,Av l]
theorem rh(x:Int):∀l:List Int,(AX x l).length≤l.length
 |[]=>aw _
 |y::l=>by
  unfold AX;split
  ·have:=rh x l;simp;omega
  ·have:=rh y l;simp;omega
theorem KD:∀l:List Int,(y7 l).length≤l.length
 |[]=>aw _
 |x::l=>by have:=rh x l;simp[y7];omega
def T6(P:Program)(f:Nat)(fn:Fn):Prop:=∃F c ann,P.funcs[f]?=some F∧F.name ≠ "runtime.NumGoroutine" ∧ F.body=some c∧fnC P ann F=some fn
def Ud(P:Program)(T:sn):Prop :=
 ∀f fn,T f=some fn→if f<1000000 then T6 P f fn else fn.body=.exit 0∧Xl P (gS P) fn.CF (f-1000000)
theorem EC{args:List D}:∀{k t:Nat},get (iH k args) t=if k≤t then(args[t-k]?).getD .undef else .undef:=by
 induction args with
 |nil=>intro k t;simp[iH,get]
 |cons d ds ih =>
  intro k t;simp only[iH,get,ih];by_cases h:k=t
  ·subst h;simp
  ·rw[if_neg h];by_cases h2:k≤t
   ·rw[if_pos h2,if_pos (by omega),show t-k=(t-(k+1))+1 from by omega,List.getElem?_cons_succ]
   ·rw[if_neg h2,if_neg (by omega)]
theorem DJ{P:Program}{ann:nv}{F:Func}{c:Code}{fn:Fn}(hb:F.body=some c)(h:fnC P ann F=some fn):
  br P ann F.ntmps 0 c=some fn.body∧wu P ann F.results.toList=some fn.res∧fn.CF≤F.ntmps:=by
 unfold fnC at h;rw[hb]at h;dsimp only at h;split at h
 case h_2=>cases h
 rename_i c' rs h1 h2;simp only[aJ]at h;obtain⟨h3,h⟩:=h;cases h;exact⟨h1,h2,h3⟩
section
variable {P:Program} {T:sn} {O:bd}
theorem xE{f:Nat}{F:Func}{c:Code}(V:List Nat){args:List D}(kd:CallKind)(hF:P.funcs[f]?=some F)(hbody:F.body=some c)(hlen:args.length≤F.ntmps)
  {base:Nat} {g:G} {w:World} {vs:Array Value} {σ:SK} (hi:Inv (gS P) base g σ w) (hl:kX σ) (hp:0<σ.length) (hr:aY g args vs.toList):
  ∃b a,Frame.enter P f vs kd=b.atR a [.code c]∧b.defers=[]∧b.fn=f∧b.kind=kd∧b.roundOf=none∧At (gS P) base V g w F.ntmps b g w (fun _=>0) (iH 0 args) σ a:=by
 have hsz:vs.size=args.length:=by have:=hr.length;simpa using this.symm
 let b:Frame:=Frame.enter P f vs kd
 let a:Act:=⟨vs++Array.replicate (F.ntmps-vs.size) Go.undef,[]⟩
 have hfr:Frame.enter P f vs kd=b.atR a [.code c]:=by
  simp[b,a,Frame.enter,Frame.atR,hF,hbody]
 have hrel:∀t,a8 g (get (iH 0 args) t) (a.tmps.getD t Go.undef):=by
  intro t;rw[EC,if_pos (Nat.zero_le _),Nat.sub_zero];cases ht:args[t]? with
  |none=>exact .undef _
  |some d =>
   obtain⟨c0,hc0,hrc⟩:=hr.get ht;have hlt:t<vs.size:=by have:=(an.1 ht).1;omega
   have:a.tmps.getD t Go.undef=c0:=by
    simp only[a,bz];rw[Array.getElem?_append_left hlt];simp at hc0;rw[hc0];rfl
   rw[this];exact hrc
 have hno:∀t s cs,get (iH 0 args) t ≠ .own s cs:=fun t s cs=>D0 (hrel t) s cs
 refine⟨b,a,hfr,rfl,rfl,rfl,rfl,⟨⟨fun t=>?_,fun t s cs ht=>absurd ht (hno t s cs),fun t t' s s' cs cs' ht=>absurd ht (hno t s cs)⟩,Ev.refl g w,hi,hl,hp,?_,⟨[],rfl,List.nodup_nil,by simp[ni,b,Frame.enter]⟩,.inl rfl⟩⟩
 ·have:=hrel t;cases hd:get (iH 0 args) t with
  |own s cs=>trivial
  |vr=>rw[hd]at this;cases this
  |emp=>rw[hd]at this;cases this
  |_=>rw[hd]at this;exact this
 ·simp only[a,Array.size_append,Array.size_replicate];omega
def B9(g:G):Exit→FrameMode→Prop
 |.eR d,u=>Db g (some d) u∧d.clean=true
 |_,u=>u=.returning
theorem CK{ann:nv}{base n:Nat}{g0 g1:G}{w0 w1:World}{b:Frame}{B:Nat→Nat}{e:Env}{σ:SK}{a:Act}{cs:List Frame}{x:Exit}{todo:List Item}
  (hro:b.roundOf=none) (hL:rN [] x todo) (hne:∀id,x ≠ .exit id) (ha:At (gS P) base ann.cn g0 w0 n b g1 w1 B e σ a) {fr:Frame} {w:World} (start:Frame) (hs:ou (fun fr=>Steps P (lone start cs w) (lone fr cs w1)) g1 b a todo x):
  ∃w2 u,Steps P (lone start cs w) (lone {b.atR a todo with mode:=u,defers:=b.defers } cs w2)∧B9 g1 x u ∧
   Fr w0.heap.size ann.cn g1 w2 B e a.tmps∧Ev g0 w0 g1 w2∧Inv (gS P) base g1 σ w2∧(∀r∈ni b.defers,pQ w0.heap.size g1 w2 r):=by
 obtain⟨rs,hmk⟩:=ha.marks;have fin:∀u:FrameMode,u ≠ .run→Steps P (lone start cs w) (lone {b.atR a todo with mode:=u } cs w1) →
   ∃w2,Steps P (lone start cs w) (lone {b.atR a todo with mode:=u,defers:=b.defers } cs w2) ∧
   Fr w0.heap.size ann.cn g1 w2 B e a.tmps∧Ev g0 w0 g1 w2∧Inv (gS P) base g1 σ w2∧(∀r∈ni b.defers,pQ w0.heap.size g1 w2 r):=by
  intro u hu hst;obtain⟨w2,u1,u2,u3,u4,u5⟩:=C6 (P:=P) (df0:=b.defers) rs w1 g1 a {b.atR a todo with mode:=u } cs hu hmk.eq hmk.nodup hmk.all ha.fr ha.ev ha.inv;exact⟨w2,.trans hst u1,u2,u3,u4,u5⟩
 cases x with
 |exit id=>exact absurd rfl (hne id)
 |normal =>
  obtain rfl:=hL;obtain⟨w2,k⟩:=fin .returning (by simp) (Steps.trans hs (.one (stepR_end hro)));exact⟨w2,.returning,k.1,rfl,k.2⟩
 |ret =>
  obtain⟨k',rfl⟩:=hL;obtain⟨w2,k⟩:=fin .returning (by simp) (Steps.trans hs (.one (stepR_ret hro)));exact⟨w2,.returning,k.1,rfl,k.2⟩
 |eR d =>
  obtain⟨hcl,v,hr,hs⟩:=hs;obtain⟨w2,k⟩:=fin (.panicking [{v,recovered:=false }]) (by simp) hs;exact⟨w2,_,k.1,⟨⟨v,hr,rfl⟩,hcl⟩,k.2⟩
theorem Gf{x:Code}{f:ba}{xs:List ba}(h:zV x=some (f,xs)):∃id ops o fo args ts,x=.region id ops false∧ops.toList=[o]∧o.op=.defer {callee:=.value fo,args,argTypes:=ts }∧o.dst=none∧o.guard=none∧aW fo=some f∧om args.toList=some xs:=by
 unfold zV at h;split at h
 case h_2=>cases h
 rename_i id ops;split at h
 case h_2=>cases h
 rename_i o ho;split at h
 case h_2=>cases h
 rename_i c h1 h2 h3;obtain⟨callee,args,ts⟩:=c;dsimp only at h;split at h
 case h_2=>cases h
 rename_i fo;split at h
 case h_2=>cases h
 rename_i h4 h5;cases h;exact⟨id,ops,o,fo,args,ts,rfl,ho,h1,h2,h3,h4,h5⟩
theorem E0{ann:nv}{n id:Nat}{ops:Array Oper}{draw:Bool}{c:bQ}(h:CS P ann n id ops draw=some c):eQ c=none:=by
 unfold CS at h;split at h
 ·dsimp only at h;split at h
  ·split at h
   ·cases h;unfold xC;split
    ·split<;>rfl
    ·rfl
   ·cases h
  ·cases h
 ·obtain⟨xs,_,rfl⟩:=ab.1 h;unfold xC;split
  ·split<;>rfl
  ·rfl
theorem JI(hm:P.follows .mixedOrders=true)(hO:pR P (gS P) O){ann:nv}{n bu base:Nat}{g0:G}{w0:World}{b:Frame}{cs:List Frame}(hro:b.roundOf=none):∀(code:Code) {c A q:bQ} {fo:ba} {as:List ba} {e e1:Env} {σ σ1:SK} {g:G} {w:World} {B:Nat→Nat} {a:Act} {k:List Item} {fi:Nat} {first cap:List D},
  br P ann n bu code=some c→eQ c=some (A,fo,as,q)→aL O A e σ=some (.normal,e1,σ1)→At (gS P) base ann.cn g0 w0 n b g w B e σ a→aR e1 fo=.fn fi first cap →
  ∃g1 w1 B1 a1 q0 first' cap' argv,Steps P (lone (b.atR a (.code code::k)) cs w) (lone (b.atR {a1 with defers:={target:=.fn (.func fi) cap',args:=first'++argv }::a1.defers } (.code q0::k)) cs w1) ∧
   At (gS P) base ann.cn g0 w0 n b g1 w1 B1 e1 σ1 a1∧br P ann n bu q0=some q∧g.le g1∧dH σ σ1∧aY g1 first first'.toList∧aY g1 cap cap'.toList∧aY g1 (as.map (aR e1)) argv.toList:=by
 intro code;induction code with
 |seq x y ihx ihy =>
  intro c A q fo as e e1 σ σ1 g w B a k fi first cap hc hsp h ha hfe
  simp only[br]at hc;split at hc
  case h_2=>cases hc
  rename_i x' y' h1 h2;cases hc;rcases mb ann x x' y' with⟨f,xs,h3,h4⟩ | ⟨_,p0,bid,l0,p1,live,it,nx,ok,bb,c0,rfl,rfl,h4⟩ | ⟨_,z,hz,_,h4⟩ | ⟨_,live,op,f,xs,hM,h4⟩
  rotate_left 3
  ·rw[h4]at hsp;simp only[eQ,aM,ae,ai]at hsp;obtain⟨rfl,rfl,rfl,rfl⟩:=hsp;simp only[aL,ah,ab,Prod.exists]at h;obtain⟨_,e9,σ9,⟨e8,σ8,h8,h9⟩,h⟩:=h;cases h9;cases h;obtain⟨id,ops,m,o,fc,args,ts,op',live',rfl,hops,ho,hd,hg,hf,hxs,hop,_,hc'⟩:=xD hM;cases hc';have ho0:ops[0]?=some m:=by
    have:=congrArg (·[0]?) hops;simpa using this
   have ho1:ops[1]?=some o:=by
    have:=congrArg (·[1]?) hops;simpa using this
   have hsize:ops.size=2:=by
    have:=congrArg List.length hops;simpa using this
   obtain⟨g1,w1,B1,a1,k1,k2,k3,k4⟩:=tc (k:=.code y::k) (cs:=cs) (tl:=[1]) hO _ _ _ _ _ _ _ _ (ot.cons ⟨m,false,ho0,hop⟩ .nil:ot (xd P ann n id ops) [0] [op]) h8 ha;have ha2:=k2.restrict live;obtain⟨tmps,df⟩:=a1;have hfv:=ha2.fr.aR (df:=df) hf;have hargs:=va (df:=df) ha2.fr hxs;rw[hfe]at hfv;generalize hev:(Act.mk tmps df).eval fc=fv at hfv;cases hfv with
   |fn _ _ _ first' cap' r1 r2 =>
    have hw:Region.wanted o (yielded ops tmps)=true:=by simp[Region.wanted,hg]
    have hres:(resolve (Act.mk tmps df).eval {callee:=.value fc,args,argTypes:=ts } o.type).run P w1=.ok {target:=.fn (.func fi) cap',args:=first'++args.map (Act.mk tmps df).eval } w1:=fF hev w1;have hstep:step P (lone (b.atR ⟨tmps,df⟩ (.inRegion ops [1]::.code y::k)) cs w1)=.next (lone (b.atR ⟨tmps,{target:=.fn (.func fi) cap',args:=first'++args.map (Act.mk tmps df).eval }::df⟩ (.inRegion ops []::.code y::k)) cs w1):=by
     have hgs:=stepGR_op (P:=P) (b:=b) (a:=⟨tmps,df⟩) (k:=.code y::k) (cs:=cs) (w:=w1) (rest:=[]) ho1 hw;rw[hro,Oper.semAt_none]at hgs;have hr:(execOp (Act.mk tmps df).eval o).run P w1=.ok (.defer {target:=.fn (.func fi) cap',args:=first'++args.map (Act.mk tmps df).eval }) w1:=by
      simp only[execOp,ho,Sem.run_bind,hres,Result.andThen_ok,Sem.run_pure]
     refine step_lone_go ?_;rw[hgs];have hfin:({b.atR ⟨tmps,df⟩ (.inRegion ops [1]::.code y::k)with defers:={target:=.fn (.func fi) cap',args:=first'++args.map (Act.mk tmps df).eval }::df }:Frame).finish Go.undef =
       b.atR ⟨tmps,{target:=.fn (.func fi) cap',args:=first'++args.map (Act.mk tmps df).eval }::df⟩ (.inRegion ops []::.code y::k):=by
      have:=Frame.finish_atR b ⟨tmps,{target:=.fn (.func fi) cap',args:=first'++args.map (Act.mk tmps df).eval }::df⟩ ops 1 [] (.code y::k) Go.undef;rw[ho1]at this;simp only[Option.bind_some,hd,Act.put]at this;exact this
     simp only[stepG.apply,Sem.runT_eq,hr,GStep.bare_after];exact congrArg (fun fr=>GStep.go {frame:=fr,callers:=cs,status:=.running,dying:=none } w1) hfin
    refine⟨g1,w1,B1,⟨tmps,df⟩,y,first',cap',args.map (Act.mk tmps df).eval,.head stepR_seq (.head stepR_region (.trans ?_ (.head hstep (.one (stepR_region_end (ops:=ops)))))),ha2,h2,k3,k4,r1,r2,hargs⟩;rw[hsize];exact k1
  ·rw[h4]at hsp;simp only[eQ,ae,ai]at hsp;obtain⟨rfl,rfl,rfl,rfl⟩:=hsp;simp only[aL,ae,ai,true_and]at h;obtain⟨rfl,rfl⟩:=h;obtain⟨id,ops,o,fc,args,ts,rfl,hops,ho,hd,hg,hf,hxs⟩:=Gf h3;obtain⟨tmps,df⟩:=a;have hfv:=ha.fr.aR (df:=df) hf;have hargs:=va (df:=df) ha.fr hxs;rw[hfe]at hfv;generalize hev:(Act.mk tmps df).eval fc=fv at hfv;cases hfv with
   |fn _ _ _ first' cap' r1 r2 =>
    have ho0:ops[0]?=some o:=by
     have:=congrArg (·[0]?) hops;simpa using this
    have hsize:ops.size=1:=by
     have:=congrArg List.length hops;simpa using this
    have hw:Region.wanted o (yielded ops tmps)=true:=by simp[Region.wanted,hg]
    have hres:(resolve (Act.mk tmps df).eval {callee:=.value fc,args,argTypes:=ts } o.type).run P w=.ok {target:=.fn (.func fi) cap',args:=first'++args.map (Act.mk tmps df).eval } w:=fF hev w;have hstep:step P (lone (b.atR ⟨tmps,df⟩ (.inRegion ops [0]::.code y::k)) cs w)=.next (lone (b.atR ⟨tmps,{target:=.fn (.func fi) cap',args:=first'++args.map (Act.mk tmps df).eval }::df⟩ (.inRegion ops []::.code y::k)) cs w):=by
     have hgs:=stepGR_op (P:=P) (b:=b) (a:=⟨tmps,df⟩) (k:=.code y::k) (cs:=cs) (w:=w) (rest:=[]) ho0 hw;rw[hro,Oper.semAt_none]at hgs;have hr:(execOp (Act.mk tmps df).eval o).run P w=.ok (.defer {target:=.fn (.func fi) cap',args:=first'++args.map (Act.mk tmps df).eval }) w:=by
      simp only[execOp,ho,Sem.run_bind,hres,Result.andThen_ok,Sem.run_pure]
     refine step_lone_go ?_;rw[hgs];have hfin:({b.atR ⟨tmps,df⟩ (.inRegion ops [0]::.code y::k)with defers:={target:=.fn (.func fi) cap',args:=first'++args.map (Act.mk tmps df).eval }::df }:Frame).finish Go.undef =
       b.atR ⟨tmps,{target:=.fn (.func fi) cap',args:=first'++args.map (Act.mk tmps df).eval }::df⟩ (.inRegion ops []::.code y::k):=by
      have:=Frame.finish_atR b ⟨tmps,{target:=.fn (.func fi) cap',args:=first'++args.map (Act.mk tmps df).eval }::df⟩ ops 0 [] (.code y::k) Go.undef;rw[ho0]at this;simp only[Option.bind_some,hd,Act.put]at this;exact this
     simp only[stepG.apply,Sem.runT_eq,hr,GStep.bare_after];exact congrArg (fun fr=>GStep.go {frame:=fr,callers:=cs,status:=.running,dying:=none } w) hfin
    refine⟨g,w,B,⟨tmps,df⟩,y,first',cap',args.map (Act.mk tmps df).eval,.head stepR_seq (.head stepR_region (.trans ?_ (.one (stepR_region_end (ops:=ops))))),ha,h2,g.le_refl,.refl _,r1,r2,hargs⟩;rw[hsize];exact .one hstep
  ·rw[h4]at hsp;simp[eQ]at hsp
  ·rcases hz with rfl | rfl
   rotate_left
   ·rw[h4]at hsp;simp[eQ]at hsp
   rw[h4]at hsp;simp only[eQ,ab]at hsp;obtain⟨⟨A',r⟩,hsp,h5⟩:=hsp;cases h5;simp only[aL,ah,Prod.exists]at h;obtain⟨x1,e2,σ2,h6,h7⟩:=h;cases x1 with
   |normal =>
    obtain⟨g2,w2,B2,a2,t2,m1,m2,m3,m4,m5⟩:=mB (b:=b) (cs:=cs) (k:=.code y::k) hm hO x h1 h6 ha;obtain rfl:=m4;obtain⟨g1,w1,B1,a1,q0,first',cap',argv,k1,k2,k3,k4,k5,k6⟩:=ihy (k:=k) h2 hsp h7 m2 hfe;exact⟨g1,w1,B1,a1,q0,first',cap',argv,.head stepR_seq (Steps.trans m1 k1),k2,k3,m3.trans' k4,m5.trans k5,k6⟩
   |_=>simp at h7
 |region id ops draw =>
  intro c A q fo as e e1 σ σ1 g w B a k fi first cap hc hsp h ha hfe
  simp only[br]at hc;split at hc
  ·rename_i c0 hc0;cases hc;have h0:=E0 hc0;cases hv:look id [] ann.fz with
   |nil=>rw[hv]at hsp;simp only[pD]at hsp;rw[h0]at hsp;cases hsp
   |cons v vs=>rw[hv]at hsp;simp only[pD,eQ]at hsp;rw[h0]at hsp;cases hsp
  ·cases hc;simp[su,eQ]at hsp
 |scope x ih =>
  intro c A q fo as e e1 σ σ1 g w B a k fi first cap hc hsp h ha hfe
  simp only[br,ab]at hc;obtain⟨x',_,rfl⟩:=hc;unfold yd at hsp;split at hsp
  ·simp[su,eQ]at hsp
  ·rename_i h0;simp only[eQ,h0,Option.map_none]at hsp;cases hsp
 |block id x ih =>
  intro c A q fo as e e1 σ σ1 g w B a k fi first cap hc hsp h ha hfe
  simp only[br,ab]at hc;obtain⟨x',_,rfl⟩:=hc;rcases oL ann n id x x' with⟨it',nx',ok',live',sg,A,c1,g4,rfl,g5⟩ | g5<;>rw[g5]at hsp<;>simp[eQ]at hsp
 |cond co x y =>
  intro c A q fo as e e1 σ σ1 g w B a k fi first cap hc hsp h ha hfe
  simp only[br]at hc;split at hc
  case h_2=>cases hc
  cases hc;simp[eQ]at hsp
 |loop x =>
  intro c A q fo as e e1 σ σ1 g w B a k fi first cap hc hsp h ha hfe
  simp only[br,ab]at hc;obtain⟨x',_,rfl⟩:=hc;simp[eQ]at hsp
 |rangeFunc f ps x y =>
  intro c A q fo as e e1 σ σ1 g w B a k fi first cap hc hsp h ha hfe
  simp only[br]at hc;split at hc
  case h_2=>cases hc
  simp only[aJ]at hc;obtain⟨_,hc⟩:=hc;cases hc;simp[eQ]at hsp
 |_ =>
  intro c A q fo as e e1 σ σ1 g w B a k fi first cap hc hsp h ha hfe
  simp only[br,ae]at hc;subst hc;simp[eQ,su]at hsp
end
section
variable {P:Program} {T:sn} {O:bd}
theorem tM.of{f:Nat}{args:List D}{σ σ':SK}{d:D}(h1:∃F c,P.funcs[f]?=some F∧F.name ≠ "runtime.NumGoroutine" ∧ F.body=some c)
  (h2:∀base g w (vs:Array Value),Inv (gS P) base g σ w→kX σ→0<σ.length→aY g args vs.toList →
   ∀cs,∃v w' fr g',dH σ σ'∧Steps P (lone (Frame.enter P f vs .normal) cs w) (lone fr cs w')∧fr.fn=f∧fr.leaving P w' (.returned v)∧Ev g w g' w'∧Inv (gS P) base g' σ' w'∧a8 g' d v):
  tM P (gS P) f args σ d σ':=by
 refine⟨h1,fun base g w vs hi hl hp hr=>⟨?_,fun cs=>?_⟩⟩
 ·obtain⟨_,_,_,_,hgo,_⟩:=h2 base g w vs hi hl hp hr [];exact hgo
 ·obtain⟨v,w',fr,g',hgo,k1,k2,k3,k4,k5,k6⟩:=h2 base g w vs hi hl hp hr cs;exact⟨.returned v,w',fr,⟨v,g',rfl,k4,k5,k6⟩,k1,k2,k3⟩
theorem By{n base:Nat}{V:List Nat}{g0 g g1:G}{w0 w w1:World}{b:Frame}{B:Nat→Nat}{e:Env}{σ σ1:SK}{tmps:Array Value}{F:Func}{ann:nv}{Rs:List uy}{r:R}
  (h:leave Rs σ e σ1=some r) (hress:wu P ann F.results.toList=some Rs) (hf:Fr w0.heap.size V g1 w1 B e tmps) (he:Ev g w g1 w1) (hi:Inv (gS P) base g1 σ1 w1) (hlow:kX σ1) (hlen:σ1.length=σ.length+1)
  (hp:0<σ.length) (hlvl0:∀l i L,g.loc l i=some L→l<σ.length):
  ∃d σ2 v g2,r=.val d σ2∧(results F tmps).run P w1=.ok v w1∧Ev g w g2 w1∧Inv (gS P) base g2 σ2 w1∧a8 g2 d v∧kX σ2∧σ2.length=σ.length:=by
 unfold leave at h;split at h
 case h_2=>cases h
 rename_i ds hds;split at h
 case h_2=>cases h
 rename_i d s σ2 hfz;cases h;obtain⟨v,hv1,hv2⟩:=um (P:=P) hf hi hress hds;have hspec:=pY (σ.length-1) deep (mS ds) σ1;rw[hfz]at hspec;obtain⟨hlow2,hgo⟩:=hspec;have hl2:kX (s::σ2):=hgo.low hlow;have hlen2:σ2.length=σ.length:=by
  have k1:=hgo.len;simp at k1;omega
 obtain⟨g2,i2,e2,r2⟩:=pK (CR:=gS P) (base:=base) (σ.length-1) deep (mS ds) σ1 g1 w1 v hi hv2;rw[hfz]at i2 r2;obtain⟨i3,l3⟩:=i2.pop hl2;refine⟨d,σ2,v,g2.cut σ2.length,rfl,hv1,(he.trans e2).cut (fun l i L h=>by rw[hlen2];exact hlvl0 l i L h),i3,r2.cut ?_,l3,hlen2⟩;rw[hlen2];rwa[show σ.length-1+1=σ.length from by omega]at hlow2
theorem Bi{s:List aF}{σ σ1 σ2:SK}(h:dH ([]::σ) σ1)(h2:σ1=s::σ2)(hl:kX σ2):dH σ σ2:=by
 subst h2;exact⟨by have:=h.len;simpa using this,fun _=>hl⟩
theorem Ck(hT:Ud P T)(hm:P.follows .mixedOrders=true)(hO:pR P (gS P) O){kp:Bool}{f:Nat}{args:List D}{σ:SK}{r:R}
  (h:cc T O (.call kp f args σ)=some r):vV P (gS P) (.call kp f args σ) r:=by
 simp only[cc]at h;cases hTf:T f with
 |none =>
  rw[hTf]at h;dsimp only at h;cases hT2:T (1000000+f)with
  |none=>rw[hT2]at h;cases h
  |some fn =>
   rw[hT2]at h;have h1:=hT _ fn hT2;rw[if_neg (by omega),show 1000000+f-1000000=f from by omega]at h1;obtain⟨d,σ',hr,h2⟩:=h1.2 _ _ _ h;subst hr;exact h2
 |some fn =>
 rw[hTf]at h;dsimp only at h;split at h
 case isFalse=>cases h
 rename_i hlen;have hTO:=hT f fn hTf;by_cases hfl:f<1000000
 rotate_left
 ·rw[if_neg hfl]at hTO;rw[hTO.1]at h;simp[aL,eQ,rR]at h
 rw[if_pos hfl]at hTO;obtain⟨F,c,ann,hF,hname,hbody,hfn⟩:=hTO;obtain⟨hcode,hress,hnp⟩:=DJ hbody hfn;have hin:∃F c,P.funcs[f]?=some F∧F.name ≠ "runtime.NumGoroutine" ∧ F.body=some c:=⟨F,c,hF,hname,hbody⟩;cases hac:aL O fn.body (iH 0 args) (if kp then σ else []::σ)with
 |none =>
  rw[hac]at h;dsimp only at h;cases kp with
  |true=>simp at h
  |false =>
  simp only[al,if_false]at h;cases hsp:eQ fn.body with
  |none=>rw[hsp]at h;simp[rR]at h
  |some y =>
  obtain⟨A,fo,as,q⟩:=y;rw[hsp]at h;simp only[rR]at h;split at h
  case h_2=>cases h
  rename_i e1 σ1 hA;have key:∀(x2:Exit) (e2:Env) (σ2:SK) (th:Option D),aL O q e1 σ1=some (x2,e2,σ2)→(∀id,x2 ≠ .exit id)→(match x2 with | .eR d=>th=some d | _=>th=none) →
    pI fn.res σ e2 (lG O (aR e1 fo) (as.map (aR e1)) th σ2)=some r→vV P (gS P) (.call false f args σ) r:=by
   intro x2 e2 σ2 th hq hne hth hd;cases hdc:lG O (aR e1 fo) (as.map (aR e1)) th σ2 with
   |none=>rw[hdc]at hd;cases hd
   |some rr =>
   rw[hdc]at hd;cases rr with
   |tJ=>cases hd
   |eR=>cases hd
   |val dv σ3 =>
   simp only[pI]at hd;unfold lG at hdc;split at hdc
   case h_2=>cases hdc
   rename_i fi first cap hfe
   obtain⟨⟨FD,cD,hfd1,hfd2,hfd3⟩,hdcall⟩:=hO _ _ hdc;have walk:∀base g w (vs:Array Value),Inv (gS P) base g σ w→kX σ→0<σ.length→aY g args vs.toList →
     ∀cs,∃d σ4 v w' fr g',r=.val d σ4∧dH σ σ4∧Steps P (lone (Frame.enter P f vs .normal) cs w) (lone fr cs w')∧fr.fn=f∧fr.leaving P w' (.returned v)∧Ev g w g' w'∧Inv (gS P) base g' σ4 w'∧a8 g' d v:=by
    intro base g w vs hi hl hp hr cs;obtain⟨b,a,hfr,hbd,hbf,hbk,hro,ha⟩:=xE ann.cn .normal hF hbody (by omega) (σ:=[]::σ) hi.push (hl.push hi) (by simp) hr;obtain⟨g1,w1,B1,a1,q0,first',cap',argv,s1,s2,s3,s4,s5,s6,s7,s8⟩:=JI (cs:=cs) (k:=[]) hm hO hro c hcode hsp (by simpa using hA) ha hfe;obtain⟨rs1,hmk1⟩:=s2.marks
    let dd:Deferred:={target:=.fn (.func fi) cap',args:=first'++argv }
    let b':Frame:={b with defers:=dd::a1.defers }
    have ha':At (gS P) base ann.cn g w F.ntmps b' g1 w1 B1 e1 σ1 {a1 with defers:=dd::a1.defers }:=by
     refine⟨s2.fr,s2.ev,s2.inv,s2.low,s2.pos,s2.size,⟨[],rfl,?_,?_⟩,s2.round⟩
     ·simp only[bR,b',ni,dd];rw[hmk1.eq,pj];exact hmk1.nodup
     ·simp only[bR,b',ni,dd];rw[hmk1.eq,pj];exact hmk1.all
    obtain⟨g2,w2,B2,a2,t2,m1,m2,m3,m4,m5⟩:=mB (b:=b') (cs:=cs) (k:=[]) hm hO q0 s3 hq ha';obtain⟨w3,u,n1,n2,n4,n5,n6,n7⟩:=CK (b:=b') (cs:=cs) (fr:=b) (w:=w1) hro m4 hne m2 _ m1;have hdef:({b'.atR a2 t2 with mode:=u,defers:=b'.defers }:Frame).defers=dd::a1.defers:=rfl;have hu:u ≠ .run:=by
     cases x2 with
     |eR d=>obtain⟨⟨v,_,rfl⟩,_⟩:=n2;simp
     |normal=>obtain rfl:u=.returning:=n2;simp
     |ret=>obtain rfl:u=.returning:=n2;simp
     |exit id=>exact absurd rfl (hne id)
    have hfalls:Db g2 th u:=by
     cases x2 with
     |eR d=>subst hth;exact n2.1
     |normal=>subst hth;exact n2
     |ret=>subst hth;exact n2
     |exit id=>exact absurd rfl (hne id)
    have hargs:aY g2 (first++as.map (aR e1)++cap) (first'++argv++cap').toList:=by
     simpa using((s6.mono m3).append (s8.mono m3)).append (s7.mono m3)
    obtain⟨hgo3,hcd⟩:=hdcall base g2 w3 _ u n6 m2.low m2.pos hargs hfalls;have hinv:(invoke dd.target dd.args).run P w3=.ok (.enter fi (first'++argv++cap')) w3:=by
     simp only[dd,invoke,oD hfd1 hfd2 hfd3]
    have hstep:=step_defer (P:=P) (cs:=cs) (w:=w3) (fr:={b'.atR a2 t2 with mode:=u,defers:=b'.defers }) hu hdef rfl hinv;obtain⟨en,u',w4,frX,⟨v4,g4,rfl,hset,e4,i4⟩,hcomes,hkX,hgo4⟩:=hcd {({b'.atR a2 t2 with mode:=u,defers:=b'.defers }:Frame)with defers:=a1.defers } cs rfl;have hstep2:=step_going_returned (P:=P) (cs:=cs) (c:={({({b'.atR a2 t2 with mode:=u,defers:=b'.defers }:Frame)with defers:=a1.defers })with mode:=u' }) hkX hgo4;have hev4:Ev g w g4 w4:=n5.trans e4;have hmk4:∀r∈rs1++ni b.defers,pQ w.heap.size g4 w4 r:=by
     intro r hr;refine pQ.ev (n7 r ?_) e4;simp only[b',ni,dd];rw[hmk1.eq,pj];exact hr
    obtain⟨w5,p1,p2,p3,p4,p5⟩:=C6 (P:=P) (df0:=b.defers) (V:=ann.cn) (g0:=g) (w0:=w) (B:=B2) (e:=e2) (σ:=σ3) (base:=base) (CR:=gS P) rs1 w4 g4 a2
     {({({b'.atR a2 t2 with mode:=u,defers:=b'.defers }:Frame)with defers:=a1.defers })with mode:=settle u' } cs (by rw[hset];simp) hmk1.eq hmk1.nodup hmk4 (n4.ev e4) hev4 i4
    have hlen3:σ3.length=σ.length+1:=by
     have k1:=hgo3.len;have k2:=m5.len;have k3:=s5.len;simp at k3;omega
    obtain⟨d,σ4,v,g5,hr5,hv5,e5,i5,r5,l5,len5⟩:=By (n:=0) (g0:=g) (b:=b) hd hress p2 p3 p4 (hgo3.low m2.low) hlen3 hp (fun l i L h=>hi.lvl h);refine⟨d,σ4,v,w5,{({({b'.atR a2 t2 with mode:=u,defers:=b'.defers }:Frame)with defers:=a1.defers })with mode:=settle u',defers:=b.defers },g5,hr5,⟨len5,fun _=>l5⟩,?_,?_,?_,e5,i5,r5⟩
    ·rw[hfr];refine Steps.trans s1 (Steps.trans n1 (.head hstep (Steps.trans hcomes (.head hstep2 p1))))
    ·exact hbf
    ·refine⟨hset,hbd,hbk,F,?_,hv5⟩;show P.funcs[b.fn]?=some F
     rw[hbf];exact hF
   cases r with
   |val d σ' =>
    refine tM.of hin fun base g w vs hi hl hp hr cs=>?_
    obtain⟨d',σ4,v,w',fr,g',h1,h2,h3⟩:=walk base g w vs hi hl hp hr cs;cases h1;exact⟨v,w',fr,g',h2,h3⟩
   |tJ=>trivial
   |eR =>
    unfold leave at hd;split at hd
    ·split at hd<;>cases hd
    ·cases hd
  cases hq:aL O q e1 σ1 with
  |none=>rw[hq]at h;simp[tK]at h
  |some y =>
  obtain⟨x2,e2,σ2⟩:=y;rw[hq]at h;cases x2 with
  |exit id=>simp[tK]at h
  |normal=>exact key _ _ _ none hq (by simp) rfl h
  |ret=>exact key _ _ _ none hq (by simp) rfl h
  |eR d=>exact key _ _ _ (some d) hq (by simp) rfl h
 |some y =>
 obtain⟨x,e,σ1⟩:=y;rw[hac]at h;have hx:∀id,x ≠ .exit id:=by intro id hid;subst hid;simp at h
 have walk:∀(base:Nat) (g:G) (w:World) (vs:Array Value),Inv (gS P) base g σ w→kX σ→0<σ.length→aY g args vs.toList →
   ∀cs:List Frame,∃(b:Frame) (a1:Act) (t1:List Item) (u:FrameMode) (w2:World) (g1:G) (B1:Nat→Nat),dH (if kp then σ else []::σ) σ1∧kX σ1∧Steps P (lone (Frame.enter P f vs .normal) cs w) (lone {b.atR a1 t1 with mode:=u,defers:=[] } cs w2)∧b.fn=f∧b.kind=.normal ∧
    B9 g1 x u∧Fr w.heap.size ann.cn g1 w2 B1 e a1.tmps∧Ev g w g1 w2∧Inv (gS P) base g1 σ1 w2:=by
  intro base g w vs hi hl hp hr cs;have hi0:Inv (gS P) base g (if kp then σ else []::σ) w:=by cases kp;exact hi.push;exact hi
  have hl0:kX (if kp then σ else []::σ):=by cases kp;exact hl.push hi;exact hl
  have hp0:0<(if kp then σ else []::σ).length:=by cases kp;simp;exact hp
  obtain⟨b,a,hfr,hbd,hbf,hbk,hro,ha⟩:=xE ann.cn .normal hF hbody (by omega) hi0 hl0 hp0 hr;obtain⟨g1,w1,B1,a1,t1,k1,k2,k3,k4,k5⟩:=mB (b:=b) (cs:=cs) (k:=[]) hm hO c hcode hac ha;obtain⟨w2,u,n1,n2,n4,n5,n6,n7⟩:=CK (b:=b) (cs:=cs) (fr:=b) (w:=w) hro k4 hx k2 _ k1;rw[hbd,← hfr]at n1;exact⟨b,a1,t1,u,w2,g1,B1,k5,k2.low,n1,hbf,hbk,n2,n4,n5,n6⟩
 have ret:(x=.normal∨x=.ret)→(match qD e σ1 fn.res with
    |some ds=>if kp then some (R.val (mS ds) σ1)else
      match cb (σ.length-1) deep (mS ds) σ1 with
      |(d,_::σ2)=>some (.val d σ2)
      |_=>none
    |none=>none)=some r→vV P (gS P) (.call kp f args σ) r:=by
  intro hxx h;have hu:∀{g1:G} {u:FrameMode},B9 g1 x u→u=.returning:=by
   clear h;intro g1 u h;rcases hxx with rfl | rfl<;>exact h
  cases kp with
  |true =>
   simp only[if_true]at h;split at h
   case h_2=>cases h
   rename_i ds hds;cases h;refine tM.of hin fun base g w vs hi hl hp hr cs=>?_
   obtain⟨b,a1,t1,u,w2,g1,B1,k1,k2,k3,k4,k5,k6,k8,k9,k10⟩:=walk base g w vs hi hl hp hr cs;obtain⟨v,hv1,hv2⟩:=um (P:=P) k8 k10 hress hds;obtain rfl:=hu k6;refine⟨v,w2,_,g1,by simpa using k1,k3,k4,⟨rfl,rfl,k5,F,?_,hv1⟩,k9,k10,hv2⟩;show P.funcs[b.fn]?=some F
   rw[k4];exact hF
  |false =>
   simp only[al,if_false]at h;have h':leave fn.res σ e σ1=some r:=h;cases r with
   |tJ=>trivial
   |eR =>
    unfold leave at h';split at h'
    ·split at h'<;>cases h'
    ·cases h'
   |val d σ' =>
   refine tM.of hin fun base g w vs hi hl hp hr cs=>?_
   obtain⟨b,a1,t1,u,w2,g1,B1,k1,k2,k3,k4,k5,k6,k8,k9,k10⟩:=walk base g w vs hi hl hp hr cs;have hlen:σ1.length=σ.length+1:=by have:=k1.len;simpa using this
   obtain⟨d',σ4,v,g5,hr5,hv5,e5,i5,r5,l5,len5⟩:=By (n:=0) (g0:=g) (w0:=w) (b:=b) h' hress k8 k9 k10 k2 hlen hp (fun l i L h=>hi.lvl h);cases hr5;obtain rfl:=hu k6;refine⟨v,w2,_,g5,⟨len5,fun _=>l5⟩,k3,k4,⟨rfl,rfl,k5,F,?_,hv5⟩,e5,i5,r5⟩;show P.funcs[b.fn]?=some F
   rw[k4];exact hF
 cases x with
 |exit id=>exact absurd rfl (hx id)
 |normal=>exact ret (.inl rfl) h
 |ret=>exact ret (.inr rfl) h
 |eR d =>
  dsimp only at h;unfold C5 at h;split at h
  case h_2=>cases h
  rename_i s σ2;split at h
  case isFalse=>cases h
  rename_i hc;obtain⟨rfl,hcl⟩:=hc;cases h;refine⟨hcl,hin,fun base g w vs hi hl hp hr=>?_⟩;have hgo:dH σ σ2:=by
   obtain⟨b,a1,t1,u,w2,g1,B1,k1,k2,k3,k4,k5,k6,k8,k9,k10⟩:=walk base g w vs hi hl hp hr [];obtain⟨i3,l3⟩:=k10.pop k2;exact Bi (by simpa using k1) rfl l3
  refine⟨hgo,fun cs=>?_⟩;obtain⟨b,a1,t1,u,w2,g1,B1,k1,k2,k3,k4,k5,⟨⟨v,k6,rfl⟩,_⟩,k8,k9,k10⟩:=walk base g w vs hi hl hp hr cs;obtain⟨i3,l3⟩:=k10.pop k2;refine⟨.panicked [{v,recovered:=false }],w2,_,⟨v,g1.cut σ2.length,rfl,k9.cut (fun l i L h=>by rw[hgo.len];exact hi.lvl h),i3,k6.cut (mg hcl)⟩,k3,k4,⟨rfl,rfl,F,?_⟩⟩;show P.funcs[b.fn]?=some F
  rw[k4];exact hF
end
theorem zO{th:Option D}{args:List D}{c q:bQ}{e0:Env}(h:oK th args c=some (e0,q)):∃live t nn,c=.seq (.cL live [⟨some t,none,nn,.CQ⟩]) q∧(∀l i a b d c r,q ≠ .ew l i a b d c r)∧e0=restrict live ((t,th.getD .kL)::iH 0 args):=by
 unfold oK at h;split at h
 case h_2=>cases h
 rename_i live t nn q';split at h
 ·cases h
 ·rename_i hn;cases h;exact⟨live,t,nn,rfl,fun l i a b d c r hq=>hn l i a b d c r hq,rfl⟩
section
variable {P:Program} {T:sn} {O:bd} {ann:nv} {n bu:Nat}
theorem VJ{id:Nat}{ops:Array Oper}{draw:Bool}{live:List Nat}{op:Op}(hk:op.k=.CQ)(h:br P ann n bu (.region id ops draw)=some (.cL live [op])):
  draw=false∧∃o rU,ops.toList=[o]∧ET P ann n id ops rU 0 o=some op:=by
 simp only[br]at h;split at h
 ·rename_i c0 hc0;simp only[ae]at h;cases hv:look id [] ann.fz with
  |cons v vs=>rw[hv]at h;simp[pD]at h
  |nil =>
   rw[hv]at h;simp only[pD]at h;subst h;unfold CS at hc0;cases draw with
   |true =>
    simp only[if_true]at hc0;split at hc0
    case h_2=>cases hc0
    rename_i xs hxs;simp only[aJ,ak]at hc0;obtain⟨⟨_,hall⟩,hc0⟩:=hc0;have hxs1:xs=[op]:=by
     simp only[ae]at hc0;unfold xC at hc0;split at hc0
     ·split at hc0
      ·cases hc0
      ·cases hc0;rfl
     ·cases hc0;rfl
    subst hxs1;simp[hk]at hall
   |false =>
    simp only[al,if_false]at hc0;obtain⟨xs,hxs,h1⟩:=ab.1 hc0;have hxs1:xs=[op]:=by
     unfold xC at h1;split at h1
     ·split at h1
      ·cases h1
      ·cases h1;rfl
     ·cases h1;rfl
    subst hxs1;refine⟨rfl,?_⟩;cases hl:ops.toList with
    |nil=>rw[hl]at hxs;simp[Ae]at hxs
    |cons o l =>
     rw[hl]at hxs;simp only[Ae]at hxs;split at hxs
     case h_2=>cases hxs
     rename_i x xs' h2 h3;cases hxs;cases l with
     |nil=>exact⟨o,_,rfl,h2⟩
     |cons o' l' =>
      simp only[Ae]at h3;split at h3<;>cases h3
 ·simp only[ae,su,bQ.cL.injEq,ek,and_true]at h;obtain⟨_,rfl⟩:=h;cases hk
theorem K7{c:Code}{live:List Nat}{op:Op}{q:bQ}(hk:op.k=.CQ)(hq:∀l i a b d c r,q ≠ .ew l i a b d c r)(h:br P ann n bu c=some (.seq (.cL live [op]) q)):
  ∃id ops y o rU,c=.seq (.region id ops false) y∧br P ann n bu y=some q∧ops.toList=[o]∧ET P ann n id ops rU 0 o=some op:=by
 have hf:∀{c:bQ},c=su→∀{live':List Nat},c=.cL live' [op]→False:=by
  intro c h1 live' h2;rw[h1]at h2;simp only[su,bQ.cL.injEq,ek,and_true]at h2;obtain⟨_,rfl⟩:=h2;cases hk
 cases c with
 |seq x y =>
  simp only[br]at h;split at h
  case h_2=>cases h
  rename_i x' y' h1 h2;simp only[ae]at h;rcases mb ann x x' y' with⟨f,xs,_,h3⟩ | ⟨_,p0,bid,l0,p1,live',it,nx,ok,bb,c0,rfl,rfl,h3⟩ | ⟨_,z,_,hz,h3⟩ | ⟨_,lv,op,f,xs,hM,h3⟩
  rotate_left 3
  ·rw[h3]at h;obtain⟨_,_,_,_,_,_,_,op',_,_,_,_,_,_,_,_,_,hr,hc⟩:=xD hM;cases hc;cases h;exact absurd hk hr
  ·rw[h3]at h;cases h
  ·rw[h3]at h;cases h;exact absurd rfl (hq _ _ _ _ _ _ _)
  ·rw[h3]at h;cases h;cases x with
   |region id ops draw =>
    obtain⟨rfl,o,rU,h5,h6⟩:=VJ hk h1;have hs1:ops.size=1:=by have:=congrArg List.length h5;simpa using this
    have hzz:=hz (by simp[Le,hs1]);exact⟨id,ops,y,o,rU,rfl,by rw[hzz];exact h2,h5,h6⟩
   |seq p r =>
    simp only[br]at h1;split at h1
    case h_2=>cases h1
    rename_i p' r' _ _;simp only[ae]at h1;rcases mb ann p p' r' with⟨f,xs,_,h3⟩ | ⟨_,_,_,_,_,_,_,_,_,_,_,_,_,h3⟩ | ⟨_,_,_,_,h3⟩ | ⟨_,_,_,_,_,_,h3⟩<;>rw[h3]at h1<;>cases h1
   |cond co p r =>
    simp only[br]at h1;split at h1<;>cases h1
   |block id p =>
    simp only[br,ab]at h1;obtain⟨p',_,h1⟩:=h1;rcases oL ann n id p p' with⟨_,_,_,_,_,_,_,_,rfl,h3⟩ | h3<;>rw[h3]at h1<;>cases h1
   |loop p =>
    simp only[br,ab]at h1;obtain⟨p',_,h1⟩:=h1;cases h1
   |rangeFunc f ps p r =>
    simp only[br]at h1;split at h1
    case h_2=>cases h1
    split at h1<;>cases h1
   |scope p =>
    simp only[br,ab]at h1;obtain⟨p',_,h1⟩:=h1;unfold yd at h1;split at h1
    ·exact(hf rfl h1).elim
    ·cases h1
   |skip=>simp[br]at h1
   |label l=>simp[br]at h1
   |exit id=>simp[br]at h1
   |ret=>simp[br]at h1
   |_=>simp only[br,ae]at h1;exact(hf rfl h1).elim
 |region id ops draw =>
  simp only[br]at h;split at h
  ·rename_i c0 hc0;simp only[ae]at h;cases hv:look id [] ann.fz with
   |nil =>
    rw[hv]at h;simp only[pD]at h;subst h;unfold CS at hc0;split at hc0
    ·dsimp only at hc0;split at hc0
     ·simp only[aJ,ae]at hc0;obtain⟨_,hc0⟩:=hc0;unfold xC at hc0;split at hc0
      ·split at hc0<;>cases hc0
      ·cases hc0
     ·cases hc0
    ·obtain⟨xs,_,h1⟩:=ab.1 hc0;unfold xC at h1;split at h1
     ·split at h1<;>cases h1
     ·cases h1
   |cons v vs=>rw[hv]at h;simp[pD]at h
  ·cases h
 |scope p =>
  simp only[br,ab]at h;obtain⟨p',_,h1⟩:=h;unfold yd at h1;split at h1<;>cases h1
 |cond co p r =>
  simp only[br]at h;split at h<;>cases h
 |block id p =>
  simp only[br,ab]at h;obtain⟨p',_,h1⟩:=h;rcases oL ann n id p p' with⟨_,_,_,_,_,_,_,_,rfl,h3⟩ | h3<;>rw[h3]at h1<;>cases h1
 |loop p =>
  simp only[br,ab]at h;obtain⟨p',_,h1⟩:=h;cases h1
 |rangeFunc f ps p r =>
  simp only[br]at h;split at h
  case h_2=>cases h
  split at h<;>cases h
 |skip=>simp[br]at h
 |label l=>simp[br]at h
 |exit id=>simp[br]at h
 |ret=>simp[br]at h
 |_=>simp only[br,ae]at h;cases h
theorem Ax{b:Frame}{a:Act}{k:List Item}{cs:List Frame}{w:World}{ops:Array Oper}{i:Nat}{is:List Nat}{o:Oper}{args:Array Operand}{ts:Array TypeId}(ho:ops[i]?=some o)(hg:o.guard=none)
  (hop:o.op=.call {callee:=.builtin .recover,args,argTypes:=ts }) (hro:b.roundOf=none) (hk:b.kind=.deferred):
  step P (lone (b.atR a (.inRegion ops (i::is)::k)) cs w)=.next (match recoverD cs with
   |some (v,cs')=>lone (b.atR (a.put o.dst v) (.inRegion ops is::k)) cs' w
   |none=>lone (b.atR (a.put o.dst .nilIface) (.inRegion ops is::k)) cs w):=by
 have hw:Region.wanted o (yielded ops a.tmps)=true:=by simp[Region.wanted,hg]
 have hgs:=stepGR_op (P:=P) (b:=b) (a:=a) (k:=k) (cs:=cs) (w:=w) (rest:=is) ho hw;rw[hro,Oper.semAt_none]at hgs;have hr:(execOp a.eval o).run P w=.ok .recover w:=by
  simp[execOp,hop,resolve,invoke,builtin]
 have htr:tryRecover (b.atR a (.inRegion ops (i::is)::k)) cs=recoverD cs:=tryRecover_deferred (fr:=b.atR a (.inRegion ops (i::is)::k)) hk cs;have hro':(b.atR a (.inRegion ops (i::is)::k)).roundOf=none:=hro;have hfin:=fun v=>sY (b:=b) (a:=a) (rest:=is) (k:=k) ho v
 cases hrec:recoverD cs with
 |none =>
  refine step_lone_go ?_;rw[hgs,← hfin];simp[stepG.apply,hr,hro',htr,hrec]
 |some y =>
  obtain⟨v,cs'⟩:=y;refine step_lone_go ?_;rw[hgs,← hfin];simp[stepG.apply,hr,hro',htr,hrec]
theorem AZ(hT:Ud P T)(hm:P.follows .mixedOrders=true)(hO:pR P (gS P) O){f:Nat}{args:List D}{th:Option D}{σ:SK}{r:R}
  (h:cc T O (.so f args th σ)=some r):vV P (gS P) (.so f args th σ) r:=by
 simp only[cc]at h;split at h
 case h_2=>cases h
 rename_i fn hTf;split at h
 case isFalse=>cases h
 rename_i hlen;split at h
 case h_2=>cases h
 rename_i e0 q hrcv;obtain⟨live,t,nn,hbd,hqm,rfl⟩:=zO hrcv;have hTO:=hT f fn hTf;by_cases hfl:f<1000000
 rotate_left
 ·rw[if_neg hfl]at hTO;rw[hTO.1]at hbd;cases hbd
 rw[if_pos hfl]at hTO;obtain⟨F,c,ann,hF,hname,hbody,hfn⟩:=hTO;obtain⟨hcode,hress,hnp⟩:=DJ hbody hfn;have hin:∃F c,P.funcs[f]?=some F∧F.name ≠ "runtime.NumGoroutine" ∧ F.body=some c:=⟨F,c,hF,hname,hbody⟩;cases hac:aL O q (restrict live ((t,th.getD .kL)::iH 0 args)) ([]::σ)with
 |none=>rw[hac]at h;cases h
 |some y =>
 obtain⟨x,e,σ1⟩:=y;rw[hac]at h;have hx:(∀id,x ≠ .exit id)∧(∀d,x ≠ .eR d)∧∃s σ2,σ1=s::σ2∧qD e σ1 fn.res=some []∧r=.val (.fj []) σ2:=by
  cases x with
  |exit id=>simp at h
  |eR d=>simp at h
  |normal =>
   dsimp only at h;split at h
   ·rename_i s σ2 hres;cases h;exact⟨by simp,by simp,_,σ2,rfl,hres,rfl⟩
   ·cases h
  |ret =>
   dsimp only at h;split at h
   ·rename_i s σ2 hres;cases h;exact⟨by simp,by simp,_,σ2,rfl,hres,rfl⟩
   ·cases h
 obtain⟨hx1,hx2,s,σ2,rfl,hres,rfl⟩:=hx;obtain⟨id,ops,y,o,rU,rfl,hy,hops,hop⟩:=K7 rfl hqm (by rw[← hbd];exact hcode);have walk:∀(base:Nat) (g:G) (w:World) (vs:Array Value) (u:FrameMode),Inv (gS P) base g σ w→kX σ→0<σ.length→aY g args vs.toList→Db g th u →
   ∀(c0:Frame) (cs:List Frame),c0.mode=u→∃(v:Value) (u':FrameMode) (w':World) (fr:Frame) (g':G),dH σ σ2∧settle u'=.returning∧Ev g w g' w'∧Inv (gS P) base g' σ2 w' ∧
    Steps P (lone (Frame.enter P f vs .deferred) (c0::cs) w) (lone fr ({c0 with mode:=u' }::cs) w')∧fr.kind=.deferred∧fr.going P w' (.returned v):=by
  intro base g w vs u hi hl hp hr hfa c0 cs hmode;obtain⟨b,a,hfr,hbdf,hbf,hbk,hro,ha⟩:=xE ann.cn .deferred hF hbody (by omega) (σ:=[]::σ) hi.push (hl.push hi) (by simp) hr;obtain⟨hdst,hn,hgrd⟩:=Ad hop;obtain⟨hkc,hmk⟩:=Tp hop;obtain⟨args0,ts0,hopo⟩:=Ja hkc;have ho0:ops[0]?=some o:=by
   have:=congrArg (·[0]?) hops;simpa using this
  have hsize:ops.size=1:=by
   have:=congrArg List.length hops;simpa using this
  have hguard:o.guard=none:=by
   rcases hgrd with⟨h1,_⟩ | ⟨_,_,_,_,h2,_⟩
   ·exact h1
   ·cases h2
  have hdt:o.dst=some t:=hdst.symm;have hrec:∃(v:Value) (u':FrameMode),a8 g (th.getD .kL) v∧settle u'=.returning ∧
    step P (lone (b.atR a [.inRegion ops [0],.code y]) (c0::cs) w)=.next (lone (b.atR (a.put o.dst v) [.inRegion ops [],.code y]) ({c0 with mode:=u' }::cs) w):=by
   have hst:=Ax (P:=P) (b:=b) (a:=a) (k:=[.code y]) (cs:=c0::cs) (w:=w) (is:=[]) ho0 hguard hopo hro hbk;cases th with
   |none =>
    obtain rfl:u=.returning:=hfa;refine⟨.nilIface,.returning,.kL,rfl,?_⟩;rw[hst];have:recoverD (c0::cs)=none:=by simp[recoverD,hmode]
    rw[this];have:({c0 with mode:=.returning }:Frame)=c0:=by cases c0;simp only at hmode;subst hmode;rfl
    rw[this]
   |some d =>
    obtain⟨v,hv,rfl⟩:=hfa;refine⟨v,.panicking [{v,recovered:=true }],hv,rfl,?_⟩;rw[hst];have:recoverD (c0::cs)=some (v,{c0 with mode:=.panicking [{v,recovered:=true }] }::cs):=by simp[recoverD,hmode]
    rw[this]
  obtain⟨v,u',hv,hset,hstep⟩:=hrec;have ha1:At (gS P) base ann.cn g w F.ntmps b g w (fun _=>0) ((t,th.getD .kL)::iH 0 args) ([]::σ) (a.put o.dst v):=by
   refine ha.go (Ev.refl g w) ha.inv (.refl _) ?_ sH put_defers;have:=ha.fr.put (df:=a.defers) (dst:=o.dst) (d:=th.getD .kL) (c:=v) (by
    have:∀d,a8 g d v→bI g (fun _=>0) (iH 0 args) d v:=fun d h=>bI.of h
    exact this _ hv) (hmk rfl) (fun t ht=>by rw[ha.size];exact hn t ht)
   rw[hdt]at this ⊢;exact this
  obtain⟨g1,w1,B1,a1,t1,k1,k2,k3,k4,k5⟩:=mB (b:=b) (cs:={c0 with mode:=u' }::cs) (k:=[]) hm hO y hy hac (ha1.restrict live);obtain⟨w2,uu,n1,n2,n4,n5,n6,n7⟩:=CK (b:=b) (cs:={c0 with mode:=u' }::cs) (fr:=b) (w:=w) hro k4 hx1 k2 _ k1;have huu:uu=.returning:=by
   cases x with
   |exit id=>exact absurd rfl (hx1 id)
   |eR d=>exact absurd rfl (hx2 d)
   |normal=>exact n2
   |ret=>exact n2
  subst huu;obtain⟨rv,hv1,hv2⟩:=um (P:=P) n4 n6 hress hres;obtain⟨i3,l3⟩:=n6.pop k2.low;have hgo:dH σ σ2:=Bi k5 rfl l3;refine⟨rv,u',w2,{b.atR a1 t1 with mode:=.returning,defers:=b.defers },g1.cut σ2.length,hgo,hset,n5.cut (fun l i L h=>by rw[hgo.len];exact hi.lvl h),i3,?_,hbk,⟨rfl,hbdf,F,?_,hv1⟩⟩
  ·rw[hfr];refine .head stepR_seq (.head stepR_region ?_);rw[hsize];exact .head hstep (.head (stepR_region_end (ops:=ops)) n1)
  ·show P.funcs[b.fn]?=some F
   rw[hbf];exact hF
 refine⟨hin,fun base g w vs u hi hl hp hr hfa=>⟨?_,fun c0 cs hmode=>?_⟩⟩
 ·obtain⟨_,_,_,_,_,hgo,_⟩:=walk base g w vs u hi hl hp hr hfa {(default:Frame)with mode:=u } [] rfl;exact hgo
 ·obtain⟨v,u',w',fr,g',hgo,hset,he,hi',hs,hk,hg⟩:=walk base g w vs u hi hl hp hr hfa c0 cs hmode;exact⟨.returned v,u',w',fr,⟨v,g',rfl,hset,he,hi'⟩,hs,hk,hg⟩
end
end Go.Abs
namespace Go.Abs
def eD{α:Type}(O:bd)(F:bd→Option α)(x:α):Prop :=
 ∃L:List (Q×R),(∀p∈L,O p.1=some p.2)∧∀O':bd,(∀p∈L,O' p.1=some p.2)→F O'=some x
variable {α β γ:Type} {O:bd}
theorem eD.const{x:α}:eD O (fun _=>some x) x:=⟨[],by simp,fun _ _=>rfl⟩
theorem eD.of{F:bd→Option α}{x:α}(h:∀O',F O'=some x):eD O F x:=⟨[],by simp,fun O' _=>h O'⟩
theorem eD.ask{q:Q}{r:R}(h:O q=some r):eD O (fun O'=>O' q) r:=⟨[(q,r)],by simpa using h,fun O' h'=>h' (q,r) (by simp)⟩
theorem eD.andThen{F:bd→Option α}{G:bd→Option β}{x:α}{y:β}(h1:eD O F x)(h2:eD O G y){H:bd→Option γ}{z:γ}
  (h:∀O',F O'=some x→G O'=some y→H O'=some z):eD O H z:=by
 obtain⟨L1,k1,k2⟩:=h1;obtain⟨L2,k3,k4⟩:=h2;refine⟨L1++L2,fun p hp=>?_,fun O' h'=>h O' (k2 O' fun p hp=>h' p (by simp[hp])) (k4 O' fun p hp=>h' p (by simp[hp]))⟩;rcases aX.1 hp with hp | hp
 ·exact k1 p hp
 ·exact k3 p hp
theorem eD.map{F:bd→Option α}{x:α}(h1:eD O F x){H:bd→Option β}{z:β}(h:∀O',F O'=some x→H O'=some z):eD O H z:=by
 obtain⟨L1,k1,k2⟩:=h1;exact⟨L1,k1,fun O' h'=>h O' (k2 O' h')⟩
theorem yV{α:Type}{us:List α}{f:α→Option R}{r:R}(h:agree (us.map f)=some r):∀u∈us,f u=some r:=by
 cases us with
 |nil=>simp[agree]at h
 |cons v vs =>
  simp only[aG,agree]at h;split at h
  ·rename_i hall;intro u hu;rcases bj.1 hu with rfl | hu
   ·exact h
   ·rw[hall (f u) (bp.2 ⟨u,hu,rfl⟩)];exact h
  ·cases h
theorem yX{α:Type}{us:List α}{f:α→Option R}{r:R}(hne:us≠[])(h:∀u∈us,f u=some r):agree (us.map f)=some r:=by
 cases us with
 |nil=>exact absurd rfl hne
 |cons v vs =>
  simp only[aG,agree];rw[if_pos,h v (by simp)];intro x hx;obtain⟨u,hu,rfl⟩:=bp.1 hx;rw[h u (by simp[hu]),h v (by simp)]
theorem Bm{kp:Bool}{fv:D}{args:List D}{σ:SK}{x:D×SK}(h:kN O kp fv args σ=some x):eD O (fun O'=>kN O' kp fv args σ) x:=by
 cases fv<;>simp only[kN,reduceCtorEq]at h
 ·rename_i f first cap
  cases hq:O (.call kp f (first++args++cap) σ)with
  |none=>rw[hq]at h;cases h
  |some r=>exact(eD.ask hq).map fun O' h'=>by simp only[kN,h'];rw[hq]at h;exact h
 ·rename_i l i;cases hq:O (.round l i args σ)with
  |none=>rw[hq]at h;cases h
  |some r=>exact(eD.ask hq).map fun O' h'=>by simp only[kN,h'];rw[hq]at h;exact h
theorem Bk{fv:D}{args:List D}{σ:SK}{x:D×SK}(h:we O fv args σ=some x):eD O (fun O'=>we O' fv args σ) x:=by
 cases fv<;>simp only[we,reduceCtorEq]at h;rename_i f first cap
 cases hq:O (.call false f (first++args++cap) σ)with
 |none=>rw[hq]at h;cases h
 |some r=>exact(eD.ask hq).map fun O' h'=>by simp only[we,h'];rw[hq]at h;exact h
theorem zg{op:Op}{e:Env}{σ:SK}{x:Env×SK}(h:oF O op e σ=some x):eD O (fun O'=>oF O' op e σ) x:=by
 obtain⟨dst,uf,rU,k⟩:=op;cases k
 case call kp f args =>
  simp only[oF]at h;cases hc:kN O kp (aR e f) (args.map (aR e)) σ with
  |none=>rw[hc]at h;cases h
  |some y=>exact(Bm hc).map fun O' h'=>by simp only[oF,h'];rw[hc]at h;exact h
 all_goals exact .of fun O'=>h
theorem nz:∀{ops:List Op} {e:Env} {σ:SK} {x:Env×SK},iI O ops e σ=some x→eD O (fun O'=>iI O' ops e σ) x
 |[],e,σ,x,h => .of fun O'=>h
 |op::r,e,σ,x,h=>by
  simp only[iI]at h;cases hg:op.uf with
  |none =>
   rw[hg]at h;simp only[ah]at h;obtain⟨y,h1,h2⟩:=h;exact(zg h1).andThen (nz h2) fun O' k1 k2=>by simp only[iI,hg,k1,Option.bind_some,k2]
  |some p =>
   obtain⟨g,want⟩:=p;rw[hg]at h;dsimp only at h;cases hb:(get e g).bit<;>rw[hb]at h<;>try (cases h;done)
   rename_i b;dsimp only at h;split at h
   ·rename_i hw;simp only[ah]at h;obtain⟨y,h1,h2⟩:=h;exact(zg h1).andThen (nz h2) fun O' k1 k2=>by simp only[iI,hg,hb,if_pos hw,k1,Option.bind_some,k2]
   ·rename_i hw;exact(nz h).map fun O' k1=>by simp only[iI,hg,hb,if_neg hw,k1]
theorem Bl{fv:D}{args:List D}{σ:SK}{r:R}(h:rP O fv args σ=some r):eD O (fun O'=>rP O' fv args σ) r:=by
 cases fv<;>simp only[rP,reduceCtorEq]at h;exact(eD.ask h).map fun O' h'=>by simp only[rP,h']
theorem Bj{live:List Nat}{dst:Option Nat}{post:List Op}{e:Env}{r:Option R}{x:Exit×Env×SK}(h:ng O live dst post e r=some x):eD O (fun O'=>ng O' live dst post e r) x:=by
 cases r with
 |none=>simp[ng]at h
 |some r =>
  cases r with
  |val d σ' =>
   simp only[ng,ab]at h;obtain⟨y,h1,rfl⟩:=h;exact(nz h1).map fun O' k=>by simp only[ng,k,aM]
  |eR d σ'=>exact .of fun O'=>h
  |tJ=>simp[ng]at h
theorem Cu{live:List Nat}{op:Op}{post:List Op}{e:Env}{σ:SK}{x:Exit×Env×SK}(h:wG O live op post e σ=some x):eD O (fun O'=>wG O' live op post e σ) x:=by
 obtain⟨dst,uf,rU,k⟩:=op;cases uf with
 |some _=>simp[wG]at h
 |none =>
 cases k
 case call kp f args =>
  cases kp with
  |true=>simp[wG]at h
  |false =>
   simp only[wG]at h;cases hc:rP O (aR e f) (args.map (aR e)) σ with
   |none=>rw[hc]at h;simp[ng]at h
   |some r =>
    rw[hc]at h;exact(Bl hc).andThen (Bj h) fun O' k1 k2=>by simp only[wG,k1,k2]
 case Fg y=>exact .of fun O'=>h
 all_goals simp[wG]at h
theorem bA:∀{c:bQ} {e:Env} {σ:SK} {x:Exit×Env×SK},aL O c e σ=some x→eD O (fun O'=>aL O' c e σ) x
 |.ei,e,σ,x,h => .of fun O'=>h
 |.cb _,e,σ,x,h => .of fun O'=>h
 |.exit id,e,σ,x,h => .of fun O'=>h
 |.ret,e,σ,x,h => .of fun O'=>h
 |.cL live ops,e,σ,x,h=>by
  simp only[aL,ab]at h;obtain⟨y,h1,rfl⟩:=h;exact(nz h1).map fun O' k=>by simp only[aL,k,aM]
 |.seq a b,e,σ,x,h=>by
  simp only[aL,ah]at h;obtain⟨⟨x1,e1,σ1⟩,h1,h2⟩:=h;cases x1 with
  |normal=>exact(bA h1).andThen (bA h2) fun O' k1 k2=>by simp only[aL,k1,Option.bind_some,k2]
  |exit id=>exact(bA h1).map fun O' k1=>by simp only[aL,k1,Option.bind_some];exact h2
  |ret=>exact(bA h1).map fun O' k1=>by simp only[aL,k1,Option.bind_some];exact h2
  |eR d=>exact(bA h1).map fun O' k1=>by simp only[aL,k1,Option.bind_some];exact h2
 |.ite c a b,e,σ,x,h=>by
  simp only[aL]at h;cases hb:aR e c<;>rw[hb]at h<;>try (cases h;done)
  rename_i t;cases t with
  |true=>exact(bA (by simpa using h)).map fun O' k=>by simp only[aL,hb,if_true,k]
  |false=>exact(bA (by simpa using h)).map fun O' k=>by simp only[aL,hb,al,if_false,k]
 |.bu id a,e,σ,x,h=>by
  simp only[aL,ab]at h;obtain⟨y,h1,rfl⟩:=h;exact(bA h1).map fun O' k=>by simp only[aL,k,aM]
 |.TM a,e,σ,x,h=>by
  simp only[aL,ab]at h;obtain⟨y,h1,rfl⟩:=h;exact(bA h1).map fun O' k=>by simp only[aL,k,aM]
 |.wN live pre op post,e,σ,x,h=>by
  simp only[aL,ah]at h;obtain⟨⟨e1,σ1⟩,h1,h2⟩:=h;exact(nz h1).andThen (Cu h2) fun O' k1 k2=>by simp only[aL,k1,Option.bind_some,k2]
 |.Ge ..,e,σ,x,h=>by simp[aL]at h
 |.ew live it nx ok b a rest,e,σ,x,h=>by
  simp only[aL]at h;cases hq:O (.ew live it nx ok b a rest e σ)with
  |none=>rw[hq]at h;cases h
  |some r=>exact(eD.ask hq).map fun O' h'=>by simp only[aL,h'];rw[hq]at h;exact h
 |.loop live oE a,e,σ,x,h=>by
  simp only[aL]at h;cases hq:O (.loop live oE a e σ)with
  |none=>rw[hq]at h;cases h
  |some r=>exact(eD.ask hq).map fun O' k=>by simp only[aL,k];rw[hq]at h;exact h
 |.Al live f params q8 body,e,σ,x,h=>by
  simp only[aL]at h;split at h
  case h_2=>cases h
  rename_i l i σ1 hn;cases hc:we O (aR e f) [.iN l i] σ1 with
  |none=>rw[hc]at h;cases h
  |some y =>
   rw[hc]at h;exact(Bk hc).map fun O' k=>by simp only[aL,hn,k];exact h
theorem z7{fv:D}{args:List D}{th:Option D}{σ:SK}{r:R}(h:lG O fv args th σ=some r):eD O (fun O'=>lG O' fv args th σ) r:=by
 cases fv<;>simp only[lG,reduceCtorEq]at h;exact(eD.ask h).map fun O' h'=>by simp only[lG,h']
theorem Bo{res:List uy}{σ:SK}{fv:D}{args:List D}{y:Exit×Env×SK}{r:R}(h:tK O res σ fv args (some y)=some r):eD O (fun O'=>tK O' res σ fv args (some y)) r:=by
 obtain⟨x,e,σ1⟩:=y;have one:∀th,pI res σ e (lG O fv args th σ1)=some r→eD O (fun O'=>pI res σ e (lG O' fv args th σ1)) r:=by
  intro th h;cases hc:lG O fv args th σ1 with
  |none=>rw[hc]at h;cases h
  |some rr=>exact(z7 hc).map fun O' k=>by rw[k,← hc];exact h
 cases x with
 |exit id=>simp[tK]at h
 |normal=>exact one none h
 |ret=>exact one none h
 |eR d=>exact one (some d) h
theorem Bn{fn:Fn}{σ:SK}{y:bQ×ba×List ba×bQ}{e0:Env}{σ0:SK}{r:R}(h:rR O fn σ (some y) e0 σ0=some r):eD O (fun O'=>rR O' fn σ (some y) e0 σ0) r:=by
 obtain⟨a,f,args,q⟩:=y;simp only[rR]at h;split at h
 case h_2=>cases h
 rename_i e σ1 hA;cases hq:aL O q e σ1 with
 |none=>rw[hq]at h;simp[tK]at h
 |some z =>
  rw[hq]at h;exact((bA hA).andThen (bA hq) fun O' k1 k2=>(show(fun O'=>(aL O' a e0 σ0,aL O' q e σ1) |> some) O'=some (some (.normal,e,σ1),some z)by simp[k1,k2])).andThen (Bo h) fun O' k1 k2=>by
   simp only[ae,ai]at k1;simp only[rR,k1.1,k1.2,k2]
theorem sP:∀{c A:bQ} {r:ba×List ba×bQ} {e e1:Env} {σ σ1:SK},eQ c=some (A,r)→aL O A e σ=some (.normal,e1,σ1)→aL O c e σ=none
 |.Ge f xs q,A,r,e,e1,σ,σ1,h,ha=>rfl
 |.seq a b,A,r,e,e1,σ,σ1,h,ha=>by
  simp only[eQ,ab]at h;obtain⟨⟨A',r'⟩,h1,h2⟩:=h;cases h2;simp only[aL,ah,Prod.exists]at ha;obtain⟨x2,e2,σ2,h3,h4⟩:=ha;cases x2 with
  |normal=>simp only[aL,h3,Option.bind_some];exact sP h1 h4
  |_=>simp at h4
 |.ei,_,_,_,_,_,_,h,_ | .cb _,_,_,_,_,_,_,h,_ | .cL ..,_,_,_,_,_,_,h,_ | .ite ..,_,_,_,_,_,_,h,_ | .bu ..,_,_,_,_,_,_,h,_ | .loop ..,_,_,_,_,_,_,h,_
 |.TM ..,_,_,_,_,_,_,h,_ | .Al ..,_,_,_,_,_,_,h,_ | .ew ..,_,_,_,_,_,_,h,_ | .wN ..,_,_,_,_,_,_,h,_ | .exit _,_,_,_,_,_,_,h,_ | .ret,_,_,_,_,_,_,h,_=>by simp[eQ]at h
theorem CX{c:bQ}{y:bQ×ba×List ba×bQ}{fn:Fn}{σ:SK}{e0:Env}{σ0:SK}{r:R}(hs:eQ c=some y)(h:rR O fn σ (some y) e0 σ0=some r):aL O c e0 σ0=none:=by
 obtain⟨a,f,args,q⟩:=y;simp only[rR]at h;split at h
 case h_2=>cases h
 rename_i e σ1 hA;exact sP hs hA
theorem ug{l i b:Nat}{rest:bQ}{y:Option (Exit×Env×SK)}{r:R}(h:oQ O l i b rest y=some r):eD O (fun O'=>oQ O' l i b rest y) r:=by
 cases y with
 |none=>simp[oQ]at h
 |some y =>
 obtain⟨x,e,σ1⟩:=y;cases x with
 |normal=>simp[oQ]at h
 |eR d=>simp[oQ]at h
 |ret=>exact .of fun O'=>h
 |exit j =>
  simp only[oQ]at h;by_cases hj:j=b
  ·rw[if_pos hj]at h;simp only[ab]at h;obtain⟨z,h1,rfl⟩:=h;exact(bA h1).map fun O' k=>by simp only[oQ,if_pos hj,k,aM]
  ·rw[if_neg hj]at h;exact .of fun O'=>by simp only[oQ,if_neg hj];exact h
theorem wi{T:sn}:∀{q:Q} {r:R},cc T O q=some r→eD O (fun O'=>cc T O' q) r
 |.call kp f args σ,r,h=>by
  simp only[cc]at h;cases hT:T f with
  |none =>
   rw[hT]at h;dsimp only at h;exact .of fun O'=>by simp only[cc,hT];exact h
  |some fn =>
  rw[hT]at h;dsimp only at h;split at h
  case isFalse=>cases h
  rename_i hl;cases hc:aL O fn.body (iH 0 args) (if kp then σ else []::σ)with
  |none =>
   rw[hc]at h;dsimp only at h;cases kp with
   |true=>simp at h
   |false =>
    simp only[al,if_false]at h;cases hsp:eQ fn.body with
    |none=>rw[hsp]at h;simp[rR]at h
    |some y =>
     rw[hsp]at h;refine(Bn h).map fun O' k=>?_
     have hn:aL O' fn.body (iH 0 args) ([]::σ)=none:=CX hsp k;simp only[cc,hT,if_pos hl,al,if_false,hn,hsp,k]
  |some y =>
   rw[hc]at h;obtain⟨yx,ye,yσ⟩:=y;exact(bA hc).map fun O' k=>by
    simp only[cc,hT,if_pos hl,k];cases yx<;>exact h
 |.loop live oE c e σ,r,h=>by
  simp only[cc]at h;cases hc:aL O c (restrict live e) (if oE then []::σ else σ)with
  |none=>rw[hc]at h;cases h
  |some y =>
   obtain⟨x,e1,σ1⟩:=y;rw[hc]at h;dsimp only at h;cases x with
   |normal =>
    dsimp only at h;exact(bA hc).andThen (eD.ask h) fun O' k1 k2=>by simp only[cc,k1];exact k2
   |exit id=>exact(bA hc).map fun O' k1=>by simp only[cc,k1];exact h
   |ret=>exact(bA hc).map fun O' k1=>by simp only[cc,k1];exact h
   |eR d=>exact(bA hc).map fun O' k1=>by simp only[cc,k1];exact h
 |.round l i args σ,r,h=>by
  simp only[cc]at h;cases hb:cM σ l i with
  |none=>rw[hb]at h;cases h
  |some bl =>
  rw[hb]at h;cases bl with
  |cells=>cases h
  |dead=>cases h
  |loop lp =>
  dsimp only at h;split at h
  case isFalse=>cases h
  rename_i hl;cases hc:aL O lp.q8 (rE lp.params args lp.env) ([]::σ)with
  |none=>rw[hc]at h;cases h
  |some y =>
  obtain⟨x,e1,σ1⟩:=y;rw[hc]at h;cases x with
  |exit id=>cases h
  |ret=>cases h
  |eR d=>cases h
  |normal =>
  dsimp only at h;cases hb1:cM σ1 l i with
  |none=>rw[hb1]at h;cases h
  |some bl1 =>
  rw[hb1]at h;cases bl1 with
  |cells=>cases h
  |dead=>cases h
  |loop lp1 =>
  dsimp only at h;split at h
  case isFalse=>cases h
  rename_i hs;cases hd:aL O lp.body e1 (aN σ1 l i (.loop {lp1 with state:=1 }))with
  |none=>rw[hd]at h;cases h
  |some z =>
  rw[hd]at h;exact(bA hc).andThen (bA hd) fun O' k1 k2=>by simp only[cc,hb,if_pos hl,k1,hb1,if_pos hs,k2];exact h
 |.so f args th σ,r,h=>by
  simp only[cc]at h;cases hT:T f with
  |none=>rw[hT]at h;cases h
  |some fn =>
  rw[hT]at h;dsimp only at h;split at h
  case isFalse=>cases h
  rename_i hl;cases hr:oK th args fn.body with
  |none=>rw[hr]at h;cases h
  |some y =>
  obtain⟨e0,q⟩:=y;rw[hr]at h;dsimp only at h;cases hc:aL O q e0 ([]::σ)with
  |none=>rw[hc]at h;cases h
  |some z =>
   rw[hc]at h;exact(bA hc).map fun O' k=>by simp only[cc,hT,if_pos hl,hr,k];exact h
 |.ew live it nx ok b c rest e σ,r,h=>by
  simp only[cc]at h;cases hop:aR (restrict live e) it<;>rw[hop]at h<;>try (cases h;done)
  rename_i l i;dsimp only at h;split at h
  ·rename_i m n js hit;cases hc:aL O c ((ok,.bool false)::(nx,.undef)::restrict live e) σ with
   |none=>rw[hc]at h;simp[oQ]at h
   |some y =>
    rw[hc]at h;exact(bA hc).andThen (ug h) fun O' k k2=>by simp only[cc,hop,hit,k,k2]
  ·rename_i m n js us hne hit;have one:∀u,rT O live it l i nx ok b c rest (aL O c ((ok,.bool true)::(nx,.undef)::restrict live e) (aN σ l i (.cells 1 (m::.int .i64 (n:Nat)::.int .i64 (u:Nat)::js))))=some r →
     eD O (fun O'=>rT O' live it l i nx ok b c rest (aL O' c ((ok,.bool true)::(nx,.undef)::restrict live e) (aN σ l i (.cells 1 (m::.int .i64 (n:Nat)::.int .i64 (u:Nat)::js))))) r:=by
    intro u hu;cases hc:aL O c ((ok,.bool true)::(nx,.undef)::restrict live e) (aN σ l i (.cells 1 (m::.int .i64 (n:Nat)::.int .i64 (u:Nat)::js)))with
    |none=>rw[hc]at hu;simp[rT,oQ]at hu
    |some y =>
     obtain⟨x,e1,σ1⟩:=y;rw[hc]at hu;cases x with
     |normal=>exact(bA hc).andThen (eD.ask hu) fun O' k1 k2=>by simp only[k1];exact k2
     |exit id=>exact(bA hc).andThen (ug (b:=b) (rest:=rest) (y:=some (.exit id,e1,σ1)) hu) fun O' k1 k2=>by simp only[k1];exact k2
     |ret=>exact(bA hc).andThen (ug (b:=b) (rest:=rest) (y:=some (.ret,e1,σ1)) hu) fun O' k1 k2=>by simp only[k1];exact k2
     |eR d=>simp[rT,oQ]at hu
   have all:∀vs:List Nat,(∀v∈vs,rT O live it l i nx ok b c rest (aL O c ((ok,.bool true)::(nx,.undef)::restrict live e) (aN σ l i (.cells 1 (m::.int .i64 (n:Nat)::.int .i64 (v:Nat)::js))))=some r) →
     ∃L:List (Q×R),(∀p∈L,O p.1=some p.2)∧∀O':bd,(∀p∈L,O' p.1=some p.2)→∀v∈vs,rT O' live it l i nx ok b c rest (aL O' c ((ok,.bool true)::(nx,.undef)::restrict live e) (aN σ l i (.cells 1 (m::.int .i64 (n:Nat)::.int .i64 (v:Nat)::js))))=some r:=by
    intro vs;induction vs with
    |nil=>intro _;exact⟨[],by simp,by simp⟩
    |cons v vs ih =>
     intro hv;obtain⟨L1,h1,h2⟩:=one v (hv v (by simp));obtain⟨L2,h3,h4⟩:=ih fun v' hv'=>hv v' (by simp[hv'])
     refine⟨L1++L2,fun p hp=>?_,fun O' h' v' hv'=>?_⟩
     ·rcases aX.1 hp with hp | hp
      ·exact h1 p hp
      ·exact h3 p hp
     ·rcases bj.1 hv' with rfl | hv'
      ·exact h2 O' fun p hp=>h' p (by simp[hp])
      ·exact h4 O' (fun p hp=>h' p (by simp[hp])) v' hv'
   obtain⟨L,h1,h2⟩:=all us (yV h);refine⟨L,h1,fun O' h'=>?_⟩;have h3:=h2 O' h';simp only[cc,hop,hit];cases us with
   |nil=>first | exact(hne rfl).elim | exact(hne _ rfl).elim | exact(hne _ _ _ rfl).elim | exact hne.elim
   |cons v vs=>exact yX (by simp) h3
  ·cases h
theorem CY{T:sn}{O O':bd}(h:∀q r,O q=some r→O' q=some r){q:Q}{r:R}(hq:cc T O q=some r):cc T O' q=some r:=by
 obtain⟨L,h1,h2⟩:=wi hq;exact h2 O' fun p hp=>h _ _ (h1 p hp)
theorem uW{T:sn}:∀{n m:Nat},n≤m→∀{q:Q} {r:R},it T n q=some r→it T m q=some r
 |0,m,_,q,r,h=>by simp[it]at h
 |n+1,0,hnm,q,r,h=>by omega
 |n+1,m+1,hnm,q,r,h=>CY (fun _ _ hh=>uW (Nat.le_of_succ_le_succ hnm) hh) h
theorem oB{T:sn}{q:Q}{r:R}:bG T q=some r↔∃n,it T n q=some r:=by
 constructor
 ·intro h;unfold bG at h;split at h
  ·rename_i hex;cases h;exact⟨_,hex.choose_spec.choose_spec⟩
  ·cases h
 ·rintro⟨n,h⟩;have hex:∃n r,it T n q=some r:=⟨n,r,h⟩;unfold bG;rw[dif_pos hex];have h1:=uW (Nat.le_max_left n hex.choose) h;have h2:=uW (Nat.le_max_right n hex.choose) hex.choose_spec.choose_spec;rw[h1]at h2;cases h2;rfl
theorem DS{T:sn}:∀{L:List (Q×R)},(∀p∈L,bG T p.1=some p.2)→∃n,∀p∈L,it T n p.1=some p.2
 |[],_=>⟨0,by simp⟩
 |p::L,h=>by
  obtain⟨n,hn⟩:=DS (L:=L) fun q hq=>h q (by simp[hq])
  obtain⟨m,hm⟩:=oB.1 (h p (by simp));refine⟨max n m,fun q hq=>?_⟩;rcases bj.1 hq with rfl | hq
  ·exact uW (Nat.le_max_right n m) hm
  ·exact uW (Nat.le_max_left n m) (hn q hq)
theorem fg{T:sn}{q:Q}{r:R}(h:cc T (bG T) q=some r):bG T q=some r:=by
 obtain⟨L,h1,h2⟩:=wi h;obtain⟨n,hn⟩:=DS h1;exact oB.2 ⟨n+1,h2 (it T n) hn⟩
open Go.ChangeMaps (setBlock)
section
variable {P:Program} {T:sn} {O:bd} {CR:dF} {base:Nat} {g:G} {σ:SK} {w:World}
theorem Inv.setIter(hi:Inv CR base g σ w){l i b lm im bm n:Nat}{b0:aF}{js:List Nat}(hL:g.loc l i=some (.it b))(hb:cM σ l i=some b0)(hm:g.loc lm im=some (.mp bm))(hnd:js.Nodup)(hlt:∀j∈js,j<n){w1:World}(hw1:w1=w∨w1=w.drew):
  Inv CR base (g.bK l i (.it b)) (aN σ l i (.cells 1 (.iN lm im::.int .i64 (n:Nat)::js.map (fun j:Nat=>D.int .i64 j)))) (setBlock w1 b (.mapIter (some bm) n js.reverse.toArray n)) ∧
   Ev g w (g.bK l i (.it b)) (setBlock w1 b (.mapIter (some bm) n js.reverse.toArray n)):=by
 have hlt':=(hi.lo l i _ b hL rfl).2;have hh:w1.heap=w.heap:=by rcases hw1 with rfl | rfl<;>rfl
 have hos:w1.os=w.os:=by rcases hw1 with rfl | rfl<;>rfl
 have htp:w1.tape=w.tape:=by rcases hw1 with rfl | rfl<;>rfl
 have hout:w1.output=w.output:=by rcases hw1 with rfl | rfl<;>rfl
 have hm2:(g.bK l i (.it b)).loc lm im=some (.mp bm):=by
  rw[G.aU fun hc=>by rw[hc.1,hc.2,hL]at hm;cases hm];exact hm
 refine hi.setCells hL hb (Loc.le_refl _) ⟨rfl,lm,im,bm,n,js,rfl,hm2,?_,hnd,hlt⟩ (fun b' hb' hne=>?_) hos htp hout (by simp[setBlock,hh]) (fun b' hb' => .inl hb')
 ·simp[setBlock,hh,hlt']
 ·have:b≠b':=fun hc=>hne (by rw[hc];rfl)
  simp[setBlock,hh,this]
theorem Inv.KG(hi:Inv CR base g σ w){l i b:Nat}{L:Loc}{b0:aF}(hL:g.loc l i=some L)(hd:L=.it b∨L=.dead)(hb:cM σ l i=some b0):
  Inv CR base (g.bK l i .dead) (aN σ l i .dead) w∧Ev g w (g.bK l i .dead) w:=by
 have hle:g.le (g.bK l i .dead):=G.gu fun L0 e=>by rw[hL]at e;cases e;rcases hd with rfl | rfl<;>simp[Loc.le]
 refine⟨hi.vg l i hle (fun l' i' c=>cN c) (fun l' i' c=>G.aU c) (fun _ _ _ _ _ _ _=>rfl) ?_ hi.jV ?_ ?_ (aw _) ⟨_,G.ao⟩ (fun _ _ _=>rfl),⟨hle,rfl,rfl,rfl,aw _,fun _ _ _=>rfl,?_,fun b o v hv => .inl hv⟩⟩
 ·intro L e;rw[G.ao]at e;cases e;exact⟨_,jx hb,trivial⟩
 ·intro l' i' L b e eb o;by_cases c:l'=l∧i'=i
  ·obtain⟨rfl,rfl⟩:=c;rw[G.ao]at e;cases e;cases eb
  ·rw[G.aU c]at e;exact hi.sep l' i' L b e eb o
 ·intro L b e eb;rw[G.ao]at e;cases e;cases eb
 ·intro b hb';obtain⟨l',i',L,e,eb⟩:=hb';by_cases c:l'=l∧i'=i
  ·obtain⟨rfl,rfl⟩:=c;rw[G.ao]at e;cases e;cases eb
  ·rw[G.aU c]at e;exact .inl ⟨l',i',L,e,eb⟩
theorem EF{l i n:Nat}{m:D}{js:List D}{us:List Nat}(h:wk σ l i=some (m,n,js,us)):
  ∃lm im es,cells? σ l i 1=some (m::.int .i64 (n:Nat)::js)∧tE σ m=some (lm,im,es)∧es.length=n∧us=(List.range n).filter fun j:Nat => !(js.contains (.int .i64 j)):=by
 unfold wk at h;split at h
 case h_2=>cases h
 rename_i m' n' js' hc;split at h
 case h_2=>cases h
 rename_i lm im es hm;split at h
 case isFalse=>cases h
 rename_i hl;cases h;exact⟨lm,im,es,by rw[hl];exact hc,hm,rfl,rfl⟩
theorem ou.map{S:Frame→Prop}{g g':G}{b:Frame}{a:Act}{todo:List Item}{x:Exit}(hg:∀d v,d.clean=true→a8 g d v→a8 g' d v)(h:ou S g b a todo x):ou S g' b a todo x:=by
 cases x with
 |eR d=>obtain⟨h0,v,h1,h2⟩:=h;exact⟨h0,v,hg _ _ h0 h1,h2⟩
 |_=>exact h
theorem BB(hm:P.follows .mixedOrders=true)(hO:pR P (gS P) O){live:List Nat}{it:ba}{nx ok bid:Nat}{c rest:bQ}{e:Env}{σ:SK}{r:R}
  (h:cc T O (.ew live it nx ok bid c rest e σ)=some r):vV P (gS P) (.ew live it nx ok bid c rest e σ) r:=by
 cases r with
 |val=>trivial
 |eR=>trivial
 |tJ x e' σ' =>
 intro ann bu rid ops p n it0 qs hit hmap hc hrest base g0 w0 b a k cs g w B ha;subst hit;obtain⟨rid',ops',p',heq,o0,o1,hops,h1,h2,h3,h4,h5,h6,c1,c2,c3,c4,c5⟩:=xR hmap;cases heq;simp only[cc]at h;have har:=ha.restrict live;cases hop:aR (restrict live e) (.t it0)<;>rw[hop]at h<;>try (cases h;done)
 rename_i l i;dsimp only at h;cases hitd:wk σ l i with
 |none=>rw[hitd]at h;cases h
 |some y =>
 obtain⟨m,n',js,us⟩:=y;obtain⟨lm,im,es,hcs,hmd,hes,hus⟩:=EF hitd;obtain⟨tmps,df⟩:=a;have hiv:a8 g (.iN l i) (tmps.getD it0 Go.undef):=by
  have h0:=har.fr.strip it0;simp only[aR]at hop;rw[hop]at h0;exact h0
 have hblk:∃cs',cM σ l i=some (.cells 1 cs')∧cs'=m::.int .i64 (n':Nat)::js:=by
  unfold cells? at hcs;split at hcs
  case h_2=>cases hcs
  rename_i v' cs' hb;split at hcs
  case isFalse=>cases hcs
  rename_i hv;subst hv;cases hcs;exact⟨_,hb,rfl⟩
 obtain⟨cs',hblk,rfl⟩:=hblk;obtain⟨bi,bm,lm',im',js',hpt,hloc,hjs,hml,hheap,hnd,hlt⟩:∃bi bm lm' im',∃js':List Nat,tmps.getD it0 Go.undef=.pointer (some ⟨bi,0,none⟩)∧g.loc l i=some (.it bi)∧(m=.iN lm' im'∧js=js'.map (fun j:Nat=>D.int .i64 j))∧g.loc lm' im'=some (.mp bm) ∧
   w.heap[bi]?=some (.mapIter (some bm) n' js'.reverse.toArray n')∧js'.Nodup∧∀j∈js',j<n':=by
  generalize tmps.getD it0 Go.undef=cv at hiv;cases hiv with
  |iN _ _ bb r1 =>
   obtain⟨b0,hb0,hrel⟩:=ha.inv.o8 _ _ _ r1;rw[hblk]at hb0;cases hb0;exact hrel.elim
  |EP _ _ bb r1 =>
   obtain⟨b0,hb0,hrel⟩:=ha.inv.o8 _ _ _ r1;rw[hblk]at hb0;cases hb0;obtain⟨h0,_⟩:=hrel;cases h0
  |Fa _ _ bb L r1 r2 =>
   obtain⟨b0,hb0,hrel⟩:=ha.inv.o8 _ _ _ r1;rw[hblk]at hb0;cases hb0;rcases r2 with⟨c,rfl⟩ | rfl
   ·obtain⟨h0,_⟩:=hrel;cases h0
   ·exact hrel.elim
  |JY _ _ bb L r1 r2 =>
   obtain⟨b0,hb0,hrel⟩:=ha.inv.o8 _ _ _ r1;rw[hblk]at hb0;cases hb0;rcases r2 with rfl | rfl
   rotate_left
   ·exact hrel.elim
   obtain⟨_,lm',im',bm,n2,js',hce,hlm,hh,hnd,hlt⟩:=hrel;simp only[ek,D.int.injEq,true_and]at hce;obtain⟨rfl,hn2,rfl⟩:=hce;have hn2:n'=n2:=by omega
   subst hn2;exact⟨bb,bm,lm',im',js',rfl,r1,⟨rfl,rfl⟩,hlm,hh,hnd,hlt⟩
 obtain⟨rfl,rfl⟩:=hjs;obtain⟨b2,b9,clock,v2,hc2,hl2,hblk2,hheap2,hrel2,hok⟩:=qh ha.inv (.EP lm' im' bm hml) hmd;cases hc2;have hlen2:es.length=b9.toList.length:=by have:=hrel2.length;simpa using this
 have hck:clock=n':=by rw[hok.2];omega
 subst hck;have hborn:∀y∈b9.toList,y.born<clock:=by
  intro y hy;have h0:y.born∈b9.toList.map (·.born):=bp.2 ⟨y,hy,rfl⟩;rw[hok.1]at h0;have:=List.mem_range.1 h0;omega
 have ho0:ops[0]?=some o0:=by have:=congrArg (·[0]?) hops;simpa using this
 have ho1:ops[1]?=some o1:=by have:=congrArg (·[1]?) hops;simpa using this
 have hsize:ops.size=2:=by have:=congrArg List.length hops;simpa using this
 have hw0:∀a:Act,Region.wanted o0 (yielded ops a.tmps)=true:=fun a=>by simp[Region.wanted,h3]
 have hw1:∀a:Act,Region.wanted o1 (yielded ops a.tmps)=true:=fun a=>by simp[Region.wanted,h6]
 have hnd0:∀c,o0.op ≠ .defer c:=by intro c hc;rw[h1]at hc;cases hc
 have hnd1:∀c,o1.op ≠ .defer c:=by intro c hc;rw[h4]at hc;cases hc
 have region:∀(bv:Bool) (vs:Array Value) (w1:World) (g1:G) (σ1:SK),(execOp (Act.mk tmps df).eval o0).run P w=.ok (.value (.tuple (#[.bool bv]++vs))) w1→Ev g w g1 w1→Inv (gS P) base g1 σ1 w1→dH σ σ1 →
   ∃a1,Steps P (lone (b.atR ⟨tmps,df⟩ (.code (.seq (.region rid ops false) p)::.inLoop (.seq (.region rid ops false) p)::.inBlock bid::(qs.toList.map Item.code++k))) cs w)
    (lone (b.atR a1 (.code p::.inLoop (.seq (.region rid ops false) p)::.inBlock bid::(qs.toList.map Item.code++k))) cs w1)∧At (gS P) base ann.cn g0 w0 n b g1 w1 B ((ok,.bool bv)::(nx,.undef)::restrict live e) σ1 a1:=by
  intro bv vs w1 g1 σ1 hrun he hi hgo;have hts:tmps.size=n:=ha.size;have ha1:At (gS P) base ann.cn g0 w0 n b g1 w1 B ((nx,.undef)::restrict live e) σ1 ((Act.mk tmps df).put (some nx) (.tuple (#[.bool bv]++vs))):=by
   refine har.go he hi hgo ?_ sH put_defers;exact(har.fr.ev he).put (dst:=some nx) (d:=.undef) (bI.of (.undef _)) (fun t ht=>by cases ht;exact c4) (fun t ht=>by cases ht;rw[hts];exact c1)
  have hget:((Act.mk tmps df).put (some nx) (.tuple (#[.bool bv]++vs))).eval (.tmp nx)=.tuple (#[.bool bv]++vs):=by
   simp[Act.eval,Act.put,hts,c1]
  have hrun1:(execOp ((Act.mk tmps df).put (some nx) (.tuple (#[.bool bv]++vs))).eval o1).run P w1=.ok (.value (.bool bv)) w1:=by
   simp only[execOp,h4,hget];have hz:(#[Value.bool bv]++vs)[0]?=some (.bool bv):=by
    rw[Array.getElem?_append_left (by simp)];rfl
   simp[Instr.extract,hz]
  have ha2:At (gS P) base ann.cn g0 w0 n b g1 w1 B ((ok,.bool bv)::(nx,.undef)::restrict live e) σ1 (((Act.mk tmps df).put (some nx) (.tuple (#[.bool bv]++vs))).put (some ok) (.bool bv)):=by
   refine ha1.go (Ev.refl g1 w1) hi (.refl _) ?_ sH put_defers;exact ha1.fr.put (dst:=some ok) (d:=.bool bv) (bI.of (.bool bv)) (fun t ht=>by cases ht;exact c5) (fun t ht=>by cases ht;rw[ha1.size];exact c2)
  refine⟨_,.head stepR_seq (.head stepR_region ?_),ha2⟩;rw[hsize];have s0:=o4 (P:=P) (b:=b) (a:=⟨tmps,df⟩) (k:=.code p::.inLoop (.seq (.region rid ops false) p)::.inBlock bid::(qs.toList.map Item.code++k)) (cs:=cs) (rest:=[1]) ho0 (hw0 _) hnd0 hrun rfl;rw[h2]at s0;have s1:=o4 (P:=P) (b:=b) (k:=.code p::.inLoop (.seq (.region rid ops false) p)::.inBlock bid::(qs.toList.map Item.code++k)) (cs:=cs) (rest:=[]) ho1 (hw1 _) hnd1 hrun1 rfl;rw[h5]at s1;exact .head s0 (.head s1 (.one (stepR_region_end (ops:=ops))))
 have hnext:∀(w:World),(Instr.next (.pointer (some ⟨bi,0,none⟩)) false o0.type).run P w=(Instr.next (.pointer (some ⟨bi,0,none⟩)) false o0.type).run P w:=fun _=>rfl
 have hev0:(Act.mk tmps df).eval (.tmp it0)=.pointer (some ⟨bi,0,none⟩):=hpt;have finish:∀(y:Exit×Env×SK) (g1:G) (w1:World) (B1:Nat→Nat) (a1:Act) (t1:List Item) (σm:SK) (wm:World) (am:Act) (gm:G),oQ O l i bid rest (some y)=some (.tJ x e' σ')→g.le g1→dH σ y.2.2 →
   Steps P (lone (b.atR ⟨tmps,df⟩ (.code (.seq (.region rid ops false) p)::.inLoop (.seq (.region rid ops false) p)::.inBlock bid::(qs.toList.map Item.code++k))) cs w)
    (lone (b.atR am (.code p::.inLoop (.seq (.region rid ops false) p)::.inBlock bid::(qs.toList.map Item.code++k))) cs wm) →
   ou (fun fr=>Steps P (lone (b.atR am (.code p::.inLoop (.seq (.region rid ops false) p)::.inBlock bid::(qs.toList.map Item.code++k))) cs wm) (lone fr cs w1)) g1 b a1 t1 y.1 →
   At (gS P) base ann.cn g0 w0 n b g1 w1 B1 y.2.1 y.2.2 a1→rN (.inLoop (.seq (.region rid ops false) p)::.inBlock bid::(qs.toList.map Item.code++k)) y.1 t1 →
   ∃g' w' B' a' todo,ou (fun fr=>Steps P (lone (b.atR ⟨tmps,df⟩ (.code (.seq (.region rid ops false) p)::.inLoop (.seq (.region rid ops false) p)::.inBlock bid::(qs.toList.map Item.code++k))) cs w) (lone fr cs w')) g' b a' todo x ∧
    At (gS P) base ann.cn g0 w0 n b g' w' B' e' σ' a'∧g.le g'∧rN k x todo∧dH σ σ':=by
  intro y g1 w1 B1 a1 t1 σm wm am gm hme hle hgo s1 s2 hA hLd;obtain⟨y1,e1,σ1⟩:=y;obtain⟨L1,hL1,hle1⟩:=hle.loc l i _ hloc;have hLd1:L1=.it bi∨L1=.dead:=hle1;obtain⟨bb,hbb,_⟩:=hA.inv.o8 l i _ hL1;obtain⟨i2,e2⟩:=hA.inv.KG hL1 hLd1 hbb;have hgo2:dH σ1 (aN σ1 l i .dead):=dH.set fun _=>trivial
  have hA2:At (gS P) base ann.cn g0 w0 n b (g1.bK l i .dead) w1 B1 e1 (aN σ1 l i .dead) a1:=hA.go e2 i2 hgo2 (hA.fr.ev e2) rfl rfl;cases y1 with
  |normal=>simp[oQ]at hme
  |eR d=>simp[oQ]at hme
  |ret =>
   simp only[oQ,ae,R.tJ.injEq]at hme;obtain⟨rfl,rfl,rfl⟩:=hme;obtain⟨k',rfl⟩:=hLd;exact⟨_,w1,B1,a1,_,Steps.trans s1 s2,hA2,hle.trans' e2.le,⟨k',rfl⟩,hgo.trans hgo2⟩
  |exit j =>
   obtain⟨k',rfl,hk'⟩:=hLd;simp only[oQ]at hme;split at hme
   ·rename_i hj;subst hj;simp only[ab,Prod.exists,R.tJ.injEq]at hme;obtain⟨x',e'',σ'',hac,rfl,rfl,rfl⟩:=hme;have hout:Steps P (lone (b.atR ⟨tmps,df⟩ (.code (.seq (.region rid ops false) p)::.inLoop (.seq (.region rid ops false) p)::.inBlock j::(qs.toList.map Item.code++k))) cs w) (lone (b.atR a1 (qs.toList.map Item.code++k)) cs w1) :=
     Steps.trans s1 (Steps.trans s2 (.one (stepR_exit (by rw[hk'];simp[exitTo]))))
    cases qs with
    |none =>
     obtain rfl:rest=.ei:=hrest;simp only[aL,ae,ai]at hac;obtain⟨rfl,rfl,rfl⟩:=hac;exact⟨_,w1,B1,a1,k,hout,hA2,hle.trans' e2.le,rfl,hgo.trans hgo2⟩
    |some q =>
     obtain⟨g3,w3,B3,a3,t3,k1,k2,k3,k4,k5⟩:=mB (b:=b) (cs:=cs) (k:=k) hm hO q hrest hac hA2;exact⟨g3,w3,B3,a3,t3,k1.imp fun _ hs=>Steps.trans hout hs,k2,(hle.trans' e2.le).trans' k3,k4,(hgo.trans hgo2).trans k5⟩
   ·rename_i hj;simp only[ae,R.tJ.injEq]at hme;obtain⟨rfl,rfl,rfl⟩:=hme;refine⟨_,w1,B1,a1,_,Steps.trans s1 s2,hA2,hle.trans' e2.le,⟨k',rfl,?_⟩,hgo.trans hgo2⟩;rw[hk'];simp only[exitTo];rw[if_neg (by simpa using Ne.symm hj)];cases qs<;>rfl
 rw[hitd]at h;rcases run_next_at (P:=P) w o0.type bi bm clock clock js'.reverse.toArray b9 clock hheap hheap2 hborn (aw _)with⟨hz,hrun⟩ | ⟨en,hen,w1,hw1',hrun⟩
 ·
  have hus0:us=[]:=by
   rw[hus,List.filter_eq_nil_iff];intro j hj;have hjlt:=List.mem_range.1 hj;have h0:j∈b9.toList.map (·.born):=by rw[hok.1];exact List.mem_range.2 (by omega)
   obtain⟨y,hy,rfl⟩:=bp.1 h0;have hnone:leftOf b9 js'.reverse.toArray = #[]:=Array.eq_empty_of_size_eq_zero hz;unfold leftOf at hnone;rw[Array.filter_eq_empty_iff]at hnone;have h1:=hnone y (by simpa using hy);simp only[dR,Bool.not_eq_false,List.contains_toArray,List.contains_eq_mem,List.mem_reverse,av,Bool.not_eq_true]at h1 ⊢;simp at h1 ⊢;exact⟨_,h1,rfl⟩
  subst hus0;dsimp only at h;obtain⟨a1,s1,hA1⟩:=region false #[] w g σ (by simp only[execOp,h1,hev0,Sem.run_bind,hrun,Result.andThen_ok,Sem.run_pure];rfl) (Ev.refl g w) ha.inv (.refl σ);cases hac:aL O c ((ok,.bool false)::(nx,.undef)::restrict live e) σ with
  |none=>rw[hac]at h;simp[oQ]at h
  |some y =>
   rw[hac]at h;obtain⟨y1,ey,σy⟩:=y;obtain⟨g2,w2,B2,a2,t2,k1,k2,k3,k4,k5⟩:=mB (b:=b) (cs:=cs) (k:=.inLoop (.seq (.region rid ops false) p)::.inBlock bid::(qs.toList.map Item.code++k)) hm hO p hc hac hA1;exact finish (y1,ey,σy) g2 w2 B2 a2 t2 σ w a1 g h k3 k5 s1 k1 k2 k4
 ·
  have henm:en∈b9.toList∧en.born ∉ js':=by
   unfold leftOf at hen;simp at hen;simpa using hen
  have hbn:en.born<clock:=hborn en henm.1;have hmem:en.born∈us:=by
   rw[hus];simp only[wz,List.mem_range,dR,hbn,true_and];simp;intro x hx hxe;have:x=en.born:=by omega
   subst this;exact henm.2 hx
  have hans:rT O live (.t it0) l i nx ok bid c rest (aL O c ((ok,.bool true)::(nx,.undef)::restrict live e) (aN σ l i (.cells 1 (.iN lm' im'::.int .i64 (clock:Nat)::.int .i64 (en.born:Nat)::js'.map (fun j:Nat=>D.int .i64 j)))))=some (.tJ x e' σ'):=by
   split at h
   ·rename_i hsm;cases hsm;simp at hmem
   ·rename_i hsm;cases hsm;exact yV h en.born hmem
   ·rename_i hsm;cases hsm
  obtain⟨i1,e1⟩:=ha.inv.setIter (js:=en.born::js') hloc hblk hml (List.nodup_cons.2 ⟨henm.2,hnd⟩) (by
   intro j hj;rcases bj.1 hj with rfl | hj
   ·exact hbn
   ·exact hlt j hj) hw1'
  have hgo1:dH σ (aN σ l i (.cells 1 (.iN lm' im'::.int .i64 (clock:Nat)::.int .i64 (en.born:Nat)::js'.map (fun j:Nat=>D.int .i64 j)))):=by
   refine dH.mk cI fun hS=>hS.set fun hl=>?_
   have h0:=hS l i _ hblk hl;simp only[aF.low,D.jw,D.low,ak,Bool.true_and]at h0 ⊢;exact h0
  have hpush:js'.reverse.toArray.push en.born=(en.born::js').reverse.toArray:=by simp
  rw[hpush]at hrun;obtain⟨a1,s1,hA1⟩:=region true #[en.key,en.val] _ _ _ (by simp only[execOp,h1,hev0,Sem.run_bind,hrun,Result.andThen_ok,Sem.run_pure];rfl) e1 i1 hgo1;simp only[aG]at hA1;cases hac:aL O c ((ok,.bool true)::(nx,.undef)::restrict live e) (aN σ l i (.cells 1 (.iN lm' im'::.int .i64 (clock:Nat)::.int .i64 (en.born:Nat)::js'.map (fun j:Nat=>D.int .i64 j))))with
  |none=>rw[hac]at hans;simp[rT,oQ]at hans
  |some y =>
   rw[hac]at hans;obtain⟨y1,ey,σy⟩:=y;obtain⟨g2,w2,B2,a2,t2,k1,k2,k3,k4,k5⟩:=mB (b:=b) (cs:=cs) (k:=.inLoop (.seq (.region rid ops false) p)::.inBlock bid::(qs.toList.map Item.code++k)) hm hO p hc hac hA1;cases y1 with
   |normal =>
    simp only[rT]at hans;obtain rfl:=k4;obtain⟨g3,w3,B3,a3,t3,m1,m2,m3,m4,m5⟩:=hO _ _ hans ann bu rid ops p n it0 qs rfl hmap hc hrest base g0 w0 b a2 k cs g2 w2 B2 k2;exact⟨g3,w3,B3,a3,t3,m1.imp fun _ hs=>Steps.trans s1 (Steps.trans k1 (.head stepR_inLoop hs)),m2,(e1.le.trans' k3).trans' m3,m4,(hgo1.trans k5).trans m5⟩
   |exit j=>exact finish (.exit j,ey,σy) g2 w2 B2 a2 t2 σ _ a1 g hans (e1.le.trans' k3) (hgo1.trans k5) s1 k1 k2 k4
   |ret=>exact finish (.ret,ey,σy) g2 w2 B2 a2 t2 σ _ a1 g hans (e1.le.trans' k3) (hgo1.trans k5) s1 k1 k2 k4
   |eR d=>simp[rT,oQ]at hans
end
theorem vW.cut{fb:Nat}{V:List Nat}{g:G}{w:World}{B:Nat→Nat}{e0:Env}{tmps:Array Value}{p:Nat×D}{n:Nat}(h:vW fb V g w B e0 tmps p)(hl:p.2.low n=true):vW fb V (g.cut n) w B e0 tmps p:=by
 obtain⟨t,d⟩:=p;unfold vW at h ⊢;dsimp only at h ⊢ hl;split
 ·rename_i s cs;obtain⟨h1,h2,h3,h4⟩:=h;obtain⟨c,el,k1,k2,k3⟩:=h4.bu;exact⟨h1,h2,h3,h4.lo,fun hh=>h4.free (G.wR hh),h4.lD,c,el,k1,k2.cut hl,k3⟩
 ·rename_i hd;cases d with
  |own s cs=>exact absurd rfl (hd s cs)
  |_=>exact a8.cut h hl
theorem Up{g g':G}{n:Nat}(h:g.le g')(hn:∀l i L,g.loc l i=some L→l<n):g.le (g'.cut n) :=
 ⟨fun l i L e=>by rw[G.lW (hn l i L e)];exact h.loc l i L e,h.jV⟩
section
variable {P:Program} {T:sn} {O:bd}
theorem CB(hm:P.follows .mixedOrders=true)(hO:pR P (gS P) O){live:List Nat}{oE:Bool}{c:bQ}{env:Env}{σ:SK}{r:R}
  (h:cc T O (.loop live oE c env σ)=some r):vV P (gS P) (.loop live oE c env σ) r:=by
 simp only[cc]at h;cases hac:aL O c (restrict live env) (if oE then []::σ else σ)with
 |none=>simp[hac]at h
 |some y =>
 obtain⟨x,e1,σ1⟩:=y;rw[hac]at h;dsimp only at h;have vg:∀e2 σ2,(if oE then(let r:=kJ (σ.length-1) (restrict (pM live x e1) e1) σ1;(r.1,r.2.tail))else(e1,σ1))=(e2,σ2) →
   ∀(ann:nv) bu code n,br P ann n bu code=some c→∀base g0 w0 b a k cs g w B,At (gS P) base ann.cn g0 w0 n b g w B env σ a →
   Ends P ann n base g0 w0 b cs g w a (.code code::.inLoop code::k) (.inLoop code::k) σ x e2 σ2:=by
  intro e2 σ2 he ann bu code n hc base g0 w0 b a k cs g w B ha;cases oE with
  |false =>
   simp only[al,if_false,ai]at he hac;obtain⟨rfl,rfl⟩:=he;exact mB hm hO code hc hac (ha.restrict live)
  |true =>
   simp only[if_true]at he hac;have ha1:At (gS P) base ann.cn g0 w0 n b g w B (restrict live env) ([]::σ) a :=
    {ha.restrict live with inv:=ha.inv.push,low:=ha.low.push ha.inv,pos:=by simp }
   obtain⟨g1,w1,B1,a1,todo,k1,k2,k3,k4,k5⟩:=mB (cs:=cs) (k:=.inLoop code::k) hm hO code hc hac ha1;have hents:=k2.fr.b9 (pM live x e1);obtain⟨g2,i2,ev2,hents2⟩:=zY (CR:=gS P) (base:=base) (σ.length-1) _ σ1 g1 k2.inv hents;obtain⟨hlow,hgo⟩:=vG (σ.length-1) (restrict (pM live x e1) e1) σ1;cases hfz:kJ (σ.length-1) (restrict (pM live x e1) e1) σ1 with
   |mk e3 σ3 =>
   rw[hfz]at he i2 hents2 hlow hgo;simp only[ai]at he;obtain⟨rfl,rfl⟩:=he;have hl3:kX σ3:=hgo.low k2.low;have hlen3:σ3.length=σ.length+1:=by
    have h1:=hgo.len;have h2:=k5.len;simp at h1 h2;omega
   cases σ3 with
   |nil=>simp at hlen3
   |cons s σ2 =>
   have hlen2:σ2.length=σ.length:=by simpa using hlen3
   have hpos:=ha.pos;rw[show σ.length-1+1=σ2.length from by omega]at hlow;have hlvl:∀l i L,g.loc l i=some L→l<σ2.length:=fun l i L h=>by rw[hlen2];exact ha.inv.lvl h
   have hlvl0:∀l i L,g0.loc l i=some L→l<σ2.length:=fun l i L h=>by
    obtain⟨L',h',_⟩:=ha.ev.le.loc l i L h;exact hlvl l i L' h'
   obtain⟨i3,l3⟩:=i2.pop hl3;obtain⟨rs,hmk⟩:=k2.marks;have hmk2:=hmk.ev ev2;have hle:g.le (g2.cut σ2.length):=Up (k3.trans' ev2.le) hlvl;refine⟨g2.cut σ2.length,w1,B1,a1,todo,k1.map fun d v hcl hv=>(hv.mono ev2.le).cut (mg hcl),⟨vW.fr k2.fr fun p hp=>(hents2 p hp).cut (hlow p hp),(k2.ev.trans ev2).cut hlvl0,i3,l3,by simpa[hlen2]using hpos,k2.size,⟨rs,hmk2.eq,hmk2.nodup,fun r hr=>?_⟩,nC ha.round hle⟩,hle,k4,⟨hlen2,fun _=>l3⟩⟩;have:=hmk2.all r hr;exact⟨this.lo,fun hh=>this.free (G.wR hh),this.lD,this.bu⟩
 cases hfin:(if oE then(let r:=kJ (σ.length-1) (restrict (pM live x e1) e1) σ1;(r.1,r.2.tail))else(e1,σ1))with
 |mk e2 σ2 =>
 have turn':=vg e2 σ2 hfin;rw[hfin]at h;dsimp only at h;cases x with
 |normal =>
  dsimp only at h;have hans:=hO _ _ h;cases r with
  |val=>trivial
  |eR=>trivial
  |tJ x e' σ' =>
   obtain⟨hx,hloop⟩:=hans;refine⟨hx,fun ann bu code n hc base g0 w0 b a k cs g w B ha=>?_⟩;obtain⟨g1,w1,B1,a1,todo,k1,k2,k3,k4,k5⟩:=turn' ann bu code n hc base g0 w0 b a k cs g w B ha;obtain rfl:=k4;obtain⟨g2,w2,B2,a2,todo2,m1,m2,m3,m4,m5⟩:=hloop ann bu code n hc base g0 w0 b a1 k cs g1 w1 B1 k2;exact⟨g2,w2,B2,a2,todo2,m1.imp fun _ hs=>Steps.trans k1 (.head stepR_inLoop hs),m2,k3.trans' m3,m4,k5.trans m5⟩
 |exit id =>
  cases h;refine⟨by simp,fun ann bu code n hc base g0 w0 b a k cs g w B ha=>?_⟩;obtain⟨g1,w1,B1,a1,todo,k1,k2,k3,k4,k5⟩:=turn' ann bu code n hc base g0 w0 b a k cs g w B ha;exact⟨g1,w1,B1,a1,todo,k1,k2,k3,k4.skip (fun _=>by simp) (by simp),k5⟩
 |ret =>
  cases h;refine⟨by simp,fun ann bu code n hc base g0 w0 b a k cs g w B ha=>?_⟩;obtain⟨g1,w1,B1,a1,todo,k1,k2,k3,k4,k5⟩:=turn' ann bu code n hc base g0 w0 b a k cs g w B ha;exact⟨g1,w1,B1,a1,todo,k1,k2,k3,k4.skip (fun _=>by simp) (by simp),k5⟩
 |eR d =>
  cases h;refine⟨by simp,fun ann bu code n hc base g0 w0 b a k cs g w B ha=>?_⟩;obtain⟨g1,w1,B1,a1,todo,k1,k2,k3,k4,k5⟩:=turn' ann bu code n hc base g0 w0 b a k cs g w B ha;exact⟨g1,w1,B1,a1,todo,k1,k2,k3,trivial,k5⟩
theorem x7{g:G}:∀(ts:List Nat) (ds:List D) (vs:List Value) (e:Env) (tmps:Array Value),aY g ds vs→ds.length=ts.length→(∀t∈ts,t<tmps.size)→pE g e tmps →
  pE g (rE ts ds e) ((ts.zip vs).foldl (fun tmps (t,a)=>tmps.setIfInBounds t a) tmps)∧((ts.zip vs).foldl (fun tmps (t,a)=>tmps.setIfInBounds t a) tmps).size=tmps.size
 |[],ds,vs,e,tmps,hr,hl,hs,he=>by
  have:ds=[]:=by simpa using hl
  subst this;exact⟨he,rfl⟩
 |t::ts,[],vs,e,tmps,hr,hl,hs,he=>by simp at hl
 |t::ts,d::ds,vs,e,tmps,hr,hl,hs,he=>by
  cases hr with
  |cons _ c _ cs h1 h2 =>
   have he2:pE g ((t,d)::e) (tmps.setIfInBounds t c):=fun u=>by
    simp only[get];rw[bz];by_cases hu:t=u
    ·subst hu;rw[if_pos rfl];simpa[hs t (by simp)]using h1
    ·rw[if_neg hu,Array.getElem?_setIfInBounds_ne hu,← bz];exact he u
   obtain⟨k1,k2⟩:=x7 ts ds cs ((t,d)::e) (tmps.setIfInBounds t c) h2 (by simpa using hl) (fun u hu=>by simpa using hs u (by simp[hu])) he2;exact⟨k1,by simpa using k2⟩
theorem pE.fr{g:G}{w:World}{e:Env}{tmps:Array Value}{fb:Nat}{V:List Nat}{B:Nat→Nat}(h:pE g e tmps):Fr fb V g w B e tmps:=by
 have hno:∀t s cs,get e t ≠ .own s cs:=fun t s cs=>D0 (h t) s cs
 refine⟨fun t=>?_,fun t s cs ht=>absurd ht (hno t s cs),fun t t' s s' cs cs' ht=>absurd ht (hno t s cs)⟩;have:=h t;cases hd:get e t with
 |own s cs=>trivial
 |vr=>rw[hd]at this;cases this
 |emp=>rw[hd]at this;cases this
 |_=>rw[hd]at this;exact this
theorem ou.steps{S:Frame→Prop}{g:G}{b:Frame}{a:Act}{todo:List Item}{x:Exit}(hx:∀d,x ≠ .eR d)(h:ou S g b a todo x):S (b.atR a todo):=by
 cases x with
 |eR d=>exact absurd rfl (hx d)
 |_=>exact h
theorem BH(hm:P.follows .mixedOrders=true)(hO:pR P (gS P) O){l i:Nat}{args:List D}{σ:SK}{r:R}
  (h:cc T O (.round l i args σ)=some r):vV P (gS P) (.round l i args σ) r:=by
 simp only[cc]at h;split at h
 case h_2=>cases h
 rename_i lp hlp;split at h
 case isFalse=>cases h
 rename_i hlen;split at h
 case h_2=>cases h
 rename_i e1 σ1 hasg;split at h
 case h_2=>cases h
 rename_i lp1 hlp1;split at h
 case isFalse=>cases h
 rename_i hst;split at h
 case h_2=>cases h
 rename_i x e2 s σ2 hbody;split at h
 case h_2=>cases h
 rename_i lp2 hlp2;have hxt:∀d,x ≠ .eR d:=by
  intro d hd;subst hd;cases h
 have walk:∀base g w (vs:Array Value) b,Inv (gS P) base g σ w→kX σ→0<σ.length→aY g args vs.toList→a8 g (.iN l i) (.func (.yield b) #[] #[]) →
   ∃f tmps q8 body,(Instr.yield b vs).run P w=.ok (.round b f tmps q8 body) w∧∀cs,∃fb a' todo g' w' r2,Steps P (lone (Frame.round b f tmps q8 body .normal) cs w) (lone (Frame.atR fb a' todo) cs w') ∧
    fb.roundOf=some b∧fb.kind=.normal∧rN [] x todo∧Ev g w g' w'∧Inv (gS P) base g' σ2 w'∧kX σ2∧σ2.length=σ.length∧g'.loc l i=some (.lp b)∧w'.heap[b]?=some (.loop r2)∧qI (gS P) g' lp2 r2:=by
  intro base g w vs b hi hl hp hr hy;cases hy with
  |iN _ _ _ hL =>
  obtain⟨b0,hb0,hrel⟩:=hi.o8 l i _ hL;rw[hlp]at hb0;cases hb0;obtain⟨r,hheap,hR⟩:=hrel;have hpar:r.params.toList=lp.params:=hR.params;have hsize:vs.size=r.params.size:=by
   have h1:=hr.length;have h2:r.params.toList.length=lp.params.length:=by rw[hpar]
   simp at h1 h2;omega
  have hyield:=run_yield (P:=P) hheap hsize;have hfold:(r.params.zip vs).foldl (fun tmps (t,a)=>tmps.setIfInBounds t a) r.tmps=(lp.params.zip vs.toList).foldl (fun tmps (t,a)=>tmps.setIfInBounds t a) r.tmps:=by
   rw[← Array.foldl_toList,Array.toList_zip,hpar]
  rw[hfold]at hyield;obtain⟨hrelE,hsizeE⟩:=x7 lp.params args vs.toList lp.env r.tmps hr hlen hR.small hR.env;obtain⟨ann,bu,hboth⟩:∃ann bu,br P ann r.tmps.size bu _=some _:=hR.both;simp only[br]at hboth;split at hboth
  case h_2=>cases hboth
  rename_i C' A' B' hC hA hB;cases hboth;refine⟨_,_,_,_,hyield,fun cs=>?_⟩;generalize htm:(lp.params.zip vs.toList).foldl (fun tmps (t,a)=>tmps.setIfInBounds t a) r.tmps=tm at hrelE hsizeE
  let fb:Frame:=Frame.round b r.fn tm r.assign r.body .normal
  have hfr:Frame.round b r.fn tm r.assign r.body .normal=fb.atR ⟨tm,[]⟩ [.code r.assign,.beginRound,.code r.body]:=rfl;have ha:At (gS P) base ann.cn g w r.tmps.size fb g w (fun _=>0) (rE lp.params args lp.env) ([]::σ) ⟨tm,[]⟩ :=
   ⟨hrelE.fr,Ev.refl g w,hi.push,hl.push hi,by simp,hsizeE,⟨[],rfl,List.nodup_nil,by simp[ni,fb,Frame.round]⟩,.inr ⟨b,l,i,rfl,hL⟩⟩
  obtain⟨g1,w1,B1,a1,t1,k1,k2,k3,k4,k5⟩:=mB (b:=fb) (cs:=cs) (k:=[.beginRound,.code r.body]) hm hO r.assign hA hasg ha;obtain rfl:=k4;obtain⟨L1,hL1,hle1⟩:=k3.loc l i _ hL;rw[Loc.DT hle1]at hL1;obtain⟨b1,hb1,hrel1⟩:=k2.inv.o8 l i _ hL1;rw[hlp1]at hb1;cases hb1;obtain⟨r1,hheap1,hR1⟩:=hrel1;have hready:r1.state=.ready:=by rw[hR1.state,hst];rfl
  have hbegin:=run_beginRound (P:=P) hheap1 hready;obtain⟨i2,ev2⟩:=k2.inv.Ar (r:={r1 with state:=.busy }) (lp:={lp1 with state:=1 }) hL1 hlp1 ⟨rfl,hR1.oV,hR1.env,hR1.params,hR1.small,hR1.both⟩;have hgo2:dH σ1 (aN σ1 l i (.loop {lp1 with state:=1 })):=⟨cI,fun h=>h.set fun hl=>(h l i _ hlp1 hl:aF.low (l+1) (.loop lp1))⟩;have ha2:=k2.go ev2 i2 hgo2 (k2.fr.ev ev2) rfl rfl;obtain⟨g3,w3,B3,a3,t3,m1,m2,m3,m4,m5⟩:=mB (b:=fb) (cs:=cs) (k:=[]) hm hO r.body hB hbody ha2;have hlen2:σ2.length=σ.length:=by
   have h1:=m5.len;have h2:=hgo2.len;have h3:=k5.len;simp at h1 h2 h3;omega
  have hlvl:∀l i L,g.loc l i=some L→l<σ2.length:=fun l i L h=>by rw[hlen2];exact hi.lvl h
  obtain⟨i3,l3⟩:=m2.inv.pop m2.low;obtain⟨L3,hL3,hle3⟩:=(k3.trans' (ev2.le.trans' m3)).loc l i _ hL;rw[Loc.DT hle3]at hL3;have hL3':(g3.cut σ2.length).loc l i=some (.lp b):=by rw[G.lW (hlvl l i _ hL)];exact hL3
  obtain⟨b3,hb3,hrel3⟩:=i3.o8 l i _ hL3';rw[hlp2]at hb3;cases hb3;obtain⟨r3,hheap3,hR3⟩:=hrel3;refine⟨fb,a3,t3,g3.cut σ2.length,w3,r3,?_,rfl,rfl,m4,m2.ev.cut hlvl,i3,l3,hlen2,hL3',hheap3,hR3⟩;rw[hfr];exact Steps.trans k1 (.head (stepR_beginRound rfl hbegin) (m1.steps hxt))
 have fin:∀(bv:Bool) (st:Nat) (pd:Option Exit) (jump:Option Code),sF pd=some jump→bv=jump.isNone→st=(if jump.isNone then 0 else 2) →
   (∀(fb:Frame) (a':Act) (todo:List Item) (c:Frame) (cs:List Frame) (w' w2:World) (b:Nat),fb.roundOf=some b→fb.kind=.normal→rN [] x todo→(Instr.endRound b jump).run P w'=.ok (.bool bv) w2 →
    step P (lone (Frame.atR fb a' todo) (c::cs) w')=.next (lone (c.finish (.bool bv)) cs w2)) →
   Dw P (gS P) l i args σ (.bool bv) (aN σ2 l i (.loop {lp2 with state:=st,oV:=pd })):=by
  intro bv st pd jump hpd hbv hstv hend;refine⟨⟨lp,hlp⟩,fun base g w vs b hi hl hp hr hy=>?_⟩;obtain⟨f,tmps,q8,body,hyield,hwalk⟩:=walk base g w vs b hi hl hp hr hy;refine⟨?_,f,tmps,q8,body,hyield,fun c cs=>?_⟩
  ·obtain⟨_,_,_,_,_,_,_,_,_,_,_,_,h7,h8,_⟩:=hwalk [];exact⟨cI.trans h8,fun _=>h7.set fun hl=>(h7 l i _ hlp2 hl:aF.low (l+1) (.loop lp2))⟩
  ·obtain⟨fb,a',todo,g',w',r2,k1,k2,k3,k4,k5,k6,k7,k8,k9,k10,k11⟩:=hwalk (c::cs);have hrun:=run_endRound (P:=P) jump k10;rw[← hbv]at hrun;have hR2:qI (gS P) g' {lp2 with state:=st,oV:=pd } {r2 with state:=if jump.isNone then .ready else .done,pending:=jump } :=
    ⟨by rw[hstv];cases jump<;>rfl,hpd,k11.env,k11.params,k11.small,k11.both⟩
   obtain⟨i4,ev4⟩:=k6.Ar k9 hlp2 hR2;exact⟨.bool bv,g',_,.trans k1 (.one (hend fb a' todo c cs w' _ b k2 k3 k4 (by rw[hbv];rw[hbv]at hrun;exact hrun))),k5.trans ev4,i4,.bool bv⟩
 cases x with
 |normal =>
  dsimp only at h;cases h;exact fin true 0 none none rfl rfl rfl fun fb a' todo c cs w' w2 b h1 h2 h3 h4=>by
   obtain rfl:=h3;exact stepR_round_end h1 h2 h4
 |exit id =>
  dsimp only at h;cases h;exact fin false 2 (some (.exit id)) (some (.exit id)) rfl rfl rfl fun fb a' todo c cs w' w2 b h1 h2 h3 h4=>by
   obtain⟨k',rfl,hk⟩:=h3;exact stepR_round_exit h1 h2 (by rw[hk];rfl) h4
 |ret =>
  dsimp only at h;cases h;exact fin false 2 (some .ret) (some .ret) rfl rfl rfl fun fb a' todo c cs w' w2 b h1 h2 h3 h4=>by
   obtain⟨k',rfl⟩:=h3;exact stepR_round_ret h1 h2 h4
 |eR d=>exact absurd rfl (hxt d)
theorem BR(hT:Ud P T)(hm:P.follows .mixedOrders=true)(hO:pR P (gS P) O):pR P (gS P) (cc T O):=fun q r h=>by
 cases q with
 |call kp f args σ=>exact Ck hT hm hO h
 |loop live oE c e σ=>exact CB hm hO h
 |round l i args σ=>exact BH hm hO h
 |ew live it nx ok b c rest e σ=>exact BB hm hO h
 |so f args th σ=>exact AZ hT hm hO h
theorem Bw(hT:Ud P T)(hm:P.follows .mixedOrders=true):∀n,pR P (gS P) (it T n)
 |0=>fun q r h=>by simp[it]at h
 |n+1=>BR hT hm (Bw hT hm n)
theorem EG(hT:Ud P T)(hm:P.follows .mixedOrders=true):pR P (gS P) (bG T):=fun q r h=>by
 unfold bG at h;split at h
 ·rename_i hex;cases h;exact Bw hT hm _ _ _ hex.choose_spec.choose_spec
 ·cases h
end
end Go.Abs
