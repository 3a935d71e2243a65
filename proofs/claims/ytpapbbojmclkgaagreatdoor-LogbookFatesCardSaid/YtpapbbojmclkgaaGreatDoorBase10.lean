import Derived.Test.YtpapbbojmclkgaaGreatDoorBase9
import Derived.Recover
set_option linter.all false
namespace Go.Abs
open Go
def wi(P:Program)(CR:fe)(f:Nat)(args:List D)(J:SK)(d:D)(J':SK):Prop :=
 (∃F c,P.funcs[f]?=some F/\F.name ≠ "runtime.NumGoroutine" /\ F.body=some c) /\
 ∀base g w vs,Inv CR base g J w->pI J->0<J.length->bN g args vs.toList ->
  fP J J'/\Calls P f vs w (λe w'=>∃v g',e=.returned v/\Ev g w g' w'/\Inv CR base g' J' w'/\bQ g' d v)
def Y9(P:Program)(CR:fe)(f:Nat)(args:List D)(J:SK)(d:D)(J':SK):Prop :=
 d.clean=true/\(∃F c,P.funcs[f]?=some F/\F.name ≠ "runtime.NumGoroutine" /\ F.body=some c) /\
 ∀base g w vs,Inv CR base g J w->pI J->0<J.length->bN g args vs.toList ->
  fP J J'/\Calls P f vs w (λe w'=>∃v g',e=.panicked [{v,recovered:=false }]/\Ev g w g' w'/\Inv CR base g' J' w'/\bQ g' d v)
def RC(g:G):Option D->FrameMode->Prop
 |none,u=>u=.returning
 |some d,u=>∃v,bQ g d v/\u=.panicking [{v,recovered:=false }]
def Y2(P:Program)(CR:fe)(f:Nat)(args:List D)(th:Option D)(J J':SK):Prop :=
 (∃F c,P.funcs[f]?=some F/\F.name ≠ "runtime.NumGoroutine" /\ F.body=some c) /\
 ∀base g w vs u,Inv CR base g J w->pI J->0<J.length->bN g args vs.toList->RC g th u ->
  fP J J'/\CallsD P f vs u w (λe u' w'=>∃v g',e=.returned v/\settle u'=.returning/\Ev g w g' w'/\Inv CR base g' J' w')
def R4(P:Program)(CR:fe)(l i:Nat)(args:List D)(J:SK)(d:D)(J':SK):Prop :=
 (∃lp,ea J l i=some (.loop lp))/\∀base g w vs b,Inv CR base g J w->pI J->0<J.length->bN g args vs.toList->bQ g (.kV l i) (.func (.yield b) #[] #[]) ->
  fP J J'/\∃f tmps BL body,(Instr.yield b vs).run P w=.ok (.round b f tmps BL body) w /\
   ∀c cs,∃v g' w',Steps P (lone (Frame.round b f tmps BL body .normal) (c::cs) w) (lone (c.finish v) cs w')/\Ev g w g' w'/\Inv CR base g' J' w'/\bQ g' d v
def Cw(k:List Item):Exit->List Item->Prop
 |.normal,t=>t=k
 |.exit id,t=>∃k',t=.code (.exit id)::k'/\exitTo id k'=exitTo id k
 |.ret,t=>∃k',t=.code .ret::k'
 |.ft _,_=>True
def xi(S:Frame->Prop)(g:G)(b:Frame)(a:Act)(todo:List Item):Exit->Prop
 |.ft d=>d.clean=true/\∃v,bQ g d v/\S {b.atR a todo with mode:=.panicking [{v,recovered:=false }] }
 |_=>S (b.atR a todo)
theorem xi.imp{S S':Frame->Prop}{g:G}{b:Frame}{a:Act}{todo:List Item}{x:Exit}(h:xi S g b a todo x)(hs:∀fr,S fr->S' fr):xi S' g b a todo x:=by
 cases x with
 |ft d=>obtain⟨h0,v,h1,h2⟩:=h;exact⟨h0,v,h1,hs _ h2⟩
 |_=>exact hs _ h
def acm(P:Program)(CR:fe)(c:cb)(e:Env)(J:SK)(x:Exit)(e':Env)(J':SK):Prop :=
 x ≠ .normal/\∀(ann:sS) dC code n,cn P ann n dC code=some c->∀base g0 w0 b a k cs g w B,At CR base ann.dT g0 w0 n b g w B e J a ->
  ∃g' w' B' a' todo,xi (λfr=>Steps P (lone (b.atR a (.code code::.inLoop code::k)) cs w) (lone fr cs w')) g' b a' todo x /\
   At CR base ann.dT g0 w0 n b g' w' B' e' J' a'/\g.le g'/\Cw k x todo/\fP J J'
def VR(P:Program)(ann:sS)(n dC:Nat)(rest:cb):Option Code->Prop
 |none=>rest=.IX
 |some q=>cn P ann n dC q=some rest
def Y5(P:Program)(CR:fe)(live:List Nat)(it:bP)(nx ok bid:Nat)(c rest:cb)(e:Env)(J:SK)(x:Exit)(e':Env)(J':SK):Prop :=
 ∀(ann:sS) dC rid ops p n it0 (qs:Option Code),it=.t it0->QN ann n (.loop (.seq (.region rid ops false) p))=some (it0,nx,ok)->cn P ann n bid p=some c->VR P ann n dC rest qs ->
  ∀base g0 w0 b a k cs g w B,At CR base ann.dT g0 w0 n b g w B e J a ->
  ∃g' w' B' a' todo,xi (λfr=>Steps P (lone (b.atR a (.code (.seq (.region rid ops false) p)::.inLoop (.seq (.region rid ops false) p)::.inBlock bid::(qs.toList.map Item.code++k))) cs w) (lone fr cs w')) g' b a' todo x /\
   At CR base ann.dT g0 w0 n b g' w' B' e' J' a'/\g.le g'/\Cw k x todo/\fP J J'
def HK(P:Program)(CR:fe):Q->R->Prop
 |.call _ f args J,.val d J'=>wi P CR f args J d J'
 |.round l i args J,.val d J'=>R4 P CR l i args J d J'
 |.loop _ _ c e J,.EA x e' J'=>acm P CR c e J x e' J'
 |.call _ f args J,.ft d J'=>Y9 P CR f args J d J'
 |.iq live it nx ok bid c rest e J,.EA x e' J'=>Y5 P CR live it nx ok bid c rest e J x e' J'
 |.zg f args th J,.val _ J'=>Y2 P CR f args th J J'
 |_,_=>True
def AO(P:Program)(CR:fe)(O:bZ):Prop:=∀q r,O q=some r->HK P CR q r
theorem HI{r:Option R}{d:D}{J:SK}(h:R.dn r=some (d,J)):r=some (.val d J):=by
 unfold R.dn at h;split at h
 .cases h;rfl
 .cases h
theorem Lr{r:Option R}{x:Exit}{e:Env}{J:SK}(h:R.TM r=some (x,e,J)):r=some (.EA x e J):=by
 unfold R.TM at h;split at h
 .cases h;rfl
 .cases h
section
variable {P:Program} {CR:fe} {O:bZ} {ann:sS} {n rM:Nat} {ops:Array Oper} {base:Nat} {g0 g:G} {w0 w:World} {b:Frame} {B:Nat->Nat} {e e':Env} {J J':SK} {a:Act}
 {k:List Item} {cs:List Frame} {i:Nat} {rest:List Nat}
def Og(P:Program)(CR:fe)(ann:sS)(n:Nat)(ops:Array Oper)(base:Nat)(g0:G)(w0:World)(b:Frame)(g:G)(w:World)(a:Act)(k:List Item)(cs:List Frame)(i:Nat)(rest:List Nat)(J:SK)(e':Env)(J':SK):Prop :=
 ∃g' w' B' a',Steps P (lone (b.atR a (.inRegion ops (i::rest)::k)) cs w) (lone (b.atR a' (.inRegion ops rest::k)) cs w') /\
  At CR base ann.dT g0 w0 n b g' w' B' e' J' a'/\g.le g'/\fP J J'
theorem At.go{V:List Nat}(ha:At CR base V g0 w0 n b g w B e J a){g':G}{w':World}{B':Nat->Nat}{tm:Act}(he:Ev g w g' w')(hi:Inv CR base g' J' w')(hg:fP J J')
  (hf:Fr w0.heap.size V g' w' B' e' tm.tmps) (hs:tm.tmps.size=a.tmps.size) (hd:tm.defers=a.defers):At CR base V g0 w0 n b g' w' B' e' J' tm where
 fr:=hf
 ev:=ha.ev.trans he
 inv:=hi
 low:=hg.low ha.low
 pos:=by rw[hg.len];exact ha.pos
 size:=by rw[hs];exact ha.size
 marks:=let ⟨rs,h⟩:=ha.marks;⟨rs,by rw[hd];exact h.ev he⟩
 round:=vb ha.round he.le
theorem DN{dst:Option Nat}{c:Value}:(a.put dst c).tmps.size=a.tmps.size:=by cases dst<;>simp[Act.put]
theorem put_defers{dst:Option Nat}{c:Value}:(a.put dst c).defers=a.defers:=by cases dst<;>simp[Act.put]
theorem O6{ann:sS}{key:Nat}{o:Oper}{kk:K}(h:kC P ann ops key o=some kk):∀c,o.op ≠ .defer c:=by
 intro c hc;unfold kC at h;rw[hc]at h;cases h
theorem Ci(ha:At CR base ann.dT g0 w0 n b g w B e J a){o:Oper}(ho:ops[i]?=some o)(hn:∀t,o.dst=some t->t<n)(hV:∀t,o.dst=some t->t ∉ ann.dT)
  {g':G} {w':World} {d:D} {c:Value} (hsteps:Steps P (lone (b.atR a (.inRegion ops (i::rest)::k)) cs w) (lone (b.atR (a.put o.dst c) (.inRegion ops rest::k)) cs w'))
  (he:Ev g w g' w') (hi:Inv CR base g' J' w') (hg:fP J J') (hr:cQ g' B e d c):
  Og P CR ann n ops base g0 w0 b g w a k cs i rest J (put o.dst d e) J':=by
 refine⟨g',w',B,a.put o.dst c,hsteps,ha.go he hi hg ?_ DN put_defers,he.le,hg⟩;exact(ha.fr.ev he).put hr hV λt ht=>by rw[ha.size];exact hn t ht
theorem jL{ρ:Operand->Value}{f:Operand}{args:Array Operand}{ts:Array TypeId}{ty:TypeId}{fn:Go.Fn}{first cap:Array Value}(hf:ρ f=.func fn first cap)(w:World):
  (resolve ρ {callee:=.value f,args,argTypes:=ts } ty).run P w=.ok {target:=.fn fn cap,args:=first++args.map ρ } w:=by
 simp[resolve,Deferred.ofValue,hf]
theorem xz{f:FuncId}{args:Array Value}{F:Func}(h1:P.funcs[f]?=some F)(h2:F.name ≠ "runtime.NumGoroutine"){c:Code}(h3:F.body=some c)(w:World):
  (callFunc f args).run P w=.ok (.enter f args) w:=by
 simp[callFunc,program,Sem.run,h1,h2,h3]
theorem GG{xs:Array Operand}{Xs:List bP}{fb:Nat}{V:List Nat}{tmps:Array Value}{df:List Deferred}(hf:Fr fb V g w B e tmps)(hx:xa xs.toList=some Xs):
  bN g (Xs.map (Abs.bz e)) (xs.map (Act.mk tmps df).eval).toList:=by
 have:=hf.adm (df:=df) hx;simpa using this
theorem Sb(hO:AO P CR O)(ha:At CR base ann.dT g0 w0 n b g w B e J a){o:Oper}(ho:ops[i]?=some o)(hw:Region.wanted o (yielded ops a.tmps)=true)
  (hn:∀t,o.dst=some t->t<n) (hV:∀t,o.dst=some t->t ∉ ann.dT) {f:Operand} {args:Array Operand} {ts:Array TypeId} (hop:o.op=.call {callee:=.value f,args,argTypes:=ts })
  {F:bP} {Xs:List bP} (hF:bO f=some F) (hX:xa args.toList=some Xs) {kp:Bool} {d:D} (h:nV O kp (bz e F) (Xs.map (bz e)) J=some (d,J')):
  Og P CR ann n ops base g0 w0 b g w a k cs i rest J (put o.dst d e) J':=by
 obtain⟨tmps,df⟩:=a;have hd:∀c,o.op ≠ .defer c:=by intro c hc;rw[hop]at hc;cases hc
 have hfv:=ha.fr.bz (df:=df) hF;have hxs:=GG (df:=df) ha.fr hX;unfold nV at h;split at h
 .rename_i fi first cap hfe
  rw[hfe]at hfv;have hans:=hO _ _ (HI h);obtain⟨⟨Fn,cd,hfn1,hfn2,hfn3⟩,hcall⟩:=hans;generalize hev:(Act.mk tmps df).eval f=fv at hfv;cases hfv with
  |fn _ _ _ first' cap' r1 r2 =>
   have hrun:(execOp (Act.mk tmps df).eval o).run P w=.ok (.enter fi (first'++args.map (Act.mk tmps df).eval++cap')) w:=by
    simp only[execOp,hop,Sem.run_bind,jL hev,Result.andThen_ok,invoke,xz hfn1 hfn2 hfn3]
   have hargs:bN g (first++Xs.map (bz e)++cap) (first'++args.map (Act.mk tmps df).eval++cap').toList:=by
    simpa using(r1.append hxs).append r2
   obtain⟨hgo,hcalls⟩:=hcall base g w _ ha.inv ha.low ha.pos hargs;obtain⟨en,w',fr,⟨v,g',rfl,he,hi,hr⟩,hcomes,hfr,hleave⟩:=hcalls (b.atR ⟨tmps,df⟩ (.inRegion ops (i::rest)::k)::cs);refine Ci ha ho hn hV (Steps.head (KA ho hw hd hrun) (Steps.trans hcomes (Steps.one ?_))) he hi hgo (cQ.of hr);rw[step_leave_returned hleave,D6 ho]
 .rename_i l j hfe;rw[hfe]at hfv;have hans:=hO _ _ (HI h);generalize hev:(Act.mk tmps df).eval f=fv at hfv;have hfv0:=hfv;cases hfv with
  |SA _ _ bb r1 =>
   obtain⟨⟨lp,hlp⟩,_⟩:=hans;obtain⟨b0,hb0,hrel⟩:=ha.inv.xm _ _ _ r1;rw[hlp]at hb0;cases hb0;exact hrel.elim
  |WI _ _ bb L r1 r2 =>
   obtain⟨⟨lp,hlp⟩,_⟩:=hans;obtain⟨b0,hb0,hrel⟩:=ha.inv.xm _ _ _ r1;rw[hlp]at hb0;cases hb0;rcases r2 with rfl | rfl<;>exact hrel.elim
  |TH _ _ bb L r1 r2 =>
   obtain⟨⟨lp,hlp⟩,_⟩:=hans;obtain⟨b0,hb0,hrel⟩:=ha.inv.xm _ _ _ r1;rw[hlp]at hb0;cases hb0;rcases r2 with⟨c,rfl⟩ | rfl<;>exact hrel.elim
  |kV _ _ bb r1 =>
   obtain⟨hgo,f0,tm0,BL,body,hy,hround⟩:=hans.2 base g w (args.map (Act.mk tmps df).eval) bb ha.inv ha.low ha.pos (by simpa using hxs) hfv0;have hrun:(execOp (Act.mk tmps df).eval o).run P w=.ok (.round bb f0 tm0 BL body) w:=by
    simp only[execOp,hop,Sem.run_bind,jL hev,Result.andThen_ok,invoke];simpa using hy
   obtain⟨v,g',w',hsteps,he,hi,hr⟩:=hround (b.atR ⟨tmps,df⟩ (.inRegion ops (i::rest)::k)) cs;refine Ci ha ho hn hV (Steps.head (Rb ho hw hd hrun) ?_) he hi hgo (cQ.of hr);rw[D6 ho]at hsteps;exact hsteps
 .cases h
end
section
variable {P:Program} {CR:fe} {O:bZ} {ann:sS} {n rM:Nat} {ops:Array Oper} {base:Nat} {g0 g:G} {w0 w:World} {b:Frame} {B:Nat->Nat} {e e':Env} {J J':SK} {a:Act}
 {k:List Item} {cs:List Frame} {i:Nat} {rest:List Nat}
theorem Xg(ha:At CR base ann.dT g0 w0 n b g w B e J a){o:Oper}(ho:ops[i]?=some o)(hw:Region.wanted o (yielded ops a.tmps)=true)(hd:∀c,o.op ≠ .defer c)
  {v:Nat} (hdst:o.dst=some v) (hV:v∈ann.dT) (hn:v<n) {g1:G} {ds:List D} {ca:Array Value} {el:TypeId}
  (hrun:(execOp a.eval o).run P w=.ok (.value (.pointer (some ⟨w.heap.size,0,none⟩))) (w.alloc (.cells ca el)))
  (i1:Inv CR base g1 J' w) (e1:Ev g w g1 w) (hg:fP J J') (hr:bN g1 ds ca.toList) (h1:∀x∈ca.toList,x.oneCell'=true):
  Og P CR ann n ops base g0 w0 b g w a k cs i rest J ((v,.own (tZ e v) ds)::e) J':=by
 obtain⟨tmps,df⟩:=a;have i2:=i1.alloc (.cells ca el);have e2:=e1.trans (Ev.alloc g1 w (.cells ca el));have hsteps:=yV (P:=P) (b:=b) (a:=⟨tmps,df⟩) (k:=k) (cs:=cs) (rest:=rest) ho hw hd hrun rfl;rw[hdst]at hsteps;have hsz:v<tmps.size:=by have:=ha.size;simp only at this;omega
 refine⟨g1,_,_,_,.one hsteps,ha.go e2 i2 hg ((ha.fr.ev e2).adu hV hsz ⟨ha.ev.size,λhb=>?_,λo=>?_,ca,el,sy,hr,h1⟩ λt s cs' ht=>?_) DN put_defers,e2.le,hg⟩
 .exact Nat.lt_irrefl _ (i1.Wu hb)
 .cases hh:g1.nP w.heap.size o with
  |none=>rfl
  |some x=>exact absurd (i1.jf hh) (Nat.lt_irrefl _)
 .have:=(ha.fr.own t s cs' ht).2.2.lt;omega
theorem aem(ha:At CR base ann.dT g0 w0 n b g w B e J a){o:Oper}(ho:ops[i]?=some o)(hw:Region.wanted o (yielded ops a.tmps)=true)
  (hn:∀t,o.dst=some t->t<n) (hV:∀t,o.dst=some t->t ∉ ann.dT) {t:TypeId} {x v:Nat} {y:Operand} {Y:bP} (hop:o.op=.store t (.tmp x) y) (hy:bO y=some Y) {sz:Nat} (hsz:dz P t=some sz)
  {s off:Nat} {cv p p':List D} {nb:List (Nat×Nat)} (hin:pU e v x=some (s,cv,off)) (hp:(bz e Y).cells=some p) (hlen:p.length=sz/\off+sz<=cv.length)
  (hnb:j7 nb p J=some (p',J')) (hdst:o.dst=none):
  Og P CR ann n ops base g0 w0 b g w a k cs i rest J ((v,.own s (cv.take off++p'++cv.drop (off+sz)))::e) J':=by
 obtain⟨tmps,df⟩:=a;have hd:∀c,o.op ≠ .defer c:=by intro c hc;rw[hop]at hc;cases hc
 obtain⟨hgv,hpx⟩:=ha.fr.pU hin;obtain⟨hvV,hptr,hob⟩:=ha.fr.own v s cv hgv;obtain⟨ca,el,hheap,hrl,h1c⟩:=hob.dC;obtain⟨hrp,h1p⟩:=(ha.fr.bz (df:=df) hy).cells hp;obtain⟨g1,i1,e1,r1⟩:=yL nb _ _ _ _ g _ hnb ha.inv hrp;obtain⟨_,hp'len,_⟩:=Cj nb _ _ _ _ hnb;have hpl:((Act.mk tmps df).eval y).cells.toList.length=sz:=by rw[<- r1.length,hp'len];exact hlen.1
 have hpl':((Act.mk tmps df).eval y).cells.size=sz:=by simpa using hpl
 have hcl:ca.size=cv.length:=by have:=hrl.length;simpa using this.symm
 obtain⟨w',c',hrun,hb',hs',hc',hother,hsize,ho1,ho2,ho3⟩:=GM (P:=P) (t:=t) (w:=w) (b:=B v) (o:=off) (v:=(Act.mk tmps df).eval y) hsz (by simpa using hpl) h1p hheap (by omega);have hob1:=hob.ev e1;have hcv:(Act.mk tmps df).eval (.tmp x)=.pointer (some ⟨B v,off,none⟩):=hpx;have hrunO:(execOp (Act.mk tmps df).eval o).run P w=.ok .skip w':=by
  simp[execOp,hop,Instr.storeAt,hcv,Instr.sureAddr,hrun]
 have hoth:∀b',b'≠B v->w'.heap[b']?=w.heap[b']?:=hother;have i2:Inv CR base g1 J' w':=i1.IS (λb' hb'' hk=>hoth b' λhh=>by
  subst hh;rcases hk with hk | ⟨o2,v2,hk⟩
  .exact hob1.free hk
  .rw[hob1.pW]at hk;cases hk) (by omega)
 have hwrite:bN g1 (cv.take off++p'++cv.drop (off+sz)) c'.toList/\∀z∈c'.toList,z.oneCell'=true:=by
  have hrow:=Hz (c:=ca) (c':=c') (bo:=0) (off:=off) (vs:=ca.toList) (ps:=((Act.mk tmps df).eval y).cells.toList) (λj z hz=>⟨by simpa using hz,h1c z (aj hz)⟩) h1p (by simp;omega)
   (by rw[hpl];simpa using hc')
  rw[hpl]at hrow;have hrel:=(((hrl.mono e1.le).take off).append r1).append ((hrl.mono e1.le).drop (off+sz));have heq:c'.toList=ca.toList.take off++((Act.mk tmps df).eval y).cells.toList++ca.toList.drop (off+sz):=by
   have hll:(ca.toList.take off++((Act.mk tmps df).eval y).cells.toList++ca.toList.drop (off+sz)).length=c'.toList.length:=by
    simp only[bB,hpl,dp,List.length_drop,Array.length_toList,hs'];omega
   apply ez;intro j;by_cases hj:j<c'.toList.length
   .have hj2:=hj;rw[<- hll]at hj2;have:=(hrow j _ (aI hj2)).1;rw[aI hj2];simpa using this
   .rw[dI (by omega),dI (by omega)]
  rw[heq];refine⟨hrel,λz hz=>?_⟩;simp only[aX]at hz;rcases hz with(hz | hz) | hz
  .exact h1c z (dr hz)
  .exact h1p z hz
  .exact h1c z (dU hz)
 have hob2:KJ w0.heap.size g1 w' (B v) (cv.take off++p'++cv.drop (off+sz)):=⟨hob1.lo,hob1.free,hob1.pW,c',el,hb',hwrite.1,hwrite.2⟩;have hsteps:=yV (P:=P) (b:=b) (a:=⟨tmps,df⟩) (k:=k) (cs:=cs) (rest:=rest) ho hw hd hrunO rfl;rw[hdst]at hsteps;have hgo:=su _ _ _ _ _ hnb;refine⟨g1,w',B,⟨tmps,df⟩,.one hsteps,⟨?_,?_,i2,hgo.low ha.low,by rw[hgo.len];exact ha.pos,ha.size,?_,vb ha.round e1.le⟩,e1.le,hgo⟩
 .exact(ha.fr.ev e1).Q3 hgv hob2 λb' _ hne=>hoth b' hne
 .have h0:=ha.ev.trans e1;refine⟨h0.le,ho1.trans h0.os,ho2.trans h0.tape,ho3.trans h0.output,by have:=h0.size;omega,λb' hb'' hnb'=>?_,h0.UI,h0.KS⟩;rw[hoth b' (by have:=hob.lo;omega)];exact h0.kept b' hb'' hnb'
 .obtain⟨rs,hm⟩:=ha.marks;have hm1:=hm.ev e1;refine⟨rs,hm1.eq,hm1.nodup,λr hr=>?_⟩;have hmr:=hm1.all r hr;refine⟨hmr.lo,hmr.free,hmr.pW,?_⟩;rw[hoth r,hmr.dC];intro hh;subst hh;have:=hmr.dC;rw[hheap]at this;cases this
def KEq(P:Program)(ann:sS)(o:Oper)(kk:K):Prop :=
  match kk with
  |.call _ F Xs=>∃f args ts,o.op=.call {callee:=.value f,args,argTypes:=ts }/\bO f=some F/\xa args.toList=some Xs
  |.BJ _ z=>∃el v,o.op=.alloc el/\pX P el=some z/\o.dst=some v/\v∈ann.dT
  |.Fl X=>∃t x v,o.op=.box t x/\bO x=some X/\o.dst=some v/\v∈ann.dT
  |.HF _ _ sz x Y=>∃t y,o.op=.store t (.tmp x) y/\bO y=some Y/\dz P t=some sz
  |.Xh X=>∃y,o.op=.panic y/\bO y=some X
  |.PX=>∃args ts,o.op=.call {callee:=.builtin .recover,args,argTypes:=ts }
  |_=>True
theorem QI{X Y:bP}{t:TypeId}{bo:BinOp}{kk:K}{o:Oper}(hk:eqC P bo t X Y=some kk):KEq P ann o kk:=by
 unfold eqC at hk;split at hk
 case h_2=>cases hk
 split at hk
 .cases hk
 split at hk
 .obtain⟨ag,hag,rfl⟩:=ad.1 hk;trivial
 .obtain⟨ag,hag,rfl⟩:=ad.1 hk;trivial
 .cases hk
theorem WK{kk:K}{key:Nat}{o:Oper}(hk:kC P ann ops key o=some kk):KEq P ann o kk:=by
 unfold kC at hk;split at hk
 .rename_i x ho;obtain⟨X,hX,rfl⟩:=ad.1 hk;trivial
 .rename_i x ho;split at hk
  .rename_i hnil _ _;split at hk
   .obtain⟨X,hX,rfl⟩:=ad.1 hk;trivial
   .obtain⟨X,hX,rfl⟩:=ad.1 hk;trivial
  .obtain⟨X,hX,rfl⟩:=ad.1 hk;trivial
 .rename_i c x y ho;split at hk
  .rename_i c' x' y' h1 h2 h3;cases hk;trivial
  .cases hk
 .rename_i el ho;split at hk
  .rename_i z d0 hz hd0;split at hk
   .split at hk
    case h_2=>cases hk
    split at hk
    case h_2=>cases hk
    split at hk
    case h_2=>cases hk
    cases hk;trivial
   cases hk;split
   .rename_i hc;exact⟨el,d0,ho,hz,hd0,by simpa using hc⟩
   .trivial
  .cases hk
 .rename_i t x ho;split at hk
  .rename_i x' d0 hx hd0;cases hk;by_cases hc:ann.dT.contains d0=true
   .simp only[hc,if_true];exact⟨t,x,d0,ho,hx,hd0,by simpa using hc⟩
   .rw[if_neg hc];split
    .split<;>trivial
    .trivial
  .cases hk
 .rename_i t ps ho;split at hk
  .rename_i fs z ht hz;split at hk
   .rename_i hall;obtain⟨parts,hp,rfl⟩:=ad.1 hk;trivial
   .cases hk
  .rename_i n el z ht hz;split at hk
   .rename_i wd hw;obtain⟨parts,hp,rfl⟩:=ad.1 hk;trivial
   .cases hk
  .cases hk
 .rename_i t n ps ho;split at hk
  .rename_i el ht;split at hk
   .rename_i wd z d0 hw hz _;split at hk
    .rename_i hc;obtain⟨parts,hp,rfl⟩:=ad.1 hk;dsimp only;split
     .trivial
     split<;>trivial
    .cases hk
   .cases hk
  .cases hk
 .rename_i t x ho;split at hk
  .rename_i ag sz n hag hsz hx;split at hk
   .rename_i hc;simp only[af,aw]at hc;cases hk;have hxe:x=.tmp n:=by
     cases x<;>simp only[bO,ae,bP.t.injEq,reduceCtorEq,ad,and_false,exists_false]at hx;rw[hx]
    split
    .trivial
    .split
     .trivial
     .split<;>trivial
   .cases hk
  .cases hk
 .rename_i t x y ho;split at hk
  .rename_i sz n y' hsz hx hy;cases hk;have hxe:x=.tmp n:=by
    cases x<;>simp only[bO,ae,bP.t.injEq,reduceCtorEq,ad,and_false,exists_false]at hx;rw[hx]
   by_cases hc:ann.dT.contains (Iq ops 8 n)=true
   .simp only[hc,if_true];exact⟨t,y,by rw[ho,hxe],hy,hsz⟩
   .rw[if_neg hc];split<;>trivial
  .cases hk
 .rename_i b t x y u ho;split at hk
  .rename_i hx hy;cases hk;trivial
  .rename_i hx hy;exact QI hk
  .rename_i hx hy;exact QI hk
  .rename_i hx hy;exact QI hk
  .rename_i ht hx hy;split at hk<;>cases hk<;>trivial
  .rename_i ht hx hy;unfold X7 at hk;split at hk<;>cases hk<;>trivial
  .rename_i ht hx hy;split at hk
   .split at hk<;>cases hk<;>trivial
   .cases hk
  .rename_i ht hx hy;unfold X7 at hk;split at hk<;>cases hk<;>trivial
  .rename_i ht hx hy;split at hk<;>cases hk<;>trivial
  .cases hk
 .rename_i x ho;obtain⟨X,hX,rfl⟩:=ad.1 hk;trivial
 .rename_i b t x ho;obtain⟨X,hX,rfl⟩:=ad.1 hk;trivial
 .rename_i s t x ho;split at hk
  .rename_i hs ht hx;cases hk;trivial
  .split at hk<;>cases hk<;>trivial
  .split at hk<;>cases hk<;>trivial
  .split at hk
   .split at hk<;>cases hk<;>trivial
   .cases hk
  .cases hk
 .rename_i t x ho;split at hk
  .obtain⟨X,hX,rfl⟩:=ad.1 hk;trivial
  .cases hk
 .rename_i f xs ys ho;split at hk
  .rename_i hx hy;cases hk;trivial
  .cases hk
 .rename_i t x y ho;split at hk
  .rename_i el ht;split at hk
   .rename_i hw hb hz hx hy;split at hk
    .rename_i hc;cases hk;trivial
    .cases hk
   .cases hk
  .cases hk
 .rename_i t x lo hh mx ho;split at hk
  .rename_i ht hx hlo hhi hmx;obtain⟨wd,hw,rfl⟩:=ad.1 hk;trivial
  .rename_i ht hx hlo hhi hmx;obtain⟨wd,hw,rfl⟩:=ad.1 hk;have hm:mx=none:=by
    cases mx with
    |none=>rfl
    |some m=>simp[yO,ad]at hmx
   subst hm;trivial
  .rename_i ht hx hlo hhi hmx;cases hk;trivial
  .cases hk
 .rename_i s x i ho;split at hk
  .rename_i fs x' hs hx;split at hk
   .rename_i off sz hfc;split at hk
    .rename_i hpos;cases hk;trivial
    .cases hk
   .cases hk
  .cases hk
 .rename_i s x i ho;split at hk
  .rename_i fs x' hs hx;split at hk
   .rename_i f hfi;split at hk
    .rename_i hag hsz;split at hk
     .cases hk;trivial
     .cases hk
    .cases hk
   .cases hk
  .cases hk
 .rename_i t x y ho;split at hk
  .rename_i ht hx hy;obtain⟨wd,hw,rfl⟩:=ad.1 hk;trivial
  .rename_i ht hx hy;obtain⟨wd,hw,rfl⟩:=ad.1 hk;trivial
  .cases hk
 .rename_i t x y ho;split at hk
  .rename_i ht hx hy;split at hk
   .rename_i hag hsz;split at hk
    .cases hk;trivial
    .cases hk
   .cases hk
  .rename_i ht hx hy;cases hk;trivial
  .cases hk
 .rename_i x i ho;obtain⟨X,hX,rfl⟩:=ad.1 hk;trivial
 .rename_i c ho;obtain⟨callee,args,ts⟩:=c;dsimp only at hk;split at hk
  .rename_i f;split at hk
   .rename_i hf hx;cases hk;exact⟨f,args,ts,ho,hf,hx⟩
   .cases hk
  .split at hk
   .rename_i t tr x r hts ha;split at hk
    .rename_i ht hx;cases hk;trivial
    .rename_i ht hx;cases hk;trivial
    .rename_i ht hx;cases hk;trivial
    .rename_i ht;cases hk;trivial
    .rename_i ht;split at hk
     .rename_i hr;cases hk;trivial
     .cases hk
    .cases hk
   .cases hk
  .cases hk;exact⟨_,_,ho⟩
  .split at hk
   .rename_i ha;split at hk
    .rename_i hx hy;cases hk;trivial
    .cases hk
   .cases hk
  .split at hk
   .rename_i ha;split at hk
    .rename_i hx hy;cases hk;trivial
    .cases hk
   .cases hk
  .split at hk
   .rename_i t u x y hts ha;split at hk
    .rename_i ht hu hx hy;split at hk
     case isFalse=>cases hk
     split at hk
     .rename_i hw hb hz;split at hk
      .rename_i hc;cases hk;split
       .trivial
       .split
        .trivial
        .split
         .trivial
         .split<;>trivial
      .cases hk
     .cases hk
    .cases hk
   .cases hk
  .cases hk
 .rename_i t x ho;split at hk
  .obtain⟨X,hX,rfl⟩:=ad.1 hk;trivial
  .cases hk
 .rename_i x xt t ok ho;split at hk
  .cases hk
  .split at hk
   .obtain⟨z,hz,rfl⟩:=ad.1 hk;trivial
   .cases hk;trivial
  .cases hk
 .rename_i x ho;obtain⟨X,hX,rfl⟩:=ad.1 hk;exact⟨x,ho,hX⟩
 .rename_i t ho;cases hk;trivial
 .split at hk<;>cases hk<;>trivial
 .rename_i t x ho;split at hk
  .rename_i ht hx;cases hk;trivial
  .cases hk
 .rename_i x ho;split at hk
  .rename_i hx;cases hk;trivial
  .cases hk
 .rename_i t x y ok ho;split at hk
  .split at hk
   .cases hk;trivial
   .cases hk
  .cases hk
 .rename_i t m x y ho;split at hk
  .split at hk
   .cases hk;trivial
   .cases hk
  .cases hk
 .rename_i t m x y ho;split at hk
  .split at hk
   .cases hk;trivial
   .cases hk
  .cases hk
 .cases hk
theorem Ux{kk:K}(h:kk.makes=true):bR e J kk=none:=by
 cases kk<;>simp[K.makes]at h<;>rfl
theorem VZ(hO:AO P CR O)(ha:At CR base ann.dT g0 w0 n b g w B e J a){o:Oper}(ho:ops[i]?=some o)(hw:Region.wanted o (yielded ops a.tmps)=true)
  {CP:Bool} {op:Op} (hop:Un P ann n rM ops CP i o=some op) (h:wj O op e J=some (e',J')):
  Og P CR ann n ops base g0 w0 b g w a k cs i rest J e' J':=by
 unfold Un at hop;split at hop
 case h_2=>cases hop
 rename_i kk hk;split at hop
 case h_2=>cases hop
 rename_i gd hgd hdn;simp only[aH,af]at hop;obtain⟨⟨hown,hst⟩,hop⟩:=hop;cases hop;have hn:∀t,o.dst=some t->t<n:=by
  intro t ht;rw[ht]at hdn;simpa using hdn
 have hV:kk.makes=false->∀t,o.dst=some t->t ∉ ann.dT:=by
  intro hm t ht;rw[ht]at hown;simp[hm]at hown;simpa using hown
 have hd:=O6 hk;have hkeq:=WK hk;unfold wj at h;dsimp only at h;split at h
 ·
  rename_i kp F Xs;split at h
  case h_2=>cases h
  rename_i d J1 hc;split at h
  case isFalse=>cases h
  cases h;obtain⟨f,args,ts,h1,h2,h3⟩:=hkeq;exact Sb hO ha ho hw hn (hV rfl) h1 h2 h3 hc
 ·
  rename_i nb z;obtain⟨el,v,h1,h2,h3,h4⟩:=hkeq;rw[h3]at h;cases hnb:j7 nb z J with
  |none=>simp[hnb]at h
  |some x =>
   obtain⟨cs',J1⟩:=x;simp only[hnb,ae,ar]at h;obtain⟨rfl,rfl⟩:=h;obtain⟨i0,vz,hinfo,hzero,hrz,h1z⟩:=sO g h2;obtain⟨g1,i1,e1,r1⟩:=yL nb _ _ _ _ g _ hnb ha.inv hrz;exact Xg (el:=el) ha ho hw hd h3 h4 (hn _ h3) (by simp[execOp,h1,HA hinfo hzero]) i1 e1 (su _ _ _ _ _ hnb) r1 h1z
 ·
  rename_i X;obtain⟨t,x,v,h1,h2,h3,h4⟩:=hkeq;rw[h3]at h;cases hcx:(bz e X).cells with
  |none=>simp[hcx]at h
  |some cs' =>
   simp only[hcx,ae,ar]at h;obtain⟨rfl,rfl⟩:=h;obtain⟨tmps,df⟩:=a;obtain⟨hr,h1z⟩:=(ha.fr.bz (df:=df) h2).cells hcx;exact Xg (el:=t) ha ho hw hd h3 h4 (hn _ h3) (by simp[execOp,h1,Instr.box,newVar,newRow]) ha.inv (Ev.refl g w) (.refl J) hr h1z
 ·
  rename_i v nb sz x X;obtain⟨t,y,h1,h2,h3⟩:=hkeq;have hdst:o.dst=none:=by simpa[K.ahb]using hst
  split at h
  case h_2=>cases h
  rename_i s cv off p hin hp;split at h
  case isFalse=>cases h
  rename_i hlen;split at h
  case h_2=>cases h
  rename_i p' J1 hnb;cases h;exact aem ha ho hw hn (hV rfl) h1 h2 h3 hin hp hlen hnb hdst
 ·
  rename_i k1 h1 h2 h3 h4;cases hs:bR e J kk with
  |none=>simp[hs]at h
  |some x =>
   obtain⟨d,J1⟩:=x;simp only[hs,aZ,ae,ar]at h;obtain⟨rfl,rfl⟩:=h;have hm:kk.makes=false:=by
    cases hm:kk.makes
    .rfl
    .rw[Ux hm]at hs;cases hs
   obtain⟨tmps,df⟩:=a;obtain⟨x,c,g',w',hrun,hx,he,hi,hr⟩:=aei (df:=df) ha.fr ha.inv hk hs;exact Ci ha ho hn (hV hm) (.one (yV ho hw hd hrun hx)) he hi (XJ hs) hr
inductive xd {α β:Type} (R:α->β->Prop):List α->List β->Prop
 |nil:xd R [] []
 |cons {x:α} {y:β} {xs:List α} {ys:List β}:R x y->xd R xs ys->xd R (x::xs) (y::ys)
def Jk(P:Program)(ann:sS)(n rM:Nat)(ops:Array Oper)(i:Nat)(x:Op):Prop:=∃o CP,ops[i]?=some o/\Un P ann n rM ops CP i o=some x
theorem M3{CP:Bool}{o:Oper}{op:Op}(h:Un P ann n rM ops CP i o=some op):
  op.dst=o.dst/\(∀t,o.dst=some t->t<n)/\((o.guard=none/\op.Ft=none)\/∃j d bb,o.guard=some (j,bb)/\op.Ft=some (d,bb)/\(ops[j]?).bind (·.dst)=some d/\(∀t,o.dst=some t->t ∉ ann.dT)):=by
 unfold Un at h;split at h
 case h_2=>cases h
 rename_i kk hk;split at h
 case h_2=>cases h
 rename_i gd hgd hdn;simp only[aH,af]at h;obtain⟨⟨hown,hst⟩,h⟩:=h;cases h;refine⟨rfl,λt ht=>by rw[ht]at hdn;simpa using hdn,?_⟩;cases hg:o.guard with
 |none=>rw[hg]at hgd;cases hgd;exact .inl ⟨rfl,rfl⟩
 |some x =>
  obtain⟨j,bb⟩:=x;rw[hg]at hgd;dsimp only at hgd;cases hj:(ops[j]?).bind (·.dst)with
  |none=>rw[hj]at hgd;cases hgd
  |some d =>
   rw[hj]at hgd;cases hgd;refine .inr ⟨j,d,bb,rfl,rfl,hj,λt ht=>?_⟩;rw[ht,hg]at hown;simpa using hown
theorem Eb(hO:AO P CR O){tl:List Nat}:∀(is:List Nat) (xs:List Op) (e:Env) (J:SK) (g:G) (w:World) (B:Nat->Nat) (a:Act),xd (Jk P ann n rM ops) is xs ->
  kU O xs e J=some (e',J')->At CR base ann.dT g0 w0 n b g w B e J a ->
  ∃g' w' B' a',Steps P (lone (b.atR a (.inRegion ops (is++tl)::k)) cs w) (lone (b.atR a' (.inRegion ops tl::k)) cs w')/\At CR base ann.dT g0 w0 n b g' w' B' e' J' a'/\g.le g'/\fP J J'
 |[],xs,e,J,g,w,B,a,hF,h,ha=>by
  cases hF;simp only[kU,ae,ar]at h;obtain⟨rfl,rfl⟩:=h;exact⟨g,w,B,a,.refl _ _,ha,g.le_refl,.refl J⟩
 |i::is,xs,e,J,g,w,B,a,hF,h,ha=>by
  cases hF with
  |cons hx hF =>
   rename_i x xs;obtain⟨o,CP,ho,hop⟩:=hx;obtain⟨hdst,hn,hgrd⟩:=M3 hop;simp only[kU]at h;have hgo:∀{e1 J1 g1 w1 B1 a1},Steps P (lone (b.atR a (.inRegion ops (i::is++tl)::k)) cs w) (lone (b.atR a1 (.inRegion ops (is++tl)::k)) cs w1) ->
     At CR base ann.dT g0 w0 n b g1 w1 B1 e1 J1 a1->g.le g1->fP J J1->kU O xs e1 J1=some (e',J') ->
     ∃g' w' B' a',Steps P (lone (b.atR a (.inRegion ops (i::is++tl)::k)) cs w) (lone (b.atR a' (.inRegion ops tl::k)) cs w')/\At CR base ann.dT g0 w0 n b g' w' B' e' J' a'/\g.le g'/\fP J J':=by
    intro e1 J1 g1 w1 B1 a1 h1 h2 h3 h4 h5;obtain⟨g2,w2,B2,a2,k1,k2,k3,k4⟩:=Eb hO is xs _ _ _ _ _ _ hF h5 h2;exact⟨g2,w2,B2,a2,h1.trans k1,k2,h3.trans' k3,h4.trans k4⟩
   rcases hgrd with⟨hg1,hg2⟩ | ⟨j,d,bb,hg1,hg2,hj,hV⟩
   .rw[hg2]at h;simp only[ak,Prod.exists]at h;obtain⟨e1,J1,h1,h2⟩:=h;obtain⟨g1,w1,B1,a1,k1,k2,k3,k4⟩:=VZ (k:=k) (cs:=cs) (rest:=is++tl) hO ha ho (by simp[Region.wanted,hg1]) hop h1;exact hgo k1 k2 k3 k4 h2
   .rw[hg2]at h;dsimp only at h;split at h
    case h_2=>cases h
    rename_i bv hbv;have hy:yielded ops a.tmps j=bv:=by
     have hrel:=ha.fr.rel d;unfold yielded;rw[hj];simp only[Option.bind_some];cases hg:get e d with
     |bool b =>
      rw[hg]at hrel hbv;have hrel':bQ g (.bool b) (a.tmps.getD d Go.undef):=hrel;have hval:=hrel'.nU;simp only[D.bit,ae]at hbv;subst hbv;rw[cA]at hval;cases hd:a.tmps[d]? with
      |none=>rw[hd]at hval;simp[Go.undef]at hval
      |some y=>rw[hd]at hval;simp at hval;subst hval;rfl
     |cV ds =>
      cases ds with
      |nil =>
       rw[hg]at hrel hbv;have hrel':bQ g (.cV []) (a.tmps.getD d Go.undef):=hrel;have hval:a.tmps.getD d Go.undef=.tuple #[]:=by
        generalize a.tmps.getD d Go.undef=z at hrel';cases hrel' with | cV _ cs hl =>
         cases cs with | mk cs=>cases cs with
          |nil=>rfl
          |cons c cs=>cases hl
       simp only[D.bit,ae]at hbv;subst hbv;rw[cA]at hval;cases hd:a.tmps[d]? with
       |none=>rfl
       |some y=>rw[hd]at hval;simp at hval;subst hval;rfl
      |cons x xs=>rw[hg]at hbv;simp[D.bit]at hbv
     |_=>rw[hg]at hbv;simp[D.bit]at hbv
    split at h
    .rename_i hb;simp only[ak,Prod.exists]at h;obtain⟨e1,J1,h1,h2⟩:=h;obtain⟨g1,w1,B1,a1,k1,k2,k3,k4⟩:=VZ (k:=k) (cs:=cs) (rest:=is++tl) hO ha ho (by simp[Region.wanted,hg1,hy,hb]) hop h1;exact hgo k1 k2 k3 k4 h2
    .rename_i hb;have hstep:=stepR_op_skip (P:=P) (b:=b) (a:=a) (k:=k) (cs:=cs) (w:=w) (ops:=ops) (i:=i) (rest:=is++tl) (by simp[ho,Region.wanted,hg1,hy,hb]);rw[show(ops[i]?).bind (·.dst)=o.dst from by rw[ho];rfl]at hstep;obtain⟨g1,w1,B1,a1,k1,k2,k3,k4⟩:=Ci (d:=.cV []) ha ho hn hV (.one hstep) (Ev.refl g w) ha.inv (.refl J) (cQ.of (.cV [] #[] .nil));rw[hdst]at h;exact hgo k1 k2 k3 k4 h
theorem QT(hO:AO P CR O)(is:List Nat)(xs:List Op)(e:Env)(J:SK)(g:G)(w:World)(B:Nat->Nat)(a:Act)(hF:xd (Jk P ann n rM ops) is xs)
  (h:kU O xs e J=some (e',J')) (ha:At CR base ann.dT g0 w0 n b g w B e J a):
  ∃g' w' B' a',Steps P (lone (b.atR a (.inRegion ops is::k)) cs w) (lone (b.atR a' (.inRegion ops []::k)) cs w')/\At CR base ann.dT g0 w0 n b g' w' B' e' J' a'/\g.le g'/\fP J J':=by
 have:=Eb (k:=k) (cs:=cs) (tl:=[]) hO is xs e J g w B a hF h ha;simpa using this
theorem TK{O:bZ}{fv:D}{args:List D}{r:R}(h:Cx O fv args J=some r):∃f first cap,fv=.fn f first cap/\O (.call false f (first++args++cap) J)=some r:=by
 unfold Cx at h;split at h
 .exact⟨_,_,_,rfl,h⟩
 .cases h
theorem aa9{CP:Bool}{o:Oper}{op:Op}(h:Un P ann n rM ops CP i o=some op):kC P ann ops (rM*1000+i) o=some op.k/\(op.k.makes=false->∀t,o.dst=some t->t ∉ ann.dT):=by
 unfold Un at h;split at h
 case h_2=>cases h
 rename_i kk hk;split at h
 case h_2=>cases h
 simp only[aH,af]at h;obtain⟨⟨hown,hst⟩,h⟩:=h;cases h;refine⟨hk,λhm t ht=>?_⟩;dsimp only at hm;rw[ht]at hown;simp[hm]at hown;simpa using hown
theorem Ra{o:Oper}{v:Value}{w':World}{is:List Nat}(ho:ops[i]?=some o)(hw:Region.wanted o (yielded ops a.tmps)=true)(hd:∀c,o.op ≠ .defer c)
  (hr:(execOp a.eval o).run P w=.halt (.panic v) w'):
  step P (lone (b.atR a (.inRegion ops (i::is)::k)) cs w)=.next (lone {b.atR a (.inRegion ops (i::is)::k)with mode:=.panicking [{v,recovered:=false }] } cs w'):=by
 have hg:=stepGR_op (P:=P) (b:=b) (k:=k) (cs:=cs) (w:=w) (rest:=is) ho hw;rw[Oper.semAt_eq _ _ _ hd]at hg;exact step_lone_go (by rw[hg,<- Frame.raise_atR];simp[stepG.apply,hr])
end
def jG(ts:List Nat)(e e':Env):Prop:=∀t∈ts,get e' t=get e t
theorem jG.mono{ts us:List Nat}{e e':Env}(h:jG us e e')(hs:∀t∈ts,t∈us):jG ts e e':=λt ht=>h t (hs t ht)
theorem jG.app{ts us:List Nat}{e e':Env}:jG (ts++us) e e'↔jG ts e e'/\jG us e e' :=
 ⟨λh=>⟨λt ht=>h t (by simp[ht]),λt ht=>h t (by simp[ht])⟩,λh t ht=>(aX.1 ht).elim (h.1 t) (h.2 t)⟩
theorem jG.cons{t:Nat}{us:List Nat}{e e':Env}:jG (t::us) e e'↔get e' t=get e t/\jG us e e' :=
 ⟨λh=>⟨h t (by simp),λu hu=>h u (by simp[hu])⟩,λh u hu=>(bj.1 hu).elim (λx=>x ▸ h.1) (h.2 u)⟩
variable {e e':Env} {J J':SK}
theorem bg{x:bP}(h:jG x.tmps e e'):bz e' x=bz e x:=by
 cases x with
 |t n=>simp only[bz];rw[h n (by simp[bP.tmps])]
 |c d=>rfl
theorem u7{xs:List bP}(h:jG (fM xs bP.tmps) e e'):xs.map (bz e')=xs.map (bz e):=by
 induction xs with
 |nil=>rfl
 |cons x xs ih =>
  simp only[eg,jG.app]at h;simp only[aN,bg h.1,ih h.2]
theorem zE:∀{ps:List (Nat×Nat×bP)} {cs:List D},jG (fM ps λp=>p.2.2.tmps) e e'->iP e' ps cs=iP e ps cs
 |[],cs,h=>rfl
 |(off,sz,x)::ps,cs,h=>by
  simp only[eg,jG.app]at h;simp only[iP,bg h.1];split
  .split
   .exact zE h.2
   .rfl
  .rfl
theorem G4{m:Nat}{dfl:Option Nat}{x:Option bP}(h:jG ((x.map bP.tmps).getD []) e e'):BD e' m dfl x=BD e m dfl x:=by
 cases x with
 |none=>rfl
 |some x=>simp only[BD];rw[bg (by simpa using h)]
theorem FR{n:Nat}{lo hi mx:Option bP}(h1:jG ((lo.map bP.tmps).getD []) e e')(h2:jG ((hi.map bP.tmps).getD []) e e')(h3:jG ((mx.map bP.tmps).getD []) e e'):
  bounds n e' lo hi mx=bounds n e lo hi mx:=by
 simp only[bounds,G4 h1,G4 h2,G4 h3]
theorem DB{v a:Nat}(h1:get e' v=get e v)(h2:get e' a=get e a):pU e' v a=pU e v a:=by
 simp only[pU,h1,h2]
theorem Uw{k:K}(h:jG k.tmps e e'):bR e' J k=bR e J k:=by
 cases k<;>simp only[K.tmps,jG.app,jG.cons]at h
 case mv x=>simp only[bR,bg h]
 case Kc=>rfl
 case pick c a b=>simp only[bR,bg h.1.1,bg h.1.2,bg h.2]
 case TB=>rfl
 case W5=>simp only[bR,bg h]
 case Yd=>simp only[bR,bg h]
 case ZA=>simp only[bR,bg h]
 case Xh=>rfl
 case PX=>rfl
 case BJ=>rfl
 case KL x=>simp only[bR,bg h]
 case KM x=>simp only[bR,bg h]
 case X4 nb x=>simp only[bR,bg h]
 case Fl=>rfl
 case Ln=>simp only[bR,zE h]
 case X3=>simp only[bR,zE h]
 case V5=>simp only[bR,zE h]
 case ld=>simp only[bR,bg h]
 case UK=>simp only[bR,bg h]
 case UJ=>simp only[bR,bg h]
 case ZB=>simp only[bR,bg h]
 case ZS=>simp only[bR,bg h]
 case st=>simp only[bR,bg h.1,bg h.2]
 case UA os sz a x =>
  have hall:∀l i,(os.all λt=>D.off l i (get e' t))=os.all λt=>D.off l i (get e t):=by
   intro l i;have h2:=h.2;clear h;induction os with
   |nil=>rfl
   |cons o os ih=>simp only[jl,h2 o (by simp),ih (h2.mono λt ht=>by simp[ht])]
  simp only[bR,bg h.1.1,bg h.1.2,hall]
 case UL=>simp only[bR,DB h.1 h.2.1]
 case HF=>rfl
 case bin=>simp only[bR,bg h.1,bg h.2]
 case eqv=>simp only[bR,bg h.1,bg h.2]
 case un=>simp only[bR,bg h]
 case Wc=>simp only[bR,bg h]
 case W4=>simp only[bR,u7 h.1,u7 h.2]
 case X9=>simp only[bR,bg h.1,bg h.2]
 case Yb=>simp only[bR,bg h.1.1.1,FR h.1.1.2 h.1.2 h.2]
 case Q5=>simp only[bR,bg h.1.1,FR (mx:=none) h.1.2 h.2 (λt ht=>by simp at ht)]
 case KO off x =>
  cases x with
  |t n=>simp only[bR,h n (by simp[bP.tmps])]
  |c d=>rfl
 case fld=>simp only[bR,bg h]
 case KR len w x i =>
  cases x with
  |t n =>
   have h1:=h.1 n (by simp[bP.tmps]);simp only[bR,bg h.2];cases Gu (bz e i)<;>simp only[h1]
  |c d=>simp only[bR]
 case Hk=>simp only[bR,bg h.1,bg h.2]
 case MS=>simp only[bR,bg h.1,bg h.2]
 case KU=>simp only[bR,bg h]
 case QK=>rfl
 case mn=>simp only[bR,bg h.1,bg h.2]
 case mx=>simp only[bR,bg h.1,bg h.2]
 case app=>simp only[bR,bg h.1,bg h.2]
 case TD os w b s x =>
  have hall:∀l i,(os.all λt=>D.off l i (get e' t))=os.all λt=>D.off l i (get e t):=by
   intro l i;have h2:=h.2;clear h;induction os with
   |nil=>rfl
   |cons o os ih=>simp only[jl,h2 o (by simp),ih (h2.mono λt ht=>by simp[ht])]
  simp only[bR,Mz,bg h.1.1,bg h.1.2,hall]
 case apz=>simp only[bR,Mz,bg h.1,bg h.2]
 case X5=>simp only[bR,bg h]
 case cvz=>simp only[bR,bg h]
 case bse=>rfl
 case ape w b v x=>simp only[bR,h.1,bg h.2]
 case ext=>simp only[bR,bg h]
 case ID=>simp only[bR,u7 h]
 case mp=>simp only[bR,u7 h]
 case me=>simp only[bR,u7 h]
 case call=>rfl
noncomputable def tW(O:bZ)(op:Op)(e:Env)(J:SK):Option (Env×SK) :=
 match op.Ft with
 |none=>wj O op e J
 |some (g,want) =>
  match(get e g).bit with
  |some y=>if y=some want then wj O op e J else some (put op.dst (.cV []) e,J)
  |none=>none
theorem jI{O:bZ}{op:Op}{r:List Op}:kU O (op::r) e J=(tW O op e J).bind λx=>kU O r x.1 x.2:=by
 simp only[kU,tW];cases op.Ft with
 |none=>rfl
 |some x =>
  obtain⟨g,want⟩:=x;dsimp only;cases(get e g).bit<;>try rfl
  dsimp only;split<;>rfl
theorem M8{dst:Option Nat}{d:D}:put dst d e=(dst.toList.map λt=>(t,d))++e:=by
 cases dst<;>rfl
theorem Lk{O:bZ}{op:Op}{e1:Env}{J1:SK}(h:wj O op e J=some (e1,J1)):
  ∃l:List (Nat×D),(∀p∈l,p.1∈op.defs)/\∀e',jG (op.GR++op.defs) e e'->wj O op e' J=some (l++e',J1):=by
 obtain⟨dst,Ft,CP,k⟩:=op;have hk:∀e',jG (Op.GR ⟨dst,Ft,CP,k⟩++Op.defs ⟨dst,Ft,CP,k⟩) e e'->jG k.tmps e e':=λe' ha=>ha.mono λt ht=>by simp[Op.GR,ht]
 have hdst:∀d:D,∀p∈dst.toList.map (λt=>(t,d)),p.1∈Op.defs ⟨dst,Ft,CP,k⟩:=by
  intro d p hp;simp only[bJ]at hp;obtain⟨t,ht,rfl⟩:=hp;simp only[Op.defs,aX];exact .inl ht
 have hplain:(∀e0,wj O ⟨dst,Ft,CP,k⟩ e0 J=(bR e0 J k).map λx=>(put dst x.1 e0,x.2)) ->
   ∃l:List (Nat×D),(∀p∈l,p.1∈Op.defs ⟨dst,Ft,CP,k⟩)/\∀e',jG (Op.GR ⟨dst,Ft,CP,k⟩++Op.defs ⟨dst,Ft,CP,k⟩) e e'->wj O ⟨dst,Ft,CP,k⟩ e' J=some (l++e',J1):=by
  intro hall;rw[hall]at h;simp only[ad,Prod.exists,ar]at h;obtain⟨d,J2,hs,rfl,rfl⟩:=h;refine⟨dst.toList.map λt=>(t,d),hdst d,λe' ha=>?_⟩;rw[hall,Uw (hk e' ha),hs];simp only[aZ,M8]
 cases k
 case call kp f args =>
  simp only[wj]at h ⊢;split at h
  case h_2=>cases h
  rename_i d J2 hc;split at h
  case isFalse=>cases h
  rename_i hn;cases h;refine⟨dst.toList.map λt=>(t,d),hdst d,λe' ha=>?_⟩;have h1:=hk e' ha;simp only[K.tmps,jG.app]at h1;rw[bg h1.1,u7 h1.2,hc];simp only[if_pos hn,M8]
 case BJ nb cs =>
  simp only[wj]at h ⊢;split at h
  case h_2=>cases h
  rename_i v cs' J2 hnb;cases h;refine⟨[(v,.own (tZ e v) cs')],by simp[Op.defs],λe' ha=>?_⟩;rw[show tZ e' v=tZ e v from by simp only[tZ];rw[ha v (by simp[Op.defs])]];rfl
 case Fl x =>
  simp only[wj]at h ⊢;split at h
  case h_2=>cases h
  rename_i v cs' hc;cases h;refine⟨[(v,.own (tZ e v) cs')],by simp[Op.defs],λe' ha=>?_⟩;have h1:=hk e' ha;simp only[K.tmps]at h1;rw[bg h1,hc];simp only[show tZ e' v=tZ e v from by simp only[tZ];rw[ha v (by simp[Op.defs])]];rfl
 case HF v nb sz a x =>
  simp only[wj]at h ⊢;split at h
  case h_2=>cases h
  rename_i s cs off p hin hp;split at h
  case isFalse=>cases h
  rename_i hc;split at h
  case h_2=>cases h
  rename_i p' J2 hnb;cases h;refine⟨[(v,.own s (cs.take off++p'++cs.drop (off+sz)))],by simp[Op.defs],λe' ha=>?_⟩;have h1:=hk e' ha;simp only[K.tmps,jG.app,jG.cons]at h1;rw[DB h1.1.1 h1.1.2.1,bg h1.2,hin,hp];simp only[if_pos hc,hnb];rfl
 all_goals exact hplain λe0=>rfl
theorem FG{O:bZ}{op:Op}{e1:Env}{J1:SK}(h:tW O op e J=some (e1,J1)):
  ∃l:List (Nat×D),(∀p∈l,p.1∈op.defs)/\∀e',jG (op.GR++op.defs) e e'->tW O op e' J=some (l++e',J1):=by
 unfold tW at h ⊢;cases hg:op.Ft with
 |none=>rw[hg]at h;simp only at h ⊢;exact Lk h
 |some x =>
  obtain⟨t,want⟩:=x;rw[hg]at h;simp only at h ⊢;split at h
  case h_2=>cases h
  rename_i b hb;have hgt:∀e',jG (op.GR++op.defs) e e'->(get e' t).bit=some b:=λe' ha=>by rw[ha t (by simp[Op.GR,hg]),hb]
  split at h
  .rename_i hw;obtain⟨l,h1,h2⟩:=Lk h;refine⟨l,h1,λe' ha=>?_⟩;rw[hgt e' ha];simp only[if_pos hw];exact h2 e' ha
  .rename_i hw;cases h;refine⟨op.dst.toList.map λt=>(t,.cV []),λp hp=>?_,λe' ha=>?_⟩
   .simp only[bJ]at hp;obtain⟨t,ht,rfl⟩:=hp;simp only[Op.defs,aX];exact .inl ht
   .rw[hgt e' ha];simp only[if_neg hw,M8]
theorem LU{cs cs':List D}(h:j7 [] cs J=some (cs',J')):J'=J:=by
 simp only[j7,ae,ar]at h;exact h.2.symm
theorem L7{d:D}{k:K}(h:bR e J k=some (d,J'))(hk:k.calm=true):J'=J:=PI h hk
theorem Ll{O:bZ}{op:Op}{e1:Env}{J1:SK}(h:wj O op e J=some (e1,J1))(hs:op.still=true):J1=J:=by
 obtain⟨dst,Ft,CP,k⟩:=op;simp only[Op.still,af]at hs;obtain⟨hk,hn⟩:=hs;have hplain:(wj O ⟨dst,Ft,CP,k⟩ e J=(bR e J k).map λx=>(put dst x.1 e,x.2))->J1=J:=by
  intro hall;rw[hall]at h;simp only[ad,Prod.exists,ar]at h;obtain⟨d,J2,hs,rfl,rfl⟩:=h;exact L7 hs hk
 cases k
 case call kp f args =>
  simp only[wj]at h;split at h
  case h_2=>cases h
  split at h
  case isFalse=>cases h
  rename_i hx;cases h;exact hx hn
 case BJ nb cs =>
  simp only[wj]at h;split at h
  case h_2=>cases h
  rename_i v cs' J2 hnb;cases h;simp only[K.calm,List.isEmpty_iff]at hk;subst hk;exact LU hnb
 case Fl x =>
  simp only[wj]at h;split at h
  case h_2=>cases h
  cases h;rfl
 case HF v nb sz a x =>
  simp only[wj]at h;split at h
  case h_2=>cases h
  split at h
  case isFalse=>cases h
  split at h
  case h_2=>cases h
  rename_i hnb;cases h;simp only[K.calm,List.isEmpty_iff]at hk;subst hk;exact LU hnb
 all_goals exact hplain rfl
theorem FH{O:bZ}{op:Op}{e1:Env}{J1:SK}(h:tW O op e J=some (e1,J1))(hs:op.still=true):J1=J:=by
 unfold tW at h;split at h
 .exact Ll h hs
 .split at h
  case h_2=>cases h
  split at h
  .exact Ll h hs
  .cases h;rfl
def HP(e e':Env):Prop:=∀t,get e' t=get e t
theorem HP.refl(e:Env):HP e e:=λ_=>rfl
theorem HP.trans{a b c:Env}(h:HP a b)(h':HP b c):HP a c:=λt=>(h' t).trans (h t)
theorem HP.CZ(h:HP e e')(ts:List Nat):jG ts e e':=λt _=>h t
theorem IV{l:List (Nat×D)}{t:Nat}:get (l++e) t=if t∈l.map (·.1)then get l t else get e t:=by
 induction l with
 |nil=>simp
 |cons p l ih =>
  obtain⟨k,v⟩:=p;simp only[cm,get];by_cases hk:k=t
  .simp[hk]
  .rw[if_neg hk,ih];simp only[aN,bj];by_cases ht:t∈l.map (·.1)
   .rw[if_pos ht,if_pos (.inr ht)];rw[if_neg hk]
   .rw[if_neg ht,if_neg (by intro h;rcases h with h | h;exact hk h.symm;exact ht h)]
theorem HP.app(h:HP e e')(l:List (Nat×D)):HP (l++e) (l++e'):=λt=>by
 simp only[IV,h t]
theorem Jt{O:bZ}:∀{xs:List Op} {e e' e1:Env} {J J1:SK},kU O xs e J=some (e1,J1)->HP e e'->∃e1',kU O xs e' J=some (e1',J1)/\HP e1 e1'
 |[],e,e',e1,J,J1,h,he=>by
  simp only[kU,ae,ar]at h;obtain⟨rfl,rfl⟩:=h;exact⟨e',rfl,he⟩
 |x::xs,e,e',e1,J,J1,h,he=>by
  rw[jI]at h;simp only[ak,Prod.exists]at h;obtain⟨e2,J2,h1,h2⟩:=h;obtain⟨l,_,hl⟩:=FG h1;have h3:=hl e (HP.CZ (.refl e) _);rw[h1]at h3;cases h3;obtain⟨e3,h4,h5⟩:=Jt h2 (he.app l);exact⟨e3,by rw[jI,hl e' (he.CZ _)];exact h4,h5⟩
theorem XK{d:D}{k:K}(h:bR e J k=some (d,J'))(hk:k.pure=true)(τ:SK):bR e τ k=some (d,τ):=by
 cases k<;>simp only[K.pure,K.calm,aC]at hk<;>simp only[bR,aU,reduceCtorEq]at h ⊢ <;> (repeat' split at h)<;>
  simp only[ad,ak,ae,ar,Prod.exists,reduceCtorEq,exists_eq_left,and_false,exists_false]at h<;>(try split at h)<;>
  simp_all<;>(try (obtain⟨_,_,h⟩:=h;simp_all))<;>(try grind)
theorem On{O:bZ}{op:Op}{e1:Env}{J1:SK}(h:wj O op e J=some (e1,J1))(hs:op.k.pure=true)(τ:SK):wj O op e τ=some (e1,τ):=by
 obtain⟨dst,Ft,CP,k⟩:=op;have hplain:(∀τ,wj O ⟨dst,Ft,CP,k⟩ e τ=(bR e τ k).map λx=>(put dst x.1 e,x.2))->wj O ⟨dst,Ft,CP,k⟩ e τ=some (e1,τ):=by
  intro hall;rw[hall]at h ⊢;simp only[ad,Prod.exists,ar]at h;obtain⟨d,J2,hs',rfl,rfl⟩:=h;rw[XK hs' hs τ];rfl
 cases k
 case call kp f args=>simp[K.pure]at hs
 case BJ nb cs =>
  simp only[K.pure,K.calm,List.isEmpty_iff]at hs;subst hs;simp only[wj]at h ⊢;cases dst with
  |none=>cases h
  |some v=>simp only[j7,ae,ar]at h ⊢;exact⟨h.1,trivial⟩
 case Fl x =>
  simp only[wj]at h ⊢;cases dst with
  |none=>cases h
  |some v =>
   cases hx:(bz e x).cells with
   |none=>rw[hx]at h;cases h
   |some cs=>rw[hx]at h;simp only[ae,ar]at h ⊢;exact⟨h.1,trivial⟩
 case HF v nb sz a x =>
  simp only[K.pure,K.calm,List.isEmpty_iff]at hs;subst hs;simp only[wj]at h ⊢;cases hin:pU e v a<;>rw[hin]at h<;>try (cases h;done)
  cases hx:(bz e x).cells<;>rw[hx]at h<;>try (cases h;done)
  simp only[j7]at h ⊢;split at h
  .rename_i hc;rw[if_pos hc];simp only[ae,ar]at h ⊢;exact⟨h.1,trivial⟩
  .cases h
 all_goals exact hplain fun τ=>rfl
theorem Eh{O:bZ}{op:Op}{e1:Env}{J1:SK}(h:tW O op e J=some (e1,J1))(hs:op.k.pure=true):∀τ,tW O op e τ=some (e1,τ):=by
 intro τ;unfold tW at h ⊢;cases hg:op.Ft with
 |none=>rw[hg]at h;exact On h hs τ
 |some y =>
  obtain⟨g,want⟩:=y;rw[hg]at h;dsimp only at h ⊢;cases hb:(get e g).bit with
  |none=>rw[hb]at h;cases h
  |some b =>
   rw[hb]at h;dsimp only at h ⊢;split at h
   .rename_i hw;rw[if_pos hw];exact On h hs τ
   .rename_i hw;rw[if_neg hw];cases h;rfl
theorem Cp{a:List aD}{J:SK}{l:Nat}{s:List aD}(h:J.length=l):gX (a::J) l s=s::J:=by simp only[gX];rw[if_pos h]
theorem nC{a:List aD}{J:SK}{l:Nat}{s:List aD}(h:¬J.length=l):gX (a::J) l s=a::gX J l s:=by simp only[gX];rw[if_neg h]
theorem PG{J:SK}{l l':Nat}{s s':List aD}(h:l≠l'):gX (gX J l s) l' s'=gX (gX J l' s') l s:=by
 induction J with
 |nil=>rfl
 |cons a J ih =>
  by_cases h1:J.length=l
  .have h2:¬J.length=l':=by omega
   rw[Cp h1,nC h2,nC h2,Cp (by rw[fI];exact h1)]
  .by_cases h2:J.length=l'
   .rw[nC h1,Cp h2,Cp (by rw[fI];exact h2),nC h1]
   .rw[nC h1,nC h2,nC (by rw[fI];exact h2),nC (by rw[fI];exact h1),ih]
theorem tY{J:SK}{l l':Nat}{s:List aD}(h:l≠l'):fq (gX J l s) l'=fq J l':=by
 induction J with
 |nil=>rfl
 |cons a J ih =>
  simp only[gX];by_cases h1:J.length=l
  .rw[if_pos h1];simp only[fq];rw[if_neg (by omega),if_neg (by omega)]
  .rw[if_neg h1];simp only[fq,fI,ih]
theorem Nr{J:SK}{l:Nat}{s s':List aD}:gX (gX J l s) l s'=gX J l s':=by
 induction J with
 |nil=>rfl
 |cons a J ih =>
  simp only[gX];by_cases h1:J.length=l
  .rw[if_pos h1,if_pos h1];simp only[gX];rw[if_pos h1]
  .rw[if_neg h1,if_neg h1];simp only[gX,fI];rw[if_neg h1,ih]
theorem PE{J:SK}{l i l' i':Nat}{b b':aD}(h:¬(l'=l/\i'=i)):bh (bh J l i b) l' i' b'=bh (bh J l' i' b') l i b:=by
 by_cases hl:l=l'
 .subst hl;have hi:i≠i':=λe=>h ⟨rfl,e.symm⟩
  unfold bh;cases hs:fq J l with
  |none=>simp[hs]
  |some s =>
   simp only[sK (Co hs),Nr];rw[List.set_comm _ _ hi]
 .unfold bh;cases hs:fq J l with
  |none =>
   cases hs':fq J l' with
   |none=>simp[hs,hs']
   |some s'=>simp only[tY (Ne.symm hl),hs]
  |some s =>
   cases hs':fq J l' with
   |none=>simp only[tY hl,hs',hs]
   |some s' =>
    simp only[tY hl,tY (Ne.symm hl),hs,hs'];exact PG hl
theorem BP{J:SK}{l i l' i' v:Nat}{b:aD}(h:¬(l'=l/\i'=i)):cells? (bh J l i b) l' i' v=cells? J l' i' v:=by
 unfold cells?;rw[eD h]
theorem M9{J:SK}{l i:Nat}{b:aD}{d:D}(h:D.off l i d=true):Hw (bh J l i b) d.strip=Hw J d.strip:=by
 cases d<;>try rfl
 simp only[D.off,aw]at h;simp only[D.strip,Hw,BP h]
theorem Eg{O:bZ}{dst:Option Nat}{n ag:Bool}{sz m:Nat}{e1:Env}{J1:SK}(h:tW O ⟨dst,none,n,.ld ag sz (.t m)⟩ e J=some (e1,J1)):
  J1=J/\∀τ,Hw τ (get e m).strip=Hw J (get e m).strip->tW O ⟨dst,none,n,.ld ag sz (.t m)⟩ e τ=some (e1,τ):=by
 have hs:=FH h;simp only[tW,wj,bR,bz]at h ⊢;refine⟨?_,fun τ hτ=>?_⟩
 .simp only[ad,Prod.exists,ar]at h;obtain⟨d,J2,h,_,rfl⟩:=h;exact L7 (k:=.ld ag sz (.t m)) (e:=e) (d:=d) (by simpa only[bR,bz]using h) rfl
 .rw[hτ];cases hr:Hw J (get e m).strip with
  |none=>rw[hr]at h;cases h
  |some cs =>
   rw[hr]at h;dsimp only at h ⊢;split at h
   .rename_i hsz;rw[if_pos hsz];cases ag with
    |true=>simp at h ⊢;exact h.1
    |false =>
     simp only[aC,if_false]at h ⊢;cases cs with
     |nil=>cases h
     |cons d ds=>simp at h ⊢;exact h.1
   .cases h
theorem GK{O:bZ}{dst:Option Nat}{n:Bool}{os:List Nat}{sz:Nat}{a x:bP}{e1:Env}{J1:SK}(h:tW O ⟨dst,none,n,.UA os sz a x⟩ e J=some (e1,J1)):
  ∃l i v off b,bz e a=.ref l i v off/\(∀m∈os,D.off l i (get e m)=true)/\J1=bh J l i b /\
   ∀τ,τ.length=J.length->cells? τ l i v=cells? J l i v->tW O ⟨dst,none,n,.UA os sz a x⟩ e τ=some (e1,bh τ l i b):=by
 simp only[tW,wj,bR]at h ⊢;cases ha:bz e a<;>rw[ha]at h<;>try (cases h;done)
 rename_i l i v off;dsimp only at h ⊢;split at h
 case isFalse=>cases h
 rename_i hall;cases hc:cells? J l i v with
 |none=>rw[hc]at h;cases h
 |some cs =>
 rw[hc]at h;dsimp only at h;cases hp:(bz e x).cells with
 |none=>rw[hp]at h;cases h
 |some p =>
 rw[hp]at h;dsimp only at h;split at h
 case isFalse=>cases h
 rename_i hq;simp only[aZ,ae,ar]at h;refine⟨l,i,v,off,.cells v (cs.take off++p++cs.drop (off+sz)),rfl,λm hm=>iW.1 hall m hm,h.2.symm,fun τ hlen hτ=>?_⟩;simp only[hall,if_true,hτ,hc,hlen,if_pos hq,aZ,h.1]
theorem Py{O:bZ}{dst:Option Nat}{n:Bool}{os:List Nat}{w b:Nat}{a x:bP}{e1:Env}{J1:SK}(h:tW O ⟨dst,none,n,.TD os w b a x⟩ e J=some (e1,J1)):
  ∃l i v cs,(∀m∈os,D.off l i (get e m)=true)/\J1=bh J l i (.cells (v+1) cs):=by
 simp only[tW,wj,ad,Prod.exists,ar]at h;obtain⟨d,J2,h,_,rfl⟩:=h;simp only[bR]at h;split at h
 case h_2=>cases h
 rename_i l i v off n' w' ha;split at h
 case isFalse=>cases h
 rename_i hall;simp only[ak]at h;obtain⟨⟨m,xs⟩,he,h⟩:=h;dsimp only at h;split at h
 case isFalse=>cases h
 rename_i hcl;simp only[Mz,aU,he,Option.bind_some,ha]at h;split at h
 case h_2=>cases h
 split at h
 case isFalse=>cases h
 refine⟨l,i,?_⟩;split at h
 .cases h;exact⟨_,_,λm hm=>iW.1 hall m hm,rfl⟩
 .rw[show deep=15+1 from rfl,Hg hcl]at h;cases h;exact⟨_,_,λm hm=>iW.1 hall m hm,rfl⟩
theorem Z6{J:SK}{l i v:Nat}{cs:List D}{d:D}{c:List D}(h:UM (bh J l i (.cells (v+1) cs)) d=some c):UM J d=some c:=by
 unfold UM at h ⊢;split at h
 case h_2=>cases h
 rename_i l2 i2 off;simp only[Hw,ad]at h ⊢;obtain⟨a,h1,h2⟩:=h;refine⟨a,?_,h2⟩;by_cases hh:l2=l/\i2=i
 .obtain⟨rfl,rfl⟩:=hh;unfold cells? at h1;cases hb:ea J l2 i2 with
  |some b0=>rw[nw hb]at h1;simp at h1
  |none =>
   have hn:ea (bh J l2 i2 (.cells (v+1) cs)) l2 i2=none:=by
    unfold ea at hb ⊢;unfold bh;cases hs:fq J l2 with
    |none=>simp only[hs];rfl
    |some s =>
     simp only[hs,Option.bind_some]at hb;simp only[sK (Co hs),Option.bind_some];rw[List.getElem?_eq_none_iff]at hb ⊢;simpa using hb
   rw[hn]at h1;cases h1
 .rwa[BP hh]at h1
theorem XC{O:bZ}{dst:Option Nat}{n ag:Bool}{sz m:Nat}{e1:Env}{J1:SK}(h:tW O ⟨dst,none,n,.UJ ag sz (.t m)⟩ e J=some (e1,J1)):
  J1=J/\∃c,UM J (get e m).strip=some c/\∀τ,UM τ (get e m).strip=some c->tW O ⟨dst,none,n,.UJ ag sz (.t m)⟩ e τ=some (e1,τ):=by
 simp only[tW,wj,bR,bz]at h ⊢;cases hr:UM J (get e m).strip with
 |none=>rw[hr]at h;cases h
 |some cs =>
  rw[hr]at h;dsimp only at h ⊢;have hs:J1=J:=by
   split at h
   .cases ag with
    |true=>simp at h;exact h.2.symm
    |false=>cases cs<;>simp at h;exact h.2.symm
   .cases h
  refine⟨hs,cs,rfl,fun τ hτ=>?_⟩;rw[hτ];dsimp only;split at h
  .rename_i hsz;rw[if_pos hsz];cases ag with
   |true=>simp at h ⊢;exact h.1
   |false =>
    simp only[aC,if_false]at h ⊢;cases cs with
    |nil=>cases h
    |cons d ds=>simp at h ⊢;exact h.1
  .cases h
theorem Uk{J J':SK}{b:aD}{l i:Nat}(h:gA J b=some (l,i,J')){d:D}{cs:List D}(hd:Hw J d=some cs):Hw J' d=some cs:=by
 cases d<;>try exact hd
 rename_i l' i' v off;simp only[Hw,ad]at hd ⊢;obtain⟨c,h1,h2⟩:=hd;refine⟨c,?_,h2⟩;unfold cells? at h1 ⊢;have hb:∃b0,ea J l' i'=some b0:=by
  cases hb:ea J l' i' with
  |none=>rw[hb]at h1;cases h1
  |some b0=>exact⟨b0,rfl⟩
 obtain⟨b0,hb⟩:=hb;have hne:¬(l'=l/\i'=i):=λhh=>by
  have:=(jF h).1;rw[hh.1,hh.2,this]at hb;cases hb
 rw[(jF h).2.2.1 l' i' hne];exact h1
theorem acu{O:bZ}{x y:Op}{e2:Env}{J2:SK}{r:List Op}(hf:x.adr y=true)
  (h:kU O (x::y::r) e J=some (e2,J2)):∃e2',kU O (y::x::r) e J=some (e2',J2)/\HP e2 e2':=by
 unfold Op.adr at hf;split at hf
 case h_2=>cases hf
 rename_i n v sz a X d n' off m;simp only[aw]at hf;obtain⟨rfl,hdv,hda,hdX⟩:=hf;rw[jI]at h;simp only[ak,Prod.exists]at h;obtain⟨ex,Jx,h1,h2⟩:=h;rw[jI]at h2;simp only[ak,Prod.exists]at h2;obtain⟨ey,Jy,h2,h3⟩:=h2;simp only[tW,wj]at h1;cases hin:pU e m a with
 |none=>rw[hin]at h1;cases h1
 |some z =>
 obtain⟨s,cs,o⟩:=z;rw[hin]at h1;cases hX:(bz e X).cells with
 |none=>rw[hX]at h1;cases h1
 |some p =>
 rw[hX]at h1;dsimp only at h1;split at h1
 case isFalse=>cases h1
 rename_i hq;simp only[j7,ae,ar]at h1;obtain⟨rfl,rfl⟩:=h1;have hgv:∃cs',get e m=.own s cs':=by
  unfold pU at hin;cases hg:get e m<;>rw[hg]at hin<;>try (cases hin;done)
  rename_i s' cs';dsimp only at hin;split at hin
  .cases hin;exact⟨_,rfl⟩
  .split at hin
   .split at hin
    .cases hin;exact⟨_,rfl⟩
    .cases hin
   .cases hin
 obtain⟨cs',hgv⟩:=hgv;simp only[tW,wj,bR,get,if_true,aZ,ae,ar]at h2;obtain⟨rfl,rfl⟩:=h2;have hne:get ((d,D.vr m s off)::e) m=get e m:=by simp[get,hdv]
 have hna:get ((d,D.vr m s off)::e) a=get e a:=by simp[get,hda]
 have hin':pU ((d,D.vr m s off)::e) m a=some (s,cs,o):=by rw[DB hne hna,hin]
 have hX':bz ((d,D.vr m s off)::e) X=bz e X:=bg λt ht=>by
  have:d≠t:=λhe=>hdX (he ▸ ht)
  simp[get,this]
 have heq:HP (put (some d) (D.vr m s off) ((m,.own s (cs.take o++p++cs.drop (o+sz)))::e)) ((m,.own s (cs.take o++p++cs.drop (o+sz)))::(d,D.vr m s off)::e):=by
  intro t;simp only[put,get];by_cases h1:d=t
  .have:¬m=t:=λe=>hdv (h1.trans e.symm)
   simp[h1,this]
  .simp[h1]
 obtain⟨e3,k1,k2⟩:=Jt h3 heq;refine⟨e3,?_,k2⟩;rw[jI];simp only[tW,wj,bR,hgv,aZ,Option.bind_some];rw[jI];simp only[tW,wj,put,hin',hX',hX,hq,and_self,if_true,j7,Option.bind_some];exact k1
theorem aaz{O:bZ}{x y:Op}{e2:Env}{J2:SK}{r:List Op}(hf:x.free y=true)
  (h:kU O (x::y::r) e J=some (e2,J2)):∃e2',kU O (y::x::r) e J=some (e2',J2)/\HP e2 e2':=by
 unfold Op.free at hf;rw[cg]at hf;rcases hf with hf | hf
 .exact acu hf h
 simp only[af,dR]at hf;obtain⟨hc,hf⟩:=hf;simp only[Op.aaR,Bool.or_eq_false_iff,List.any_eq_false,List.contains_iff_mem,cg,not_or]at hc;obtain⟨c1,c2⟩:=hc;rw[jI]at h;simp only[ak,Prod.exists]at h;obtain⟨ex,Jx,h1,h2⟩:=h;rw[jI]at h2;simp only[ak,Prod.exists]at h2;obtain⟨ey,Jy,h2,h3⟩:=h2;obtain⟨lx,d1,hl1⟩:=FG h1;obtain⟨ly,d2,hl2⟩:=FG h2;have k1:=hl1 e (HP.CZ (.refl e) _);rw[h1]at k1;cases k1;have k2:=hl2 _ (HP.CZ (.refl _) _);rw[h2]at k2;cases k2;have ay:jG (y.GR++y.defs) (lx++e) e:=λt ht=>by
  rw[IV,if_neg];intro hm;obtain⟨p,hp,rfl⟩:=bJ.1 hm;have:=c1 _ (d1 p hp);simp only[aX]at ht;rcases ht with ht | ht
  .exact this.2 (by simpa using ht)
  .exact this.1 (by simpa using ht)
 have ax:jG (x.GR++x.defs) e (ly++e):=λt ht=>by
  rw[IV,if_neg];intro hm;obtain⟨p,hp,rfl⟩:=bJ.1 hm;have hp':=d2 p hp;simp only[aX]at ht;rcases ht with ht | ht
  .exact c2 _ ht (by simpa using hp')
  .exact(c1 _ ht).1 (by simpa using hp')
 have hy0:=hl2 e ay;have hx0:=hl1 (ly++e) ax;obtain⟨Jm,hy1,hx1⟩:∃Jm,tW O y e J=some (ly++e,Jm)/\tW O x (ly++e) Jm=some (lx++(ly++e),Jy):=by
  simp only[cg,af]at hf;rcases hf with((⟨hx,hy⟩ | hx) | hy) | hfar
  .obtain rfl:=FH h1 hx;obtain rfl:=FH h2 hy;exact⟨_,hy0,hx0⟩
  .have e1:=Eh h1 hx J;rw[h1]at e1;cases e1;exact⟨Jy,hy0,Eh hx0 hx Jy⟩
  .have e2:=Eh h2 hy Jx;rw[h2]at e2;cases e2;exact⟨J,Eh hy0 hy J,hx0⟩
  .unfold Op.far at hfar;obtain⟨dx,gx,nx,kx⟩:=x;obtain⟨dy,gy,ny,ky⟩:=y;simp only[af,Option.isNone_iff_eq_none]at hfar;obtain⟨⟨rfl,rfl⟩,hfar⟩:=hfar;split at hfar
   .rename_i os sz a X ag sz' m;have hm:m∈os:=by simpa using hfar
    obtain⟨l,i,v,off,b,_,hoff,rfl,_⟩:=GK h1;obtain⟨rfl,hall⟩:=Eg hy0;exact⟨J,hall J (M9 (hoff m hm)).symm,hx0⟩
   .rename_i ag sz' m os sz a X;have hm:m∈os:=by simpa using hfar
    obtain⟨rfl,_⟩:=Eg h1;obtain⟨l,i,v,off,b,_,hoff,rfl,_⟩:=GK hy0;obtain⟨_,hall⟩:=Eg hx0;refine⟨_,hy0,hall _ ?_⟩;have hg:get (ly++e) m=get e m:=ax m (by simp[Op.GR,K.tmps,bP.tmps]);rw[hg];exact M9 (hoff m hm)
   .rename_i os sz a X os' sz' m X';have hm:m∈os:=by simpa using hfar
    obtain⟨l,i,v,off,b,_,hoff,rfl,hall⟩:=GK hx0;obtain⟨l',i',v',off',b',hr,hoff',rfl,hall'⟩:=GK hy0;have hg:get (ly++e) m=get e m:=ax m (by simp[Op.GR,K.tmps,hm]);have h4:=hoff m hm;rw[hg]at h4;have h5:get e m=.ref l' i' v' off':=by
     simp only[bz]at hr;cases hgm:get e m<;>rw[hgm]at hr<;>simp only[D.strip,reduceCtorEq]at hr;exact hr
    rw[h5]at h4;simp only[D.off,aw]at h4;refine⟨bh J l' i' b',hall' J dD.symm (BP h4).symm,?_⟩;rw[PE h4];exact hall _ dD (BP λhh=>h4 ⟨hh.1.symm,hh.2.symm⟩)
   .rename_i os wd bt a X ag sz' m;have hm:m∈os:=by simpa using hfar
    obtain⟨l,i,b,bc,hoff,rfl⟩:=Py h1;obtain⟨rfl,hall⟩:=Eg hy0;exact⟨J,hall J (M9 (hoff m hm)).symm,hx0⟩
   .rename_i ag sz' m cs;obtain⟨rfl,_⟩:=Eg h1;obtain⟨_,hall⟩:=Eg hx0;refine⟨_,hy0,hall _ ?_⟩;have hg:get (ly++e) m=get e m:=ax m (by simp[Op.GR,K.tmps,bP.tmps]);rw[hg];have hrd:∃c,Hw Jx (get e m).strip=some c:=by
     simp only[tW,wj,bR,bz]at h1;cases hr:Hw Jx (get e m).strip with
     |none=>rw[hr]at h1;simp at h1
     |some c=>exact⟨c,rfl⟩
    obtain⟨c,hrd⟩:=hrd;have hn:∃l i,gA Jx (.cells 0 cs)=some (l,i,Jy):=by
     simp only[tW,wj,bR,j7,aU,Option.bind_some,ad,ak,Prod.exists,ar]at hy0;obtain⟨d0,J0,⟨l,i,J3,h1,h2⟩,_,h3⟩:=hy0;cases h2;cases h3;exact⟨l,i,h1⟩
    obtain⟨l,i,hn⟩:=hn;rw[hrd,Uk hn hrd]
   .rename_i os wd bt a X ag sz' m;obtain⟨l,i,b,bc,hoff,rfl⟩:=Py h1;obtain⟨rfl,c,hc,hall⟩:=XC hy0;exact⟨J,hall J (Z6 hc),hx0⟩
   .cases hfar
 have heq:HP (ly++(lx++e)) (lx++(ly++e)):=λt=>by
  simp only[IV];by_cases m1:t∈lx.map (·.1)
  .by_cases m2:t∈ly.map (·.1)
   .obtain⟨p,hp,rfl⟩:=bJ.1 m1;obtain⟨q,hq,he⟩:=bJ.1 m2;have:=(c1 _ (d1 p hp)).1;have hq':=d2 q hq;rw[he]at hq';exact absurd hq' (by simpa using this)
   .rw[if_pos m1,if_neg m2,if_pos m1]
  .by_cases m2:t∈ly.map (·.1)
   .rw[if_neg m1,if_pos m2,if_pos m2]
   .rw[if_neg m1,if_neg m2,if_neg m2,if_neg m1]
 obtain⟨e3,k3,k4⟩:=Jt h3 heq;refine⟨e3,?_,k4⟩;rw[jI,hy1];simp only[Option.bind_some];rw[jI,hx1];exact k3
theorem OP{O:bZ}{y:Op}{r:List Op}:∀{pre:List Op} {e e2:Env} {J J2:SK},(∀x∈pre,x.free y=true) ->
  kU O (pre++y::r) e J=some (e2,J2)->∃e2',kU O (y::(pre++r)) e J=some (e2',J2)/\HP e2 e2'
 |[],e,e2,J,J2,hp,h=>⟨e2,h,.refl _⟩
 |x::pre,e,e2,J,J2,hp,h=>by
  simp only[cm]at h;rw[jI]at h;simp only[ak,Prod.exists]at h;obtain⟨e1,J1,h1,h2⟩:=h;obtain⟨e3,h3,h4⟩:=OP (λz hz=>hp z (by simp[hz])) h2;have h5:kU O (x::y::(pre++r)) e J=some (e3,J2):=by rw[jI,h1];exact h3
  obtain⟨e4,h6,h7⟩:=aaz (hp x (by simp)) h5;exact⟨e4,h6,h4.trans h7⟩
theorem Ng{live:List Nat}(h:HP e e'):restrict live e'=restrict live e:=by
 simp only[restrict];exact List.map_congr_left λt _=>by rw[h t]
end Go.Abs
