import Derived.Test.YtpapbbojmclkgaaGreatDoorBase9
import Derived.Recover
set_option linter.all false
namespace Go.Abs
open Go
def wL(P:Program)(CR:fh)(f:Nat)(args:List D)(J:SK)(d:D)(J':SK):Prop :=
 (∃F c,P.funcs[f]?=some F/\F.name ≠ "runtime.NumGoroutine" /\ F.body=some c) /\
 ∀base g w vs,Inv CR base g J w->pW J->0<J.length->bN g args vs.toList ->
  fO J J'/\Calls P f vs w (λe w'=>∃v g',e=.returned v/\Ev g w g' w'/\Inv CR base g' J' w'/\bQ g' d v)
def ZQ(P:Program)(CR:fh)(f:Nat)(args:List D)(J:SK)(d:D)(J':SK):Prop :=
 d.clean=true/\(∃F c,P.funcs[f]?=some F/\F.name ≠ "runtime.NumGoroutine" /\ F.body=some c) /\
 ∀base g w vs,Inv CR base g J w->pW J->0<J.length->bN g args vs.toList ->
  fO J J'/\Calls P f vs w (λe w'=>∃v g',e=.panicked [{v,recovered:=false }]/\Ev g w g' w'/\Inv CR base g' J' w'/\bQ g' d v)
def Sm(g:G):Option D->FrameMode->Prop
 |none,u=>u=.returning
 |some d,u=>∃v,bQ g d v/\u=.panicking [{v,recovered:=false }]
def ZJ(P:Program)(CR:fh)(f:Nat)(args:List D)(th:Option D)(J J':SK):Prop :=
 (∃F c,P.funcs[f]?=some F/\F.name ≠ "runtime.NumGoroutine" /\ F.body=some c) /\
 ∀base g w vs u,Inv CR base g J w->pW J->0<J.length->bN g args vs.toList->Sm g th u ->
  fO J J'/\CallsD P f vs u w (λe u' w'=>∃v g',e=.returned v/\settle u'=.returning/\Ev g w g' w'/\Inv CR base g' J' w')
def SN(P:Program)(CR:fh)(l i:Nat)(args:List D)(J:SK)(d:D)(J':SK):Prop :=
 (∃lp,dZ J l i=some (.loop lp))/\∀base g w vs b,Inv CR base g J w->pW J->0<J.length->bN g args vs.toList->bQ g (.jU l i) (.func (.yield b) #[] #[]) ->
  fO J J'/\∃f tmps B9 body,(Instr.yield b vs).run P w=.ok (.round b f tmps B9 body) w /\
   ∀c cs,∃v g' w',Steps P (lone (Frame.round b f tmps B9 body .normal) (c::cs) w) (lone (c.finish v) cs w')/\Ev g w g' w'/\Inv CR base g' J' w'/\bQ g' d v
def CS(k:List Item):Exit->List Item->Prop
 |.normal,t=>t=k
 |.exit id,t=>∃k',t=.code (.exit id)::k'/\exitTo id k'=exitTo id k
 |.ret,t=>∃k',t=.code .ret::k'
 |.fu _,_=>True
def xG(S:Frame->Prop)(g:G)(b:Frame)(a:Act)(todo:List Item):Exit->Prop
 |.fu d=>d.clean=true/\∃v,bQ g d v/\S {b.atR a todo with mode:=.panicking [{v,recovered:=false }] }
 |_=>S (b.atR a todo)
theorem xG.imp{S S':Frame->Prop}{g:G}{b:Frame}{a:Act}{todo:List Item}{x:Exit}(h:xG S g b a todo x)(hs:∀fr,S fr->S' fr):xG S' g b a todo x:=by
 cases x with
 |fu d=>obtain⟨h0,v,h1,h2⟩:=h;exact⟨h0,v,h1,hs _ h2⟩
 |_=>exact hs _ h
def ac9(P:Program)(CR:fh)(c:b9)(e:Env)(J:SK)(x:Exit)(e':Env)(J':SK):Prop :=
 x ≠ .normal/\∀(ann:tx) dJ code n,ct P ann n dJ code=some c->∀base g0 w0 b a k cs g w B,At CR base ann.dU g0 w0 n b g w B e J a ->
  ∃g' w' B' a' todo,xG (λfr=>Steps P (lone (b.atR a (.code code::.inLoop code::k)) cs w) (lone fr cs w')) g' b a' todo x /\
   At CR base ann.dU g0 w0 n b g' w' B' e' J' a'/\g.le g'/\CS k x todo/\fO J J'
def Wx(P:Program)(ann:tx)(n dJ:Nat)(rest:b9):Option Code->Prop
 |none=>rest=.Ji
 |some q=>ct P ann n dJ q=some rest
def ZM(P:Program)(CR:fh)(live:List Nat)(it:bP)(nx ok bid:Nat)(c rest:b9)(e:Env)(J:SK)(x:Exit)(e':Env)(J':SK):Prop :=
 ∀(ann:tx) dJ rid ops p n it0 (qs:Option Code),it=.t it0->Rr ann n (.loop (.seq (.region rid ops false) p))=some (it0,nx,ok)->ct P ann n bid p=some c->Wx P ann n dJ rest qs ->
  ∀base g0 w0 b a k cs g w B,At CR base ann.dU g0 w0 n b g w B e J a ->
  ∃g' w' B' a' todo,xG (λfr=>Steps P (lone (b.atR a (.code (.seq (.region rid ops false) p)::.inLoop (.seq (.region rid ops false) p)::.inBlock bid::(qs.toList.map Item.code++k))) cs w) (lone fr cs w')) g' b a' todo x /\
   At CR base ann.dU g0 w0 n b g' w' B' e' J' a'/\g.le g'/\CS k x todo/\fO J J'
def Ia(P:Program)(CR:fh):Q->R->Prop
 |.call _ f args J,.val d J'=>wL P CR f args J d J'
 |.round l i args J,.val d J'=>SN P CR l i args J d J'
 |.loop _ _ c e J,.EX x e' J'=>ac9 P CR c e J x e' J'
 |.call _ f args J,.fu d J'=>ZQ P CR f args J d J'
 |.iq live it nx ok bid c rest e J,.EX x e' J'=>ZM P CR live it nx ok bid c rest e J x e' J'
 |.zG f args th J,.val _ J'=>ZJ P CR f args th J J'
 |_,_=>True
def Bg(P:Program)(CR:fh)(O:cf):Prop:=∀q r,O q=some r->Ia P CR q r
theorem H8{r:Option R}{d:D}{J:SK}(h:R.dz r=some (d,J)):r=some (.val d J):=by
 unfold R.dz at h;split at h
 .cases h;rfl
 .cases h
theorem LU{r:Option R}{x:Exit}{e:Env}{J:SK}(h:R.Up r=some (x,e,J)):r=some (.EX x e J):=by
 unfold R.Up at h;split at h
 .cases h;rfl
 .cases h
section
variable {P:Program} {CR:fh} {O:cf} {ann:tx} {n si:Nat} {ops:Array Oper} {base:Nat} {g0 g:G} {w0 w:World} {b:Frame} {B:Nat->Nat} {e e':Env} {J J':SK} {a:Act}
 {k:List Item} {cs:List Frame} {i:Nat} {rest:List Nat}
def OU(P:Program)(CR:fh)(ann:tx)(n:Nat)(ops:Array Oper)(base:Nat)(g0:G)(w0:World)(b:Frame)(g:G)(w:World)(a:Act)(k:List Item)(cs:List Frame)(i:Nat)(rest:List Nat)(J:SK)(e':Env)(J':SK):Prop :=
 ∃g' w' B' a',Steps P (lone (b.atR a (.inRegion ops (i::rest)::k)) cs w) (lone (b.atR a' (.inRegion ops rest::k)) cs w') /\
  At CR base ann.dU g0 w0 n b g' w' B' e' J' a'/\g.le g'/\fO J J'
theorem At.go{V:List Nat}(ha:At CR base V g0 w0 n b g w B e J a){g':G}{w':World}{B':Nat->Nat}{tm:Act}(he:Ev g w g' w')(hi:Inv CR base g' J' w')(hg:fO J J')
  (hf:Fr w0.heap.size V g' w' B' e' tm.tmps) (hs:tm.tmps.size=a.tmps.size) (hd:tm.defers=a.defers):At CR base V g0 w0 n b g' w' B' e' J' tm where
 fr:=hf
 ev:=ha.ev.trans he
 inv:=hi
 low:=hg.low ha.low
 pos:=by rw[hg.len];exact ha.pos
 size:=by rw[hs];exact ha.size
 marks:=let ⟨rs,h⟩:=ha.marks;⟨rs,by rw[hd];exact h.ev he⟩
 round:=vv ha.round he.le
theorem D9{dst:Option Nat}{c:Value}:(a.put dst c).tmps.size=a.tmps.size:=by cases dst<;>simp[Act.put]
theorem put_defers{dst:Option Nat}{c:Value}:(a.put dst c).defers=a.defers:=by cases dst<;>simp[Act.put]
theorem PE{ann:tx}{key:Nat}{o:Oper}{kk:K}(h:kC P ann ops key o=some kk):∀c,o.op ≠ .defer c:=by
 intro c hc;unfold kC at h;rw[hc]at h;cases h
theorem CD(ha:At CR base ann.dU g0 w0 n b g w B e J a){o:Oper}(ho:ops[i]?=some o)(hn:∀t,o.dst=some t->t<n)(hV:∀t,o.dst=some t->t ∉ ann.dU)
  {g':G} {w':World} {d:D} {c:Value} (hsteps:Steps P (lone (b.atR a (.inRegion ops (i::rest)::k)) cs w) (lone (b.atR (a.put o.dst c) (.inRegion ops rest::k)) cs w'))
  (he:Ev g w g' w') (hi:Inv CR base g' J' w') (hg:fO J J') (hr:cU g' B e d c):
  OU P CR ann n ops base g0 w0 b g w a k cs i rest J (put o.dst d e) J':=by
 refine⟨g',w',B,a.put o.dst c,hsteps,ha.go he hi hg ?_ D9 put_defers,he.le,hg⟩;exact(ha.fr.ev he).put hr hV λt ht=>by rw[ha.size];exact hn t ht
theorem jT{ρ:Operand->Value}{f:Operand}{args:Array Operand}{ts:Array TypeId}{ty:TypeId}{fn:Go.Fn}{first cap:Array Value}(hf:ρ f=.func fn first cap)(w:World):
  (resolve ρ {callee:=.value f,args,argTypes:=ts } ty).run P w=.ok {target:=.fn fn cap,args:=first++args.map ρ } w:=by
 simp[resolve,Deferred.ofValue,hf]
theorem xU{f:FuncId}{args:Array Value}{F:Func}(h1:P.funcs[f]?=some F)(h2:F.name ≠ "runtime.NumGoroutine"){c:Code}(h3:F.body=some c)(w:World):
  (callFunc f args).run P w=.ok (.enter f args) w:=by
 simp[callFunc,program,Sem.run,h1,h2,h3]
theorem GZ{xs:Array Operand}{Xs:List bP}{fb:Nat}{V:List Nat}{tmps:Array Value}{df:List Deferred}(hf:Fr fb V g w B e tmps)(hx:xA xs.toList=some Xs):
  bN g (Xs.map (Abs.bB e)) (xs.map (Act.mk tmps df).eval).toList:=by
 have:=hf.ad5 (df:=df) hx;simpa using this
theorem SV(hO:Bg P CR O)(ha:At CR base ann.dU g0 w0 n b g w B e J a){o:Oper}(ho:ops[i]?=some o)(hw:Region.wanted o (yielded ops a.tmps)=true)
  (hn:∀t,o.dst=some t->t<n) (hV:∀t,o.dst=some t->t ∉ ann.dU) {f:Operand} {args:Array Operand} {ts:Array TypeId} (hop:o.op=.call {callee:=.value f,args,argTypes:=ts })
  {F:bP} {Xs:List bP} (hF:bO f=some F) (hX:xA args.toList=some Xs) {kp:Bool} {d:D} (h:oi O kp (bB e F) (Xs.map (bB e)) J=some (d,J')):
  OU P CR ann n ops base g0 w0 b g w a k cs i rest J (put o.dst d e) J':=by
 obtain⟨tmps,df⟩:=a;have hd:∀c,o.op ≠ .defer c:=by intro c hc;rw[hop]at hc;cases hc
 have hfv:=ha.fr.bB (df:=df) hF;have hxs:=GZ (df:=df) ha.fr hX;unfold oi at h;split at h
 .rename_i fi first cap hfe
  rw[hfe]at hfv;have hans:=hO _ _ (H8 h);obtain⟨⟨Fn,cd,hfn1,hfn2,hfn3⟩,hcall⟩:=hans;generalize hev:(Act.mk tmps df).eval f=fv at hfv;cases hfv with
  |fn _ _ _ first' cap' r1 r2 =>
   have hrun:(execOp (Act.mk tmps df).eval o).run P w=.ok (.enter fi (first'++args.map (Act.mk tmps df).eval++cap')) w:=by
    simp only[execOp,hop,Sem.run_bind,jT hev,Result.andThen_ok,invoke,xU hfn1 hfn2 hfn3]
   have hargs:bN g (first++Xs.map (bB e)++cap) (first'++args.map (Act.mk tmps df).eval++cap').toList:=by
    simpa using(r1.append hxs).append r2
   obtain⟨hgo,hcalls⟩:=hcall base g w _ ha.inv ha.low ha.pos hargs;obtain⟨en,w',fr,⟨v,g',rfl,he,hi,hr⟩,hcomes,hfr,hleave⟩:=hcalls (b.atR ⟨tmps,df⟩ (.inRegion ops (i::rest)::k)::cs);refine CD ha ho hn hV (Steps.head (KW ho hw hd hrun) (Steps.trans hcomes (Steps.one ?_))) he hi hgo (cU.of hr);rw[step_leave_returned hleave,Et ho]
 .rename_i l j hfe;rw[hfe]at hfv;have hans:=hO _ _ (H8 h);generalize hev:(Act.mk tmps df).eval f=fv at hfv;have hfv0:=hfv;cases hfv with
  |Tg _ _ bb r1 =>
   obtain⟨⟨lp,hlp⟩,_⟩:=hans;obtain⟨b0,hb0,hrel⟩:=ha.inv.xJ _ _ _ r1;rw[hlp]at hb0;cases hb0;exact hrel.elim
  |Xx _ _ bb L r1 r2 =>
   obtain⟨⟨lp,hlp⟩,_⟩:=hans;obtain⟨b0,hb0,hrel⟩:=ha.inv.xJ _ _ _ r1;rw[hlp]at hb0;cases hb0;rcases r2 with rfl | rfl<;>exact hrel.elim
  |Uk _ _ bb L r1 r2 =>
   obtain⟨⟨lp,hlp⟩,_⟩:=hans;obtain⟨b0,hb0,hrel⟩:=ha.inv.xJ _ _ _ r1;rw[hlp]at hb0;cases hb0;rcases r2 with⟨c,rfl⟩ | rfl<;>exact hrel.elim
  |jU _ _ bb r1 =>
   obtain⟨hgo,f0,tm0,B9,body,hy,hround⟩:=hans.2 base g w (args.map (Act.mk tmps df).eval) bb ha.inv ha.low ha.pos (by simpa using hxs) hfv0;have hrun:(execOp (Act.mk tmps df).eval o).run P w=.ok (.round bb f0 tm0 B9 body) w:=by
    simp only[execOp,hop,Sem.run_bind,jT hev,Result.andThen_ok,invoke];simpa using hy
   obtain⟨v,g',w',hsteps,he,hi,hr⟩:=hround (b.atR ⟨tmps,df⟩ (.inRegion ops (i::rest)::k)) cs;refine CD ha ho hn hV (Steps.head (RU ho hw hd hrun) ?_) he hi hgo (cU.of hr);rw[Et ho]at hsteps;exact hsteps
 .cases h
end
section
variable {P:Program} {CR:fh} {O:cf} {ann:tx} {n si:Nat} {ops:Array Oper} {base:Nat} {g0 g:G} {w0 w:World} {b:Frame} {B:Nat->Nat} {e e':Env} {J J':SK} {a:Act}
 {k:List Item} {cs:List Frame} {i:Nat} {rest:List Nat}
theorem XY(ha:At CR base ann.dU g0 w0 n b g w B e J a){o:Oper}(ho:ops[i]?=some o)(hw:Region.wanted o (yielded ops a.tmps)=true)(hd:∀c,o.op ≠ .defer c)
  {v:Nat} (hdst:o.dst=some v) (hV:v∈ann.dU) (hn:v<n) {g1:G} {ds:List D} {ca:Array Value} {el:TypeId}
  (hrun:(execOp a.eval o).run P w=.ok (.value (.pointer (some ⟨w.heap.size,0,none⟩))) (w.alloc (.cells ca el)))
  (i1:Inv CR base g1 J' w) (e1:Ev g w g1 w) (hg:fO J J') (hr:bN g1 ds ca.toList) (h1:∀x∈ca.toList,x.oneCell'=true):
  OU P CR ann n ops base g0 w0 b g w a k cs i rest J ((v,.own (uy e v) ds)::e) J':=by
 obtain⟨tmps,df⟩:=a;have i2:=i1.alloc (.cells ca el);have e2:=e1.trans (Ev.alloc g1 w (.cells ca el));have hsteps:=zq (P:=P) (b:=b) (a:=⟨tmps,df⟩) (k:=k) (cs:=cs) (rest:=rest) ho hw hd hrun rfl;rw[hdst]at hsteps;have hsz:v<tmps.size:=by have:=ha.size;simp only at this;omega
 refine⟨g1,_,_,_,.one hsteps,ha.go e2 i2 hg ((ha.fr.ev e2).aec hV hsz ⟨ha.ev.size,λhb=>?_,λo=>?_,ca,el,sW,hr,h1⟩ λt s cs' ht=>?_) D9 put_defers,e2.le,hg⟩
 .exact Nat.lt_irrefl _ (i1.Xn hb)
 .cases hh:g1.oc w.heap.size o with
  |none=>rfl
  |some x=>exact absurd (i1.jh hh) (Nat.lt_irrefl _)
 .have:=(ha.fr.own t s cs' ht).2.2.lt;omega
theorem ae5(ha:At CR base ann.dU g0 w0 n b g w B e J a){o:Oper}(ho:ops[i]?=some o)(hw:Region.wanted o (yielded ops a.tmps)=true)
  (hn:∀t,o.dst=some t->t<n) (hV:∀t,o.dst=some t->t ∉ ann.dU) {t:TypeId} {x v:Nat} {y:Operand} {Y:bP} (hop:o.op=.store t (.tmp x) y) (hy:bO y=some Y) {sz:Nat} (hsz:dE P t=some sz)
  {s off:Nat} {cv p p':List D} {nb:List (Nat×Nat)} (hin:qT e v x=some (s,cv,off)) (hp:(bB e Y).cells=some p) (hlen:p.length=sz/\off+sz<=cv.length)
  (hnb:kj nb p J=some (p',J')) (hdst:o.dst=none):
  OU P CR ann n ops base g0 w0 b g w a k cs i rest J ((v,.own s (cv.take off++p'++cv.drop (off+sz)))::e) J':=by
 obtain⟨tmps,df⟩:=a;have hd:∀c,o.op ≠ .defer c:=by intro c hc;rw[hop]at hc;cases hc
 obtain⟨hgv,hpx⟩:=ha.fr.qT hin;obtain⟨hvV,hptr,hob⟩:=ha.fr.own v s cv hgv;obtain⟨ca,el,hheap,hrl,h1c⟩:=hob.dJ;obtain⟨hrp,h1p⟩:=(ha.fr.bB (df:=df) hy).cells hp;obtain⟨g1,i1,e1,r1⟩:=zf nb _ _ _ _ g _ hnb ha.inv hrp;obtain⟨_,hp'len,_⟩:=CE nb _ _ _ _ hnb;have hpl:((Act.mk tmps df).eval y).cells.toList.length=sz:=by rw[<- r1.length,hp'len];exact hlen.1
 have hpl':((Act.mk tmps df).eval y).cells.size=sz:=by simpa using hpl
 have hcl:ca.size=cv.length:=by have:=hrl.length;simpa using this.symm
 obtain⟨w',c',hrun,hb',hs',hc',hother,hsize,ho1,ho2,ho3⟩:=G7 (P:=P) (t:=t) (w:=w) (b:=B v) (o:=off) (v:=(Act.mk tmps df).eval y) hsz (by simpa using hpl) h1p hheap (by omega);have hob1:=hob.ev e1;have hcv:(Act.mk tmps df).eval (.tmp x)=.pointer (some ⟨B v,off,none⟩):=hpx;have hrunO:(execOp (Act.mk tmps df).eval o).run P w=.ok .skip w':=by
  simp[execOp,hop,Instr.storeAt,hcv,Instr.sureAddr,hrun]
 have hoth:∀b',b'≠B v->w'.heap[b']?=w.heap[b']?:=hother;have i2:Inv CR base g1 J' w':=i1.Jd (λb' hb'' hk=>hoth b' λhh=>by
  subst hh;rcases hk with hk | ⟨o2,v2,hk⟩
  .exact hob1.free hk
  .rw[hob1.qU]at hk;cases hk) (by omega)
 have hwrite:bN g1 (cv.take off++p'++cv.drop (off+sz)) c'.toList/\∀z∈c'.toList,z.oneCell'=true:=by
  have hrow:=HU (c:=ca) (c':=c') (bo:=0) (off:=off) (vs:=ca.toList) (ps:=((Act.mk tmps df).eval y).cells.toList) (λj z hz=>⟨by simpa using hz,h1c z (aj hz)⟩) h1p (by simp;omega)
   (by rw[hpl];simpa using hc')
  rw[hpl]at hrow;have hrel:=(((hrl.mono e1.le).take off).append r1).append ((hrl.mono e1.le).drop (off+sz));have heq:c'.toList=ca.toList.take off++((Act.mk tmps df).eval y).cells.toList++ca.toList.drop (off+sz):=by
   have hll:(ca.toList.take off++((Act.mk tmps df).eval y).cells.toList++ca.toList.drop (off+sz)).length=c'.toList.length:=by
    simp only[aV,hpl,dA,List.length_drop,Array.length_toList,hs'];omega
   apply ez;intro j;by_cases hj:j<c'.toList.length
   .have hj2:=hj;rw[<- hll]at hj2;have:=(hrow j _ (aH hj2)).1;rw[aH hj2];simpa using this
   .rw[dN (by omega),dN (by omega)]
  rw[heq];refine⟨hrel,λz hz=>?_⟩;simp only[aT]at hz;rcases hz with(hz | hz) | hz
  .exact h1c z (cY hz)
  .exact h1p z hz
  .exact h1c z (cX hz)
 have hob2:K5 w0.heap.size g1 w' (B v) (cv.take off++p'++cv.drop (off+sz)):=⟨hob1.lo,hob1.free,hob1.qU,c',el,hb',hwrite.1,hwrite.2⟩;have hsteps:=zq (P:=P) (b:=b) (a:=⟨tmps,df⟩) (k:=k) (cs:=cs) (rest:=rest) ho hw hd hrunO rfl;rw[hdst]at hsteps;have hgo:=sU _ _ _ _ _ hnb;refine⟨g1,w',B,⟨tmps,df⟩,.one hsteps,⟨?_,?_,i2,hgo.low ha.low,by rw[hgo.len];exact ha.pos,ha.size,?_,vv ha.round e1.le⟩,e1.le,hgo⟩
 .exact(ha.fr.ev e1).RL hgv hob2 λb' _ hne=>hoth b' hne
 .have h0:=ha.ev.trans e1;refine⟨h0.le,ho1.trans h0.os,ho2.trans h0.tape,ho3.trans h0.output,by have:=h0.size;omega,λb' hb'' hnb'=>?_,h0.Vd,h0.Lg⟩;rw[hoth b' (by have:=hob.lo;omega)];exact h0.kept b' hb'' hnb'
 .obtain⟨rs,hm⟩:=ha.marks;have hm1:=hm.ev e1;refine⟨rs,hm1.eq,hm1.nodup,λr hr=>?_⟩;have hmr:=hm1.all r hr;refine⟨hmr.lo,hmr.free,hmr.qU,?_⟩;rw[hoth r,hmr.dJ];intro hh;subst hh;have:=hmr.dJ;rw[hheap]at this;cases this
def KEq(P:Program)(ann:tx)(o:Oper)(kk:K):Prop :=
  match kk with
  |.call _ F Xs=>∃f args ts,o.op=.call {callee:=.value f,args,argTypes:=ts }/\bO f=some F/\xA args.toList=some Xs
  |.B7 _ z=>∃el v,o.op=.alloc el/\qX P el=some z/\o.dst=some v/\v∈ann.dU
  |.FM X=>∃t x v,o.op=.box t x/\bO x=some X/\o.dst=some v/\v∈ann.dU
  |.H5 _ _ sz x Y=>∃t y,o.op=.store t (.tmp x) y/\bO y=some Y/\dE P t=some sz
  |.XZ X=>∃y,o.op=.panic y/\bO y=some X
  |.QA=>∃args ts,o.op=.call {callee:=.builtin .recover,args,argTypes:=ts }
  |_=>True
theorem Rl{X Y:bP}{t:TypeId}{bo:BinOp}{kk:K}{o:Oper}(hk:eqC P bo t X Y=some kk):KEq P ann o kk:=by
 unfold eqC at hk;split at hk
 case h_2=>cases hk
 split at hk
 .cases hk
 split at hk
 .obtain⟨ag,hag,rfl⟩:=ad.1 hk;trivial
 .obtain⟨ag,hag,rfl⟩:=ad.1 hk;trivial
 .cases hk
theorem Xz{kk:K}{key:Nat}{o:Oper}(hk:kC P ann ops key o=some kk):KEq P ann o kk:=by
 unfold kC at hk;split at hk
 .rename_i x ho;obtain⟨X,hX,rfl⟩:=ad.1 hk;trivial
 .rename_i x ho;split at hk
  .rename_i hnil _ _;split at hk
   .obtain⟨X,hX,rfl⟩:=ad.1 hk;trivial
   .obtain⟨X,hX,rfl⟩:=ad.1 hk;trivial
  .obtain⟨X,hX,rfl⟩:=ad.1 hk;trivial
 .rename_i c x y ho;split at hk
  .rename_i c' x' y' h1 h2 h3;cases hk;trivial
  .cases hk
 .rename_i el ho;split at hk
  .rename_i z d0 hz hd0;split at hk
   .split at hk
    case h_2=>cases hk
    split at hk
    case h_2=>cases hk
    split at hk
    case h_2=>cases hk
    cases hk;trivial
   cases hk;split
   .rename_i hc;exact⟨el,d0,ho,hz,hd0,by simpa using hc⟩
   .trivial
  .cases hk
 .rename_i t x ho;split at hk
  .rename_i x' d0 hx hd0;cases hk;by_cases hc:ann.dU.contains d0=true
   .simp only[hc,if_true];exact⟨t,x,d0,ho,hx,hd0,by simpa using hc⟩
   .rw[if_neg hc];split
    .split<;>trivial
    .trivial
  .cases hk
 .rename_i t ps ho;split at hk
  .rename_i fs z ht hz;split at hk
   .rename_i hall;obtain⟨parts,hp,rfl⟩:=ad.1 hk;trivial
   .cases hk
  .rename_i n el z ht hz;split at hk
   .rename_i wd hw;obtain⟨parts,hp,rfl⟩:=ad.1 hk;trivial
   .cases hk
  .cases hk
 .rename_i t n ps ho;split at hk
  .rename_i el ht;split at hk
   .rename_i wd z d0 hw hz _;split at hk
    .rename_i hc;obtain⟨parts,hp,rfl⟩:=ad.1 hk;dsimp only;split
     .trivial
     split<;>trivial
    .cases hk
   .cases hk
  .cases hk
 .rename_i t x ho;split at hk
  .rename_i ag sz n hag hsz hx;split at hk
   .rename_i hc;simp only[af,az]at hc;cases hk;have hxe:x=.tmp n:=by
     cases x<;>simp only[bO,ae,bP.t.injEq,reduceCtorEq,ad,and_false,exists_false]at hx;rw[hx]
    split
    .trivial
    .split
     .trivial
     .split<;>trivial
   .cases hk
  .cases hk
 .rename_i t x y ho;split at hk
  .rename_i sz n y' hsz hx hy;cases hk;have hxe:x=.tmp n:=by
    cases x<;>simp only[bO,ae,bP.t.injEq,reduceCtorEq,ad,and_false,exists_false]at hx;rw[hx]
   by_cases hc:ann.dU.contains (IP ops 8 n)=true
   .simp only[hc,if_true];exact⟨t,y,by rw[ho,hxe],hy,hsz⟩
   .rw[if_neg hc];split<;>trivial
  .cases hk
 .rename_i b t x y u ho;split at hk
  .rename_i hx hy;cases hk;trivial
  .rename_i hx hy;exact Rl hk
  .rename_i hx hy;exact Rl hk
  .rename_i hx hy;exact Rl hk
  .rename_i ht hx hy;split at hk<;>cases hk<;>trivial
  .rename_i ht hx hy;unfold YQ at hk;split at hk<;>cases hk<;>trivial
  .rename_i ht hx hy;split at hk
   .split at hk<;>cases hk<;>trivial
   .cases hk
  .rename_i ht hx hy;unfold YQ at hk;split at hk<;>cases hk<;>trivial
  .rename_i ht hx hy;split at hk<;>cases hk<;>trivial
  .cases hk
 .rename_i x ho;obtain⟨X,hX,rfl⟩:=ad.1 hk;trivial
 .rename_i b t x ho;obtain⟨X,hX,rfl⟩:=ad.1 hk;trivial
 .rename_i s t x ho;split at hk
  .rename_i hs ht hx;cases hk;trivial
  .split at hk<;>cases hk<;>trivial
  .split at hk<;>cases hk<;>trivial
  .split at hk
   .split at hk<;>cases hk<;>trivial
   .cases hk
  .cases hk
 .rename_i t x ho;split at hk
  .obtain⟨X,hX,rfl⟩:=ad.1 hk;trivial
  .cases hk
 .rename_i f xs ys ho;split at hk
  .rename_i hx hy;cases hk;trivial
  .cases hk
 .rename_i t x y ho;split at hk
  .rename_i el ht;split at hk
   .rename_i hw hb hz hx hy;split at hk
    .rename_i hc;cases hk;trivial
    .cases hk
   .cases hk
  .cases hk
 .rename_i t x lo hh mx ho;split at hk
  .rename_i ht hx hlo hhi hmx;obtain⟨wd,hw,rfl⟩:=ad.1 hk;trivial
  .rename_i ht hx hlo hhi hmx;obtain⟨wd,hw,rfl⟩:=ad.1 hk;have hm:mx=none:=by
    cases mx with
    |none=>rfl
    |some m=>simp[zi,ad]at hmx
   subst hm;trivial
  .rename_i ht hx hlo hhi hmx;cases hk;trivial
  .cases hk
 .rename_i s x i ho;split at hk
  .rename_i fs x' hs hx;split at hk
   .rename_i off sz hfc;split at hk
    .rename_i hpos;cases hk;trivial
    .cases hk
   .cases hk
  .cases hk
 .rename_i s x i ho;split at hk
  .rename_i fs x' hs hx;split at hk
   .rename_i f hfi;split at hk
    .rename_i hag hsz;split at hk
     .cases hk;trivial
     .cases hk
    .cases hk
   .cases hk
  .cases hk
 .rename_i t x y ho;split at hk
  .rename_i ht hx hy;obtain⟨wd,hw,rfl⟩:=ad.1 hk;trivial
  .rename_i ht hx hy;obtain⟨wd,hw,rfl⟩:=ad.1 hk;trivial
  .cases hk
 .rename_i t x y ho;split at hk
  .rename_i ht hx hy;split at hk
   .rename_i hag hsz;split at hk
    .cases hk;trivial
    .cases hk
   .cases hk
  .rename_i ht hx hy;cases hk;trivial
  .cases hk
 .rename_i x i ho;obtain⟨X,hX,rfl⟩:=ad.1 hk;trivial
 .rename_i c ho;obtain⟨callee,args,ts⟩:=c;dsimp only at hk;split at hk
  .rename_i f;split at hk
   .rename_i hf hx;cases hk;exact⟨f,args,ts,ho,hf,hx⟩
   .cases hk
  .split at hk
   .rename_i t tr x r hts ha;split at hk
    .rename_i ht hx;cases hk;trivial
    .rename_i ht hx;cases hk;trivial
    .rename_i ht hx;cases hk;trivial
    .rename_i ht;cases hk;trivial
    .rename_i ht;split at hk
     .rename_i hr;cases hk;trivial
     .cases hk
    .cases hk
   .cases hk
  .cases hk;exact⟨_,_,ho⟩
  .split at hk
   .rename_i ha;split at hk
    .rename_i hx hy;cases hk;trivial
    .cases hk
   .cases hk
  .split at hk
   .rename_i ha;split at hk
    .rename_i hx hy;cases hk;trivial
    .cases hk
   .cases hk
  .split at hk
   .rename_i t u x y hts ha;split at hk
    .rename_i ht hu hx hy;split at hk
     case isFalse=>cases hk
     split at hk
     .rename_i hw hb hz;split at hk
      .rename_i hc;cases hk;split
       .trivial
       .split
        .trivial
        .split
         .trivial
         .split<;>trivial
      .cases hk
     .cases hk
    .cases hk
   .cases hk
  .cases hk
 .rename_i t x ho;split at hk
  .obtain⟨X,hX,rfl⟩:=ad.1 hk;trivial
  .cases hk
 .rename_i x xt t ok ho;split at hk
  .cases hk
  .split at hk
   .obtain⟨z,hz,rfl⟩:=ad.1 hk;trivial
   .cases hk;trivial
  .cases hk
 .rename_i x ho;obtain⟨X,hX,rfl⟩:=ad.1 hk;exact⟨x,ho,hX⟩
 .rename_i t ho;cases hk;trivial
 .split at hk<;>cases hk<;>trivial
 .rename_i t x ho;split at hk
  .rename_i ht hx;cases hk;trivial
  .cases hk
 .rename_i x ho;split at hk
  .rename_i hx;cases hk;trivial
  .cases hk
 .rename_i t x y ok ho;split at hk
  .split at hk
   .cases hk;trivial
   .cases hk
  .cases hk
 .rename_i t m x y ho;split at hk
  .split at hk
   .cases hk;trivial
   .cases hk
  .cases hk
 .rename_i t m x y ho;split at hk
  .split at hk
   .cases hk;trivial
   .cases hk
  .cases hk
 .cases hk
theorem U3{kk:K}(h:kk.makes=true):bR e J kk=none:=by
 cases kk<;>simp[K.makes]at h<;>rfl
theorem WH(hO:Bg P CR O)(ha:At CR base ann.dU g0 w0 n b g w B e J a){o:Oper}(ho:ops[i]?=some o)(hw:Region.wanted o (yielded ops a.tmps)=true)
  {Dd:Bool} {op:Op} (hop:US P ann n si ops Dd i o=some op) (h:wM O op e J=some (e',J')):
  OU P CR ann n ops base g0 w0 b g w a k cs i rest J e' J':=by
 unfold US at hop;split at hop
 case h_2=>cases hop
 rename_i kk hk;split at hop
 case h_2=>cases hop
 rename_i gd hgd hdn;simp only[aJ,af]at hop;obtain⟨⟨hown,hst⟩,hop⟩:=hop;cases hop;have hn:∀t,o.dst=some t->t<n:=by
  intro t ht;rw[ht]at hdn;simpa using hdn
 have hV:kk.makes=false->∀t,o.dst=some t->t ∉ ann.dU:=by
  intro hm t ht;rw[ht]at hown;simp[hm]at hown;simpa using hown
 have hd:=PE hk;have hkeq:=Xz hk;unfold wM at h;dsimp only at h;split at h
 ·
  rename_i kp F Xs;split at h
  case h_2=>cases h
  rename_i d J1 hc;split at h
  case isFalse=>cases h
  cases h;obtain⟨f,args,ts,h1,h2,h3⟩:=hkeq;exact SV hO ha ho hw hn (hV rfl) h1 h2 h3 hc
 ·
  rename_i nb z;obtain⟨el,v,h1,h2,h3,h4⟩:=hkeq;rw[h3]at h;cases hnb:kj nb z J with
  |none=>simp[hnb]at h
  |some x =>
   obtain⟨cs',J1⟩:=x;simp only[hnb,ae,ar]at h;obtain⟨rfl,rfl⟩:=h;obtain⟨i0,vz,hinfo,hzero,hrz,h1z⟩:=tp g h2;obtain⟨g1,i1,e1,r1⟩:=zf nb _ _ _ _ g _ hnb ha.inv hrz;exact XY (el:=el) ha ho hw hd h3 h4 (hn _ h3) (by simp[execOp,h1,HV hinfo hzero]) i1 e1 (sU _ _ _ _ _ hnb) r1 h1z
 ·
  rename_i X;obtain⟨t,x,v,h1,h2,h3,h4⟩:=hkeq;rw[h3]at h;cases hcx:(bB e X).cells with
  |none=>simp[hcx]at h
  |some cs' =>
   simp only[hcx,ae,ar]at h;obtain⟨rfl,rfl⟩:=h;obtain⟨tmps,df⟩:=a;obtain⟨hr,h1z⟩:=(ha.fr.bB (df:=df) h2).cells hcx;exact XY (el:=t) ha ho hw hd h3 h4 (hn _ h3) (by simp[execOp,h1,Instr.box,newVar,newRow]) ha.inv (Ev.refl g w) (.refl J) hr h1z
 ·
  rename_i v nb sz x X;obtain⟨t,y,h1,h2,h3⟩:=hkeq;have hdst:o.dst=none:=by simpa[K.ah4]using hst
  split at h
  case h_2=>cases h
  rename_i s cv off p hin hp;split at h
  case isFalse=>cases h
  rename_i hlen;split at h
  case h_2=>cases h
  rename_i p' J1 hnb;cases h;exact ae5 ha ho hw hn (hV rfl) h1 h2 h3 hin hp hlen hnb hdst
 ·
  rename_i k1 h1 h2 h3 h4;cases hs:bR e J kk with
  |none=>simp[hs]at h
  |some x =>
   obtain⟨d,J1⟩:=x;simp only[hs,aZ,ae,ar]at h;obtain⟨rfl,rfl⟩:=h;have hm:kk.makes=false:=by
    cases hm:kk.makes
    .rfl
    .rw[U3 hm]at hs;cases hs
   obtain⟨tmps,df⟩:=a;obtain⟨x,c,g',w',hrun,hx,he,hi,hr⟩:=ae0 (df:=df) ha.fr ha.inv hk hs;exact CD ha ho hn (hV hm) (.one (zq ho hw hd hrun hx)) he hi (Yt hs) hr
inductive xD {α β:Type} (R:α->β->Prop):List α->List β->Prop
 |nil:xD R [] []
 |cons {x:α} {y:β} {xs:List α} {ys:List β}:R x y->xD R xs ys->xD R (x::xs) (y::ys)
def JF(P:Program)(ann:tx)(n si:Nat)(ops:Array Oper)(i:Nat)(x:Op):Prop:=∃o Dd,ops[i]?=some o/\US P ann n si ops Dd i o=some x
theorem NA{Dd:Bool}{o:Oper}{op:Op}(h:US P ann n si ops Dd i o=some op):
  op.dst=o.dst/\(∀t,o.dst=some t->t<n)/\((o.guard=none/\op.FQ=none)\/∃j d bb,o.guard=some (j,bb)/\op.FQ=some (d,bb)/\(ops[j]?).bind (·.dst)=some d/\(∀t,o.dst=some t->t ∉ ann.dU)):=by
 unfold US at h;split at h
 case h_2=>cases h
 rename_i kk hk;split at h
 case h_2=>cases h
 rename_i gd hgd hdn;simp only[aJ,af]at h;obtain⟨⟨hown,hst⟩,h⟩:=h;cases h;refine⟨rfl,λt ht=>by rw[ht]at hdn;simpa using hdn,?_⟩;cases hg:o.guard with
 |none=>rw[hg]at hgd;cases hgd;exact .inl ⟨rfl,rfl⟩
 |some x =>
  obtain⟨j,bb⟩:=x;rw[hg]at hgd;dsimp only at hgd;cases hj:(ops[j]?).bind (·.dst)with
  |none=>rw[hj]at hgd;cases hgd
  |some d =>
   rw[hj]at hgd;cases hgd;refine .inr ⟨j,d,bb,rfl,rfl,hj,λt ht=>?_⟩;rw[ht,hg]at hown;simpa using hown
theorem EA(hO:Bg P CR O){tl:List Nat}:∀(is:List Nat) (xs:List Op) (e:Env) (J:SK) (g:G) (w:World) (B:Nat->Nat) (a:Act),xD (JF P ann n si ops) is xs ->
  lu O xs e J=some (e',J')->At CR base ann.dU g0 w0 n b g w B e J a ->
  ∃g' w' B' a',Steps P (lone (b.atR a (.inRegion ops (is++tl)::k)) cs w) (lone (b.atR a' (.inRegion ops tl::k)) cs w')/\At CR base ann.dU g0 w0 n b g' w' B' e' J' a'/\g.le g'/\fO J J'
 |[],xs,e,J,g,w,B,a,hF,h,ha=>by
  cases hF;simp only[lu,ae,ar]at h;obtain⟨rfl,rfl⟩:=h;exact⟨g,w,B,a,.refl _ _,ha,g.le_refl,.refl J⟩
 |i::is,xs,e,J,g,w,B,a,hF,h,ha=>by
  cases hF with
  |cons hx hF =>
   rename_i x xs;obtain⟨o,Dd,ho,hop⟩:=hx;obtain⟨hdst,hn,hgrd⟩:=NA hop;simp only[lu]at h;have hgo:∀{e1 J1 g1 w1 B1 a1},Steps P (lone (b.atR a (.inRegion ops (i::is++tl)::k)) cs w) (lone (b.atR a1 (.inRegion ops (is++tl)::k)) cs w1) ->
     At CR base ann.dU g0 w0 n b g1 w1 B1 e1 J1 a1->g.le g1->fO J J1->lu O xs e1 J1=some (e',J') ->
     ∃g' w' B' a',Steps P (lone (b.atR a (.inRegion ops (i::is++tl)::k)) cs w) (lone (b.atR a' (.inRegion ops tl::k)) cs w')/\At CR base ann.dU g0 w0 n b g' w' B' e' J' a'/\g.le g'/\fO J J':=by
    intro e1 J1 g1 w1 B1 a1 h1 h2 h3 h4 h5;obtain⟨g2,w2,B2,a2,k1,k2,k3,k4⟩:=EA hO is xs _ _ _ _ _ _ hF h5 h2;exact⟨g2,w2,B2,a2,h1.trans k1,k2,h3.trans' k3,h4.trans k4⟩
   rcases hgrd with⟨hg1,hg2⟩ | ⟨j,d,bb,hg1,hg2,hj,hV⟩
   .rw[hg2]at h;simp only[ak,Prod.exists]at h;obtain⟨e1,J1,h1,h2⟩:=h;obtain⟨g1,w1,B1,a1,k1,k2,k3,k4⟩:=WH (k:=k) (cs:=cs) (rest:=is++tl) hO ha ho (by simp[Region.wanted,hg1]) hop h1;exact hgo k1 k2 k3 k4 h2
   .rw[hg2]at h;dsimp only at h;split at h
    case h_2=>cases h
    rename_i bv hbv;have hy:yielded ops a.tmps j=bv:=by
     have hrel:=ha.fr.rel d;unfold yielded;rw[hj];simp only[Option.bind_some];cases hg:get e d with
     |bool b =>
      rw[hg]at hrel hbv;have hrel':bQ g (.bool b) (a.tmps.getD d Go.undef):=hrel;have hval:=hrel'.oh;simp only[D.bit,ae]at hbv;subst hbv;rw[cC]at hval;cases hd:a.tmps[d]? with
      |none=>rw[hd]at hval;simp[Go.undef]at hval
      |some y=>rw[hd]at hval;simp at hval;subst hval;rfl
     |cK ds =>
      cases ds with
      |nil =>
       rw[hg]at hrel hbv;have hrel':bQ g (.cK []) (a.tmps.getD d Go.undef):=hrel;have hval:a.tmps.getD d Go.undef=.tuple #[]:=by
        generalize a.tmps.getD d Go.undef=z at hrel';cases hrel' with | cK _ cs hl =>
         cases cs with | mk cs=>cases cs with
          |nil=>rfl
          |cons c cs=>cases hl
       simp only[D.bit,ae]at hbv;subst hbv;rw[cC]at hval;cases hd:a.tmps[d]? with
       |none=>rfl
       |some y=>rw[hd]at hval;simp at hval;subst hval;rfl
      |cons x xs=>rw[hg]at hbv;simp[D.bit]at hbv
     |_=>rw[hg]at hbv;simp[D.bit]at hbv
    split at h
    .rename_i hb;simp only[ak,Prod.exists]at h;obtain⟨e1,J1,h1,h2⟩:=h;obtain⟨g1,w1,B1,a1,k1,k2,k3,k4⟩:=WH (k:=k) (cs:=cs) (rest:=is++tl) hO ha ho (by simp[Region.wanted,hg1,hy,hb]) hop h1;exact hgo k1 k2 k3 k4 h2
    .rename_i hb;have hstep:=stepR_op_skip (P:=P) (b:=b) (a:=a) (k:=k) (cs:=cs) (w:=w) (ops:=ops) (i:=i) (rest:=is++tl) (by simp[ho,Region.wanted,hg1,hy,hb]);rw[show(ops[i]?).bind (·.dst)=o.dst from by rw[ho];rfl]at hstep;obtain⟨g1,w1,B1,a1,k1,k2,k3,k4⟩:=CD (d:=.cK []) ha ho hn hV (.one hstep) (Ev.refl g w) ha.inv (.refl J) (cU.of (.cK [] #[] .nil));rw[hdst]at h;exact hgo k1 k2 k3 k4 h
theorem RA(hO:Bg P CR O)(is:List Nat)(xs:List Op)(e:Env)(J:SK)(g:G)(w:World)(B:Nat->Nat)(a:Act)(hF:xD (JF P ann n si ops) is xs)
  (h:lu O xs e J=some (e',J')) (ha:At CR base ann.dU g0 w0 n b g w B e J a):
  ∃g' w' B' a',Steps P (lone (b.atR a (.inRegion ops is::k)) cs w) (lone (b.atR a' (.inRegion ops []::k)) cs w')/\At CR base ann.dU g0 w0 n b g' w' B' e' J' a'/\g.le g'/\fO J J':=by
 have:=EA (k:=k) (cs:=cs) (tl:=[]) hO is xs e J g w B a hF h ha;simpa using this
theorem Un{O:cf}{fv:D}{args:List D}{r:R}(h:CU O fv args J=some r):∃f first cap,fv=.fn f first cap/\O (.call false f (first++args++cap) J)=some r:=by
 unfold CU at h;split at h
 .exact⟨_,_,_,rfl,h⟩
 .cases h
theorem abU{Dd:Bool}{o:Oper}{op:Op}(h:US P ann n si ops Dd i o=some op):kC P ann ops (si*1000+i) o=some op.k/\(op.k.makes=false->∀t,o.dst=some t->t ∉ ann.dU):=by
 unfold US at h;split at h
 case h_2=>cases h
 rename_i kk hk;split at h
 case h_2=>cases h
 simp only[aJ,af]at h;obtain⟨⟨hown,hst⟩,h⟩:=h;cases h;refine⟨hk,λhm t ht=>?_⟩;dsimp only at hm;rw[ht]at hown;simp[hm]at hown;simpa using hown
theorem RT{o:Oper}{v:Value}{w':World}{is:List Nat}(ho:ops[i]?=some o)(hw:Region.wanted o (yielded ops a.tmps)=true)(hd:∀c,o.op ≠ .defer c)
  (hr:(execOp a.eval o).run P w=.halt (.panic v) w'):
  step P (lone (b.atR a (.inRegion ops (i::is)::k)) cs w)=.next (lone {b.atR a (.inRegion ops (i::is)::k)with mode:=.panicking [{v,recovered:=false }] } cs w'):=by
 have hg:=stepGR_op (P:=P) (b:=b) (k:=k) (cs:=cs) (w:=w) (rest:=is) ho hw;rw[Oper.semAt_eq _ _ _ hd]at hg;exact step_lone_go (by rw[hg,<- Frame.raise_atR];simp[stepG.apply,hr])
end
def jN(ts:List Nat)(e e':Env):Prop:=∀t∈ts,get e' t=get e t
theorem jN.mono{ts us:List Nat}{e e':Env}(h:jN us e e')(hs:∀t∈ts,t∈us):jN ts e e':=λt ht=>h t (hs t ht)
theorem jN.app{ts us:List Nat}{e e':Env}:jN (ts++us) e e'↔jN ts e e'/\jN us e e' :=
 ⟨λh=>⟨λt ht=>h t (by simp[ht]),λt ht=>h t (by simp[ht])⟩,λh t ht=>(aT.1 ht).elim (h.1 t) (h.2 t)⟩
theorem jN.cons{t:Nat}{us:List Nat}{e e':Env}:jN (t::us) e e'↔get e' t=get e t/\jN us e e' :=
 ⟨λh=>⟨h t (by simp),λu hu=>h u (by simp[hu])⟩,λh u hu=>(bw.1 hu).elim (λx=>x ▸ h.1) (h.2 u)⟩
variable {e e':Env} {J J':SK}
theorem bh{x:bP}(h:jN x.tmps e e'):bB e' x=bB e x:=by
 cases x with
 |t n=>simp only[bB];rw[h n (by simp[bP.tmps])]
 |c d=>rfl
theorem vt{xs:List bP}(h:jN (fM xs bP.tmps) e e'):xs.map (bB e')=xs.map (bB e):=by
 induction xs with
 |nil=>rfl
 |cons x xs ih =>
  simp only[db,jN.app]at h;simp only[aM,bh h.1,ih h.2]
theorem Ab:∀{ps:List (Nat×Nat×bP)} {cs:List D},jN (fM ps λp=>p.2.2.tmps) e e'->iO e' ps cs=iO e ps cs
 |[],cs,h=>rfl
 |(off,sz,x)::ps,cs,h=>by
  simp only[db,jN.app]at h;simp only[iO,bh h.1];split
  .split
   .exact Ab h.2
   .rfl
  .rfl
theorem Hs{m:Nat}{dfl:Option Nat}{x:Option bP}(h:jN ((x.map bP.tmps).getD []) e e'):BV e' m dfl x=BV e m dfl x:=by
 cases x with
 |none=>rfl
 |some x=>simp only[BV];rw[bh (by simpa using h)]
theorem Ga{n:Nat}{lo hi mx:Option bP}(h1:jN ((lo.map bP.tmps).getD []) e e')(h2:jN ((hi.map bP.tmps).getD []) e e')(h3:jN ((mx.map bP.tmps).getD []) e e'):
  bounds n e' lo hi mx=bounds n e lo hi mx:=by
 simp only[bounds,Hs h1,Hs h2,Hs h3]
theorem DW{v a:Nat}(h1:get e' v=get e v)(h2:get e' a=get e a):qT e' v a=qT e v a:=by
 simp only[qT,h1,h2]
theorem U2{k:K}(h:jN k.tmps e e'):bR e' J k=bR e J k:=by
 cases k<;>simp only[K.tmps,jN.app,jN.cons]at h
 case mv x=>simp only[bR,bh h]
 case KA=>rfl
 case pick c a b=>simp only[bR,bh h.1.1,bh h.1.2,bh h.2]
 case Ug=>rfl
 case XN=>simp only[bR,bh h]
 case YU=>simp only[bR,bh h]
 case isi=>simp only[bR,bh h]
 case XZ=>rfl
 case QA=>rfl
 case B7=>rfl
 case K9 x=>simp only[bR,bh h]
 case La x=>simp only[bR,bh h]
 case YO nb x=>simp only[bR,bh h]
 case FM=>rfl
 case K8=>simp only[bR,Ab h]
 case YN=>simp only[bR,Ab h]
 case WU=>simp only[bR,Ab h]
 case ld=>simp only[bR,bh h]
 case Vf=>simp only[bR,bh h]
 case Ve=>simp only[bR,bh h]
 case isn=>simp only[bR,bh h]
 case nck=>simp only[bR,bh h]
 case st=>simp only[bR,bh h.1,bh h.2]
 case U6 os sz a x =>
  have hall:∀l i,(os.all λt=>D.off l i (get e' t))=os.all λt=>D.off l i (get e t):=by
   intro l i;have h2:=h.2;clear h;induction os with
   |nil=>rfl
   |cons o os ih=>simp only[jm,h2 o (by simp),ih (h2.mono λt ht=>by simp[ht])]
  simp only[bR,bh h.1.1,bh h.1.2,hall]
 case Vg=>simp only[bR,DW h.1 h.2.1]
 case H5=>rfl
 case bin=>simp only[bR,bh h.1,bh h.2]
 case eqv=>simp only[bR,bh h.1,bh h.2]
 case un=>simp only[bR,bh h]
 case W4=>simp only[bR,bh h]
 case XM=>simp only[bR,vt h.1,vt h.2]
 case YR=>simp only[bR,bh h.1,bh h.2]
 case Vj=>simp only[bR,bh h.1.1.1,Ga h.1.1.2 h.1.2 h.2]
 case RN=>simp only[bR,bh h.1.1,Ga (mx:=none) h.1.2 h.2 (λt ht=>by simp at ht)]
 case Lc off x =>
  cases x with
  |t n=>simp only[bR,h n (by simp[bP.tmps])]
  |c d=>rfl
 case fld=>simp only[bR,bh h]
 case Lf len w x i =>
  cases x with
  |t n =>
   have h1:=h.1 n (by simp[bP.tmps]);simp only[bR,bh h.2];cases GN (bB e i)<;>simp only[h1]
  |c d=>simp only[bR]
 case HG=>simp only[bR,bh h.1,bh h.2]
 case Nq=>simp only[bR,bh h.1,bh h.2]
 case Li=>simp only[bR,bh h]
 case Rn=>rfl
 case mn=>simp only[bR,bh h.1,bh h.2]
 case mx=>simp only[bR,bh h.1,bh h.2]
 case app=>simp only[bR,bh h.1,bh h.2]
 case Ui os w b s x =>
  have hall:∀l i,(os.all λt=>D.off l i (get e' t))=os.all λt=>D.off l i (get e t):=by
   intro l i;have h2:=h.2;clear h;induction os with
   |nil=>rfl
   |cons o os ih=>simp only[jm,h2 o (by simp),ih (h2.mono λt ht=>by simp[ht])]
  simp only[bR,M3,bh h.1.1,bh h.1.2,hall]
 case YM=>simp only[bR,M3,bh h.1,bh h.2]
 case YP=>simp only[bR,bh h]
 case cvz=>simp only[bR,bh h]
 case bse=>rfl
 case ape w b v x=>simp only[bR,h.1,bh h.2]
 case ext=>simp only[bR,bh h]
 case I2=>simp only[bR,vt h]
 case mp=>simp only[bR,vt h]
 case me=>simp only[bR,vt h]
 case call=>rfl
noncomputable def ur(O:cf)(op:Op)(e:Env)(J:SK):Option (Env×SK) :=
 match op.FQ with
 |none=>wM O op e J
 |some (g,want) =>
  match(get e g).bit with
  |some y=>if y=some want then wM O op e J else some (put op.dst (.cK []) e,J)
  |none=>none
theorem jP{O:cf}{op:Op}{r:List Op}:lu O (op::r) e J=(ur O op e J).bind λx=>lu O r x.1 x.2:=by
 simp only[lu,ur];cases op.FQ with
 |none=>rfl
 |some x =>
  obtain⟨g,want⟩:=x;dsimp only;cases(get e g).bit<;>try rfl
  dsimp only;split<;>rfl
theorem NG{dst:Option Nat}{d:D}:put dst d e=(dst.toList.map λt=>(t,d))++e:=by
 cases dst<;>rfl
theorem LN{O:cf}{op:Op}{e1:Env}{J1:SK}(h:wM O op e J=some (e1,J1)):
  ∃l:List (Nat×D),(∀p∈l,p.1∈op.defs)/\∀e',jN (op.Hf++op.defs) e e'->wM O op e' J=some (l++e',J1):=by
 obtain⟨dst,FQ,Dd,k⟩:=op;have hk:∀e',jN (Op.Hf ⟨dst,FQ,Dd,k⟩++Op.defs ⟨dst,FQ,Dd,k⟩) e e'->jN k.tmps e e':=λe' ha=>ha.mono λt ht=>by simp[Op.Hf,ht]
 have hdst:∀d:D,∀p∈dst.toList.map (λt=>(t,d)),p.1∈Op.defs ⟨dst,FQ,Dd,k⟩:=by
  intro d p hp;simp only[bI]at hp;obtain⟨t,ht,rfl⟩:=hp;simp only[Op.defs,aT];exact .inl ht
 have hplain:(∀e0,wM O ⟨dst,FQ,Dd,k⟩ e0 J=(bR e0 J k).map λx=>(put dst x.1 e0,x.2)) ->
   ∃l:List (Nat×D),(∀p∈l,p.1∈Op.defs ⟨dst,FQ,Dd,k⟩)/\∀e',jN (Op.Hf ⟨dst,FQ,Dd,k⟩++Op.defs ⟨dst,FQ,Dd,k⟩) e e'->wM O ⟨dst,FQ,Dd,k⟩ e' J=some (l++e',J1):=by
  intro hall;rw[hall]at h;simp only[ad,Prod.exists,ar]at h;obtain⟨d,J2,hs,rfl,rfl⟩:=h;refine⟨dst.toList.map λt=>(t,d),hdst d,λe' ha=>?_⟩;rw[hall,U2 (hk e' ha),hs];simp only[aZ,NG]
 cases k
 case call kp f args =>
  simp only[wM]at h ⊢;split at h
  case h_2=>cases h
  rename_i d J2 hc;split at h
  case isFalse=>cases h
  rename_i hn;cases h;refine⟨dst.toList.map λt=>(t,d),hdst d,λe' ha=>?_⟩;have h1:=hk e' ha;simp only[K.tmps,jN.app]at h1;rw[bh h1.1,vt h1.2,hc];simp only[if_pos hn,NG]
 case B7 nb cs =>
  simp only[wM]at h ⊢;split at h
  case h_2=>cases h
  rename_i v cs' J2 hnb;cases h;refine⟨[(v,.own (uy e v) cs')],by simp[Op.defs],λe' ha=>?_⟩;rw[show uy e' v=uy e v from by simp only[uy];rw[ha v (by simp[Op.defs])]];rfl
 case FM x =>
  simp only[wM]at h ⊢;split at h
  case h_2=>cases h
  rename_i v cs' hc;cases h;refine⟨[(v,.own (uy e v) cs')],by simp[Op.defs],λe' ha=>?_⟩;have h1:=hk e' ha;simp only[K.tmps]at h1;rw[bh h1,hc];simp only[show uy e' v=uy e v from by simp only[uy];rw[ha v (by simp[Op.defs])]];rfl
 case H5 v nb sz a x =>
  simp only[wM]at h ⊢;split at h
  case h_2=>cases h
  rename_i s cs off p hin hp;split at h
  case isFalse=>cases h
  rename_i hc;split at h
  case h_2=>cases h
  rename_i p' J2 hnb;cases h;refine⟨[(v,.own s (cs.take off++p'++cs.drop (off+sz)))],by simp[Op.defs],λe' ha=>?_⟩;have h1:=hk e' ha;simp only[K.tmps,jN.app,jN.cons]at h1;rw[DW h1.1.1 h1.1.2.1,bh h1.2,hin,hp];simp only[if_pos hc,hnb];rfl
 all_goals exact hplain λe0=>rfl
theorem F1{O:cf}{op:Op}{e1:Env}{J1:SK}(h:ur O op e J=some (e1,J1)):
  ∃l:List (Nat×D),(∀p∈l,p.1∈op.defs)/\∀e',jN (op.Hf++op.defs) e e'->ur O op e' J=some (l++e',J1):=by
 unfold ur at h ⊢;cases hg:op.FQ with
 |none=>rw[hg]at h;simp only at h ⊢;exact LN h
 |some x =>
  obtain⟨t,want⟩:=x;rw[hg]at h;simp only at h ⊢;split at h
  case h_2=>cases h
  rename_i b hb;have hgt:∀e',jN (op.Hf++op.defs) e e'->(get e' t).bit=some b:=λe' ha=>by rw[ha t (by simp[Op.Hf,hg]),hb]
  split at h
  .rename_i hw;obtain⟨l,h1,h2⟩:=LN h;refine⟨l,h1,λe' ha=>?_⟩;rw[hgt e' ha];simp only[if_pos hw];exact h2 e' ha
  .rename_i hw;cases h;refine⟨op.dst.toList.map λt=>(t,.cK []),λp hp=>?_,λe' ha=>?_⟩
   .simp only[bI]at hp;obtain⟨t,ht,rfl⟩:=hp;simp only[Op.defs,aT];exact .inl ht
   .rw[hgt e' ha];simp only[if_neg hw,NG]
theorem Mr{cs cs':List D}(h:kj [] cs J=some (cs',J')):J'=J:=by
 simp only[kj,ae,ar]at h;exact h.2.symm
theorem MF{d:D}{k:K}(h:bR e J k=some (d,J'))(hk:k.calm=true):J'=J:=Qk h hk
theorem LO{O:cf}{op:Op}{e1:Env}{J1:SK}(h:wM O op e J=some (e1,J1))(hs:op.still=true):J1=J:=by
 obtain⟨dst,FQ,Dd,k⟩:=op;simp only[Op.still,af]at hs;obtain⟨hk,hn⟩:=hs;have hplain:(wM O ⟨dst,FQ,Dd,k⟩ e J=(bR e J k).map λx=>(put dst x.1 e,x.2))->J1=J:=by
  intro hall;rw[hall]at h;simp only[ad,Prod.exists,ar]at h;obtain⟨d,J2,hs,rfl,rfl⟩:=h;exact MF hs hk
 cases k
 case call kp f args =>
  simp only[wM]at h;split at h
  case h_2=>cases h
  split at h
  case isFalse=>cases h
  rename_i hx;cases h;exact hx hn
 case B7 nb cs =>
  simp only[wM]at h;split at h
  case h_2=>cases h
  rename_i v cs' J2 hnb;cases h;simp only[K.calm,List.isEmpty_iff]at hk;subst hk;exact Mr hnb
 case FM x =>
  simp only[wM]at h;split at h
  case h_2=>cases h
  cases h;rfl
 case H5 v nb sz a x =>
  simp only[wM]at h;split at h
  case h_2=>cases h
  split at h
  case isFalse=>cases h
  split at h
  case h_2=>cases h
  rename_i hnb;cases h;simp only[K.calm,List.isEmpty_iff]at hk;subst hk;exact Mr hnb
 all_goals exact hplain rfl
theorem F2{O:cf}{op:Op}{e1:Env}{J1:SK}(h:ur O op e J=some (e1,J1))(hs:op.still=true):J1=J:=by
 unfold ur at h;split at h
 .exact LO h hs
 .split at h
  case h_2=>cases h
  split at h
  .exact LO h hs
  .cases h;rfl
def Ih(e e':Env):Prop:=∀t,get e' t=get e t
theorem Ih.refl(e:Env):Ih e e:=λ_=>rfl
theorem Ih.trans{a b c:Env}(h:Ih a b)(h':Ih b c):Ih a c:=λt=>(h' t).trans (h t)
theorem Ih.Dm(h:Ih e e')(ts:List Nat):jN ts e e':=λt _=>h t
theorem Jg{l:List (Nat×D)}{t:Nat}:get (l++e) t=if t∈l.map (·.1)then get l t else get e t:=by
 induction l with
 |nil=>simp
 |cons p l ih =>
  obtain⟨k,v⟩:=p;simp only[cr,get];by_cases hk:k=t
  .simp[hk]
  .rw[if_neg hk,ih];simp only[aM,bw];by_cases ht:t∈l.map (·.1)
   .rw[if_pos ht,if_pos (.inr ht)];rw[if_neg hk]
   .rw[if_neg ht,if_neg (by intro h;rcases h with h | h;exact hk h.symm;exact ht h)]
theorem Ih.app(h:Ih e e')(l:List (Nat×D)):Ih (l++e) (l++e'):=λt=>by
 simp only[Jg,h t]
theorem JP{O:cf}:∀{xs:List Op} {e e' e1:Env} {J J1:SK},lu O xs e J=some (e1,J1)->Ih e e'->∃e1',lu O xs e' J=some (e1',J1)/\Ih e1 e1'
 |[],e,e',e1,J,J1,h,he=>by
  simp only[lu,ae,ar]at h;obtain⟨rfl,rfl⟩:=h;exact⟨e',rfl,he⟩
 |x::xs,e,e',e1,J,J1,h,he=>by
  rw[jP]at h;simp only[ak,Prod.exists]at h;obtain⟨e2,J2,h1,h2⟩:=h;obtain⟨l,_,hl⟩:=F1 h1;have h3:=hl e (Ih.Dm (.refl e) _);rw[h1]at h3;cases h3;obtain⟨e3,h4,h5⟩:=JP h2 (he.app l);exact⟨e3,by rw[jP,hl e' (he.Dm _)];exact h4,h5⟩
theorem Yu{d:D}{k:K}(h:bR e J k=some (d,J'))(hk:k.pure=true)(τ:SK):bR e τ k=some (d,τ):=by
 cases k<;>simp only[K.pure,K.calm,aD]at hk<;>simp only[bR,aW,reduceCtorEq]at h ⊢ <;> (repeat' split at h)<;>
  simp only[ad,ak,ae,ar,Prod.exists,reduceCtorEq,exists_eq_left,and_false,exists_false]at h<;>(try split at h)<;>
  simp_all<;>(try (obtain⟨_,_,h⟩:=h;simp_all))<;>(try grind)
theorem O0{O:cf}{op:Op}{e1:Env}{J1:SK}(h:wM O op e J=some (e1,J1))(hs:op.k.pure=true)(τ:SK):wM O op e τ=some (e1,τ):=by
 obtain⟨dst,FQ,Dd,k⟩:=op;have hplain:(∀τ,wM O ⟨dst,FQ,Dd,k⟩ e τ=(bR e τ k).map λx=>(put dst x.1 e,x.2))->wM O ⟨dst,FQ,Dd,k⟩ e τ=some (e1,τ):=by
  intro hall;rw[hall]at h ⊢;simp only[ad,Prod.exists,ar]at h;obtain⟨d,J2,hs',rfl,rfl⟩:=h;rw[Yu hs' hs τ];rfl
 cases k
 case call kp f args=>simp[K.pure]at hs
 case B7 nb cs =>
  simp only[K.pure,K.calm,List.isEmpty_iff]at hs;subst hs;simp only[wM]at h ⊢;cases dst with
  |none=>cases h
  |some v=>simp only[kj,ae,ar]at h ⊢;exact⟨h.1,trivial⟩
 case FM x =>
  simp only[wM]at h ⊢;cases dst with
  |none=>cases h
  |some v =>
   cases hx:(bB e x).cells with
   |none=>rw[hx]at h;cases h
   |some cs=>rw[hx]at h;simp only[ae,ar]at h ⊢;exact⟨h.1,trivial⟩
 case H5 v nb sz a x =>
  simp only[K.pure,K.calm,List.isEmpty_iff]at hs;subst hs;simp only[wM]at h ⊢;cases hin:qT e v a<;>rw[hin]at h<;>try (cases h;done)
  cases hx:(bB e x).cells<;>rw[hx]at h<;>try (cases h;done)
  simp only[kj]at h ⊢;split at h
  .rename_i hc;rw[if_pos hc];simp only[ae,ar]at h ⊢;exact⟨h.1,trivial⟩
  .cases h
 all_goals exact hplain fun τ=>rfl
theorem EG{O:cf}{op:Op}{e1:Env}{J1:SK}(h:ur O op e J=some (e1,J1))(hs:op.k.pure=true):∀τ,ur O op e τ=some (e1,τ):=by
 intro τ;unfold ur at h ⊢;cases hg:op.FQ with
 |none=>rw[hg]at h;exact O0 h hs τ
 |some y =>
  obtain⟨g,want⟩:=y;rw[hg]at h;dsimp only at h ⊢;cases hb:(get e g).bit with
  |none=>rw[hb]at h;cases h
  |some b =>
   rw[hb]at h;dsimp only at h ⊢;split at h
   .rename_i hw;rw[if_pos hw];exact O0 h hs τ
   .rename_i hw;rw[if_neg hw];cases h;rfl
theorem CK{a:List aG}{J:SK}{l:Nat}{s:List aG}(h:J.length=l):gT (a::J) l s=s::J:=by simp only[gT];rw[if_pos h]
theorem nO{a:List aG}{J:SK}{l:Nat}{s:List aG}(h:¬J.length=l):gT (a::J) l s=a::gT J l s:=by simp only[gT];rw[if_neg h]
theorem Qi{J:SK}{l l':Nat}{s s':List aG}(h:l≠l'):gT (gT J l s) l' s'=gT (gT J l' s') l s:=by
 induction J with
 |nil=>rfl
 |cons a J ih =>
  by_cases h1:J.length=l
  .have h2:¬J.length=l':=by omega
   rw[CK h1,nO h2,nO h2,CK (by rw[fI];exact h1)]
  .by_cases h2:J.length=l'
   .rw[nO h1,CK h2,CK (by rw[fI];exact h2),nO h1]
   .rw[nO h1,nO h2,nO (by rw[fI];exact h2),nO (by rw[fI];exact h1),ih]
theorem ux{J:SK}{l l':Nat}{s:List aG}(h:l≠l'):eT (gT J l s) l'=eT J l':=by
 induction J with
 |nil=>rfl
 |cons a J ih =>
  simp only[gT];by_cases h1:J.length=l
  .rw[if_pos h1];simp only[eT];rw[if_neg (by omega),if_neg (by omega)]
  .rw[if_neg h1];simp only[eT,fI,ih]
theorem N1{J:SK}{l:Nat}{s s':List aG}:gT (gT J l s) l s'=gT J l s':=by
 induction J with
 |nil=>rfl
 |cons a J ih =>
  simp only[gT];by_cases h1:J.length=l
  .rw[if_pos h1,if_pos h1];simp only[gT];rw[if_pos h1]
  .rw[if_neg h1,if_neg h1];simp only[gT,fI];rw[if_neg h1,ih]
theorem Qg{J:SK}{l i l' i':Nat}{b b':aG}(h:¬(l'=l/\i'=i)):bj (bj J l i b) l' i' b'=bj (bj J l' i' b') l i b:=by
 by_cases hl:l=l'
 .subst hl;have hi:i≠i':=λe=>h ⟨rfl,e.symm⟩
  unfold bj;cases hs:eT J l with
  |none=>simp[hs]
  |some s =>
   simp only[ti (CJ hs),N1];rw[List.set_comm _ _ hi]
 .unfold bj;cases hs:eT J l with
  |none =>
   cases hs':eT J l' with
   |none=>simp[hs,hs']
   |some s'=>simp only[ux (Ne.symm hl),hs]
  |some s =>
   cases hs':eT J l' with
   |none=>simp only[ux hl,hs',hs]
   |some s' =>
    simp only[ux hl,ux (Ne.symm hl),hs,hs'];exact Qi hl
theorem Cd{J:SK}{l i l' i' v:Nat}{b:aG}(h:¬(l'=l/\i'=i)):cells? (bj J l i b) l' i' v=cells? J l' i' v:=by
 unfold cells?;rw[eD h]
theorem NH{J:SK}{l i:Nat}{b:aG}{d:D}(h:D.off l i d=true):HR (bj J l i b) d.strip=HR J d.strip:=by
 cases d<;>try rfl
 simp only[D.off,az]at h;simp only[D.strip,HR,Cd h]
theorem EF{O:cf}{dst:Option Nat}{n ag:Bool}{sz m:Nat}{e1:Env}{J1:SK}(h:ur O ⟨dst,none,n,.ld ag sz (.t m)⟩ e J=some (e1,J1)):
  J1=J/\∀τ,HR τ (get e m).strip=HR J (get e m).strip->ur O ⟨dst,none,n,.ld ag sz (.t m)⟩ e τ=some (e1,τ):=by
 have hs:=F2 h;simp only[ur,wM,bR,bB]at h ⊢;refine⟨?_,fun τ hτ=>?_⟩
 .simp only[ad,Prod.exists,ar]at h;obtain⟨d,J2,h,_,rfl⟩:=h;exact MF (k:=.ld ag sz (.t m)) (e:=e) (d:=d) (by simpa only[bR,bB]using h) rfl
 .rw[hτ];cases hr:HR J (get e m).strip with
  |none=>rw[hr]at h;cases h
  |some cs =>
   rw[hr]at h;dsimp only at h ⊢;split at h
   .rename_i hsz;rw[if_pos hsz];cases ag with
    |true=>simp at h ⊢;exact h.1
    |false =>
     simp only[aD,if_false]at h ⊢;cases cs with
     |nil=>cases h
     |cons d ds=>simp at h ⊢;exact h.1
   .cases h
theorem G6{O:cf}{dst:Option Nat}{n:Bool}{os:List Nat}{sz:Nat}{a x:bP}{e1:Env}{J1:SK}(h:ur O ⟨dst,none,n,.U6 os sz a x⟩ e J=some (e1,J1)):
  ∃l i v off b,bB e a=.ref l i v off/\(∀m∈os,D.off l i (get e m)=true)/\J1=bj J l i b /\
   ∀τ,τ.length=J.length->cells? τ l i v=cells? J l i v->ur O ⟨dst,none,n,.U6 os sz a x⟩ e τ=some (e1,bj τ l i b):=by
 simp only[ur,wM,bR]at h ⊢;cases ha:bB e a<;>rw[ha]at h<;>try (cases h;done)
 rename_i l i v off;dsimp only at h ⊢;split at h
 case isFalse=>cases h
 rename_i hall;cases hc:cells? J l i v with
 |none=>rw[hc]at h;cases h
 |some cs =>
 rw[hc]at h;dsimp only at h;cases hp:(bB e x).cells with
 |none=>rw[hp]at h;cases h
 |some p =>
 rw[hp]at h;dsimp only at h;split at h
 case isFalse=>cases h
 rename_i hq;simp only[aZ,ae,ar]at h;refine⟨l,i,v,off,.cells v (cs.take off++p++cs.drop (off+sz)),rfl,λm hm=>iV.1 hall m hm,h.2.symm,fun τ hlen hτ=>?_⟩;simp only[hall,if_true,hτ,hc,hlen,if_pos hq,aZ,h.1]
theorem P9{O:cf}{dst:Option Nat}{n:Bool}{os:List Nat}{w b:Nat}{a x:bP}{e1:Env}{J1:SK}(h:ur O ⟨dst,none,n,.Ui os w b a x⟩ e J=some (e1,J1)):
  ∃l i v cs,(∀m∈os,D.off l i (get e m)=true)/\J1=bj J l i (.cells (v+1) cs):=by
 simp only[ur,wM,ad,Prod.exists,ar]at h;obtain⟨d,J2,h,_,rfl⟩:=h;simp only[bR]at h;split at h
 case h_2=>cases h
 rename_i l i v off n' w' ha;split at h
 case isFalse=>cases h
 rename_i hall;simp only[ak]at h;obtain⟨⟨m,xs⟩,he,h⟩:=h;dsimp only at h;split at h
 case isFalse=>cases h
 rename_i hcl;simp only[M3,aW,he,Option.bind_some,ha]at h;split at h
 case h_2=>cases h
 split at h
 case isFalse=>cases h
 refine⟨l,i,?_⟩;split at h
 .cases h;exact⟨_,_,λm hm=>iV.1 hall m hm,rfl⟩
 .rw[show deep=15+1 from rfl,HC hcl]at h;cases h;exact⟨_,_,λm hm=>iV.1 hall m hm,rfl⟩
theorem aaN{J:SK}{l i v:Nat}{cs:List D}{d:D}{c:List D}(h:Vi (bj J l i (.cells (v+1) cs)) d=some c):Vi J d=some c:=by
 unfold Vi at h ⊢;split at h
 case h_2=>cases h
 rename_i l2 i2 off;simp only[HR,ad]at h ⊢;obtain⟨a,h1,h2⟩:=h;refine⟨a,?_,h2⟩;by_cases hh:l2=l/\i2=i
 .obtain⟨rfl,rfl⟩:=hh;unfold cells? at h1;cases hb:dZ J l2 i2 with
  |some b0=>rw[nL hb]at h1;simp at h1
  |none =>
   have hn:dZ (bj J l2 i2 (.cells (v+1) cs)) l2 i2=none:=by
    unfold dZ at hb ⊢;unfold bj;cases hs:eT J l2 with
    |none=>simp only[hs];rfl
    |some s =>
     simp only[hs,Option.bind_some]at hb;simp only[ti (CJ hs),Option.bind_some];rw[List.getElem?_eq_none_iff]at hb ⊢;simpa using hb
   rw[hn]at h1;cases h1
 .rwa[Cd hh]at h1
theorem Yl{O:cf}{dst:Option Nat}{n ag:Bool}{sz m:Nat}{e1:Env}{J1:SK}(h:ur O ⟨dst,none,n,.Ve ag sz (.t m)⟩ e J=some (e1,J1)):
  J1=J/\∃c,Vi J (get e m).strip=some c/\∀τ,Vi τ (get e m).strip=some c->ur O ⟨dst,none,n,.Ve ag sz (.t m)⟩ e τ=some (e1,τ):=by
 simp only[ur,wM,bR,bB]at h ⊢;cases hr:Vi J (get e m).strip with
 |none=>rw[hr]at h;cases h
 |some cs =>
  rw[hr]at h;dsimp only at h ⊢;have hs:J1=J:=by
   split at h
   .cases ag with
    |true=>simp at h;exact h.2.symm
    |false=>cases cs<;>simp at h;exact h.2.symm
   .cases h
  refine⟨hs,cs,rfl,fun τ hτ=>?_⟩;rw[hτ];dsimp only;split at h
  .rename_i hsz;rw[if_pos hsz];cases ag with
   |true=>simp at h ⊢;exact h.1
   |false =>
    simp only[aD,if_false]at h ⊢;cases cs with
    |nil=>cases h
    |cons d ds=>simp at h ⊢;exact h.1
  .cases h
theorem UP{J J':SK}{b:aG}{l i:Nat}(h:fR J b=some (l,i,J')){d:D}{cs:List D}(hd:HR J d=some cs):HR J' d=some cs:=by
 cases d<;>try exact hd
 rename_i l' i' v off;simp only[HR,ad]at hd ⊢;obtain⟨c,h1,h2⟩:=hd;refine⟨c,?_,h2⟩;unfold cells? at h1 ⊢;have hb:∃b0,dZ J l' i'=some b0:=by
  cases hb:dZ J l' i' with
  |none=>rw[hb]at h1;cases h1
  |some b0=>exact⟨b0,rfl⟩
 obtain⟨b0,hb⟩:=hb;have hne:¬(l'=l/\i'=i):=λhh=>by
  have:=(jL h).1;rw[hh.1,hh.2,this]at hb;cases hb
 rw[(jL h).2.2.1 l' i' hne];exact h1
theorem adi{O:cf}{x y:Op}{e2:Env}{J2:SK}{r:List Op}(hf:x.adr y=true)
  (h:lu O (x::y::r) e J=some (e2,J2)):∃e2',lu O (y::x::r) e J=some (e2',J2)/\Ih e2 e2':=by
 unfold Op.adr at hf;split at hf
 case h_2=>cases hf
 rename_i n v sz a X d n' off m;simp only[az]at hf;obtain⟨rfl,hdv,hda,hdX⟩:=hf;rw[jP]at h;simp only[ak,Prod.exists]at h;obtain⟨ex,Jx,h1,h2⟩:=h;rw[jP]at h2;simp only[ak,Prod.exists]at h2;obtain⟨ey,Jy,h2,h3⟩:=h2;simp only[ur,wM]at h1;cases hin:qT e m a with
 |none=>rw[hin]at h1;cases h1
 |some z =>
 obtain⟨s,cs,o⟩:=z;rw[hin]at h1;cases hX:(bB e X).cells with
 |none=>rw[hX]at h1;cases h1
 |some p =>
 rw[hX]at h1;dsimp only at h1;split at h1
 case isFalse=>cases h1
 rename_i hq;simp only[kj,ae,ar]at h1;obtain⟨rfl,rfl⟩:=h1;have hgv:∃cs',get e m=.own s cs':=by
  unfold qT at hin;cases hg:get e m<;>rw[hg]at hin<;>try (cases hin;done)
  rename_i s' cs';dsimp only at hin;split at hin
  .cases hin;exact⟨_,rfl⟩
  .split at hin
   .split at hin
    .cases hin;exact⟨_,rfl⟩
    .cases hin
   .cases hin
 obtain⟨cs',hgv⟩:=hgv;simp only[ur,wM,bR,get,if_true,aZ,ae,ar]at h2;obtain⟨rfl,rfl⟩:=h2;have hne:get ((d,D.vr m s off)::e) m=get e m:=by simp[get,hdv]
 have hna:get ((d,D.vr m s off)::e) a=get e a:=by simp[get,hda]
 have hin':qT ((d,D.vr m s off)::e) m a=some (s,cs,o):=by rw[DW hne hna,hin]
 have hX':bB ((d,D.vr m s off)::e) X=bB e X:=bh λt ht=>by
  have:d≠t:=λhe=>hdX (he ▸ ht)
  simp[get,this]
 have heq:Ih (put (some d) (D.vr m s off) ((m,.own s (cs.take o++p++cs.drop (o+sz)))::e)) ((m,.own s (cs.take o++p++cs.drop (o+sz)))::(d,D.vr m s off)::e):=by
  intro t;simp only[put,get];by_cases h1:d=t
  .have:¬m=t:=λe=>hdv (h1.trans e.symm)
   simp[h1,this]
  .simp[h1]
 obtain⟨e3,k1,k2⟩:=JP h3 heq;refine⟨e3,?_,k2⟩;rw[jP];simp only[ur,wM,bR,hgv,aZ,Option.bind_some];rw[jP];simp only[ur,wM,put,hin',hX',hX,hq,and_self,if_true,kj,Option.bind_some];exact k1
theorem abf{O:cf}{x y:Op}{e2:Env}{J2:SK}{r:List Op}(hf:x.free y=true)
  (h:lu O (x::y::r) e J=some (e2,J2)):∃e2',lu O (y::x::r) e J=some (e2',J2)/\Ih e2 e2':=by
 unfold Op.free at hf;rw[cj]at hf;rcases hf with hf | hf
 .exact adi hf h
 simp only[af,dT]at hf;obtain⟨hc,hf⟩:=hf;simp only[Op.abC,Bool.or_eq_false_iff,List.any_eq_false,List.contains_iff_mem,cj,not_or]at hc;obtain⟨c1,c2⟩:=hc;rw[jP]at h;simp only[ak,Prod.exists]at h;obtain⟨ex,Jx,h1,h2⟩:=h;rw[jP]at h2;simp only[ak,Prod.exists]at h2;obtain⟨ey,Jy,h2,h3⟩:=h2;obtain⟨lx,d1,hl1⟩:=F1 h1;obtain⟨ly,d2,hl2⟩:=F1 h2;have k1:=hl1 e (Ih.Dm (.refl e) _);rw[h1]at k1;cases k1;have k2:=hl2 _ (Ih.Dm (.refl _) _);rw[h2]at k2;cases k2;have ay:jN (y.Hf++y.defs) (lx++e) e:=λt ht=>by
  rw[Jg,if_neg];intro hm;obtain⟨p,hp,rfl⟩:=bI.1 hm;have:=c1 _ (d1 p hp);simp only[aT]at ht;rcases ht with ht | ht
  .exact this.2 (by simpa using ht)
  .exact this.1 (by simpa using ht)
 have ax:jN (x.Hf++x.defs) e (ly++e):=λt ht=>by
  rw[Jg,if_neg];intro hm;obtain⟨p,hp,rfl⟩:=bI.1 hm;have hp':=d2 p hp;simp only[aT]at ht;rcases ht with ht | ht
  .exact c2 _ ht (by simpa using hp')
  .exact(c1 _ ht).1 (by simpa using hp')
 have hy0:=hl2 e ay;have hx0:=hl1 (ly++e) ax;obtain⟨Jm,hy1,hx1⟩:∃Jm,ur O y e J=some (ly++e,Jm)/\ur O x (ly++e) Jm=some (lx++(ly++e),Jy):=by
  simp only[cj,af]at hf;rcases hf with((⟨hx,hy⟩ | hx) | hy) | hfar
  .obtain rfl:=F2 h1 hx;obtain rfl:=F2 h2 hy;exact⟨_,hy0,hx0⟩
  .have e1:=EG h1 hx J;rw[h1]at e1;cases e1;exact⟨Jy,hy0,EG hx0 hx Jy⟩
  .have e2:=EG h2 hy Jx;rw[h2]at e2;cases e2;exact⟨J,EG hy0 hy J,hx0⟩
  .unfold Op.far at hfar;obtain⟨dx,gx,nx,kx⟩:=x;obtain⟨dy,gy,ny,ky⟩:=y;simp only[af,Option.isNone_iff_eq_none]at hfar;obtain⟨⟨rfl,rfl⟩,hfar⟩:=hfar;split at hfar
   .rename_i os sz a X ag sz' m;have hm:m∈os:=by simpa using hfar
    obtain⟨l,i,v,off,b,_,hoff,rfl,_⟩:=G6 h1;obtain⟨rfl,hall⟩:=EF hy0;exact⟨J,hall J (NH (hoff m hm)).symm,hx0⟩
   .rename_i ag sz' m os sz a X;have hm:m∈os:=by simpa using hfar
    obtain⟨rfl,_⟩:=EF h1;obtain⟨l,i,v,off,b,_,hoff,rfl,_⟩:=G6 hy0;obtain⟨_,hall⟩:=EF hx0;refine⟨_,hy0,hall _ ?_⟩;have hg:get (ly++e) m=get e m:=ax m (by simp[Op.Hf,K.tmps,bP.tmps]);rw[hg];exact NH (hoff m hm)
   .rename_i os sz a X os' sz' m X';have hm:m∈os:=by simpa using hfar
    obtain⟨l,i,v,off,b,_,hoff,rfl,hall⟩:=G6 hx0;obtain⟨l',i',v',off',b',hr,hoff',rfl,hall'⟩:=G6 hy0;have hg:get (ly++e) m=get e m:=ax m (by simp[Op.Hf,K.tmps,hm]);have h4:=hoff m hm;rw[hg]at h4;have h5:get e m=.ref l' i' v' off':=by
     simp only[bB]at hr;cases hgm:get e m<;>rw[hgm]at hr<;>simp only[D.strip,reduceCtorEq]at hr;exact hr
    rw[h5]at h4;simp only[D.off,az]at h4;refine⟨bj J l' i' b',hall' J dK.symm (Cd h4).symm,?_⟩;rw[Qg h4];exact hall _ dK (Cd λhh=>h4 ⟨hh.1.symm,hh.2.symm⟩)
   .rename_i os wd bt a X ag sz' m;have hm:m∈os:=by simpa using hfar
    obtain⟨l,i,b,bc,hoff,rfl⟩:=P9 h1;obtain⟨rfl,hall⟩:=EF hy0;exact⟨J,hall J (NH (hoff m hm)).symm,hx0⟩
   .rename_i ag sz' m cs;obtain⟨rfl,_⟩:=EF h1;obtain⟨_,hall⟩:=EF hx0;refine⟨_,hy0,hall _ ?_⟩;have hg:get (ly++e) m=get e m:=ax m (by simp[Op.Hf,K.tmps,bP.tmps]);rw[hg];have hrd:∃c,HR Jx (get e m).strip=some c:=by
     simp only[ur,wM,bR,bB]at h1;cases hr:HR Jx (get e m).strip with
     |none=>rw[hr]at h1;simp at h1
     |some c=>exact⟨c,rfl⟩
    obtain⟨c,hrd⟩:=hrd;have hn:∃l i,fR Jx (.cells 0 cs)=some (l,i,Jy):=by
     simp only[ur,wM,bR,kj,aW,Option.bind_some,ad,ak,Prod.exists,ar]at hy0;obtain⟨d0,J0,⟨l,i,J3,h1,h2⟩,_,h3⟩:=hy0;cases h2;cases h3;exact⟨l,i,h1⟩
    obtain⟨l,i,hn⟩:=hn;rw[hrd,UP hn hrd]
   .rename_i os wd bt a X ag sz' m;obtain⟨l,i,b,bc,hoff,rfl⟩:=P9 h1;obtain⟨rfl,c,hc,hall⟩:=Yl hy0;exact⟨J,hall J (aaN hc),hx0⟩
   .cases hfar
 have heq:Ih (ly++(lx++e)) (lx++(ly++e)):=λt=>by
  simp only[Jg];by_cases m1:t∈lx.map (·.1)
  .by_cases m2:t∈ly.map (·.1)
   .obtain⟨p,hp,rfl⟩:=bI.1 m1;obtain⟨q,hq,he⟩:=bI.1 m2;have:=(c1 _ (d1 p hp)).1;have hq':=d2 q hq;rw[he]at hq';exact absurd hq' (by simpa using this)
   .rw[if_pos m1,if_neg m2,if_pos m1]
  .by_cases m2:t∈ly.map (·.1)
   .rw[if_neg m1,if_pos m2,if_pos m2]
   .rw[if_neg m1,if_neg m2,if_neg m2,if_neg m1]
 obtain⟨e3,k3,k4⟩:=JP h3 heq;refine⟨e3,?_,k4⟩;rw[jP,hy1];simp only[Option.bind_some];rw[jP,hx1];exact k3
theorem Pk{O:cf}{y:Op}{r:List Op}:∀{pre:List Op} {e e2:Env} {J J2:SK},(∀x∈pre,x.free y=true) ->
  lu O (pre++y::r) e J=some (e2,J2)->∃e2',lu O (y::(pre++r)) e J=some (e2',J2)/\Ih e2 e2'
 |[],e,e2,J,J2,hp,h=>⟨e2,h,.refl _⟩
 |x::pre,e,e2,J,J2,hp,h=>by
  simp only[cr]at h;rw[jP]at h;simp only[ak,Prod.exists]at h;obtain⟨e1,J1,h1,h2⟩:=h;obtain⟨e3,h3,h4⟩:=Pk (λz hz=>hp z (by simp[hz])) h2;have h5:lu O (x::y::(pre++r)) e J=some (e3,J2):=by rw[jP,h1];exact h3
  obtain⟨e4,h6,h7⟩:=abf (hp x (by simp)) h5;exact⟨e4,h6,h4.trans h7⟩
theorem NO{live:List Nat}(h:Ih e e'):restrict live e'=restrict live e:=by
 simp only[restrict];exact List.map_congr_left λt _=>by rw[h t]
end Go.Abs
