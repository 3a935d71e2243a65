import Derived.Test.YtanhdobabijmoaaGreatDoorBase9
import Derived.Recover
set_option linter.all false
namespace Go.aA
open Go
def uz(P:Program)(CR:eP)(f:Nat)(args:List D)(J:SK)(d:D)(J':SK):Prop :=
 (∃F c,P.funcs[f]?=some F/\F.name ≠ "runtime.NumGoroutine" /\ F.body=some c) /\
 ∀base g w vs,Inv CR base g J w->sj J->0<J.length->bF g args vs.toList ->
  fq J J'/\Calls P f vs w (λe w'=>∃v g',e=.returned v/\Ev g w g' w'/\Inv CR base g' J' w'/\bH g' d v)
def WT(P:Program)(CR:eP)(f:Nat)(args:List D)(J:SK)(d:D)(J':SK):Prop :=
 d.clean=true/\(∃F c,P.funcs[f]?=some F/\F.name ≠ "runtime.NumGoroutine" /\ F.body=some c) /\
 ∀base g w vs,Inv CR base g J w->sj J->0<J.length->bF g args vs.toList ->
  fq J J'/\Calls P f vs w (λe w'=>∃v g',e=.panicked [{v,recovered:=false }]/\Ev g w g' w'/\Inv CR base g' J' w'/\bH g' d v)
def PX(g:G):Option D->FrameMode->Prop
 |none,u=>u=.returning
 |some d,u=>∃v,bH g d v/\u=.panicking [{v,recovered:=false }]
def WH(P:Program)(CR:eP)(f:Nat)(args:List D)(th:Option D)(J J':SK):Prop :=
 (∃F c,P.funcs[f]?=some F/\F.name ≠ "runtime.NumGoroutine" /\ F.body=some c) /\
 ∀base g w vs u,Inv CR base g J w->sj J->0<J.length->bF g args vs.toList->PX g th u ->
  fq J J'/\CallsD P f vs u w (λe u' w'=>∃v g',e=.returned v/\settle u'=.returning/\Ev g w g' w'/\Inv CR base g' J' w')
def Qi(P:Program)(CR:eP)(l i:Nat)(args:List D)(J:SK)(d:D)(J':SK):Prop :=
 (∃lp,dG J l i=some (.loop lp))/\∀base g w vs b,Inv CR base g J w->sj J->0<J.length->bF g args vs.toList->bH g (.jm l i) (.func (.yield b) #[] #[]) ->
  fq J J'/\∃f tmps AY body,(Instr.yield b vs).run P w=.ok (.round b f tmps AY body) w /\
   ∀c cs,∃v g' w',Steps P (lone (Frame.round b f tmps AY body .normal) (c::cs) w) (lone (c.finish v) cs w')/\Ev g w g' w'/\Inv CR base g' J' w'/\bH g' d v
def BH(k:List Item):Exit->List Item->Prop
 |.normal,t=>t=k
 |.exit id,t=>∃k',t=.code (.exit id)::k'/\exitTo id k'=exitTo id k
 |.ret,t=>∃k',t=.code .ret::k'
 |.fp _,_=>True
def xA(S:Frame->Prop)(g:G)(b:Frame)(a:Act)(todo:List Item):Exit->Prop
 |.fp d=>d.clean=true/\∃v,bH g d v/\S {b.atR a todo with mode:=.panicking [{v,recovered:=false }] }
 |_=>S (b.atR a todo)
theorem xA.imp{S S':Frame->Prop}{g:G}{b:Frame}{a:Act}{todo:List Item}{x:Exit}(h:xA S g b a todo x)(hs:∀fr,S fr->S' fr):xA S' g b a todo x:=by
 cases x with
 |fp d=>obtain⟨h0,v,h1,h2⟩:=h;exact⟨h0,v,h1,hs _ h2⟩
 |_=>exact hs _ h
def Z9(P:Program)(CR:eP)(c:cc)(e:Env)(J:SK)(x:Exit)(e':Env)(J':SK):Prop :=
 x ≠ .normal/\∀(ann:ux) dr code n,cb P ann n dr code=some c->∀base g0 w0 b a k cs g w B,At CR base ann.dF g0 w0 n b g w B e J a ->
  ∃g' w' B' a' todo,xA (λfr=>Steps P (lone (b.atR a (.code code::.inLoop code::k)) cs w) (lone fr cs w')) g' b a' todo x /\
   At CR base ann.dF g0 w0 n b g' w' B' e' J' a'/\g.le g'/\BH k x todo/\fq J J'
def TP(P:Program)(ann:ux)(n dr:Nat)(rest:cc):Option Code->Prop
 |none=>rest=.Hu
 |some q=>cb P ann n dr q=some rest
def WK(P:Program)(CR:eP)(live:List Nat)(it:bI)(nx ok bid:Nat)(c rest:cc)(e:Env)(J:SK)(x:Exit)(e':Env)(J':SK):Prop :=
 ∀(ann:ux) dr rid ops p n it0 (qs:Option Code),it=.t it0->Pc ann n (.loop (.seq (.region rid ops false) p))=some (it0,nx,ok)->cb P ann n bid p=some c->TP P ann n dr rest qs ->
  ∀base g0 w0 b a k cs g w B,At CR base ann.dF g0 w0 n b g w B e J a ->
  ∃g' w' B' a' todo,xA (λfr=>Steps P (lone (b.atR a (.code (.seq (.region rid ops false) p)::.inLoop (.seq (.region rid ops false) p)::.inBlock bid::(qs.toList.map Item.code++k))) cs w) (lone fr cs w')) g' b a' todo x /\
   At CR base ann.dF g0 w0 n b g' w' B' e' J' a'/\g.le g'/\BH k x todo/\fq J J'
def Gv(P:Program)(CR:eP):Q->R->Prop
 |.call _ f args J,.val d J'=>uz P CR f args J d J'
 |.round l i args J,.val d J'=>Qi P CR l i args J d J'
 |.loop _ _ c e J,.DH x e' J'=>Z9 P CR c e J x e' J'
 |.call _ f args J,.fp d J'=>WT P CR f args J d J'
 |.iu live it nx ok bid c rest e J,.DH x e' J'=>WK P CR live it nx ok bid c rest e J x e' J'
 |.yn f args th J,.val _ J'=>WH P CR f args th J J'
 |_,_=>True
def Ad(P:Program)(CR:eP)(O:bS):Prop:=∀q r,O q=some r->Gv P CR q r
theorem Gr{r:Option R}{d:D}{J:SK}(h:R.aU r=some (d,J)):r=some (.val d J):=by
 unfold R.aU at h;split at h
 .cases h;rfl
 .cases h
theorem Ki{r:Option R}{x:Exit}{e:Env}{J:SK}(h:R.RP r=some (x,e,J)):r=some (.DH x e J):=by
 unfold R.RP at h;split at h
 .cases h;rfl
 .cases h
section
variable {P:Program} {CR:eP} {O:bS} {ann:ux} {n tT:Nat} {ops:Array Oper} {base:Nat} {g0 g:G} {w0 w:World} {b:Frame} {B:Nat->Nat} {e e':Env} {J J':SK} {a:Act}
 {k:List Item} {cs:List Frame} {i:Nat} {rest:List Nat}
def MJ(P:Program)(CR:eP)(ann:ux)(n:Nat)(ops:Array Oper)(base:Nat)(g0:G)(w0:World)(b:Frame)(g:G)(w:World)(a:Act)(k:List Item)(cs:List Frame)(i:Nat)(rest:List Nat)(J:SK)(e':Env)(J':SK):Prop :=
 ∃g' w' B' a',Steps P (lone (b.atR a (.inRegion ops (i::rest)::k)) cs w) (lone (b.atR a' (.inRegion ops rest::k)) cs w') /\
  At CR base ann.dF g0 w0 n b g' w' B' e' J' a'/\g.le g'/\fq J J'
theorem At.go{V:List Nat}(ha:At CR base V g0 w0 n b g w B e J a){g':G}{w':World}{B':Nat->Nat}{tm:Act}(he:Ev g w g' w')(hi:Inv CR base g' J' w')(hg:fq J J')
  (hf:Fr w0.heap.size V g' w' B' e' tm.tmps) (hs:tm.tmps.size=a.tmps.size) (hd:tm.defers=a.defers):At CR base V g0 w0 n b g' w' B' e' J' tm where
 fr:=hf
 ev:=ha.ev.trans he
 inv:=hi
 low:=hg.low ha.low
 pos:=by rw[hg.len];exact ha.pos
 size:=by rw[hs];exact ha.size
 marks:=let ⟨rs,h⟩:=ha.marks;⟨rs,by rw[hd];exact h.ev he⟩
 round:=vN ha.round he.le
theorem CM{dst:Option Nat}{c:Value}:(a.put dst c).tmps.size=a.tmps.size:=by cases dst<;>simp[Act.put]
theorem put_defers{dst:Option Nat}{c:Value}:(a.put dst c).defers=a.defers:=by cases dst<;>simp[Act.put]
theorem NB{ann:ux}{key:Nat}{o:Oper}{kk:K}(h:kC P ann ops key o=some kk):∀c,o.op ≠ .defer c:=by
 intro c hc;unfold kC at h;rw[hc]at h;cases h
theorem Bp(ha:At CR base ann.dF g0 w0 n b g w B e J a){o:Oper}(ho:ops[i]?=some o)(hn:∀t,o.dst=some t->t<n)(hV:∀t,o.dst=some t->t ∉ ann.dF)
  {g':G} {w':World} {d:D} {c:Value} (hsteps:Steps P (lone (b.atR a (.inRegion ops (i::rest)::k)) cs w) (lone (b.atR (a.put o.dst c) (.inRegion ops rest::k)) cs w'))
  (he:Ev g w g' w') (hi:Inv CR base g' J' w') (hg:fq J J') (hr:cz g' B e d c):
  MJ P CR ann n ops base g0 w0 b g w a k cs i rest J (put o.dst d e) J':=by
 refine⟨g',w',B,a.put o.dst c,hsteps,ha.go he hi hg ?_ CM put_defers,he.le,hg⟩;exact(ha.fr.ev he).put hr hV λt ht=>by rw[ha.size];exact hn t ht
theorem jT{ρ:Operand->Value}{f:Operand}{args:Array Operand}{ts:Array TypeId}{ty:TypeId}{fn:Go.Fn}{first cap:Array Value}(hf:ρ f=.func fn first cap)(w:World):
  (resolve ρ {callee:=.value f,args,argTypes:=ts } ty).run P w=.ok {target:=.fn fn cap,args:=first++args.map ρ } w:=by
 simp[resolve,Deferred.ofValue,hf]
theorem xW{f:FuncId}{args:Array Value}{F:Func}(h1:P.funcs[f]?=some F)(h2:F.name ≠ "runtime.NumGoroutine"){c:Code}(h3:F.body=some c)(w:World):
  (callFunc f args).run P w=.ok (.enter f args) w:=by
 simp[callFunc,program,Sem.run,h1,h2,h3]
theorem Fi{xs:Array Operand}{Xs:List bI}{fb:Nat}{V:List Nat}{tmps:Array Value}{df:List Deferred}(hf:Fr fb V g w B e tmps)(hx:xr xs.toList=some Xs):
  bF g (Xs.map (aA.bu e)) (xs.map (Act.mk tmps df).eval).toList:=by
 have:=hf.aaR (df:=df) hx;simpa using this
theorem Qp(hO:Ad P CR O)(ha:At CR base ann.dF g0 w0 n b g w B e J a){o:Oper}(ho:ops[i]?=some o)(hw:Region.wanted o (yielded ops a.tmps)=true)
  (hn:∀t,o.dst=some t->t<n) (hV:∀t,o.dst=some t->t ∉ ann.dF) {f:Operand} {args:Array Operand} {ts:Array TypeId} (hop:o.op=.call {callee:=.value f,args,argTypes:=ts })
  {F:bI} {Xs:List bI} (hF:bG f=some F) (hX:xr args.toList=some Xs) {kp:Bool} {d:D} (h:pO O kp (bu e F) (Xs.map (bu e)) J=some (d,J')):
  MJ P CR ann n ops base g0 w0 b g w a k cs i rest J (put o.dst d e) J':=by
 obtain⟨tmps,df⟩:=a;have hd:∀c,o.op ≠ .defer c:=by intro c hc;rw[hop]at hc;cases hc
 have hfv:=ha.fr.bu (df:=df) hF;have hxs:=Fi (df:=df) ha.fr hX;unfold pO at h;split at h
 .rename_i fi first cap hfe
  rw[hfe]at hfv;have hans:=hO _ _ (Gr h);obtain⟨⟨Fn,cd,hfn1,hfn2,hfn3⟩,hcall⟩:=hans;generalize hev:(Act.mk tmps df).eval f=fv at hfv;cases hfv with
  |fn _ _ _ first' cap' r1 r2 =>
   have hrun:(execOp (Act.mk tmps df).eval o).run P w=.ok (.enter fi (first'++args.map (Act.mk tmps df).eval++cap')) w:=by
    simp only[execOp,hop,Sem.run_bind,jT hev,Result.andThen_ok,invoke,xW hfn1 hfn2 hfn3]
   have hargs:bF g (first++Xs.map (bu e)++cap) (first'++args.map (Act.mk tmps df).eval++cap').toList:=by
    simpa using(r1.append hxs).append r2
   obtain⟨hgo,hcalls⟩:=hcall base g w _ ha.inv ha.low ha.pos hargs;obtain⟨en,w',fr,⟨v,g',rfl,he,hi,hr⟩,hcomes,hfr,hleave⟩:=hcalls (b.atR ⟨tmps,df⟩ (.inRegion ops (i::rest)::k)::cs);refine Bp ha ho hn hV (Steps.head (Jd ho hw hd hrun) (Steps.trans hcomes (Steps.one ?_))) he hi hgo (cz.of hr);rw[step_leave_returned hleave,C0 ho]
 .rename_i l j hfe;rw[hfe]at hfv;have hans:=hO _ _ (Gr h);generalize hev:(Act.mk tmps df).eval f=fv at hfv;have hfv0:=hfv;cases hfv with
  |QP _ _ bb r1 =>
   obtain⟨⟨lp,hlp⟩,_⟩:=hans;obtain⟨b0,hb0,hrel⟩:=ha.inv.xq _ _ _ r1;rw[hlp]at hb0;cases hb0;exact hrel.elim
  |Uv _ _ bb L r1 r2 =>
   obtain⟨⟨lp,hlp⟩,_⟩:=hans;obtain⟨b0,hb0,hrel⟩:=ha.inv.xq _ _ _ r1;rw[hlp]at hb0;cases hb0;rcases r2 with rfl | rfl<;>exact hrel.elim
  |RG _ _ bb L r1 r2 =>
   obtain⟨⟨lp,hlp⟩,_⟩:=hans;obtain⟨b0,hb0,hrel⟩:=ha.inv.xq _ _ _ r1;rw[hlp]at hb0;cases hb0;rcases r2 with⟨c,rfl⟩ | rfl<;>exact hrel.elim
  |jm _ _ bb r1 =>
   obtain⟨hgo,f0,tm0,AY,body,hy,hround⟩:=hans.2 base g w (args.map (Act.mk tmps df).eval) bb ha.inv ha.low ha.pos (by simpa using hxs) hfv0;have hrun:(execOp (Act.mk tmps df).eval o).run P w=.ok (.round bb f0 tm0 AY body) w:=by
    simp only[execOp,hop,Sem.run_bind,jT hev,Result.andThen_ok,invoke];simpa using hy
   obtain⟨v,g',w',hsteps,he,hi,hr⟩:=hround (b.atR ⟨tmps,df⟩ (.inRegion ops (i::rest)::k)) cs;refine Bp ha ho hn hV (Steps.head (PA ho hw hd hrun) ?_) he hi hgo (cz.of hr);rw[C0 ho]at hsteps;exact hsteps
 .cases h
end
section
variable {P:Program} {CR:eP} {O:bS} {ann:ux} {n tT:Nat} {ops:Array Oper} {base:Nat} {g0 g:G} {w0 w:World} {b:Frame} {B:Nat->Nat} {e e':Env} {J J':SK} {a:Act}
 {k:List Item} {cs:List Frame} {i:Nat} {rest:List Nat}
theorem U0(ha:At CR base ann.dF g0 w0 n b g w B e J a){o:Oper}(ho:ops[i]?=some o)(hw:Region.wanted o (yielded ops a.tmps)=true)(hd:∀c,o.op ≠ .defer c)
  {v:Nat} (hdst:o.dst=some v) (hV:v∈ann.dF) (hn:v<n) {g1:G} {ds:List D} {ca:Array Value} {el:TypeId}
  (hrun:(execOp a.eval o).run P w=.ok (.value (.pointer (some ⟨w.heap.size,0,none⟩))) (w.alloc (.cells ca el)))
  (i1:Inv CR base g1 J' w) (e1:Ev g w g1 w) (hg:fq J J') (hr:bF g1 ds ca.toList) (h1:∀x∈ca.toList,x.oneCell'=true):
  MJ P CR ann n ops base g0 w0 b g w a k cs i rest J ((v,.own (vl e v) ds)::e) J':=by
 obtain⟨tmps,df⟩:=a;have i2:=i1.alloc (.cells ca el);have e2:=e1.trans (Ev.alloc g1 w (.cells ca el));have hsteps:=yP (P:=P) (b:=b) (a:=⟨tmps,df⟩) (k:=k) (cs:=cs) (rest:=rest) ho hw hd hrun rfl;rw[hdst]at hsteps;have hsz:v<tmps.size:=by have:=ha.size;simp only at this;omega
 refine⟨g1,_,_,_,.one hsteps,ha.go e2 i2 hg ((ha.fr.ev e2).aaZ hV hsz ⟨ha.ev.size,λhb=>?_,λo=>?_,ca,el,ug,hr,h1⟩ λt s cs' ht=>?_) CM put_defers,e2.le,hg⟩
 .exact Nat.lt_irrefl _ (i1.Un hb)
 .cases hh:g1.pM w.heap.size o with
  |none=>rfl
  |some x=>exact absurd (i1.jb hh) (Nat.lt_irrefl _)
 .have:=(ha.fr.own t s cs' ht).2.2.lt;omega
theorem abS(ha:At CR base ann.dF g0 w0 n b g w B e J a){o:Oper}(ho:ops[i]?=some o)(hw:Region.wanted o (yielded ops a.tmps)=true)
  (hn:∀t,o.dst=some t->t<n) (hV:∀t,o.dst=some t->t ∉ ann.dF) {t:TypeId} {x v:Nat} {y:Operand} {Y:bI} (hop:o.op=.store t (.tmp x) y) (hy:bG y=some Y) {sz:Nat} (hsz:de P t=some sz)
  {s off:Nat} {cv p p':List D} {nb:List (Nat×Nat)} (hin:sW e v x=some (s,cv,off)) (hp:(bu e Y).cells=some p) (hlen:p.length=sz/\off+sz<=cv.length)
  (hnb:ki nb p J=some (p',J')) (hdst:o.dst=none):
  MJ P CR ann n ops base g0 w0 b g w a k cs i rest J ((v,.own s (cv.take off++p'++cv.drop (off+sz)))::e) J':=by
 obtain⟨tmps,df⟩:=a;have hd:∀c,o.op ≠ .defer c:=by intro c hc;rw[hop]at hc;cases hc
 obtain⟨hgv,hpx⟩:=ha.fr.sW hin;obtain⟨hvV,hptr,hob⟩:=ha.fr.own v s cv hgv;obtain⟨ca,el,hheap,hrl,h1c⟩:=hob.dr;obtain⟨hrp,h1p⟩:=(ha.fr.bu (df:=df) hy).cells hp;obtain⟨g1,i1,e1,r1⟩:=yG nb _ _ _ _ g _ hnb ha.inv hrp;obtain⟨_,hp'len,_⟩:=Bq nb _ _ _ _ hnb;have hpl:((Act.mk tmps df).eval y).cells.toList.length=sz:=by rw[<- r1.length,hp'len];exact hlen.1
 have hpl':((Act.mk tmps df).eval y).cells.size=sz:=by simpa using hpl
 have hcl:ca.size=cv.length:=by have:=hrl.length;simpa using this.symm
 obtain⟨w',c',hrun,hb',hs',hc',hother,hsize,ho1,ho2,ho3⟩:=Fq (P:=P) (t:=t) (w:=w) (b:=B v) (o:=off) (v:=(Act.mk tmps df).eval y) hsz (by simpa using hpl) h1p hheap (by omega);have hob1:=hob.ev e1;have hcv:(Act.mk tmps df).eval (.tmp x)=.pointer (some ⟨B v,off,none⟩):=hpx;have hrunO:(execOp (Act.mk tmps df).eval o).run P w=.ok .skip w':=by
  simp[execOp,hop,Instr.storeAt,hcv,Instr.sureAddr,hrun]
 have hoth:∀b',b'≠B v->w'.heap[b']?=w.heap[b']?:=hother;have i2:Inv CR base g1 J' w':=i1.Hp (λb' hb'' hk=>hoth b' λhh=>by
  subst hh;rcases hk with hk | ⟨o2,v2,hk⟩
  .exact hob1.free hk
  .rw[hob1.sX]at hk;cases hk) (by omega)
 have hwrite:bF g1 (cv.take off++p'++cv.drop (off+sz)) c'.toList/\∀z∈c'.toList,z.oneCell'=true:=by
  have hrow:=KQ (c:=ca) (c':=c') (bo:=0) (off:=off) (vs:=ca.toList) (ps:=((Act.mk tmps df).eval y).cells.toList) (λj z hz=>⟨by simpa using hz,h1c z (ai hz)⟩) h1p (by simp;omega)
   (by rw[hpl];simpa using hc')
  rw[hpl]at hrow;have hrel:=(((hrl.mono e1.le).take off).append r1).append ((hrl.mono e1.le).drop (off+sz));have heq:c'.toList=ca.toList.take off++((Act.mk tmps df).eval y).cells.toList++ca.toList.drop (off+sz):=by
   have hll:(ca.toList.take off++((Act.mk tmps df).eval y).cells.toList++ca.toList.drop (off+sz)).length=c'.toList.length:=by
    simp only[aF,hpl,fT,List.length_drop,Array.length_toList,hs'];omega
   apply ei;intro j;by_cases hj:j<c'.toList.length
   .have hj2:=hj;rw[<- hll]at hj2;have:=(hrow j _ (aC hj2)).1;rw[aC hj2];simpa using this
   .rw[eg (by omega),eg (by omega)]
  rw[heq];refine⟨hrel,λz hz=>?_⟩;simp only[ba]at hz;rcases hz with(hz | hz) | hz
  .exact h1c z (bR hz)
  .exact h1p z hz
  .exact h1c z (ck hz)
 have hob2:Jl w0.heap.size g1 w' (B v) (cv.take off++p'++cv.drop (off+sz)):=⟨hob1.lo,hob1.free,hob1.sX,c',el,hb',hwrite.1,hwrite.2⟩;have hsteps:=yP (P:=P) (b:=b) (a:=⟨tmps,df⟩) (k:=k) (cs:=cs) (rest:=rest) ho hw hd hrunO rfl;rw[hdst]at hsteps;have hgo:=ub _ _ _ _ _ hnb;refine⟨g1,w',B,⟨tmps,df⟩,.one hsteps,⟨?_,?_,i2,hgo.low ha.low,by rw[hgo.len];exact ha.pos,ha.size,?_,vN ha.round e1.le⟩,e1.le,hgo⟩
 .exact(ha.fr.ev e1).Pr hgv hob2 λb' _ hne=>hoth b' hne
 .have h0:=ha.ev.trans e1;refine⟨h0.le,ho1.trans h0.os,ho2.trans h0.tape,ho3.trans h0.output,by have:=h0.size;omega,λb' hb'' hnb'=>?_,h0.SS,h0.JI⟩;rw[hoth b' (by have:=hob.lo;omega)];exact h0.kept b' hb'' hnb'
 .obtain⟨rs,hm⟩:=ha.marks;have hm1:=hm.ev e1;refine⟨rs,hm1.eq,hm1.nodup,λr hr=>?_⟩;have hmr:=hm1.all r hr;refine⟨hmr.lo,hmr.free,hmr.sX,?_⟩;rw[hoth r,hmr.dr];intro hh;subst hh;have:=hmr.dr;rw[hheap]at this;cases this
def KEq(P:Program)(ann:ux)(o:Oper)(kk:K):Prop :=
  match kk with
  |.call _ F Xs=>∃f args ts,o.op=.call {callee:=.value f,args,argTypes:=ts }/\bG f=some F/\xr args.toList=some Xs
  |.AW _ z=>∃el v,o.op=.alloc el/\sY P el=some z/\o.dst=some v/\v∈ann.dF
  |.FZ X=>∃t x v,o.op=.box t x/\bG x=some X/\o.dst=some v/\v∈ann.dF
  |.Hj _ _ sz x Y=>∃t y,o.op=.store t (.tmp x) y/\bG y=some Y/\de P t=some sz
  |.U1 X=>∃y,o.op=.panic y/\bG y=some X
  |.N1=>∃args ts,o.op=.call {callee:=.builtin .recover,args,argTypes:=ts }
  |_=>True
theorem O7{X Y:bI}{t:TypeId}{bo:BinOp}{kk:K}{o:Oper}(hk:eqC P bo t X Y=some kk):KEq P ann o kk:=by
 unfold eqC at hk;split at hk
 case h_2=>cases hk
 split at hk
 .cases hk
 split at hk
 .obtain⟨ag,hag,rfl⟩:=ab.1 hk;trivial
 .obtain⟨ag,hag,rfl⟩:=ab.1 hk;trivial
 .cases hk
theorem Uw{kk:K}{key:Nat}{o:Oper}(hk:kC P ann ops key o=some kk):KEq P ann o kk:=by
 unfold kC at hk;split at hk
 .rename_i x ho;obtain⟨X,hX,rfl⟩:=ab.1 hk;trivial
 .rename_i x ho;split at hk
  .rename_i hnil _ _;split at hk
   .obtain⟨X,hX,rfl⟩:=ab.1 hk;trivial
   .obtain⟨X,hX,rfl⟩:=ab.1 hk;trivial
  .obtain⟨X,hX,rfl⟩:=ab.1 hk;trivial
 .rename_i c x y ho;split at hk
  .rename_i c' x' y' h1 h2 h3;cases hk;trivial
  .cases hk
 .rename_i el ho;split at hk
  .rename_i z d0 hz hd0;split at hk
   .split at hk
    case h_2=>cases hk
    split at hk
    case h_2=>cases hk
    split at hk
    case h_2=>cases hk
    cases hk;trivial
   cases hk;split
   .rename_i hc;exact⟨el,d0,ho,hz,hd0,by simpa using hc⟩
   .trivial
  .cases hk
 .rename_i t x ho;split at hk
  .rename_i x' d0 hx hd0;cases hk;by_cases hc:ann.dF.contains d0=true
   .simp only[hc,if_true];exact⟨t,x,d0,ho,hx,hd0,by simpa using hc⟩
   .rw[if_neg hc];split
    .split<;>trivial
    .trivial
  .cases hk
 .rename_i t ps ho;split at hk
  .rename_i fs z ht hz;split at hk
   .rename_i hall;obtain⟨parts,hp,rfl⟩:=ab.1 hk;trivial
   .cases hk
  .rename_i n el z ht hz;split at hk
   .rename_i wd hw;obtain⟨parts,hp,rfl⟩:=ab.1 hk;trivial
   .cases hk
  .cases hk
 .rename_i t n ps ho;split at hk
  .rename_i el ht;split at hk
   .rename_i wd z d0 hw hz _;split at hk
    .rename_i hc;obtain⟨parts,hp,rfl⟩:=ab.1 hk;dsimp only;split
     .trivial
     split<;>trivial
    .cases hk
   .cases hk
  .cases hk
 .rename_i t x ho;split at hk
  .rename_i ag sz n hag hsz hx;split at hk
   .rename_i hc;simp only[ae,au]at hc;cases hk;have hxe:x=.tmp n:=by
     cases x<;>simp only[bG,ad,bI.t.injEq,reduceCtorEq,ab,and_false,exists_false]at hx;rw[hx]
    split
    .trivial
    .split
     .trivial
     .split<;>trivial
   .cases hk
  .cases hk
 .rename_i t x y ho;split at hk
  .rename_i sz n y' hsz hx hy;cases hk;have hxe:x=.tmp n:=by
    cases x<;>simp only[bG,ad,bI.t.injEq,reduceCtorEq,ab,and_false,exists_false]at hx;rw[hx]
   by_cases hc:ann.dF.contains (GQ ops 8 n)=true
   .simp only[hc,if_true];exact⟨t,y,by rw[ho,hxe],hy,hsz⟩
   .rw[if_neg hc];split<;>trivial
  .cases hk
 .rename_i b t x y u ho;split at hk
  .rename_i hx hy;cases hk;trivial
  .rename_i hx hy;exact O7 hk
  .rename_i hx hy;exact O7 hk
  .rename_i hx hy;exact O7 hk
  .rename_i ht hx hy;split at hk<;>cases hk<;>trivial
  .rename_i ht hx hy;unfold VT at hk;split at hk<;>cases hk<;>trivial
  .rename_i ht hx hy;split at hk
   .split at hk<;>cases hk<;>trivial
   .cases hk
  .rename_i ht hx hy;unfold VT at hk;split at hk<;>cases hk<;>trivial
  .rename_i ht hx hy;split at hk<;>cases hk<;>trivial
  .cases hk
 .rename_i x ho;obtain⟨X,hX,rfl⟩:=ab.1 hk;trivial
 .rename_i b t x ho;obtain⟨X,hX,rfl⟩:=ab.1 hk;trivial
 .rename_i s t x ho;split at hk
  .rename_i hs ht hx;cases hk;trivial
  .split at hk<;>cases hk<;>trivial
  .split at hk<;>cases hk<;>trivial
  .split at hk
   .split at hk<;>cases hk<;>trivial
   .cases hk
  .cases hk
 .rename_i t x ho;split at hk
  .obtain⟨X,hX,rfl⟩:=ab.1 hk;trivial
  .cases hk
 .rename_i f xs ys ho;split at hk
  .rename_i hx hy;cases hk;trivial
  .cases hk
 .rename_i t x y ho;split at hk
  .rename_i el ht;split at hk
   .rename_i hw hb hz hx hy;split at hk
    .rename_i hc;cases hk;trivial
    .cases hk
   .cases hk
  .cases hk
 .rename_i t x lo hh mx ho;split at hk
  .rename_i ht hx hlo hhi hmx;obtain⟨wd,hw,rfl⟩:=ab.1 hk;trivial
  .rename_i ht hx hlo hhi hmx;obtain⟨wd,hw,rfl⟩:=ab.1 hk;have hm:mx=none:=by
    cases mx with
    |none=>rfl
    |some m=>simp[yI,ab]at hmx
   subst hm;trivial
  .rename_i ht hx hlo hhi hmx;cases hk;trivial
  .cases hk
 .rename_i s x i ho;split at hk
  .rename_i fs x' hs hx;split at hk
   .rename_i off sz hfc;split at hk
    .rename_i hpos;cases hk;trivial
    .cases hk
   .cases hk
  .cases hk
 .rename_i s x i ho;split at hk
  .rename_i fs x' hs hx;split at hk
   .rename_i f hfi;split at hk
    .rename_i hag hsz;split at hk
     .cases hk;trivial
     .cases hk
    .cases hk
   .cases hk
  .cases hk
 .rename_i t x y ho;split at hk
  .rename_i ht hx hy;obtain⟨wd,hw,rfl⟩:=ab.1 hk;trivial
  .rename_i ht hx hy;obtain⟨wd,hw,rfl⟩:=ab.1 hk;trivial
  .cases hk
 .rename_i t x y ho;split at hk
  .rename_i ht hx hy;split at hk
   .rename_i hag hsz;split at hk
    .cases hk;trivial
    .cases hk
   .cases hk
  .rename_i ht hx hy;cases hk;trivial
  .cases hk
 .rename_i x i ho;obtain⟨X,hX,rfl⟩:=ab.1 hk;trivial
 .rename_i c ho;obtain⟨callee,args,ts⟩:=c;dsimp only at hk;split at hk
  .rename_i f;split at hk
   .rename_i hf hx;cases hk;exact⟨f,args,ts,ho,hf,hx⟩
   .cases hk
  .split at hk
   .rename_i t tr x r hts ha;split at hk
    .rename_i ht hx;cases hk;trivial
    .rename_i ht hx;cases hk;trivial
    .rename_i ht hx;cases hk;trivial
    .rename_i ht;cases hk;trivial
    .rename_i ht;split at hk
     .rename_i hr;cases hk;trivial
     .cases hk
    .cases hk
   .cases hk
  .cases hk;exact⟨_,_,ho⟩
  .split at hk
   .rename_i ha;split at hk
    .rename_i hx hy;cases hk;trivial
    .cases hk
   .cases hk
  .split at hk
   .rename_i ha;split at hk
    .rename_i hx hy;cases hk;trivial
    .cases hk
   .cases hk
  .split at hk
   .rename_i t u x y hts ha;split at hk
    .rename_i ht hu hx hy;split at hk
     case isFalse=>cases hk
     split at hk
     .rename_i hw hb hz;split at hk
      .rename_i hc;cases hk;split
       .trivial
       .split
        .trivial
        .split
         .trivial
         .split<;>trivial
      .cases hk
     .cases hk
    .cases hk
   .cases hk
  .cases hk
 .rename_i t x ho;split at hk
  .obtain⟨X,hX,rfl⟩:=ab.1 hk;trivial
  .cases hk
 .rename_i x xt t ok ho;split at hk
  .cases hk
  .split at hk
   .obtain⟨z,hz,rfl⟩:=ab.1 hk;trivial
   .cases hk;trivial
  .cases hk
 .rename_i x ho;obtain⟨X,hX,rfl⟩:=ab.1 hk;exact⟨x,ho,hX⟩
 .rename_i t ho;cases hk;trivial
 .split at hk<;>cases hk<;>trivial
 .rename_i t x ho;split at hk
  .rename_i ht hx;cases hk;trivial
  .cases hk
 .rename_i x ho;split at hk
  .rename_i hx;cases hk;trivial
  .cases hk
 .rename_i t x y ok ho;split at hk
  .split at hk
   .cases hk;trivial
   .cases hk
  .cases hk
 .rename_i t m x y ho;split at hk
  .split at hk
   .cases hk;trivial
   .cases hk
  .cases hk
 .rename_i t m x y ho;split at hk
  .split at hk
   .cases hk;trivial
   .cases hk
  .cases hk
 .cases hk
theorem SE{kk:K}(h:kk.makes=true):bO e J kk=none:=by
 cases kk<;>simp[K.makes]at h<;>rfl
theorem TW(hO:Ad P CR O)(ha:At CR base ann.dF g0 w0 n b g w B e J a){o:Oper}(ho:ops[i]?=some o)(hw:Region.wanted o (yielded ops a.tmps)=true)
  {BP:Bool} {op:Op} (hop:Sr P ann n tT ops BP i o=some op) (h:xd O op e J=some (e',J')):
  MJ P CR ann n ops base g0 w0 b g w a k cs i rest J e' J':=by
 unfold Sr at hop;split at hop
 case h_2=>cases hop
 rename_i kk hk;split at hop
 case h_2=>cases hop
 rename_i gd hgd hdn;simp only[aB,ae]at hop;obtain⟨⟨hown,hst⟩,hop⟩:=hop;cases hop;have hn:∀t,o.dst=some t->t<n:=by
  intro t ht;rw[ht]at hdn;simpa using hdn
 have hV:kk.makes=false->∀t,o.dst=some t->t ∉ ann.dF:=by
  intro hm t ht;rw[ht]at hown;simp[hm]at hown;simpa using hown
 have hd:=NB hk;have hkeq:=Uw hk;unfold xd at h;dsimp only at h;split at h
 ·
  rename_i kp F Xs;split at h
  case h_2=>cases h
  rename_i d J1 hc;split at h
  case isFalse=>cases h
  cases h;obtain⟨f,args,ts,h1,h2,h3⟩:=hkeq;exact Qp hO ha ho hw hn (hV rfl) h1 h2 h3 hc
 ·
  rename_i nb z;obtain⟨el,v,h1,h2,h3,h4⟩:=hkeq;rw[h3]at h;cases hnb:ki nb z J with
  |none=>simp[hnb]at h
  |some x =>
   obtain⟨cs',J1⟩:=x;simp only[hnb,ad,ak]at h;obtain⟨rfl,rfl⟩:=h;obtain⟨i0,vz,hinfo,hzero,hrz,h1z⟩:=uq g h2;obtain⟨g1,i1,e1,r1⟩:=yG nb _ _ _ _ g _ hnb ha.inv hrz;exact U0 (el:=el) ha ho hw hd h3 h4 (hn _ h3) (by simp[execOp,h1,Gl hinfo hzero]) i1 e1 (ub _ _ _ _ _ hnb) r1 h1z
 ·
  rename_i X;obtain⟨t,x,v,h1,h2,h3,h4⟩:=hkeq;rw[h3]at h;cases hcx:(bu e X).cells with
  |none=>simp[hcx]at h
  |some cs' =>
   simp only[hcx,ad,ak]at h;obtain⟨rfl,rfl⟩:=h;obtain⟨tmps,df⟩:=a;obtain⟨hr,h1z⟩:=(ha.fr.bu (df:=df) h2).cells hcx;exact U0 (el:=t) ha ho hw hd h3 h4 (hn _ h3) (by simp[execOp,h1,Instr.box,newVar,newRow]) ha.inv (Ev.refl g w) (.refl J) hr h1z
 ·
  rename_i v nb sz x X;obtain⟨t,y,h1,h2,h3⟩:=hkeq;have hdst:o.dst=none:=by simpa[K.aeQ]using hst
  split at h
  case h_2=>cases h
  rename_i s cv off p hin hp;split at h
  case isFalse=>cases h
  rename_i hlen;split at h
  case h_2=>cases h
  rename_i p' J1 hnb;cases h;exact abS ha ho hw hn (hV rfl) h1 h2 h3 hin hp hlen hnb hdst
 ·
  rename_i k1 h1 h2 h3 h4;cases hs:bO e J kk with
  |none=>simp[hs]at h
  |some x =>
   obtain⟨d,J1⟩:=x;simp only[hs,aX,ad,ak]at h;obtain⟨rfl,rfl⟩:=h;have hm:kk.makes=false:=by
    cases hm:kk.makes
    .rfl
    .rw[SE hm]at hs;cases hs
   obtain⟨tmps,df⟩:=a;obtain⟨x,c,g',w',hrun,hx,he,hi,hr⟩:=abM (df:=df) ha.fr ha.inv hk hs;exact Bp ha ho hn (hV hm) (.one (yP ho hw hd hrun hx)) he hi (Vx hs) hr
inductive xz {α β:Type} (R:α->β->Prop):List α->List β->Prop
 |nil:xz R [] []
 |cons {x:α} {y:β} {xs:List α} {ys:List β}:R x y->xz R xs ys->xz R (x::xs) (y::ys)
def HT(P:Program)(ann:ux)(n tT:Nat)(ops:Array Oper)(i:Nat)(x:Op):Prop:=∃o BP,ops[i]?=some o/\Sr P ann n tT ops BP i o=some x
theorem LM{BP:Bool}{o:Oper}{op:Op}(h:Sr P ann n tT ops BP i o=some op):
  op.dst=o.dst/\(∀t,o.dst=some t->t<n)/\((o.guard=none/\op.Ef=none)\/∃j d bb,o.guard=some (j,bb)/\op.Ef=some (d,bb)/\(ops[j]?).bind (·.dst)=some d/\(∀t,o.dst=some t->t ∉ ann.dF)):=by
 unfold Sr at h;split at h
 case h_2=>cases h
 rename_i kk hk;split at h
 case h_2=>cases h
 rename_i gd hgd hdn;simp only[aB,ae]at h;obtain⟨⟨hown,hst⟩,h⟩:=h;cases h;refine⟨rfl,λt ht=>by rw[ht]at hdn;simpa using hdn,?_⟩;cases hg:o.guard with
 |none=>rw[hg]at hgd;cases hgd;exact .inl ⟨rfl,rfl⟩
 |some x =>
  obtain⟨j,bb⟩:=x;rw[hg]at hgd;dsimp only at hgd;cases hj:(ops[j]?).bind (·.dst)with
  |none=>rw[hj]at hgd;cases hgd
  |some d =>
   rw[hj]at hgd;cases hgd;refine .inr ⟨j,d,bb,rfl,rfl,hj,λt ht=>?_⟩;rw[ht,hg]at hown;simpa using hown
theorem C7(hO:Ad P CR O){tl:List Nat}:∀(is:List Nat) (xs:List Op) (e:Env) (J:SK) (g:G) (w:World) (B:Nat->Nat) (a:Act),xz (HT P ann n tT ops) is xs ->
  lW O xs e J=some (e',J')->At CR base ann.dF g0 w0 n b g w B e J a ->
  ∃g' w' B' a',Steps P (lone (b.atR a (.inRegion ops (is++tl)::k)) cs w) (lone (b.atR a' (.inRegion ops tl::k)) cs w')/\At CR base ann.dF g0 w0 n b g' w' B' e' J' a'/\g.le g'/\fq J J'
 |[],xs,e,J,g,w,B,a,hF,h,ha=>by
  cases hF;simp only[lW,ad,ak]at h;obtain⟨rfl,rfl⟩:=h;exact⟨g,w,B,a,.refl _ _,ha,g.le_refl,.refl J⟩
 |i::is,xs,e,J,g,w,B,a,hF,h,ha=>by
  cases hF with
  |cons hx hF =>
   rename_i x xs;obtain⟨o,BP,ho,hop⟩:=hx;obtain⟨hdst,hn,hgrd⟩:=LM hop;simp only[lW]at h;have hgo:∀{e1 J1 g1 w1 B1 a1},Steps P (lone (b.atR a (.inRegion ops (i::is++tl)::k)) cs w) (lone (b.atR a1 (.inRegion ops (is++tl)::k)) cs w1) ->
     At CR base ann.dF g0 w0 n b g1 w1 B1 e1 J1 a1->g.le g1->fq J J1->lW O xs e1 J1=some (e',J') ->
     ∃g' w' B' a',Steps P (lone (b.atR a (.inRegion ops (i::is++tl)::k)) cs w) (lone (b.atR a' (.inRegion ops tl::k)) cs w')/\At CR base ann.dF g0 w0 n b g' w' B' e' J' a'/\g.le g'/\fq J J':=by
    intro e1 J1 g1 w1 B1 a1 h1 h2 h3 h4 h5;obtain⟨g2,w2,B2,a2,k1,k2,k3,k4⟩:=C7 hO is xs _ _ _ _ _ _ hF h5 h2;exact⟨g2,w2,B2,a2,h1.trans k1,k2,h3.trans' k3,h4.trans k4⟩
   rcases hgrd with⟨hg1,hg2⟩ | ⟨j,d,bb,hg1,hg2,hj,hV⟩
   .rw[hg2]at h;simp only[ah,Prod.exists]at h;obtain⟨e1,J1,h1,h2⟩:=h;obtain⟨g1,w1,B1,a1,k1,k2,k3,k4⟩:=TW (k:=k) (cs:=cs) (rest:=is++tl) hO ha ho (by simp[Region.wanted,hg1]) hop h1;exact hgo k1 k2 k3 k4 h2
   .rw[hg2]at h;dsimp only at h;split at h
    case h_2=>cases h
    rename_i bv hbv;have hy:yielded ops a.tmps j=bv:=by
     have hrel:=ha.fr.rel d;unfold yielded;rw[hj];simp only[Option.bind_some];cases hg:get e d with
     |bool b =>
      rw[hg]at hrel hbv;have hrel':bH g (.bool b) (a.tmps.getD d Go.undef):=hrel;have hval:=hrel'.pN;simp only[D.bit,ad]at hbv;subst hbv;rw[cg]at hval;cases hd:a.tmps[d]? with
      |none=>rw[hd]at hval;simp[Go.undef]at hval
      |some y=>rw[hd]at hval;simp at hval;subst hval;rfl
     |db ds =>
      cases ds with
      |nil =>
       rw[hg]at hrel hbv;have hrel':bH g (.db []) (a.tmps.getD d Go.undef):=hrel;have hval:a.tmps.getD d Go.undef=.tuple #[]:=by
        generalize a.tmps.getD d Go.undef=z at hrel';cases hrel' with | db _ cs hl =>
         cases cs with | mk cs=>cases cs with
          |nil=>rfl
          |cons c cs=>cases hl
       simp only[D.bit,ad]at hbv;subst hbv;rw[cg]at hval;cases hd:a.tmps[d]? with
       |none=>rfl
       |some y=>rw[hd]at hval;simp at hval;subst hval;rfl
      |cons x xs=>rw[hg]at hbv;simp[D.bit]at hbv
     |_=>rw[hg]at hbv;simp[D.bit]at hbv
    split at h
    .rename_i hb;simp only[ah,Prod.exists]at h;obtain⟨e1,J1,h1,h2⟩:=h;obtain⟨g1,w1,B1,a1,k1,k2,k3,k4⟩:=TW (k:=k) (cs:=cs) (rest:=is++tl) hO ha ho (by simp[Region.wanted,hg1,hy,hb]) hop h1;exact hgo k1 k2 k3 k4 h2
    .rename_i hb;have hstep:=stepR_op_skip (P:=P) (b:=b) (a:=a) (k:=k) (cs:=cs) (w:=w) (ops:=ops) (i:=i) (rest:=is++tl) (by simp[ho,Region.wanted,hg1,hy,hb]);rw[show(ops[i]?).bind (·.dst)=o.dst from by rw[ho];rfl]at hstep;obtain⟨g1,w1,B1,a1,k1,k2,k3,k4⟩:=Bp (d:=.db []) ha ho hn hV (.one hstep) (Ev.refl g w) ha.inv (.refl J) (cz.of (.db [] #[] .nil));rw[hdst]at h;exact hgo k1 k2 k3 k4 h
theorem Ph(hO:Ad P CR O)(is:List Nat)(xs:List Op)(e:Env)(J:SK)(g:G)(w:World)(B:Nat->Nat)(a:Act)(hF:xz (HT P ann n tT ops) is xs)
  (h:lW O xs e J=some (e',J')) (ha:At CR base ann.dF g0 w0 n b g w B e J a):
  ∃g' w' B' a',Steps P (lone (b.atR a (.inRegion ops is::k)) cs w) (lone (b.atR a' (.inRegion ops []::k)) cs w')/\At CR base ann.dF g0 w0 n b g' w' B' e' J' a'/\g.le g'/\fq J J':=by
 have:=C7 (k:=k) (cs:=cs) (tl:=[]) hO is xs e J g w B a hF h ha;simpa using this
theorem RL{O:bS}{fv:D}{args:List D}{r:R}(h:BK O fv args J=some r):∃f first cap,fv=.fn f first cap/\O (.call false f (first++args++cap) J)=some r:=by
 unfold BK at h;split at h
 .exact⟨_,_,_,rfl,h⟩
 .cases h
theorem Za{BP:Bool}{o:Oper}{op:Op}(h:Sr P ann n tT ops BP i o=some op):kC P ann ops (tT*1000+i) o=some op.k/\(op.k.makes=false->∀t,o.dst=some t->t ∉ ann.dF):=by
 unfold Sr at h;split at h
 case h_2=>cases h
 rename_i kk hk;split at h
 case h_2=>cases h
 simp only[aB,ae]at h;obtain⟨⟨hown,hst⟩,h⟩:=h;cases h;refine⟨hk,λhm t ht=>?_⟩;dsimp only at hm;rw[ht]at hown;simp[hm]at hown;simpa using hown
theorem Pz{o:Oper}{v:Value}{w':World}{is:List Nat}(ho:ops[i]?=some o)(hw:Region.wanted o (yielded ops a.tmps)=true)(hd:∀c,o.op ≠ .defer c)
  (hr:(execOp a.eval o).run P w=.halt (.panic v) w'):
  step P (lone (b.atR a (.inRegion ops (i::is)::k)) cs w)=.next (lone {b.atR a (.inRegion ops (i::is)::k)with mode:=.panicking [{v,recovered:=false }] } cs w'):=by
 have hg:=stepGR_op (P:=P) (b:=b) (k:=k) (cs:=cs) (w:=w) (rest:=is) ho hw;rw[Oper.semAt_eq _ _ _ hd]at hg;exact step_lone_go (by rw[hg,<- Frame.raise_atR];simp[stepG.apply,hr])
end
def jJ(ts:List Nat)(e e':Env):Prop:=∀t∈ts,get e' t=get e t
theorem jJ.mono{ts us:List Nat}{e e':Env}(h:jJ us e e')(hs:∀t∈ts,t∈us):jJ ts e e':=λt ht=>h t (hs t ht)
theorem jJ.app{ts us:List Nat}{e e':Env}:jJ (ts++us) e e'↔jJ ts e e'/\jJ us e e' :=
 ⟨λh=>⟨λt ht=>h t (by simp[ht]),λt ht=>h t (by simp[ht])⟩,λh t ht=>(ba.1 ht).elim (h.1 t) (h.2 t)⟩
theorem jJ.cons{t:Nat}{us:List Nat}{e e':Env}:jJ (t::us) e e'↔get e' t=get e t/\jJ us e e' :=
 ⟨λh=>⟨h t (by simp),λu hu=>h u (by simp[hu])⟩,λh u hu=>(aY.1 hu).elim (λx=>x ▸ h.1) (h.2 u)⟩
variable {e e':Env} {J J':SK}
theorem bd{x:bI}(h:jJ x.tmps e e'):bu e' x=bu e x:=by
 cases x with
 |t n=>simp only[bu];rw[h n (by simp[bI.tmps])]
 |c d=>rfl
theorem vL{xs:List bI}(h:jJ (xs.flatMap bI.tmps) e e'):xs.map (bu e')=xs.map (bu e):=by
 induction xs with
 |nil=>rfl
 |cons x xs ih =>
  simp only[aS,jJ.app]at h;simp only[aR,bd h.1,ih h.2]
theorem zi:∀{ps:List (Nat×Nat×bI)} {cs:List D},jJ (ps.flatMap λp=>p.2.2.tmps) e e'->sV e' ps cs=sV e ps cs
 |[],cs,h=>rfl
 |(off,sz,x)::ps,cs,h=>by
  simp only[aS,jJ.app]at h;simp only[sV,bd h.1];split
  .split
   .exact zi h.2
   .rfl
  .rfl
theorem FY{m:Nat}{dfl:Option Nat}{x:Option bI}(h:jJ ((x.map bI.tmps).getD []) e e'):CX e' m dfl x=CX e m dfl x:=by
 cases x with
 |none=>rfl
 |some x=>simp only[CX];rw[bd (by simpa using h)]
theorem EU{n:Nat}{lo hi mx:Option bI}(h1:jJ ((lo.map bI.tmps).getD []) e e')(h2:jJ ((hi.map bI.tmps).getD []) e e')(h3:jJ ((mx.map bI.tmps).getD []) e e'):
  bounds n e' lo hi mx=bounds n e lo hi mx:=by
 simp only[bounds,FY h1,FY h2,FY h3]
theorem Cz{v a:Nat}(h1:get e' v=get e v)(h2:get e' a=get e a):sW e' v a=sW e v a:=by
 simp only[sW,h1,h2]
theorem SD{k:K}(h:jJ k.tmps e e'):bO e' J k=bO e J k:=by
 cases k<;>simp only[K.tmps,jJ.app,jJ.cons]at h
 case mv x=>simp only[bO,bd h]
 case IT=>rfl
 case pick c a b=>simp only[bO,bd h.1.1,bd h.1.2,bd h.2]
 case RE=>rfl
 case SW=>simp only[bO,bd h]
 case VJ=>simp only[bO,bd h]
 case Xv=>simp only[bO,bd h]
 case U1=>rfl
 case N1=>rfl
 case AW=>rfl
 case JC x=>simp only[bO,bd h]
 case JD x=>simp only[bO,bd h]
 case T0 nb x=>simp only[bO,bd h]
 case FZ=>rfl
 case JB=>simp only[bO,zi h]
 case W6=>simp only[bO,zi h]
 case RJ=>simp only[bO,zi h]
 case ld=>simp only[bO,bd h]
 case VU=>simp only[bO,bd h]
 case SU=>simp only[bO,bd h]
 case Xw=>simp only[bO,bd h]
 case XR=>simp only[bO,bd h]
 case st=>simp only[bO,bd h.1,bd h.2]
 case SH os sz a x =>
  have hall:∀l i,(os.all λt=>D.off l i (get e' t))=os.all λt=>D.off l i (get e t):=by
   intro l i;have h2:=h.2;clear h;induction os with
   |nil=>rfl
   |cons o os ih=>simp only[jh,h2 o (by simp),ih (h2.mono λt ht=>by simp[ht])]
  simp only[bO,bd h.1.1,bd h.1.2,hall]
 case SV=>simp only[bO,Cz h.1 h.2.1]
 case Hj=>rfl
 case bin=>simp only[bO,bd h.1,bd h.2]
 case eqv=>simp only[bO,bd h.1,bd h.2]
 case un=>simp only[bO,bd h]
 case SR=>simp only[bO,bd h]
 case UJ=>simp only[bO,vL h.1,vL h.2]
 case VV=>simp only[bO,bd h.1,bd h.2]
 case Vv=>simp only[bO,bd h.1.1.1,EU h.1.1.2 h.1.2 h.2]
 case Pv=>simp only[bO,bd h.1.1,EU (mx:=none) h.1.2 h.2 (λt ht=>by simp at ht)]
 case JF off x =>
  cases x with
  |t n=>simp only[bO,h n (by simp[bI.tmps])]
  |c d=>rfl
 case fld=>simp only[bO,bd h]
 case Hc len w x i =>
  cases x with
  |t n =>
   have h1:=h.1 n (by simp[bI.tmps]);simp only[bO,bd h.2];cases E7 (bu e i)<;>simp only[h1]
  |c d=>simp only[bO]
 case He=>simp only[bO,bd h.1,bd h.2]
 case LF=>simp only[bO,bd h.1,bd h.2]
 case JK=>simp only[bO,bd h]
 case O8=>rfl
 case mn=>simp only[bO,bd h.1,bd h.2]
 case mx=>simp only[bO,bd h.1,bd h.2]
 case app=>simp only[bO,bd h.1,bd h.2]
 case RF os w b s x =>
  have hall:∀l i,(os.all λt=>D.off l i (get e' t))=os.all λt=>D.off l i (get e t):=by
   intro l i;have h2:=h.2;clear h;induction os with
   |nil=>rfl
   |cons o os ih=>simp only[jh,h2 o (by simp),ih (h2.mono λt ht=>by simp[ht])]
  simp only[bO,Lj,bd h.1.1,bd h.1.2,hall]
 case apz=>simp only[bO,Lj,bd h.1,bd h.2]
 case VS=>simp only[bO,bd h]
 case cvz=>simp only[bO,bd h]
 case bse=>rfl
 case ape w b v x=>simp only[bO,h.1,bd h.2]
 case ext=>simp only[bO,bd h]
 case GO=>simp only[bO,vL h]
 case mp=>simp only[bO,vL h]
 case me=>simp only[bO,vL h]
 case call=>rfl
noncomputable def vi(O:bS)(op:Op)(e:Env)(J:SK):Option (Env×SK) :=
 match op.Ef with
 |none=>xd O op e J
 |some (g,want) =>
  match(get e g).bit with
  |some y=>if y=some want then xd O op e J else some (put op.dst (.db []) e,J)
  |none=>none
theorem jL{O:bS}{op:Op}{r:List Op}:lW O (op::r) e J=(vi O op e J).bind λx=>lW O r x.1 x.2:=by
 simp only[lW,vi];cases op.Ef with
 |none=>rfl
 |some x =>
  obtain⟨g,want⟩:=x;dsimp only;cases(get e g).bit<;>try rfl
  dsimp only;split<;>rfl
theorem LR{dst:Option Nat}{d:D}:put dst d e=(dst.toList.map λt=>(t,d))++e:=by
 cases dst<;>rfl
theorem Ka{O:bS}{op:Op}{e1:Env}{J1:SK}(h:xd O op e J=some (e1,J1)):
  ∃l:List (Nat×D),(∀p∈l,p.1∈op.defs)/\∀e',jJ (op.FB++op.defs) e e'->xd O op e' J=some (l++e',J1):=by
 obtain⟨dst,Ef,BP,k⟩:=op;have hk:∀e',jJ (Op.FB ⟨dst,Ef,BP,k⟩++Op.defs ⟨dst,Ef,BP,k⟩) e e'->jJ k.tmps e e':=λe' ha=>ha.mono λt ht=>by simp[Op.FB,ht]
 have hdst:∀d:D,∀p∈dst.toList.map (λt=>(t,d)),p.1∈Op.defs ⟨dst,Ef,BP,k⟩:=by
  intro d p hp;simp only[bN]at hp;obtain⟨t,ht,rfl⟩:=hp;simp only[Op.defs,ba];exact .inl ht
 have hplain:(∀e0,xd O ⟨dst,Ef,BP,k⟩ e0 J=(bO e0 J k).map λx=>(put dst x.1 e0,x.2)) ->
   ∃l:List (Nat×D),(∀p∈l,p.1∈Op.defs ⟨dst,Ef,BP,k⟩)/\∀e',jJ (Op.FB ⟨dst,Ef,BP,k⟩++Op.defs ⟨dst,Ef,BP,k⟩) e e'->xd O ⟨dst,Ef,BP,k⟩ e' J=some (l++e',J1):=by
  intro hall;rw[hall]at h;simp only[ab,Prod.exists,ak]at h;obtain⟨d,J2,hs,rfl,rfl⟩:=h;refine⟨dst.toList.map λt=>(t,d),hdst d,λe' ha=>?_⟩;rw[hall,SD (hk e' ha),hs];simp only[aX,LR]
 cases k
 case call kp f args =>
  simp only[xd]at h ⊢;split at h
  case h_2=>cases h
  rename_i d J2 hc;split at h
  case isFalse=>cases h
  rename_i hn;cases h;refine⟨dst.toList.map λt=>(t,d),hdst d,λe' ha=>?_⟩;have h1:=hk e' ha;simp only[K.tmps,jJ.app]at h1;rw[bd h1.1,vL h1.2,hc];simp only[if_pos hn,LR]
 case AW nb cs =>
  simp only[xd]at h ⊢;split at h
  case h_2=>cases h
  rename_i v cs' J2 hnb;cases h;refine⟨[(v,.own (vl e v) cs')],by simp[Op.defs],λe' ha=>?_⟩;rw[show vl e' v=vl e v from by simp only[vl];rw[ha v (by simp[Op.defs])]];rfl
 case FZ x =>
  simp only[xd]at h ⊢;split at h
  case h_2=>cases h
  rename_i v cs' hc;cases h;refine⟨[(v,.own (vl e v) cs')],by simp[Op.defs],λe' ha=>?_⟩;have h1:=hk e' ha;simp only[K.tmps]at h1;rw[bd h1,hc];simp only[show vl e' v=vl e v from by simp only[vl];rw[ha v (by simp[Op.defs])]];rfl
 case Hj v nb sz a x =>
  simp only[xd]at h ⊢;split at h
  case h_2=>cases h
  rename_i s cs off p hin hp;split at h
  case isFalse=>cases h
  rename_i hc;split at h
  case h_2=>cases h
  rename_i p' J2 hnb;cases h;refine⟨[(v,.own s (cs.take off++p'++cs.drop (off+sz)))],by simp[Op.defs],λe' ha=>?_⟩;have h1:=hk e' ha;simp only[K.tmps,jJ.app,jJ.cons]at h1;rw[Cz h1.1.1 h1.1.2.1,bd h1.2,hin,hp];simp only[if_pos hc,hnb];rfl
 all_goals exact hplain λe0=>rfl
theorem Er{O:bS}{op:Op}{e1:Env}{J1:SK}(h:vi O op e J=some (e1,J1)):
  ∃l:List (Nat×D),(∀p∈l,p.1∈op.defs)/\∀e',jJ (op.FB++op.defs) e e'->vi O op e' J=some (l++e',J1):=by
 unfold vi at h ⊢;cases hg:op.Ef with
 |none=>rw[hg]at h;simp only at h ⊢;exact Ka h
 |some x =>
  obtain⟨t,want⟩:=x;rw[hg]at h;simp only at h ⊢;split at h
  case h_2=>cases h
  rename_i b hb;have hgt:∀e',jJ (op.FB++op.defs) e e'->(get e' t).bit=some b:=λe' ha=>by rw[ha t (by simp[Op.FB,hg]),hb]
  split at h
  .rename_i hw;obtain⟨l,h1,h2⟩:=Ka h;refine⟨l,h1,λe' ha=>?_⟩;rw[hgt e' ha];simp only[if_pos hw];exact h2 e' ha
  .rename_i hw;cases h;refine⟨op.dst.toList.map λt=>(t,.db []),λp hp=>?_,λe' ha=>?_⟩
   .simp only[bN]at hp;obtain⟨t,ht,rfl⟩:=hp;simp only[Op.defs,ba];exact .inl ht
   .rw[hgt e' ha];simp only[if_neg hw,LR]
theorem KL{cs cs':List D}(h:ki [] cs J=some (cs',J')):J'=J:=by
 simp only[ki,ad,ak]at h;exact h.2.symm
theorem KV{d:D}{k:K}(h:bO e J k=some (d,J'))(hk:k.calm=true):J'=J:=Oa h hk
theorem Kb{O:bS}{op:Op}{e1:Env}{J1:SK}(h:xd O op e J=some (e1,J1))(hs:op.still=true):J1=J:=by
 obtain⟨dst,Ef,BP,k⟩:=op;simp only[Op.still,ae]at hs;obtain⟨hk,hn⟩:=hs;have hplain:(xd O ⟨dst,Ef,BP,k⟩ e J=(bO e J k).map λx=>(put dst x.1 e,x.2))->J1=J:=by
  intro hall;rw[hall]at h;simp only[ab,Prod.exists,ak]at h;obtain⟨d,J2,hs,rfl,rfl⟩:=h;exact KV hs hk
 cases k
 case call kp f args =>
  simp only[xd]at h;split at h
  case h_2=>cases h
  split at h
  case isFalse=>cases h
  rename_i hx;cases h;exact hx hn
 case AW nb cs =>
  simp only[xd]at h;split at h
  case h_2=>cases h
  rename_i v cs' J2 hnb;cases h;simp only[K.calm,List.isEmpty_iff]at hk;subst hk;exact KL hnb
 case FZ x =>
  simp only[xd]at h;split at h
  case h_2=>cases h
  cases h;rfl
 case Hj v nb sz a x =>
  simp only[xd]at h;split at h
  case h_2=>cases h
  split at h
  case isFalse=>cases h
  split at h
  case h_2=>cases h
  rename_i hnb;cases h;simp only[K.calm,List.isEmpty_iff]at hk;subst hk;exact KL hnb
 all_goals exact hplain rfl
theorem Es{O:bS}{op:Op}{e1:Env}{J1:SK}(h:vi O op e J=some (e1,J1))(hs:op.still=true):J1=J:=by
 unfold vi at h;split at h
 .exact Kb h hs
 .split at h
  case h_2=>cases h
  split at h
  .exact Kb h hs
  .cases h;rfl
def Gz(e e':Env):Prop:=∀t,get e' t=get e t
theorem Gz.refl(e:Env):Gz e e:=λ_=>rfl
theorem Gz.trans{a b c:Env}(h:Gz a b)(h':Gz b c):Gz a c:=λt=>(h' t).trans (h t)
theorem Gz.agree(h:Gz e e')(ts:List Nat):jJ ts e e':=λt _=>h t
theorem Hs{l:List (Nat×D)}{t:Nat}:get (l++e) t=if t∈l.map (·.1)then get l t else get e t:=by
 induction l with
 |nil=>simp
 |cons p l ih =>
  obtain⟨k,v⟩:=p;simp only[cM,get];by_cases hk:k=t
  .simp[hk]
  .rw[if_neg hk,ih];simp only[aR,aY];by_cases ht:t∈l.map (·.1)
   .rw[if_pos ht,if_pos (.inr ht)];rw[if_neg hk]
   .rw[if_neg ht,if_neg (by intro h;rcases h with h | h;exact hk h.symm;exact ht h)]
theorem Gz.app(h:Gz e e')(l:List (Nat×D)):Gz (l++e) (l++e'):=λt=>by
 simp only[Hs,h t]
theorem Ih{O:bS}:∀{xs:List Op} {e e' e1:Env} {J J1:SK},lW O xs e J=some (e1,J1)->Gz e e'->∃e1',lW O xs e' J=some (e1',J1)/\Gz e1 e1'
 |[],e,e',e1,J,J1,h,he=>by
  simp only[lW,ad,ak]at h;obtain⟨rfl,rfl⟩:=h;exact⟨e',rfl,he⟩
 |x::xs,e,e',e1,J,J1,h,he=>by
  rw[jL]at h;simp only[ah,Prod.exists]at h;obtain⟨e2,J2,h1,h2⟩:=h;obtain⟨l,_,hl⟩:=Er h1;have h3:=hl e (Gz.agree (.refl e) _);rw[h1]at h3;cases h3;obtain⟨e3,h4,h5⟩:=Ih h2 (he.app l);exact⟨e3,by rw[jL,hl e' (he.agree _)];exact h4,h5⟩
theorem Vy{d:D}{k:K}(h:bO e J k=some (d,J'))(hk:k.pure=true)(τ:SK):bO e τ k=some (d,τ):=by
 cases k<;>simp only[K.pure,K.calm,az]at hk<;>simp only[bO,aT,reduceCtorEq]at h ⊢ <;> (repeat' split at h)<;>
  simp only[ab,ah,ad,ak,Prod.exists,reduceCtorEq,exists_eq_left,and_false,exists_false]at h<;>(try split at h)<;>
  simp_all<;>(try (obtain⟨_,_,h⟩:=h;simp_all))<;>(try grind)
theorem MS{O:bS}{op:Op}{e1:Env}{J1:SK}(h:xd O op e J=some (e1,J1))(hs:op.k.pure=true)(τ:SK):xd O op e τ=some (e1,τ):=by
 obtain⟨dst,Ef,BP,k⟩:=op;have hplain:(∀τ,xd O ⟨dst,Ef,BP,k⟩ e τ=(bO e τ k).map λx=>(put dst x.1 e,x.2))->xd O ⟨dst,Ef,BP,k⟩ e τ=some (e1,τ):=by
  intro hall;rw[hall]at h ⊢;simp only[ab,Prod.exists,ak]at h;obtain⟨d,J2,hs',rfl,rfl⟩:=h;rw[Vy hs' hs τ];rfl
 cases k
 case call kp f args=>simp[K.pure]at hs
 case AW nb cs =>
  simp only[K.pure,K.calm,List.isEmpty_iff]at hs;subst hs;simp only[xd]at h ⊢;cases dst with
  |none=>cases h
  |some v=>simp only[ki,ad,ak]at h ⊢;exact⟨h.1,trivial⟩
 case FZ x =>
  simp only[xd]at h ⊢;cases dst with
  |none=>cases h
  |some v =>
   cases hx:(bu e x).cells with
   |none=>rw[hx]at h;cases h
   |some cs=>rw[hx]at h;simp only[ad,ak]at h ⊢;exact⟨h.1,trivial⟩
 case Hj v nb sz a x =>
  simp only[K.pure,K.calm,List.isEmpty_iff]at hs;subst hs;simp only[xd]at h ⊢;cases hin:sW e v a<;>rw[hin]at h<;>try (cases h;done)
  cases hx:(bu e x).cells<;>rw[hx]at h<;>try (cases h;done)
  simp only[ki]at h ⊢;split at h
  .rename_i hc;rw[if_pos hc];simp only[ad,ak]at h ⊢;exact⟨h.1,trivial⟩
  .cases h
 all_goals exact hplain fun τ=>rfl
theorem Dc{O:bS}{op:Op}{e1:Env}{J1:SK}(h:vi O op e J=some (e1,J1))(hs:op.k.pure=true):∀τ,vi O op e τ=some (e1,τ):=by
 intro τ;unfold vi at h ⊢;cases hg:op.Ef with
 |none=>rw[hg]at h;exact MS h hs τ
 |some y =>
  obtain⟨g,want⟩:=y;rw[hg]at h;dsimp only at h ⊢;cases hb:(get e g).bit with
  |none=>rw[hb]at h;cases h
  |some b =>
   rw[hb]at h;dsimp only at h ⊢;split at h
   .rename_i hw;rw[if_pos hw];exact MS h hs τ
   .rename_i hw;rw[if_neg hw];cases h;rfl
theorem Bz{a:List aO}{J:SK}{l:Nat}{s:List aO}(h:J.length=l):gU (a::J) l s=s::J:=by simp only[gU];rw[if_pos h]
theorem oO{a:List aO}{J:SK}{l:Nat}{s:List aO}(h:¬J.length=l):gU (a::J) l s=a::gU J l s:=by simp only[gU];rw[if_neg h]
theorem N9{J:SK}{l l':Nat}{s s':List aO}(h:l≠l'):gU (gU J l s) l' s'=gU (gU J l' s') l s:=by
 induction J with
 |nil=>rfl
 |cons a J ih =>
  by_cases h1:J.length=l
  .have h2:¬J.length=l':=by omega
   rw[Bz h1,oO h2,oO h2,Bz (by rw[fJ];exact h1)]
  .by_cases h2:J.length=l'
   .rw[oO h1,Bz h2,Bz (by rw[fJ];exact h2),oO h1]
   .rw[oO h1,oO h2,oO (by rw[fJ];exact h2),oO (by rw[fJ];exact h1),ih]
theorem vk{J:SK}{l l':Nat}{s:List aO}(h:l≠l'):fw (gU J l s) l'=fw J l':=by
 induction J with
 |nil=>rfl
 |cons a J ih =>
  simp only[gU];by_cases h1:J.length=l
  .rw[if_pos h1];simp only[fw];rw[if_neg (by omega),if_neg (by omega)]
  .rw[if_neg h1];simp only[fw,fJ,ih]
theorem L9{J:SK}{l:Nat}{s s':List aO}:gU (gU J l s) l s'=gU J l s':=by
 induction J with
 |nil=>rfl
 |cons a J ih =>
  simp only[gU];by_cases h1:J.length=l
  .rw[if_pos h1,if_pos h1];simp only[gU];rw[if_pos h1]
  .rw[if_neg h1,if_neg h1];simp only[gU,fJ];rw[if_neg h1,ih]
theorem N7{J:SK}{l i l' i':Nat}{b b':aO}(h:¬(l'=l/\i'=i)):aZ (aZ J l i b) l' i' b'=aZ (aZ J l' i' b') l i b:=by
 by_cases hl:l=l'
 .subst hl;have hi:i≠i':=λe=>h ⟨rfl,e.symm⟩
  unfold aZ;cases hs:fw J l with
  |none=>simp[hs]
  |some s =>
   simp only[uo (By hs),L9];rw[List.set_comm _ _ hi]
 .unfold aZ;cases hs:fw J l with
  |none =>
   cases hs':fw J l' with
   |none=>simp[hs,hs']
   |some s'=>simp only[vk (Ne.symm hl),hs]
  |some s =>
   cases hs':fw J l' with
   |none=>simp only[vk hl,hs',hs]
   |some s' =>
    simp only[vk hl,vk (Ne.symm hl),hs,hs'];exact N9 hl
theorem A8{J:SK}{l i l' i' v:Nat}{b:aO}(h:¬(l'=l/\i'=i)):cells? (aZ J l i b) l' i' v=cells? J l' i' v:=by
 unfold cells?;rw[ej h]
theorem LU{J:SK}{l i:Nat}{b:aO}{d:D}(h:D.off l i d=true):BQ (aZ J l i b) d.strip=BQ J d.strip:=by
 cases d<;>try rfl
 simp only[D.off,au]at h;simp only[D.strip,BQ,A8 h]
theorem Db{O:bS}{dst:Option Nat}{n ag:Bool}{sz m:Nat}{e1:Env}{J1:SK}(h:vi O ⟨dst,none,n,.ld ag sz (.t m)⟩ e J=some (e1,J1)):
  J1=J/\∀τ,BQ τ (get e m).strip=BQ J (get e m).strip->vi O ⟨dst,none,n,.ld ag sz (.t m)⟩ e τ=some (e1,τ):=by
 have hs:=Es h;simp only[vi,xd,bO,bu]at h ⊢;refine⟨?_,fun τ hτ=>?_⟩
 .simp only[ab,Prod.exists,ak]at h;obtain⟨d,J2,h,_,rfl⟩:=h;exact KV (k:=.ld ag sz (.t m)) (e:=e) (d:=d) (by simpa only[bO,bu]using h) rfl
 .rw[hτ];cases hr:BQ J (get e m).strip with
  |none=>rw[hr]at h;cases h
  |some cs =>
   rw[hr]at h;dsimp only at h ⊢;split at h
   .rename_i hsz;rw[if_pos hsz];cases ag with
    |true=>simp at h ⊢;exact h.1
    |false =>
     simp only[az,if_false]at h ⊢;cases cs with
     |nil=>cases h
     |cons d ds=>simp at h ⊢;exact h.1
   .cases h
theorem Fl{O:bS}{dst:Option Nat}{n:Bool}{os:List Nat}{sz:Nat}{a x:bI}{e1:Env}{J1:SK}(h:vi O ⟨dst,none,n,.SH os sz a x⟩ e J=some (e1,J1)):
  ∃l i v off b,bu e a=.ref l i v off/\(∀m∈os,D.off l i (get e m)=true)/\J1=aZ J l i b /\
   ∀τ,τ.length=J.length->cells? τ l i v=cells? J l i v->vi O ⟨dst,none,n,.SH os sz a x⟩ e τ=some (e1,aZ τ l i b):=by
 simp only[vi,xd,bO]at h ⊢;cases ha:bu e a<;>rw[ha]at h<;>try (cases h;done)
 rename_i l i v off;dsimp only at h ⊢;split at h
 case isFalse=>cases h
 rename_i hall;cases hc:cells? J l i v with
 |none=>rw[hc]at h;cases h
 |some cs =>
 rw[hc]at h;dsimp only at h;cases hp:(bu e x).cells with
 |none=>rw[hp]at h;cases h
 |some p =>
 rw[hp]at h;dsimp only at h;split at h
 case isFalse=>cases h
 rename_i hq;simp only[aX,ad,ak]at h;refine⟨l,i,v,off,.cells v (cs.take off++p++cs.drop (off+sz)),rfl,λm hm=>dX.1 hall m hm,h.2.symm,fun τ hlen hτ=>?_⟩;simp only[hall,if_true,hτ,hc,hlen,if_pos hq,aX,h.1]
theorem N4{O:bS}{dst:Option Nat}{n:Bool}{os:List Nat}{w b:Nat}{a x:bI}{e1:Env}{J1:SK}(h:vi O ⟨dst,none,n,.RF os w b a x⟩ e J=some (e1,J1)):
  ∃l i v cs,(∀m∈os,D.off l i (get e m)=true)/\J1=aZ J l i (.cells (v+1) cs):=by
 simp only[vi,xd,ab,Prod.exists,ak]at h;obtain⟨d,J2,h,_,rfl⟩:=h;simp only[bO]at h;split at h
 case h_2=>cases h
 rename_i l i v off n' w' ha;split at h
 case isFalse=>cases h
 rename_i hall;simp only[ah]at h;obtain⟨⟨m,xs⟩,he,h⟩:=h;dsimp only at h;split at h
 case isFalse=>cases h
 rename_i hcl;simp only[Lj,aT,he,Option.bind_some,ha]at h;split at h
 case h_2=>cases h
 split at h
 case isFalse=>cases h
 refine⟨l,i,?_⟩;split at h
 .cases h;exact⟨_,_,λm hm=>dX.1 hall m hm,rfl⟩
 .rw[show deep=15+1 from rfl,Ga hcl]at h;cases h;exact⟨_,_,λm hm=>dX.1 hall m hm,rfl⟩
theorem X9{J:SK}{l i v:Nat}{cs:List D}{d:D}{c:List D}(h:SX (aZ J l i (.cells (v+1) cs)) d=some c):SX J d=some c:=by
 unfold SX at h ⊢;split at h
 case h_2=>cases h
 rename_i l2 i2 off;simp only[BQ,ab]at h ⊢;obtain⟨a,h1,h2⟩:=h;refine⟨a,?_,h2⟩;by_cases hh:l2=l/\i2=i
 .obtain⟨rfl,rfl⟩:=hh;unfold cells? at h1;cases hb:dG J l2 i2 with
  |some b0=>rw[oK hb]at h1;simp at h1
  |none =>
   have hn:dG (aZ J l2 i2 (.cells (v+1) cs)) l2 i2=none:=by
    unfold dG at hb ⊢;unfold aZ;cases hs:fw J l2 with
    |none=>simp only[hs];rfl
    |some s =>
     simp only[hs,Option.bind_some]at hb;simp only[uo (By hs),Option.bind_some];rw[List.getElem?_eq_none_iff]at hb ⊢;simpa using hb
   rw[hn]at h1;cases h1
 .rwa[A8 hh]at h1
theorem Vl{O:bS}{dst:Option Nat}{n ag:Bool}{sz m:Nat}{e1:Env}{J1:SK}(h:vi O ⟨dst,none,n,.SU ag sz (.t m)⟩ e J=some (e1,J1)):
  J1=J/\∃c,SX J (get e m).strip=some c/\∀τ,SX τ (get e m).strip=some c->vi O ⟨dst,none,n,.SU ag sz (.t m)⟩ e τ=some (e1,τ):=by
 simp only[vi,xd,bO,bu]at h ⊢;cases hr:SX J (get e m).strip with
 |none=>rw[hr]at h;cases h
 |some cs =>
  rw[hr]at h;dsimp only at h ⊢;have hs:J1=J:=by
   split at h
   .cases ag with
    |true=>simp at h;exact h.2.symm
    |false=>cases cs<;>simp at h;exact h.2.symm
   .cases h
  refine⟨hs,cs,rfl,fun τ hτ=>?_⟩;rw[hτ];dsimp only;split at h
  .rename_i hsz;rw[if_pos hsz];cases ag with
   |true=>simp at h ⊢;exact h.1
   |false =>
    simp only[az,if_false]at h ⊢;cases cs with
    |nil=>cases h
    |cons d ds=>simp at h ⊢;exact h.1
  .cases h
theorem Sm{J J':SK}{b:aO}{l i:Nat}(h:fR J b=some (l,i,J')){d:D}{cs:List D}(hd:BQ J d=some cs):BQ J' d=some cs:=by
 cases d<;>try exact hd
 rename_i l' i' v off;simp only[BQ,ab]at hd ⊢;obtain⟨c,h1,h2⟩:=hd;refine⟨c,?_,h2⟩;unfold cells? at h1 ⊢;have hb:∃b0,dG J l' i'=some b0:=by
  cases hb:dG J l' i' with
  |none=>rw[hb]at h1;cases h1
  |some b0=>exact⟨b0,rfl⟩
 obtain⟨b0,hb⟩:=hb;have hne:¬(l'=l/\i'=i):=λhh=>by
  have:=(jI h).1;rw[hh.1,hh.2,this]at hb;cases hb
 rw[(jI h).2.2.1 l' i' hne];exact h1
theorem aag{O:bS}{x y:Op}{e2:Env}{J2:SK}{r:List Op}(hf:x.adr y=true)
  (h:lW O (x::y::r) e J=some (e2,J2)):∃e2',lW O (y::x::r) e J=some (e2',J2)/\Gz e2 e2':=by
 unfold Op.adr at hf;split at hf
 case h_2=>cases hf
 rename_i n v sz a X d n' off m;simp only[au]at hf;obtain⟨rfl,hdv,hda,hdX⟩:=hf;rw[jL]at h;simp only[ah,Prod.exists]at h;obtain⟨ex,Jx,h1,h2⟩:=h;rw[jL]at h2;simp only[ah,Prod.exists]at h2;obtain⟨ey,Jy,h2,h3⟩:=h2;simp only[vi,xd]at h1;cases hin:sW e m a with
 |none=>rw[hin]at h1;cases h1
 |some z =>
 obtain⟨s,cs,o⟩:=z;rw[hin]at h1;cases hX:(bu e X).cells with
 |none=>rw[hX]at h1;cases h1
 |some p =>
 rw[hX]at h1;dsimp only at h1;split at h1
 case isFalse=>cases h1
 rename_i hq;simp only[ki,ad,ak]at h1;obtain⟨rfl,rfl⟩:=h1;have hgv:∃cs',get e m=.own s cs':=by
  unfold sW at hin;cases hg:get e m<;>rw[hg]at hin<;>try (cases hin;done)
  rename_i s' cs';dsimp only at hin;split at hin
  .cases hin;exact⟨_,rfl⟩
  .split at hin
   .split at hin
    .cases hin;exact⟨_,rfl⟩
    .cases hin
   .cases hin
 obtain⟨cs',hgv⟩:=hgv;simp only[vi,xd,bO,get,if_true,aX,ad,ak]at h2;obtain⟨rfl,rfl⟩:=h2;have hne:get ((d,D.vr m s off)::e) m=get e m:=by simp[get,hdv]
 have hna:get ((d,D.vr m s off)::e) a=get e a:=by simp[get,hda]
 have hin':sW ((d,D.vr m s off)::e) m a=some (s,cs,o):=by rw[Cz hne hna,hin]
 have hX':bu ((d,D.vr m s off)::e) X=bu e X:=bd λt ht=>by
  have:d≠t:=λhe=>hdX (he ▸ ht)
  simp[get,this]
 have heq:Gz (put (some d) (D.vr m s off) ((m,.own s (cs.take o++p++cs.drop (o+sz)))::e)) ((m,.own s (cs.take o++p++cs.drop (o+sz)))::(d,D.vr m s off)::e):=by
  intro t;simp only[put,get];by_cases h1:d=t
  .have:¬m=t:=λe=>hdv (h1.trans e.symm)
   simp[h1,this]
  .simp[h1]
 obtain⟨e3,k1,k2⟩:=Ih h3 heq;refine⟨e3,?_,k2⟩;rw[jL];simp only[vi,xd,bO,hgv,aX,Option.bind_some];rw[jL];simp only[vi,xd,put,hin',hX',hX,hq,and_self,if_true,ki,Option.bind_some];exact k1
theorem YB{O:bS}{x y:Op}{e2:Env}{J2:SK}{r:List Op}(hf:x.free y=true)
  (h:lW O (x::y::r) e J=some (e2,J2)):∃e2',lW O (y::x::r) e J=some (e2',J2)/\Gz e2 e2':=by
 unfold Op.free at hf;rw[bY]at hf;rcases hf with hf | hf
 .exact aag hf h
 simp only[ae,cY]at hf;obtain⟨hc,hf⟩:=hf;simp only[Op.YU,Bool.or_eq_false_iff,List.any_eq_false,List.contains_iff_mem,bY,not_or]at hc;obtain⟨c1,c2⟩:=hc;rw[jL]at h;simp only[ah,Prod.exists]at h;obtain⟨ex,Jx,h1,h2⟩:=h;rw[jL]at h2;simp only[ah,Prod.exists]at h2;obtain⟨ey,Jy,h2,h3⟩:=h2;obtain⟨lx,d1,hl1⟩:=Er h1;obtain⟨ly,d2,hl2⟩:=Er h2;have k1:=hl1 e (Gz.agree (.refl e) _);rw[h1]at k1;cases k1;have k2:=hl2 _ (Gz.agree (.refl _) _);rw[h2]at k2;cases k2;have ay:jJ (y.FB++y.defs) (lx++e) e:=λt ht=>by
  rw[Hs,if_neg];intro hm;obtain⟨p,hp,rfl⟩:=bN.1 hm;have:=c1 _ (d1 p hp);simp only[ba]at ht;rcases ht with ht | ht
  .exact this.2 (by simpa using ht)
  .exact this.1 (by simpa using ht)
 have ax:jJ (x.FB++x.defs) e (ly++e):=λt ht=>by
  rw[Hs,if_neg];intro hm;obtain⟨p,hp,rfl⟩:=bN.1 hm;have hp':=d2 p hp;simp only[ba]at ht;rcases ht with ht | ht
  .exact c2 _ ht (by simpa using hp')
  .exact(c1 _ ht).1 (by simpa using hp')
 have hy0:=hl2 e ay;have hx0:=hl1 (ly++e) ax;obtain⟨Jm,hy1,hx1⟩:∃Jm,vi O y e J=some (ly++e,Jm)/\vi O x (ly++e) Jm=some (lx++(ly++e),Jy):=by
  simp only[bY,ae]at hf;rcases hf with((⟨hx,hy⟩ | hx) | hy) | hfar
  .obtain rfl:=Es h1 hx;obtain rfl:=Es h2 hy;exact⟨_,hy0,hx0⟩
  .have e1:=Dc h1 hx J;rw[h1]at e1;cases e1;exact⟨Jy,hy0,Dc hx0 hx Jy⟩
  .have e2:=Dc h2 hy Jx;rw[h2]at e2;cases e2;exact⟨J,Dc hy0 hy J,hx0⟩
  .unfold Op.YZ at hfar;obtain⟨dx,gx,nx,kx⟩:=x;obtain⟨dy,gy,ny,ky⟩:=y;simp only[ae,Option.isNone_iff_eq_none]at hfar;obtain⟨⟨rfl,rfl⟩,hfar⟩:=hfar;split at hfar
   .rename_i os sz a X ag sz' m;have hm:m∈os:=by simpa using hfar
    obtain⟨l,i,v,off,b,_,hoff,rfl,_⟩:=Fl h1;obtain⟨rfl,hall⟩:=Db hy0;exact⟨J,hall J (LU (hoff m hm)).symm,hx0⟩
   .rename_i ag sz' m os sz a X;have hm:m∈os:=by simpa using hfar
    obtain⟨rfl,_⟩:=Db h1;obtain⟨l,i,v,off,b,_,hoff,rfl,_⟩:=Fl hy0;obtain⟨_,hall⟩:=Db hx0;refine⟨_,hy0,hall _ ?_⟩;have hg:get (ly++e) m=get e m:=ax m (by simp[Op.FB,K.tmps,bI.tmps]);rw[hg];exact LU (hoff m hm)
   .rename_i os sz a X os' sz' m X';have hm:m∈os:=by simpa using hfar
    obtain⟨l,i,v,off,b,_,hoff,rfl,hall⟩:=Fl hx0;obtain⟨l',i',v',off',b',hr,hoff',rfl,hall'⟩:=Fl hy0;have hg:get (ly++e) m=get e m:=ax m (by simp[Op.FB,K.tmps,hm]);have h4:=hoff m hm;rw[hg]at h4;have h5:get e m=.ref l' i' v' off':=by
     simp only[bu]at hr;cases hgm:get e m<;>rw[hgm]at hr<;>simp only[D.strip,reduceCtorEq]at hr;exact hr
    rw[h5]at h4;simp only[D.off,au]at h4;refine⟨aZ J l' i' b',hall' J dI.symm (A8 h4).symm,?_⟩;rw[N7 h4];exact hall _ dI (A8 λhh=>h4 ⟨hh.1.symm,hh.2.symm⟩)
   .rename_i os wd bt a X ag sz' m;have hm:m∈os:=by simpa using hfar
    obtain⟨l,i,b,bc,hoff,rfl⟩:=N4 h1;obtain⟨rfl,hall⟩:=Db hy0;exact⟨J,hall J (LU (hoff m hm)).symm,hx0⟩
   .rename_i ag sz' m cs;obtain⟨rfl,_⟩:=Db h1;obtain⟨_,hall⟩:=Db hx0;refine⟨_,hy0,hall _ ?_⟩;have hg:get (ly++e) m=get e m:=ax m (by simp[Op.FB,K.tmps,bI.tmps]);rw[hg];have hrd:∃c,BQ Jx (get e m).strip=some c:=by
     simp only[vi,xd,bO,bu]at h1;cases hr:BQ Jx (get e m).strip with
     |none=>rw[hr]at h1;simp at h1
     |some c=>exact⟨c,rfl⟩
    obtain⟨c,hrd⟩:=hrd;have hn:∃l i,fR Jx (.cells 0 cs)=some (l,i,Jy):=by
     simp only[vi,xd,bO,ki,aT,Option.bind_some,ab,ah,Prod.exists,ak]at hy0;obtain⟨d0,J0,⟨l,i,J3,h1,h2⟩,_,h3⟩:=hy0;cases h2;cases h3;exact⟨l,i,h1⟩
    obtain⟨l,i,hn⟩:=hn;rw[hrd,Sm hn hrd]
   .rename_i os wd bt a X ag sz' m;obtain⟨l,i,b,bc,hoff,rfl⟩:=N4 h1;obtain⟨rfl,c,hc,hall⟩:=Vl hy0;exact⟨J,hall J (X9 hc),hx0⟩
   .cases hfar
 have heq:Gz (ly++(lx++e)) (lx++(ly++e)):=λt=>by
  simp only[Hs];by_cases m1:t∈lx.map (·.1)
  .by_cases m2:t∈ly.map (·.1)
   .obtain⟨p,hp,rfl⟩:=bN.1 m1;obtain⟨q,hq,he⟩:=bN.1 m2;have:=(c1 _ (d1 p hp)).1;have hq':=d2 q hq;rw[he]at hq';exact absurd hq' (by simpa using this)
   .rw[if_pos m1,if_neg m2,if_pos m1]
  .by_cases m2:t∈ly.map (·.1)
   .rw[if_neg m1,if_pos m2,if_pos m2]
   .rw[if_neg m1,if_neg m2,if_neg m2,if_neg m1]
 obtain⟨e3,k3,k4⟩:=Ih h3 heq;refine⟨e3,?_,k4⟩;rw[jL,hy1];simp only[Option.bind_some];rw[jL,hx1];exact k3
theorem Nd{O:bS}{y:Op}{r:List Op}:∀{pre:List Op} {e e2:Env} {J J2:SK},(∀x∈pre,x.free y=true) ->
  lW O (pre++y::r) e J=some (e2,J2)->∃e2',lW O (y::(pre++r)) e J=some (e2',J2)/\Gz e2 e2'
 |[],e,e2,J,J2,hp,h=>⟨e2,h,.refl _⟩
 |x::pre,e,e2,J,J2,hp,h=>by
  simp only[cM]at h;rw[jL]at h;simp only[ah,Prod.exists]at h;obtain⟨e1,J1,h1,h2⟩:=h;obtain⟨e3,h3,h4⟩:=Nd (λz hz=>hp z (by simp[hz])) h2;have h5:lW O (x::y::(pre++r)) e J=some (e3,J2):=by rw[jL,h1];exact h3
  obtain⟨e4,h6,h7⟩:=YB (hp x (by simp)) h5;exact⟨e4,h6,h4.trans h7⟩
theorem LW{live:List Nat}(h:Gz e e'):restrict live e'=restrict live e:=by
 simp only[restrict];exact List.map_congr_left λt _=>by rw[h t]
end Go.aA
