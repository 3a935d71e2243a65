import Derived.Test.YtklfdfnoebnciaaGreatDoorBase10
import Derived.Recover
set_option linter.all false
namespace Go.az
open Go
def wj(P:Program)(CR:eJ)(f:Nat)(args:List D)(J:SK)(d:D)(J':SK):Prop :=
 (∃F c,P.funcs[f]?=some F/\F.name ≠ "runtime.NumGoroutine" /\ F.body=some c) /\
 ∀base g w vs,Inv CR base g J w->pV J->0<J.length->bA g args vs.toList ->
  eB J J'/\Calls P f vs w (λe w'=>∃v g',e=.returned v/\Ev g w g' w'/\Inv CR base g' J' w'/\bB g' d v)
def Tw(P:Program)(CR:eJ)(f:Nat)(args:List D)(J:SK)(d:D)(J':SK):Prop :=
 d.clean=true/\(∃F c,P.funcs[f]?=some F/\F.name ≠ "runtime.NumGoroutine" /\ F.body=some c) /\
 ∀base g w vs,Inv CR base g J w->pV J->0<J.length->bA g args vs.toList ->
  eB J J'/\Calls P f vs w (λe w'=>∃v g',e=.panicked [{v,recovered:=false }]/\Ev g w g' w'/\Inv CR base g' J' w'/\bB g' d v)
def MZ(g:G):Option D->FrameMode->Prop
 |none,u=>u=.returning
 |some d,u=>∃v,bB g d v/\u=.panicking [{v,recovered:=false }]
def Tp(P:Program)(CR:eJ)(f:Nat)(args:List D)(th:Option D)(J J':SK):Prop :=
 (∃F c,P.funcs[f]?=some F/\F.name ≠ "runtime.NumGoroutine" /\ F.body=some c) /\
 ∀base g w vs u,Inv CR base g J w->pV J->0<J.length->bA g args vs.toList->MZ g th u ->
  eB J J'/\CallsD P f vs u w (λe u' w'=>∃v g',e=.returned v/\settle u'=.returning/\Ev g w g' w'/\Inv CR base g' J' w')
def Nc(P:Program)(CR:eJ)(l i:Nat)(args:List D)(J:SK)(d:D)(J':SK):Prop :=
 (∃lp,dn J l i=some (.loop lp))/\∀base g w vs b,Inv CR base g J w->pV J->0<J.length->bA g args vs.toList->bB g (.kJ l i) (.func (.yield b) #[] #[]) ->
  eB J J'/\∃f tmps zh body,(Instr.yield b vs).run P w=.ok (.round b f tmps zh body) w /\
   ∀c cs,∃v g' w',Steps P (lone (Frame.round b f tmps zh body .normal) (c::cs) w) (lone (c.finish v) cs w')/\Ev g w g' w'/\Inv CR base g' J' w'/\bB g' d v
def zP(k:List Item):Exit->List Item->Prop
 |.normal,t=>t=k
 |.exit id,t=>∃k',t=.code (.exit id)::k'/\exitTo id k'=exitTo id k
 |.ret,t=>∃k',t=.code .ret::k'
 |.eA _,_=>True
def vK(S:Frame->Prop)(g:G)(b:Frame)(a:Act)(todo:List Item):Exit->Prop
 |.eA d=>d.clean=true/\∃v,bB g d v/\S {b.atR a todo with mode:=.panicking [{v,recovered:=false }] }
 |_=>S (b.atR a todo)
theorem vK.imp{S S':Frame->Prop}{g:G}{b:Frame}{a:Act}{todo:List Item}{x:Exit}(h:vK S g b a todo x)(hs:∀fr,S fr->S' fr):vK S' g b a todo x:=by
 cases x with
 |eA d=>obtain⟨h0,v,h1,h2⟩:=h;exact⟨h0,v,h1,hs _ h2⟩
 |_=>exact hs _ h
def We(P:Program)(CR:eJ)(c:bX)(e:Env)(J:SK)(x:Exit)(e':Env)(J':SK):Prop :=
 x ≠ .normal/\∀(ann:tW) cT code n,bQ P ann n cT code=some c->∀base g0 w0 b a k cs g w B,At CR base ann.cZ g0 w0 n b g w B e J a ->
  ∃g' w' B' a' todo,vK (λfr=>Steps P (lone (b.atR a (.code code::.inLoop code::k)) cs w) (lone fr cs w')) g' b a' todo x /\
   At CR base ann.cZ g0 w0 n b g' w' B' e' J' a'/\g.le g'/\zP k x todo/\eB J J'
def Qx(P:Program)(ann:tW)(n cT:Nat)(rest:bX):Option Code->Prop
 |none=>rest=.FB
 |some q=>bQ P ann n cT q=some rest
def Tr(P:Program)(CR:eJ)(live:List Nat)(it:bD)(nx ok bid:Nat)(c rest:bX)(e:Env)(J:SK)(x:Exit)(e':Env)(J':SK):Prop :=
 ∀(ann:tW) cT rid ops p n it0 (qs:Option Code),it=.t it0->Mi ann n (.loop (.seq (.region rid ops false) p))=some (it0,nx,ok)->bQ P ann n bid p=some c->Qx P ann n cT rest qs ->
  ∀base g0 w0 b a k cs g w B,At CR base ann.cZ g0 w0 n b g w B e J a ->
  ∃g' w' B' a' todo,vK (λfr=>Steps P (lone (b.atR a (.code (.seq (.region rid ops false) p)::.inLoop (.seq (.region rid ops false) p)::.inBlock bid::(qs.toList.map Item.code++k))) cs w) (lone fr cs w')) g' b a' todo x /\
   At CR base ann.cZ g0 w0 n b g' w' B' e' J' a'/\g.le g'/\zP k x todo/\eB J J'
def EA(P:Program)(CR:eJ):Q->R->Prop
 |.call _ f args J,.val d J'=>wj P CR f args J d J'
 |.round l i args J,.val d J'=>Nc P CR l i args J d J'
 |.loop _ _ c e J,.B6 x e' J'=>We P CR c e J x e' J'
 |.call _ f args J,.eA d J'=>Tw P CR f args J d J'
 |.gv live it nx ok bid c rest e J,.B6 x e' J'=>Tr P CR live it nx ok bid c rest e J x e' J'
 |.xe f args th J,.val _ J'=>Tp P CR f args th J J'
 |_,_=>True
def yz(P:Program)(CR:eJ)(O:bI):Prop:=∀q r,O q=some r->EA P CR q r
theorem Ex{r:Option R}{d:D}{J:SK}(h:R.bg r=some (d,J)):r=some (.val d J):=by
 unfold R.bg at h;split at h
 .cases h;rfl
 .cases h
theorem HV{r:Option R}{x:Exit}{e:Env}{J:SK}(h:R.OG r=some (x,e,J)):r=some (.B6 x e J):=by
 unfold R.OG at h;split at h
 .cases h;rfl
 .cases h
section
variable {P:Program} {CR:eJ} {O:bI} {ann:tW} {n sy:Nat} {ops:Array Oper} {base:Nat} {g0 g:G} {w0 w:World} {b:Frame} {B:Nat->Nat} {e e':Env} {J J':SK} {a:Act}
 {k:List Item} {cs:List Frame} {i:Nat} {rest:List Nat}
def J2(P:Program)(CR:eJ)(ann:tW)(n:Nat)(ops:Array Oper)(base:Nat)(g0:G)(w0:World)(b:Frame)(g:G)(w:World)(a:Act)(k:List Item)(cs:List Frame)(i:Nat)(rest:List Nat)(J:SK)(e':Env)(J':SK):Prop :=
 ∃g' w' B' a',Steps P (lone (b.atR a (.inRegion ops (i::rest)::k)) cs w) (lone (b.atR a' (.inRegion ops rest::k)) cs w') /\
  At CR base ann.cZ g0 w0 n b g' w' B' e' J' a'/\g.le g'/\eB J J'
theorem At.go{V:List Nat}(ha:At CR base V g0 w0 n b g w B e J a){g':G}{w':World}{B':Nat->Nat}{tm:Act}(he:Ev g w g' w')(hi:Inv CR base g' J' w')(hg:eB J J')
  (hf:Fr w0.heap.size V g' w' B' e' tm.tmps) (hs:tm.tmps.size=a.tmps.size) (hd:tm.defers=a.defers):At CR base V g0 w0 n b g' w' B' e' J' tm where
 fr:=hf
 ev:=ha.ev.trans he
 inv:=hi
 low:=hg.low ha.low
 pos:=by rw[hg.len];exact ha.pos
 size:=by rw[hs];exact ha.size
 marks:=let ⟨rs,h⟩:=ha.marks;⟨rs,by rw[hd];exact h.ev he⟩
 round:=uy ha.round he.le
theorem AX{dst:Option Nat}{c:Value}:(a.put dst c).tmps.size=a.tmps.size:=by cases dst<;>simp[Act.put]
theorem put_defers{dst:Option Nat}{c:Value}:(a.put dst c).defers=a.defers:=by cases dst<;>simp[Act.put]
theorem KM{ann:tW}{key:Nat}{o:Oper}{kk:K}(h:kC P ann ops key o=some kk):∀c,o.op ≠ .defer c:=by
 intro c hc;unfold kC at h;rw[hc]at h;cases h
theorem zz(ha:At CR base ann.cZ g0 w0 n b g w B e J a){o:Oper}(ho:ops[i]?=some o)(hn:∀t,o.dst=some t->t<n)(hV:∀t,o.dst=some t->t ∉ ann.cZ)
  {g':G} {w':World} {d:D} {c:Value} (hsteps:Steps P (lone (b.atR a (.inRegion ops (i::rest)::k)) cs w) (lone (b.atR (a.put o.dst c) (.inRegion ops rest::k)) cs w'))
  (he:Ev g w g' w') (hi:Inv CR base g' J' w') (hg:eB J J') (hr:ch g' B e d c):
  J2 P CR ann n ops base g0 w0 b g w a k cs i rest J (put o.dst d e) J':=by
 refine⟨g',w',B,a.put o.dst c,hsteps,ha.go he hi hg ?_ AX put_defers,he.le,hg⟩;exact(ha.fr.ev he).put hr hV λt ht=>by rw[ha.size];exact hn t ht
theorem jh{ρ:Operand->Value}{f:Operand}{args:Array Operand}{ts:Array TypeId}{ty:TypeId}{fn:Go.Fn}{first cap:Array Value}(hf:ρ f=.func fn first cap)(w:World):
  (resolve ρ {callee:=.value f,args,argTypes:=ts } ty).run P w=.ok {target:=.fn fn cap,args:=first++args.map ρ } w:=by
 simp[resolve,Deferred.ofValue,hf]
theorem v8{f:FuncId}{args:Array Value}{F:Func}(h1:P.funcs[f]?=some F)(h2:F.name ≠ "runtime.NumGoroutine"){c:Code}(h3:F.body=some c)(w:World):
  (callFunc f args).run P w=.ok (.enter f args) w:=by
 simp[callFunc,program,Sem.run,h1,h2,h3]
theorem DB{xs:Array Operand}{Xs:List bD}{fb:Nat}{V:List Nat}{tmps:Array Value}{df:List Deferred}(hf:Fr fb V g w B e tmps)(hx:vF xs.toList=some Xs):
  bA g (Xs.map (az.ba e)) (xs.map (Act.mk tmps df).eval).toList:=by
 have:=hf.W8 (df:=df) hx;simpa using this
theorem Nj(hO:yz P CR O)(ha:At CR base ann.cZ g0 w0 n b g w B e J a){o:Oper}(ho:ops[i]?=some o)(hw:Region.wanted o (yielded ops a.tmps)=true)
  (hn:∀t,o.dst=some t->t<n) (hV:∀t,o.dst=some t->t ∉ ann.cZ) {f:Operand} {args:Array Operand} {ts:Array TypeId} (hop:o.op=.call {callee:=.value f,args,argTypes:=ts })
  {F:bD} {Xs:List bD} (hF:bC f=some F) (hX:vF args.toList=some Xs) {kp:Bool} {d:D} (h:oe O kp (ba e F) (Xs.map (ba e)) J=some (d,J')):
  J2 P CR ann n ops base g0 w0 b g w a k cs i rest J (put o.dst d e) J':=by
 obtain⟨tmps,df⟩:=a;have hd:∀c,o.op ≠ .defer c:=by intro c hc;rw[hop]at hc;cases hc
 have hfv:=ha.fr.ba (df:=df) hF;have hxs:=DB (df:=df) ha.fr hX;unfold oe at h;split at h
 .rename_i fi first cap hfe
  rw[hfe]at hfv;have hans:=hO _ _ (Ex h);obtain⟨⟨Fn,cd,hfn1,hfn2,hfn3⟩,hcall⟩:=hans;generalize hev:(Act.mk tmps df).eval f=fv at hfv;cases hfv with
  |fn _ _ _ first' cap' r1 r2 =>
   have hrun:(execOp (Act.mk tmps df).eval o).run P w=.ok (.enter fi (first'++args.map (Act.mk tmps df).eval++cap')) w:=by
    simp only[execOp,hop,Sem.run_bind,jh hev,Result.andThen_ok,invoke,v8 hfn1 hfn2 hfn3]
   have hargs:bA g (first++Xs.map (ba e)++cap) (first'++args.map (Act.mk tmps df).eval++cap').toList:=by
    simpa using(r1.append hxs).append r2
   obtain⟨hgo,hcalls⟩:=hcall base g w _ ha.inv ha.low ha.pos hargs;obtain⟨en,w',fr,⟨v,g',rfl,he,hi,hr⟩,hcomes,hfr,hleave⟩:=hcalls (b.atR ⟨tmps,df⟩ (.inRegion ops (i::rest)::k)::cs);refine zz ha ho hn hV (Steps.head (G2 ho hw hd hrun) (Steps.trans hcomes (Steps.one ?_))) he hi hgo (ch.of hr);rw[step_leave_returned hleave,Bl ho]
 .rename_i l j hfe;rw[hfe]at hfv;have hans:=hO _ _ (Ex h);generalize hev:(Act.mk tmps df).eval f=fv at hfv;have hfv0:=hfv;cases hfv with
  |NF _ _ bb r1 =>
   obtain⟨⟨lp,hlp⟩,_⟩:=hans;obtain⟨b0,hb0,hrel⟩:=ha.inv.vQ _ _ _ r1;rw[hlp]at hb0;cases hb0;exact hrel.elim
  |Rf _ _ bb L r1 r2 =>
   obtain⟨⟨lp,hlp⟩,_⟩:=hans;obtain⟨b0,hb0,hrel⟩:=ha.inv.vQ _ _ _ r1;rw[hlp]at hb0;cases hb0;rcases r2 with rfl | rfl<;>exact hrel.elim
  |Oz _ _ bb L r1 r2 =>
   obtain⟨⟨lp,hlp⟩,_⟩:=hans;obtain⟨b0,hb0,hrel⟩:=ha.inv.vQ _ _ _ r1;rw[hlp]at hb0;cases hb0;rcases r2 with⟨c,rfl⟩ | rfl<;>exact hrel.elim
  |kJ _ _ bb r1 =>
   obtain⟨hgo,f0,tm0,zh,body,hy,hround⟩:=hans.2 base g w (args.map (Act.mk tmps df).eval) bb ha.inv ha.low ha.pos (by simpa using hxs) hfv0;have hrun:(execOp (Act.mk tmps df).eval o).run P w=.ok (.round bb f0 tm0 zh body) w:=by
    simp only[execOp,hop,Sem.run_bind,jh hev,Result.andThen_ok,invoke];simpa using hy
   obtain⟨v,g',w',hsteps,he,hi,hr⟩:=hround (b.atR ⟨tmps,df⟩ (.inRegion ops (i::rest)::k)) cs;refine zz ha ho hn hV (Steps.head (MH ho hw hd hrun) ?_) he hi hgo (ch.of hr);rw[Bl ho]at hsteps;exact hsteps
 .cases h
end
section
variable {P:Program} {CR:eJ} {O:bI} {ann:tW} {n sy:Nat} {ops:Array Oper} {base:Nat} {g0 g:G} {w0 w:World} {b:Frame} {B:Nat->Nat} {e e':Env} {J J':SK} {a:Act}
 {k:List Item} {cs:List Frame} {i:Nat} {rest:List Nat}
theorem RL(ha:At CR base ann.cZ g0 w0 n b g w B e J a){o:Oper}(ho:ops[i]?=some o)(hw:Region.wanted o (yielded ops a.tmps)=true)(hd:∀c,o.op ≠ .defer c)
  {v:Nat} (hdst:o.dst=some v) (hV:v∈ann.cZ) (hn:v<n) {g1:G} {ds:List D} {ca:Array Value} {el:TypeId}
  (hrun:(execOp a.eval o).run P w=.ok (.value (.pointer (some ⟨w.heap.size,0,none⟩))) (w.alloc (.cells ca el)))
  (i1:Inv CR base g1 J' w) (e1:Ev g w g1 w) (hg:eB J J') (hr:bA g1 ds ca.toList) (h1:∀x∈ca.toList,x.oneCell'=true):
  J2 P CR ann n ops base g0 w0 b g w a k cs i rest J ((v,.own (tT e v) ds)::e) J':=by
 obtain⟨tmps,df⟩:=a;have i2:=i1.alloc (.cells ca el);have e2:=e1.trans (Ev.alloc g1 w (.cells ca el));have hsteps:=wW (P:=P) (b:=b) (a:=⟨tmps,df⟩) (k:=k) (cs:=cs) (rest:=rest) ho hw hd hrun rfl;rw[hdst]at hsteps;have hsz:v<tmps.size:=by have:=ha.size;simp only at this;omega
 refine⟨g1,_,_,_,.one hsteps,ha.go e2 i2 hg ((ha.fr.ev e2).Xe hV hsz ⟨ha.ev.size,λhb=>?_,λo=>?_,ca,el,sN,hr,h1⟩ λt s cs' ht=>?_) AX put_defers,e2.le,hg⟩
 .exact Nat.lt_irrefl _ (i1.Q2 hb)
 .cases hh:g1.oc w.heap.size o with
  |none=>rfl
  |some x=>exact absurd (i1.ir hh) (Nat.lt_irrefl _)
 .have:=(ha.fr.own t s cs' ht).2.2.lt;omega
theorem Yc(ha:At CR base ann.cZ g0 w0 n b g w B e J a){o:Oper}(ho:ops[i]?=some o)(hw:Region.wanted o (yielded ops a.tmps)=true)
  (hn:∀t,o.dst=some t->t<n) (hV:∀t,o.dst=some t->t ∉ ann.cZ) {t:TypeId} {x v:Nat} {y:Operand} {Y:bD} (hop:o.op=.store t (.tmp x) y) (hy:bC y=some Y) {sz:Nat} (hsz:cH P t=some sz)
  {s off:Nat} {cv p p':List D} {nb:List (Nat×Nat)} (hin:rq e v x=some (s,cv,off)) (hp:(ba e Y).cells=some p) (hlen:p.length=sz/\off+sz<=cv.length)
  (hnb:jF nb p J=some (p',J')) (hdst:o.dst=none):
  J2 P CR ann n ops base g0 w0 b g w a k cs i rest J ((v,.own s (cv.take off++p'++cv.drop (off+sz)))::e) J':=by
 obtain⟨tmps,df⟩:=a;have hd:∀c,o.op ≠ .defer c:=by intro c hc;rw[hop]at hc;cases hc
 obtain⟨hgv,hpx⟩:=ha.fr.rq hin;obtain⟨hvV,hptr,hob⟩:=ha.fr.own v s cv hgv;obtain⟨ca,el,hheap,hrl,h1c⟩:=hob.cT;obtain⟨hrp,h1p⟩:=(ha.fr.ba (df:=df) hy).cells hp;obtain⟨g1,i1,e1,r1⟩:=wM nb _ _ _ _ g _ hnb ha.inv hrp;obtain⟨_,hp'len,_⟩:=zA nb _ _ _ _ hnb;have hpl:((Act.mk tmps df).eval y).cells.toList.length=sz:=by rw[<- r1.length,hp'len];exact hlen.1
 have hpl':((Act.mk tmps df).eval y).cells.size=sz:=by simpa using hpl
 have hcl:ca.size=cv.length:=by have:=hrl.length;simpa using this.symm
 obtain⟨w',c',hrun,hb',hs',hc',hother,hsize,ho1,ho2,ho3⟩:=DF (P:=P) (t:=t) (w:=w) (b:=B v) (o:=off) (v:=(Act.mk tmps df).eval y) hsz (by simpa using hpl) h1p hheap (by omega);have hob1:=hob.ev e1;have hcv:(Act.mk tmps df).eval (.tmp x)=.pointer (some ⟨B v,off,none⟩):=hpx;have hrunO:(execOp (Act.mk tmps df).eval o).run P w=.ok .skip w':=by
  simp[execOp,hop,Instr.storeAt,hcv,Instr.sureAddr,hrun]
 have hoth:∀b',b'≠B v->w'.heap[b']?=w.heap[b']?:=hother;have i2:Inv CR base g1 J' w':=i1.Fw (λb' hb'' hk=>hoth b' λhh=>by
  subst hh;rcases hk with hk | ⟨o2,v2,hk⟩
  .exact hob1.free hk
  .rw[hob1.rz]at hk;cases hk) (by omega)
 have hwrite:bA g1 (cv.take off++p'++cv.drop (off+sz)) c'.toList/\∀z∈c'.toList,z.oneCell'=true:=by
  have hrow:=Ir (c:=ca) (c':=c') (bo:=0) (off:=off) (vs:=ca.toList) (ps:=((Act.mk tmps df).eval y).cells.toList) (λj z hz=>⟨by simpa using hz,h1c z (ai hz)⟩) h1p (by simp;omega)
   (by rw[hpl];simpa using hc')
  rw[hpl]at hrow;have hrel:=(((hrl.mono e1.le).take off).append r1).append ((hrl.mono e1.le).drop (off+sz));have heq:c'.toList=ca.toList.take off++((Act.mk tmps df).eval y).cells.toList++ca.toList.drop (off+sz):=by
   have hll:(ca.toList.take off++((Act.mk tmps df).eval y).cells.toList++ca.toList.drop (off+sz)).length=c'.toList.length:=by
    simp only[bJ,hpl,jV,List.length_drop,Array.length_toList,hs'];omega
   apply dG;intro j;by_cases hj:j<c'.toList.length
   .have hj2:=hj;rw[<- hll]at hj2;have:=(hrow j _ (aL hj2)).1;rw[aL hj2];simpa using this
   .rw[dF (by omega),dF (by omega)]
  rw[heq];refine⟨hrel,λz hz=>?_⟩;simp only[aZ]at hz;rcases hz with(hz | hz) | hz
  .exact h1c z (db hz)
  .exact h1p z hz
  .exact h1c z (da hz)
 have hob2:G8 w0.heap.size g1 w' (B v) (cv.take off++p'++cv.drop (off+sz)):=⟨hob1.lo,hob1.free,hob1.rz,c',el,hb',hwrite.1,hwrite.2⟩;have hsteps:=wW (P:=P) (b:=b) (a:=⟨tmps,df⟩) (k:=k) (cs:=cs) (rest:=rest) ho hw hd hrunO rfl;rw[hdst]at hsteps;have hgo:=sJ _ _ _ _ _ hnb;refine⟨g1,w',B,⟨tmps,df⟩,.one hsteps,⟨?_,?_,i2,hgo.low ha.low,by rw[hgo.len];exact ha.pos,ha.size,?_,uy ha.round e1.le⟩,e1.le,hgo⟩
 .exact(ha.fr.ev e1).My hgv hob2 λb' _ hne=>hoth b' hne
 .have h0:=ha.ev.trans e1;refine⟨h0.le,ho1.trans h0.os,ho2.trans h0.tape,ho3.trans h0.output,by have:=h0.size;omega,λb' hb'' hnb'=>?_,h0.PC,h0.Ht⟩;rw[hoth b' (by have:=hob.lo;omega)];exact h0.kept b' hb'' hnb'
 .obtain⟨rs,hm⟩:=ha.marks;have hm1:=hm.ev e1;refine⟨rs,hm1.eq,hm1.nodup,λr hr=>?_⟩;have hmr:=hm1.all r hr;refine⟨hmr.lo,hmr.free,hmr.rz,?_⟩;rw[hoth r,hmr.cT];intro hh;subst hh;have:=hmr.cT;rw[hheap]at this;cases this
def KEq(P:Program)(ann:tW)(o:Oper)(kk:K):Prop :=
  match kk with
  |.call _ F Xs=>∃f args ts,o.op=.call {callee:=.value f,args,argTypes:=ts }/\bC f=some F/\vF args.toList=some Xs
  |.Ag _ z=>∃el v,o.op=.alloc el/\rA P el=some z/\o.dst=some v/\v∈ann.cZ
  |.D6 X=>∃t x v,o.op=.box t x/\bC x=some X/\o.dst=some v/\v∈ann.cZ
  |.G6 _ _ sz x Y=>∃t y,o.op=.store t (.tmp x) y/\bC y=some Y/\cH P t=some sz
  |.RM X=>∃y,o.op=.panic y/\bC y=some X
  |.Lp=>∃args ts,o.op=.call {callee:=.builtin .recover,args,argTypes:=ts }
  |_=>True
theorem Md{X Y:bD}{t:TypeId}{bo:BinOp}{kk:K}{o:Oper}(hk:WB P bo t X Y=some kk):KEq P ann o kk:=by
 unfold WB at hk;split at hk
 case h_2=>cases hk
 split at hk
 .cases hk
 split at hk
 .obtain⟨ag,hag,rfl⟩:=ab.1 hk;trivial
 .obtain⟨ag,hag,rfl⟩:=ab.1 hk;trivial
 .cases hk
theorem Rh{kk:K}{key:Nat}{o:Oper}(hk:kC P ann ops key o=some kk):KEq P ann o kk:=by
 unfold kC at hk;split at hk
 .rename_i x ho;obtain⟨X,hX,rfl⟩:=ab.1 hk;trivial
 .rename_i x ho;split at hk
  .rename_i hnil _ _;split at hk
   .obtain⟨X,hX,rfl⟩:=ab.1 hk;trivial
   .obtain⟨X,hX,rfl⟩:=ab.1 hk;trivial
  .obtain⟨X,hX,rfl⟩:=ab.1 hk;trivial
 .rename_i c x y ho;split at hk
  .rename_i c' x' y' h1 h2 h3;cases hk;trivial
  .cases hk
 .rename_i el ho;split at hk
  .rename_i z d0 hz hd0;split at hk
   .split at hk
    case h_2=>cases hk
    split at hk
    case h_2=>cases hk
    split at hk
    case h_2=>cases hk
    cases hk;trivial
   cases hk;split
   .rename_i hc;exact⟨el,d0,ho,hz,hd0,by simpa using hc⟩
   .trivial
  .cases hk
 .rename_i t x ho;split at hk
  .rename_i x' d0 hx hd0;cases hk;by_cases hc:ann.cZ.contains d0=true
   .simp only[hc,if_true];exact⟨t,x,d0,ho,hx,hd0,by simpa using hc⟩
   .rw[if_neg hc];split
    .split<;>trivial
    .trivial
  .cases hk
 .rename_i t ps ho;split at hk
  .rename_i fs z ht hz;split at hk
   .rename_i hall;obtain⟨parts,hp,rfl⟩:=ab.1 hk;trivial
   .cases hk
  .rename_i n el z ht hz;split at hk
   .rename_i wd hw;obtain⟨parts,hp,rfl⟩:=ab.1 hk;trivial
   .cases hk
  .cases hk
 .rename_i t n ps ho;split at hk
  .rename_i el ht;split at hk
   .rename_i wd z d0 hw hz _;split at hk
    .rename_i hc;obtain⟨parts,hp,rfl⟩:=ab.1 hk;dsimp only;split
     .trivial
     split<;>trivial
    .cases hk
   .cases hk
  .cases hk
 .rename_i t x ho;split at hk
  .rename_i ag sz n hag hsz hx;split at hk
   .rename_i hc;simp only[ae,ao]at hc;cases hk;have hxe:x=.tmp n:=by
     cases x<;>simp only[bC,ad,bD.t.injEq,reduceCtorEq,ab,and_false,exists_false]at hx;rw[hx]
    split
    .trivial
    .split
     .trivial
     .split<;>trivial
   .cases hk
  .cases hk
 .rename_i t x y ho;split at hk
  .rename_i sz n y' hsz hx hy;cases hk;have hxe:x=.tmp n:=by
    cases x<;>simp only[bC,ad,bD.t.injEq,reduceCtorEq,ab,and_false,exists_false]at hx;rw[hx]
   by_cases hc:ann.cZ.contains (E0 ops 8 n)=true
   .simp only[hc,if_true];exact⟨t,y,by rw[ho,hxe],hy,hsz⟩
   .rw[if_neg hc];split<;>trivial
  .cases hk
 .rename_i b t x y u ho;split at hk
  .rename_i hx hy;cases hk;trivial
  .rename_i hx hy;exact Md hk
  .rename_i hx hy;exact Md hk
  .rename_i hx hy;exact Md hk
  .rename_i ht hx hy;split at hk<;>cases hk<;>trivial
  .rename_i ht hx hy;unfold SH at hk;split at hk<;>cases hk<;>trivial
  .rename_i ht hx hy;split at hk
   .split at hk<;>cases hk<;>trivial
   .cases hk
  .rename_i ht hx hy;unfold SH at hk;split at hk<;>cases hk<;>trivial
  .rename_i ht hx hy;split at hk<;>cases hk<;>trivial
  .cases hk
 .rename_i x ho;obtain⟨X,hX,rfl⟩:=ab.1 hk;trivial
 .rename_i b t x ho;obtain⟨X,hX,rfl⟩:=ab.1 hk;trivial
 .rename_i s t x ho;split at hk
  .rename_i hs ht hx;cases hk;trivial
  .split at hk<;>cases hk<;>trivial
  .split at hk<;>cases hk<;>trivial
  .split at hk
   .split at hk<;>cases hk<;>trivial
   .cases hk
  .cases hk
 .rename_i t x ho;split at hk
  .obtain⟨X,hX,rfl⟩:=ab.1 hk;trivial
  .cases hk
 .rename_i f xs ys ho;split at hk
  .rename_i hx hy;cases hk;trivial
  .cases hk
 .rename_i t x y ho;split at hk
  .rename_i el ht;split at hk
   .rename_i hw hb hz hx hy;split at hk
    .rename_i hc;cases hk;trivial
    .cases hk
   .cases hk
  .cases hk
 .rename_i t x lo hh mx ho;split at hk
  .rename_i ht hx hlo hhi hmx;obtain⟨wd,hw,rfl⟩:=ab.1 hk;trivial
  .rename_i ht hx hlo hhi hmx;obtain⟨wd,hw,rfl⟩:=ab.1 hk;have hm:mx=none:=by
    cases mx with
    |none=>rfl
    |some m=>simp[wP,ab]at hmx
   subst hm;trivial
  .rename_i ht hx hlo hhi hmx;cases hk;trivial
  .cases hk
 .rename_i s x i ho;split at hk
  .rename_i fs x' hs hx;split at hk
   .rename_i off sz hfc;split at hk
    .rename_i hpos;cases hk;trivial
    .cases hk
   .cases hk
  .cases hk
 .rename_i s x i ho;split at hk
  .rename_i fs x' hs hx;split at hk
   .rename_i f hfi;split at hk
    .rename_i hag hsz;split at hk
     .cases hk;trivial
     .cases hk
    .cases hk
   .cases hk
  .cases hk
 .rename_i t x y ho;split at hk
  .rename_i ht hx hy;obtain⟨wd,hw,rfl⟩:=ab.1 hk;trivial
  .rename_i ht hx hy;obtain⟨wd,hw,rfl⟩:=ab.1 hk;trivial
  .cases hk
 .rename_i t x y ho;split at hk
  .rename_i ht hx hy;split at hk
   .rename_i hag hsz;split at hk
    .cases hk;trivial
    .cases hk
   .cases hk
  .rename_i ht hx hy;cases hk;trivial
  .cases hk
 .rename_i x i ho;obtain⟨X,hX,rfl⟩:=ab.1 hk;trivial
 .rename_i c ho;obtain⟨callee,args,ts⟩:=c;dsimp only at hk;split at hk
  .rename_i f;split at hk
   .rename_i hf hx;cases hk;exact⟨f,args,ts,ho,hf,hx⟩
   .cases hk
  .split at hk
   .rename_i t tr x r hts ha;split at hk
    .rename_i ht hx;cases hk;trivial
    .rename_i ht hx;cases hk;trivial
    .rename_i ht hx;cases hk;trivial
    .rename_i ht;cases hk;trivial
    .rename_i ht;split at hk
     .rename_i hr;cases hk;trivial
     .cases hk
    .cases hk
   .cases hk
  .cases hk;exact⟨_,_,ho⟩
  .split at hk
   .rename_i ha;split at hk
    .rename_i hx hy;cases hk;trivial
    .cases hk
   .cases hk
  .split at hk
   .rename_i ha;split at hk
    .rename_i hx hy;cases hk;trivial
    .cases hk
   .cases hk
  .split at hk
   .rename_i t u x y hts ha;split at hk
    .rename_i ht hu hx hy;split at hk
     case isFalse=>cases hk
     split at hk
     .rename_i hw hb hz;split at hk
      .rename_i hc;cases hk;split
       .trivial
       .split
        .trivial
        .split
         .trivial
         .split<;>trivial
      .cases hk
     .cases hk
    .cases hk
   .cases hk
  .cases hk
 .rename_i t x ho;split at hk
  .obtain⟨X,hX,rfl⟩:=ab.1 hk;trivial
  .cases hk
 .rename_i x xt t ok ho;split at hk
  .cases hk
  .split at hk
   .obtain⟨z,hz,rfl⟩:=ab.1 hk;trivial
   .cases hk;trivial
  .cases hk
 .rename_i x ho;obtain⟨X,hX,rfl⟩:=ab.1 hk;exact⟨x,ho,hX⟩
 .rename_i t ho;cases hk;trivial
 .split at hk<;>cases hk<;>trivial
 .rename_i t x ho;split at hk
  .rename_i ht hx;cases hk;trivial
  .cases hk
 .rename_i x ho;split at hk
  .rename_i hx;cases hk;trivial
  .cases hk
 .rename_i t x y ok ho;split at hk
  .split at hk
   .cases hk;trivial
   .cases hk
  .cases hk
 .rename_i t m x y ho;split at hk
  .split at hk
   .cases hk;trivial
   .cases hk
  .cases hk
 .rename_i t m x y ho;split at hk
  .split at hk
   .cases hk;trivial
   .cases hk
  .cases hk
 .cases hk
theorem Pq{kk:K}(h:kk.makes=true):bG e J kk=none:=by
 cases kk<;>simp[K.makes]at h<;>rfl
theorem QC(hO:yz P CR O)(ha:At CR base ann.cZ g0 w0 n b g w B e J a){o:Oper}(ho:ops[i]?=some o)(hw:Region.wanted o (yielded ops a.tmps)=true)
  {zZ:Bool} {op:Op} (hop:Pg P ann n sy ops zZ i o=some op) (h:vn O op e J=some (e',J')):
  J2 P CR ann n ops base g0 w0 b g w a k cs i rest J e' J':=by
 unfold Pg at hop;split at hop
 case h_2=>cases hop
 rename_i kk hk;split at hop
 case h_2=>cases hop
 rename_i gd hgd hdn;simp only[aC,ae]at hop;obtain⟨⟨hown,hst⟩,hop⟩:=hop;cases hop;have hn:∀t,o.dst=some t->t<n:=by
  intro t ht;rw[ht]at hdn;simpa using hdn
 have hV:kk.makes=false->∀t,o.dst=some t->t ∉ ann.cZ:=by
  intro hm t ht;rw[ht]at hown;simp[hm]at hown;simpa using hown
 have hd:=KM hk;have hkeq:=Rh hk;unfold vn at h;dsimp only at h;split at h
 ·
  rename_i kp F Xs;split at h
  case h_2=>cases h
  rename_i d J1 hc;split at h
  case isFalse=>cases h
  cases h;obtain⟨f,args,ts,h1,h2,h3⟩:=hkeq;exact Nj hO ha ho hw hn (hV rfl) h1 h2 h3 hc
 ·
  rename_i nb z;obtain⟨el,v,h1,h2,h3,h4⟩:=hkeq;rw[h3]at h;cases hnb:jF nb z J with
  |none=>simp[hnb]at h
  |some x =>
   obtain⟨cs',J1⟩:=x;simp only[hnb,ad,aj]at h;obtain⟨rfl,rfl⟩:=h;obtain⟨i0,vz,hinfo,hzero,hrz,h1z⟩:=sW g h2;obtain⟨g1,i1,e1,r1⟩:=wM nb _ _ _ _ g _ hnb ha.inv hrz;exact RL (el:=el) ha ho hw hd h3 h4 (hn _ h3) (by simp[execOp,h1,Es hinfo hzero]) i1 e1 (sJ _ _ _ _ _ hnb) r1 h1z
 ·
  rename_i X;obtain⟨t,x,v,h1,h2,h3,h4⟩:=hkeq;rw[h3]at h;cases hcx:(ba e X).cells with
  |none=>simp[hcx]at h
  |some cs' =>
   simp only[hcx,ad,aj]at h;obtain⟨rfl,rfl⟩:=h;obtain⟨tmps,df⟩:=a;obtain⟨hr,h1z⟩:=(ha.fr.ba (df:=df) h2).cells hcx;exact RL (el:=t) ha ho hw hd h3 h4 (hn _ h3) (by simp[execOp,h1,Instr.box,newVar,newRow]) ha.inv (Ev.refl g w) (.refl J) hr h1z
 ·
  rename_i v nb sz x X;obtain⟨t,y,h1,h2,h3⟩:=hkeq;have hdst:o.dst=none:=by simpa[K.aa5]using hst
  split at h
  case h_2=>cases h
  rename_i s cv off p hin hp;split at h
  case isFalse=>cases h
  rename_i hlen;split at h
  case h_2=>cases h
  rename_i p' J1 hnb;cases h;exact Yc ha ho hw hn (hV rfl) h1 h2 h3 hin hp hlen hnb hdst
 ·
  rename_i k1 h1 h2 h3 h4;cases hs:bG e J kk with
  |none=>simp[hs]at h
  |some x =>
   obtain⟨d,J1⟩:=x;simp only[hs,aQ,ad,aj]at h;obtain⟨rfl,rfl⟩:=h;have hm:kk.makes=false:=by
    cases hm:kk.makes
    .rfl
    .rw[Pq hm]at hs;cases hs
   obtain⟨tmps,df⟩:=a;obtain⟨x,c,g',w',hrun,hx,he,hi,hr⟩:=X5 (df:=df) ha.fr ha.inv hk hs;exact zz ha ho hn (hV hm) (.one (wW ho hw hd hrun hx)) he hi (Sj hs) hr
inductive vJ {α β:Type} (R:α->β->Prop):List α->List β->Prop
 |nil:vJ R [] []
 |cons {x:α} {y:β} {xs:List α} {ys:List β}:R x y->vJ R xs ys->vJ R (x::xs) (y::ys)
def FU(P:Program)(ann:tW)(n sy:Nat)(ops:Array Oper)(i:Nat)(x:Op):Prop:=∃o zZ,ops[i]?=some o/\Pg P ann n sy ops zZ i o=some x
theorem Jk{zZ:Bool}{o:Oper}{op:Op}(h:Pg P ann n sy ops zZ i o=some op):
  op.dst=o.dst/\(∀t,o.dst=some t->t<n)/\((o.guard=none/\op.CE=none)\/∃j d bb,o.guard=some (j,bb)/\op.CE=some (d,bb)/\(ops[j]?).bind (·.dst)=some d/\(∀t,o.dst=some t->t ∉ ann.cZ)):=by
 unfold Pg at h;split at h
 case h_2=>cases h
 rename_i kk hk;split at h
 case h_2=>cases h
 rename_i gd hgd hdn;simp only[aC,ae]at h;obtain⟨⟨hown,hst⟩,h⟩:=h;cases h;refine⟨rfl,λt ht=>by rw[ht]at hdn;simpa using hdn,?_⟩;cases hg:o.guard with
 |none=>rw[hg]at hgd;cases hgd;exact .inl ⟨rfl,rfl⟩
 |some x =>
  obtain⟨j,bb⟩:=x;rw[hg]at hgd;dsimp only at hgd;cases hj:(ops[j]?).bind (·.dst)with
  |none=>rw[hj]at hgd;cases hgd
  |some d =>
   rw[hj]at hgd;cases hgd;refine .inr ⟨j,d,bb,rfl,rfl,hj,λt ht=>?_⟩;rw[ht,hg]at hown;simpa using hown
theorem Bq(hO:yz P CR O){tl:List Nat}:∀(is:List Nat) (xs:List Op) (e:Env) (J:SK) (g:G) (w:World) (B:Nat->Nat) (a:Act),vJ (FU P ann n sy ops) is xs ->
  kK O xs e J=some (e',J')->At CR base ann.cZ g0 w0 n b g w B e J a ->
  ∃g' w' B' a',Steps P (lone (b.atR a (.inRegion ops (is++tl)::k)) cs w) (lone (b.atR a' (.inRegion ops tl::k)) cs w')/\At CR base ann.cZ g0 w0 n b g' w' B' e' J' a'/\g.le g'/\eB J J'
 |[],xs,e,J,g,w,B,a,hF,h,ha=>by
  cases hF;simp only[kK,ad,aj]at h;obtain⟨rfl,rfl⟩:=h;exact⟨g,w,B,a,.refl _ _,ha,g.le_refl,.refl J⟩
 |i::is,xs,e,J,g,w,B,a,hF,h,ha=>by
  cases hF with
  |cons hx hF =>
   rename_i x xs;obtain⟨o,zZ,ho,hop⟩:=hx;obtain⟨hdst,hn,hgrd⟩:=Jk hop;simp only[kK]at h;have hgo:∀{e1 J1 g1 w1 B1 a1},Steps P (lone (b.atR a (.inRegion ops (i::is++tl)::k)) cs w) (lone (b.atR a1 (.inRegion ops (is++tl)::k)) cs w1) ->
     At CR base ann.cZ g0 w0 n b g1 w1 B1 e1 J1 a1->g.le g1->eB J J1->kK O xs e1 J1=some (e',J') ->
     ∃g' w' B' a',Steps P (lone (b.atR a (.inRegion ops (i::is++tl)::k)) cs w) (lone (b.atR a' (.inRegion ops tl::k)) cs w')/\At CR base ann.cZ g0 w0 n b g' w' B' e' J' a'/\g.le g'/\eB J J':=by
    intro e1 J1 g1 w1 B1 a1 h1 h2 h3 h4 h5;obtain⟨g2,w2,B2,a2,k1,k2,k3,k4⟩:=Bq hO is xs _ _ _ _ _ _ hF h5 h2;exact⟨g2,w2,B2,a2,h1.trans k1,k2,h3.trans' k3,h4.trans k4⟩
   rcases hgrd with⟨hg1,hg2⟩ | ⟨j,d,bb,hg1,hg2,hj,hV⟩
   .rw[hg2]at h;simp only[af,Prod.exists]at h;obtain⟨e1,J1,h1,h2⟩:=h;obtain⟨g1,w1,B1,a1,k1,k2,k3,k4⟩:=QC (k:=k) (cs:=cs) (rest:=is++tl) hO ha ho (by simp[Region.wanted,hg1]) hop h1;exact hgo k1 k2 k3 k4 h2
   .rw[hg2]at h;dsimp only at h;split at h
    case h_2=>cases h
    rename_i bv hbv;have hy:yielded ops a.tmps j=bv:=by
     have hrel:=ha.fr.rel d;unfold yielded;rw[hj];simp only[Option.bind_some];cases hg:get e d with
     |bool b =>
      rw[hg]at hrel hbv;have hrel':bB g (.bool b) (a.tmps.getD d Go.undef):=hrel;have hval:=hrel'.od;simp only[D.bit,ad]at hbv;subst hbv;rw[bU]at hval;cases hd:a.tmps[d]? with
      |none=>rw[hd]at hval;simp[Go.undef]at hval
      |some y=>rw[hd]at hval;simp at hval;subst hval;rfl
     |dj ds =>
      cases ds with
      |nil =>
       rw[hg]at hrel hbv;have hrel':bB g (.dj []) (a.tmps.getD d Go.undef):=hrel;have hval:a.tmps.getD d Go.undef=.tuple #[]:=by
        generalize a.tmps.getD d Go.undef=z at hrel';cases hrel' with | dj _ cs hl =>
         cases cs with | mk cs=>cases cs with
          |nil=>rfl
          |cons c cs=>cases hl
       simp only[D.bit,ad]at hbv;subst hbv;rw[bU]at hval;cases hd:a.tmps[d]? with
       |none=>rfl
       |some y=>rw[hd]at hval;simp at hval;subst hval;rfl
      |cons x xs=>rw[hg]at hbv;simp[D.bit]at hbv
     |_=>rw[hg]at hbv;simp[D.bit]at hbv
    split at h
    .rename_i hb;simp only[af,Prod.exists]at h;obtain⟨e1,J1,h1,h2⟩:=h;obtain⟨g1,w1,B1,a1,k1,k2,k3,k4⟩:=QC (k:=k) (cs:=cs) (rest:=is++tl) hO ha ho (by simp[Region.wanted,hg1,hy,hb]) hop h1;exact hgo k1 k2 k3 k4 h2
    .rename_i hb;have hstep:=stepR_op_skip (P:=P) (b:=b) (a:=a) (k:=k) (cs:=cs) (w:=w) (ops:=ops) (i:=i) (rest:=is++tl) (by simp[ho,Region.wanted,hg1,hy,hb]);rw[show(ops[i]?).bind (·.dst)=o.dst from by rw[ho];rfl]at hstep;obtain⟨g1,w1,B1,a1,k1,k2,k3,k4⟩:=zz (d:=.dj []) ha ho hn hV (.one hstep) (Ev.refl g w) ha.inv (.refl J) (ch.of (.dj [] #[] .nil));rw[hdst]at h;exact hgo k1 k2 k3 k4 h
theorem Mn(hO:yz P CR O)(is:List Nat)(xs:List Op)(e:Env)(J:SK)(g:G)(w:World)(B:Nat->Nat)(a:Act)(hF:vJ (FU P ann n sy ops) is xs)
  (h:kK O xs e J=some (e',J')) (ha:At CR base ann.cZ g0 w0 n b g w B e J a):
  ∃g' w' B' a',Steps P (lone (b.atR a (.inRegion ops is::k)) cs w) (lone (b.atR a' (.inRegion ops []::k)) cs w')/\At CR base ann.cZ g0 w0 n b g' w' B' e' J' a'/\g.le g'/\eB J J':=by
 have:=Bq (k:=k) (cs:=cs) (tl:=[]) hO is xs e J g w B a hF h ha;simpa using this
theorem OC{O:bI}{fv:D}{args:List D}{r:R}(h:zR O fv args J=some r):∃f first cap,fv=.fn f first cap/\O (.call false f (first++args++cap) J)=some r:=by
 unfold zR at h;split at h
 .exact⟨_,_,_,rfl,h⟩
 .cases h
theorem Vf{zZ:Bool}{o:Oper}{op:Op}(h:Pg P ann n sy ops zZ i o=some op):kC P ann ops (sy*1000+i) o=some op.k/\(op.k.makes=false->∀t,o.dst=some t->t ∉ ann.cZ):=by
 unfold Pg at h;split at h
 case h_2=>cases h
 rename_i kk hk;split at h
 case h_2=>cases h
 simp only[aC,ae]at h;obtain⟨⟨hown,hst⟩,h⟩:=h;cases h;refine⟨hk,λhm t ht=>?_⟩;dsimp only at hm;rw[ht]at hown;simp[hm]at hown;simpa using hown
theorem MG{o:Oper}{v:Value}{w':World}{is:List Nat}(ho:ops[i]?=some o)(hw:Region.wanted o (yielded ops a.tmps)=true)(hd:∀c,o.op ≠ .defer c)
  (hr:(execOp a.eval o).run P w=.halt (.panic v) w'):
  step P (lone (b.atR a (.inRegion ops (i::is)::k)) cs w)=.next (lone {b.atR a (.inRegion ops (i::is)::k)with mode:=.panicking [{v,recovered:=false }] } cs w'):=by
 have hg:=stepGR_op (P:=P) (b:=b) (k:=k) (cs:=cs) (w:=w) (rest:=is) ho hw;rw[Oper.semAt_eq _ _ _ hd]at hg;exact step_lone_go (by rw[hg,<- Frame.raise_atR];simp[stepG.apply,hr])
end
def iY(ts:List Nat)(e e':Env):Prop:=∀t∈ts,get e' t=get e t
theorem iY.mono{ts us:List Nat}{e e':Env}(h:iY us e e')(hs:∀t∈ts,t∈us):iY ts e e':=λt ht=>h t (hs t ht)
theorem iY.app{ts us:List Nat}{e e':Env}:iY (ts++us) e e'↔iY ts e e'/\iY us e e' :=
 ⟨λh=>⟨λt ht=>h t (by simp[ht]),λt ht=>h t (by simp[ht])⟩,λh t ht=>(aZ.1 ht).elim (h.1 t) (h.2 t)⟩
theorem iY.cons{t:Nat}{us:List Nat}{e e':Env}:iY (t::us) e e'↔get e' t=get e t/\iY us e e' :=
 ⟨λh=>⟨h t (by simp),λu hu=>h u (by simp[hu])⟩,λh u hu=>(bw.1 hu).elim (λx=>x ▸ h.1) (h.2 u)⟩
variable {e e':Env} {J J':SK}
theorem aS{x:bD}(h:iY x.tmps e e'):ba e' x=ba e x:=by
 cases x with
 |t n=>simp only[ba];rw[h n (by simp[bD.tmps])]
 |c d=>rfl
theorem ux{xs:List bD}(h:iY (xs.flatMap bD.tmps) e e'):xs.map (ba e')=xs.map (ba e):=by
 induction xs with
 |nil=>rfl
 |cons x xs ih =>
  simp only[aT,iY.app]at h;simp only[aN,aS h.1,ih h.2]
theorem xr:∀{ps:List (Nat×Nat×bD)} {cs:List D},iY (ps.flatMap λp=>p.2.2.tmps) e e'->rn e' ps cs=rn e ps cs
 |[],cs,h=>rfl
 |(off,sz,x)::ps,cs,h=>by
  simp only[aT,iY.app]at h;simp only[rn,aS h.1];split
  .split
   .exact xr h.2
   .rfl
  .rfl
theorem D5{m:Nat}{dfl:Option Nat}{x:Option bD}(h:iY ((x.map bD.tmps).getD []) e e'):Bi e' m dfl x=Bi e m dfl x:=by
 cases x with
 |none=>rfl
 |some x=>simp only[Bi];rw[aS (by simpa using h)]
theorem Dd{n:Nat}{lo hi mx:Option bD}(h1:iY ((lo.map bD.tmps).getD []) e e')(h2:iY ((hi.map bD.tmps).getD []) e e')(h3:iY ((mx.map bD.tmps).getD []) e e'):
  bounds n e' lo hi mx=bounds n e lo hi mx:=by
 simp only[bounds,D5 h1,D5 h2,D5 h3]
theorem AM{v a:Nat}(h1:get e' v=get e v)(h2:get e' a=get e a):rq e' v a=rq e v a:=by
 simp only[rq,h1,h2]
theorem Pp{k:K}(h:iY k.tmps e e'):bG e' J k=bG e J k:=by
 cases k<;>simp only[K.tmps,iY.app,iY.cons]at h
 case mv x=>simp only[bG,aS h]
 case GJ=>rfl
 case pick c a b=>simp only[bG,aS h.1.1,aS h.1.2,aS h.2]
 case Ox=>rfl
 case RA=>simp only[bG,aS h]
 case SO=>simp only[bG,aS h]
 case TU=>simp only[bG,aS h]
 case RM=>rfl
 case Lp=>rfl
 case Ag=>rfl
 case Hn x=>simp only[bG,aS h]
 case Ho x=>simp only[bG,aS h]
 case SG nb x=>simp only[bG,aS h]
 case D6=>rfl
 case IZ=>simp only[bG,xr h]
 case TE=>simp only[bG,xr h]
 case QH=>simp only[bG,xr h]
 case ld=>simp only[bG,aS h]
 case T1=>simp only[bG,aS h]
 case PD=>simp only[bG,aS h]
 case TV=>simp only[bG,aS h]
 case T7=>simp only[bG,aS h]
 case st=>simp only[bG,aS h.1,aS h.2]
 case Pv os sz a x =>
  have hall:∀l i,(os.all λt=>D.off l i (get e' t))=os.all λt=>D.off l i (get e t):=by
   intro l i;have h2:=h.2;clear h;induction os with
   |nil=>rfl
   |cons o os ih=>simp only[iA,h2 o (by simp),ih (h2.mono λt ht=>by simp[ht])]
  simp only[bG,aS h.1.1,aS h.1.2,hall]
 case PE=>simp only[bG,AM h.1 h.2.1]
 case G6=>rfl
 case bin=>simp only[bG,aS h.1,aS h.2]
 case eqv=>simp only[bG,aS h.1,aS h.2]
 case un=>simp only[bG,aS h]
 case QN=>simp only[bG,aS h]
 case Rz=>simp only[bG,ux h.1,ux h.2]
 case RB=>simp only[bG,aS h.1,aS h.2]
 case SL=>simp only[bG,aS h.1.1.1,Dd h.1.1.2 h.1.2 h.2]
 case MB=>simp only[bG,aS h.1.1,Dd (mx:=none) h.1.2 h.2 (λt ht=>by simp at ht)]
 case Hq off x =>
  cases x with
  |t n=>simp only[bG,h n (by simp[bD.tmps])]
  |c d=>rfl
 case Yr=>simp only[bG,aS h]
 case Fh len w x i =>
  cases x with
  |t n =>
   have h1:=h.1 n (by simp[bD.tmps]);simp only[bG,aS h.2];cases Ds (ba e i)<;>simp only[h1]
  |c d=>simp only[bG]
 case Fi=>simp only[bG,aS h.1,aS h.2]
 case Je=>simp only[bG,aS h.1,aS h.2]
 case Hv=>simp only[bG,aS h]
 case Mf=>rfl
 case mn=>simp only[bG,aS h.1,aS h.2]
 case mx=>simp only[bG,aS h.1,aS h.2]
 case app=>simp only[bG,aS h.1,aS h.2]
 case Oy os w b s x =>
  have hall:∀l i,(os.all λt=>D.off l i (get e' t))=os.all λt=>D.off l i (get e t):=by
   intro l i;have h2:=h.2;clear h;induction os with
   |nil=>rfl
   |cons o os ih=>simp only[iA,h2 o (by simp),ih (h2.mono λt ht=>by simp[ht])]
  simp only[bG,IW,aS h.1.1,aS h.1.2,hall]
 case SF=>simp only[bG,IW,aS h.1,aS h.2]
 case Wt=>simp only[bG,aS h]
 case Wx=>simp only[bG,aS h]
 case Yi=>rfl
 case Wn w b v x=>simp only[bG,h.1,aS h.2]
 case ext=>simp only[bG,aS h]
 case Im=>simp only[bG,ux h]
 case mp=>simp only[bG,ux h]
 case me=>simp only[bG,ux h]
 case call=>rfl
noncomputable def tQ(O:bI)(op:Op)(e:Env)(J:SK):Option (Env×SK) :=
 match op.CE with
 |none=>vn O op e J
 |some (g,want) =>
  match(get e g).bit with
  |some y=>if y=some want then vn O op e J else some (put op.dst (.dj []) e,J)
  |none=>none
theorem ja{O:bI}{op:Op}{r:List Op}:kK O (op::r) e J=(tQ O op e J).bind λx=>kK O r x.1 x.2:=by
 simp only[kK,tQ];cases op.CE with
 |none=>rfl
 |some x =>
  obtain⟨g,want⟩:=x;dsimp only;cases(get e g).bit<;>try rfl
  dsimp only;split<;>rfl
theorem Jq{dst:Option Nat}{d:D}:put dst d e=(dst.toList.map λt=>(t,d))++e:=by
 cases dst<;>rfl
theorem HP{O:bI}{op:Op}{e1:Env}{J1:SK}(h:vn O op e J=some (e1,J1)):
  ∃l:List (Nat×D),(∀p∈l,p.1∈op.defs)/\∀e',iY (op.DN++op.defs) e e'->vn O op e' J=some (l++e',J1):=by
 obtain⟨dst,CE,zZ,k⟩:=op;have hk:∀e',iY (Op.DN ⟨dst,CE,zZ,k⟩++Op.defs ⟨dst,CE,zZ,k⟩) e e'->iY k.tmps e e':=λe' ha=>ha.mono λt ht=>by simp[Op.DN,ht]
 have hdst:∀d:D,∀p∈dst.toList.map (λt=>(t,d)),p.1∈Op.defs ⟨dst,CE,zZ,k⟩:=by
  intro d p hp;simp only[bO]at hp;obtain⟨t,ht,rfl⟩:=hp;simp only[Op.defs,aZ];exact .inl ht
 have hplain:(∀e0,vn O ⟨dst,CE,zZ,k⟩ e0 J=(bG e0 J k).map λx=>(put dst x.1 e0,x.2)) ->
   ∃l:List (Nat×D),(∀p∈l,p.1∈Op.defs ⟨dst,CE,zZ,k⟩)/\∀e',iY (Op.DN ⟨dst,CE,zZ,k⟩++Op.defs ⟨dst,CE,zZ,k⟩) e e'->vn O ⟨dst,CE,zZ,k⟩ e' J=some (l++e',J1):=by
  intro hall;rw[hall]at h;simp only[ab,Prod.exists,aj]at h;obtain⟨d,J2,hs,rfl,rfl⟩:=h;refine⟨dst.toList.map λt=>(t,d),hdst d,λe' ha=>?_⟩;rw[hall,Pp (hk e' ha),hs];simp only[aQ,Jq]
 cases k
 case call kp f args =>
  simp only[vn]at h ⊢;split at h
  case h_2=>cases h
  rename_i d J2 hc;split at h
  case isFalse=>cases h
  rename_i hn;cases h;refine⟨dst.toList.map λt=>(t,d),hdst d,λe' ha=>?_⟩;have h1:=hk e' ha;simp only[K.tmps,iY.app]at h1;rw[aS h1.1,ux h1.2,hc];simp only[if_pos hn,Jq]
 case Ag nb cs =>
  simp only[vn]at h ⊢;split at h
  case h_2=>cases h
  rename_i v cs' J2 hnb;cases h;refine⟨[(v,.own (tT e v) cs')],by simp[Op.defs],λe' ha=>?_⟩;rw[show tT e' v=tT e v from by simp only[tT];rw[ha v (by simp[Op.defs])]];rfl
 case D6 x =>
  simp only[vn]at h ⊢;split at h
  case h_2=>cases h
  rename_i v cs' hc;cases h;refine⟨[(v,.own (tT e v) cs')],by simp[Op.defs],λe' ha=>?_⟩;have h1:=hk e' ha;simp only[K.tmps]at h1;rw[aS h1,hc];simp only[show tT e' v=tT e v from by simp only[tT];rw[ha v (by simp[Op.defs])]];rfl
 case G6 v nb sz a x =>
  simp only[vn]at h ⊢;split at h
  case h_2=>cases h
  rename_i s cs off p hin hp;split at h
  case isFalse=>cases h
  rename_i hc;split at h
  case h_2=>cases h
  rename_i p' J2 hnb;cases h;refine⟨[(v,.own s (cs.take off++p'++cs.drop (off+sz)))],by simp[Op.defs],λe' ha=>?_⟩;have h1:=hk e' ha;simp only[K.tmps,iY.app,iY.cons]at h1;rw[AM h1.1.1 h1.1.2.1,aS h1.2,hin,hp];simp only[if_pos hc,hnb];rfl
 all_goals exact hplain λe0=>rfl
theorem CL{O:bI}{op:Op}{e1:Env}{J1:SK}(h:tQ O op e J=some (e1,J1)):
  ∃l:List (Nat×D),(∀p∈l,p.1∈op.defs)/\∀e',iY (op.DN++op.defs) e e'->tQ O op e' J=some (l++e',J1):=by
 unfold tQ at h ⊢;cases hg:op.CE with
 |none=>rw[hg]at h;simp only at h ⊢;exact HP h
 |some x =>
  obtain⟨t,want⟩:=x;rw[hg]at h;simp only at h ⊢;split at h
  case h_2=>cases h
  rename_i b hb;have hgt:∀e',iY (op.DN++op.defs) e e'->(get e' t).bit=some b:=λe' ha=>by rw[ha t (by simp[Op.DN,hg]),hb]
  split at h
  .rename_i hw;obtain⟨l,h1,h2⟩:=HP h;refine⟨l,h1,λe' ha=>?_⟩;rw[hgt e' ha];simp only[if_pos hw];exact h2 e' ha
  .rename_i hw;cases h;refine⟨op.dst.toList.map λt=>(t,.dj []),λp hp=>?_,λe' ha=>?_⟩
   .simp only[bO]at hp;obtain⟨t,ht,rfl⟩:=hp;simp only[Op.defs,aZ];exact .inl ht
   .rw[hgt e' ha];simp only[if_neg hw,Jq]
theorem Ik{cs cs':List D}(h:jF [] cs J=some (cs',J')):J'=J:=by
 simp only[jF,ad,aj]at h;exact h.2.symm
theorem IA{d:D}{k:K}(h:bG e J k=some (d,J'))(hk:k.calm=true):J'=J:=K7 h hk
theorem HQ{O:bI}{op:Op}{e1:Env}{J1:SK}(h:vn O op e J=some (e1,J1))(hs:op.still=true):J1=J:=by
 obtain⟨dst,CE,zZ,k⟩:=op;simp only[Op.still,ae]at hs;obtain⟨hk,hn⟩:=hs;have hplain:(vn O ⟨dst,CE,zZ,k⟩ e J=(bG e J k).map λx=>(put dst x.1 e,x.2))->J1=J:=by
  intro hall;rw[hall]at h;simp only[ab,Prod.exists,aj]at h;obtain⟨d,J2,hs,rfl,rfl⟩:=h;exact IA hs hk
 cases k
 case call kp f args =>
  simp only[vn]at h;split at h
  case h_2=>cases h
  split at h
  case isFalse=>cases h
  rename_i hx;cases h;exact hx hn
 case Ag nb cs =>
  simp only[vn]at h;split at h
  case h_2=>cases h
  rename_i v cs' J2 hnb;cases h;simp only[K.calm,List.isEmpty_iff]at hk;subst hk;exact Ik hnb
 case D6 x =>
  simp only[vn]at h;split at h
  case h_2=>cases h
  cases h;rfl
 case G6 v nb sz a x =>
  simp only[vn]at h;split at h
  case h_2=>cases h
  split at h
  case isFalse=>cases h
  split at h
  case h_2=>cases h
  rename_i hnb;cases h;simp only[K.calm,List.isEmpty_iff]at hk;subst hk;exact Ik hnb
 all_goals exact hplain rfl
theorem CM{O:bI}{op:Op}{e1:Env}{J1:SK}(h:tQ O op e J=some (e1,J1))(hs:op.still=true):J1=J:=by
 unfold tQ at h;split at h
 .exact HQ h hs
 .split at h
  case h_2=>cases h
  split at h
  .exact HQ h hs
  .cases h;rfl
def EE(e e':Env):Prop:=∀t,get e' t=get e t
theorem EE.refl(e:Env):EE e e:=λ_=>rfl
theorem EE.trans{a b c:Env}(h:EE a b)(h':EE b c):EE a c:=λt=>(h' t).trans (h t)
theorem EE.agree(h:EE e e')(ts:List Nat):iY ts e e':=λt _=>h t
theorem Fz{l:List (Nat×D)}{t:Nat}:get (l++e) t=if t∈l.map (·.1)then get l t else get e t:=by
 induction l with
 |nil=>simp
 |cons p l ih =>
  obtain⟨k,v⟩:=p;simp only[fg,get];by_cases hk:k=t
  .simp[hk]
  .rw[if_neg hk,ih];simp only[aN,bw];by_cases ht:t∈l.map (·.1)
   .rw[if_pos ht,if_pos (.inr ht)];rw[if_neg hk]
   .rw[if_neg ht,if_neg (by intro h;rcases h with h | h;exact hk h.symm;exact ht h)]
theorem EE.app(h:EE e e')(l:List (Nat×D)):EE (l++e) (l++e'):=λt=>by
 simp only[Fz,h t]
theorem Ga{O:bI}:∀{xs:List Op} {e e' e1:Env} {J J1:SK},kK O xs e J=some (e1,J1)->EE e e'->∃e1',kK O xs e' J=some (e1',J1)/\EE e1 e1'
 |[],e,e',e1,J,J1,h,he=>by
  simp only[kK,ad,aj]at h;obtain⟨rfl,rfl⟩:=h;exact⟨e',rfl,he⟩
 |x::xs,e,e',e1,J,J1,h,he=>by
  rw[ja]at h;simp only[af,Prod.exists]at h;obtain⟨e2,J2,h1,h2⟩:=h;obtain⟨l,_,hl⟩:=CL h1;have h3:=hl e (EE.agree (.refl e) _);rw[h1]at h3;cases h3;obtain⟨e3,h4,h5⟩:=Ga h2 (he.app l);exact⟨e3,by rw[ja,hl e' (he.agree _)];exact h4,h5⟩
theorem Sk{d:D}{k:K}(h:bG e J k=some (d,J'))(hk:k.pure=true)(τ:SK):bG e τ k=some (d,τ):=by
 cases k<;>simp only[K.pure,K.calm,ar]at hk<;>simp only[bG,aM,reduceCtorEq]at h ⊢ <;> (repeat' split at h)<;>
  simp only[ab,af,ad,aj,Prod.exists,reduceCtorEq,exists_eq_left,and_false,exists_false]at h<;>(try split at h)<;>
  simp_all<;>(try (obtain⟨_,_,h⟩:=h;simp_all))<;>(try grind)
theorem Kb{O:bI}{op:Op}{e1:Env}{J1:SK}(h:vn O op e J=some (e1,J1))(hs:op.k.pure=true)(τ:SK):vn O op e τ=some (e1,τ):=by
 obtain⟨dst,CE,zZ,k⟩:=op;have hplain:(∀τ,vn O ⟨dst,CE,zZ,k⟩ e τ=(bG e τ k).map λx=>(put dst x.1 e,x.2))->vn O ⟨dst,CE,zZ,k⟩ e τ=some (e1,τ):=by
  intro hall;rw[hall]at h ⊢;simp only[ab,Prod.exists,aj]at h;obtain⟨d,J2,hs',rfl,rfl⟩:=h;rw[Sk hs' hs τ];rfl
 cases k
 case call kp f args=>simp[K.pure]at hs
 case Ag nb cs =>
  simp only[K.pure,K.calm,List.isEmpty_iff]at hs;subst hs;simp only[vn]at h ⊢;cases dst with
  |none=>cases h
  |some v=>simp only[jF,ad,aj]at h ⊢;exact⟨h.1,trivial⟩
 case D6 x =>
  simp only[vn]at h ⊢;cases dst with
  |none=>cases h
  |some v =>
   cases hx:(ba e x).cells with
   |none=>rw[hx]at h;cases h
   |some cs=>rw[hx]at h;simp only[ad,aj]at h ⊢;exact⟨h.1,trivial⟩
 case G6 v nb sz a x =>
  simp only[K.pure,K.calm,List.isEmpty_iff]at hs;subst hs;simp only[vn]at h ⊢;cases hin:rq e v a<;>rw[hin]at h<;>try (cases h;done)
  cases hx:(ba e x).cells<;>rw[hx]at h<;>try (cases h;done)
  simp only[jF]at h ⊢;split at h
  .rename_i hc;rw[if_pos hc];simp only[ad,aj]at h ⊢;exact⟨h.1,trivial⟩
  .cases h
 all_goals exact hplain fun τ=>rfl
theorem Bw{O:bI}{op:Op}{e1:Env}{J1:SK}(h:tQ O op e J=some (e1,J1))(hs:op.k.pure=true):∀τ,tQ O op e τ=some (e1,τ):=by
 intro τ;unfold tQ at h ⊢;cases hg:op.CE with
 |none=>rw[hg]at h;exact Kb h hs τ
 |some y =>
  obtain⟨g,want⟩:=y;rw[hg]at h;dsimp only at h ⊢;cases hb:(get e g).bit with
  |none=>rw[hb]at h;cases h
  |some b =>
   rw[hb]at h;dsimp only at h ⊢;split at h
   .rename_i hw;rw[if_pos hw];exact Kb h hs τ
   .rename_i hw;rw[if_neg hw];cases h;rfl
theorem zJ{a:List aI}{J:SK}{l:Nat}{s:List aI}(h:J.length=l):iu (a::J) l s=s::J:=by simp only[iu];rw[if_pos h]
theorem nf{a:List aI}{J:SK}{l:Nat}{s:List aI}(h:¬J.length=l):iu (a::J) l s=a::iu J l s:=by simp only[iu];rw[if_neg h]
theorem K6{J:SK}{l l':Nat}{s s':List aI}(h:l≠l'):iu (iu J l s) l' s'=iu (iu J l' s') l s:=by
 induction J with
 |nil=>rfl
 |cons a J ih =>
  by_cases h1:J.length=l
  .have h2:¬J.length=l':=by omega
   rw[zJ h1,nf h2,nf h2,zJ (by rw[eP];exact h1)]
  .by_cases h2:J.length=l'
   .rw[nf h1,zJ h2,zJ (by rw[eP];exact h2),nf h1]
   .rw[nf h1,nf h2,nf (by rw[eP];exact h2),nf (by rw[eP];exact h1),ih]
theorem tS{J:SK}{l l':Nat}{s:List aI}(h:l≠l'):eZ (iu J l s) l'=eZ J l':=by
 induction J with
 |nil=>rfl
 |cons a J ih =>
  simp only[iu];by_cases h1:J.length=l
  .rw[if_pos h1];simp only[eZ];rw[if_neg (by omega),if_neg (by omega)]
  .rw[if_neg h1];simp only[eZ,eP,ih]
theorem JD{J:SK}{l:Nat}{s s':List aI}:iu (iu J l s) l s'=iu J l s':=by
 induction J with
 |nil=>rfl
 |cons a J ih =>
  simp only[iu];by_cases h1:J.length=l
  .rw[if_pos h1,if_pos h1];simp only[iu];rw[if_pos h1]
  .rw[if_neg h1,if_neg h1];simp only[iu,eP];rw[if_neg h1,ih]
theorem K5{J:SK}{l i l' i':Nat}{b b':aI}(h:¬(l'=l/\i'=i)):aR (aR J l i b) l' i' b'=aR (aR J l' i' b') l i b:=by
 by_cases hl:l=l'
 .subst hl;have hi:i≠i':=λe=>h ⟨rfl,e.symm⟩
  unfold aR;cases hs:eZ J l with
  |none=>simp[hs]
  |some s =>
   simp only[sT (zH hs),JD];rw[List.set_comm _ _ hi]
 .unfold aR;cases hs:eZ J l with
  |none =>
   cases hs':eZ J l' with
   |none=>simp[hs,hs']
   |some s'=>simp only[tS (Ne.symm hl),hs]
  |some s =>
   cases hs':eZ J l' with
   |none=>simp only[tS hl,hs',hs]
   |some s' =>
    simp only[tS hl,tS (Ne.symm hl),hs,hs'];exact K6 hl
theorem zk{J:SK}{l i l' i' v:Nat}{b:aI}(h:¬(l'=l/\i'=i)):cells? (aR J l i b) l' i' v=cells? J l' i' v:=by
 unfold cells?;rw[dI h]
theorem Js{J:SK}{l i:Nat}{b:aI}{d:D}(h:D.off l i d=true):Eo (aR J l i b) d.strip=Eo J d.strip:=by
 cases d<;>try rfl
 simp only[D.off,ao]at h;simp only[D.strip,Eo,zk h]
theorem Bu{O:bI}{dst:Option Nat}{n ag:Bool}{sz m:Nat}{e1:Env}{J1:SK}(h:tQ O ⟨dst,none,n,.ld ag sz (.t m)⟩ e J=some (e1,J1)):
  J1=J/\∀τ,Eo τ (get e m).strip=Eo J (get e m).strip->tQ O ⟨dst,none,n,.ld ag sz (.t m)⟩ e τ=some (e1,τ):=by
 have hs:=CM h;simp only[tQ,vn,bG,ba]at h ⊢;refine⟨?_,fun τ hτ=>?_⟩
 .simp only[ab,Prod.exists,aj]at h;obtain⟨d,J2,h,_,rfl⟩:=h;exact IA (k:=.ld ag sz (.t m)) (e:=e) (d:=d) (by simpa only[bG,ba]using h) rfl
 .rw[hτ];cases hr:Eo J (get e m).strip with
  |none=>rw[hr]at h;cases h
  |some cs =>
   rw[hr]at h;dsimp only at h ⊢;split at h
   .rename_i hsz;rw[if_pos hsz];cases ag with
    |true=>simp at h ⊢;exact h.1
    |false =>
     simp only[ar,if_false]at h ⊢;cases cs with
     |nil=>cases h
     |cons d ds=>simp at h ⊢;exact h.1
   .cases h
theorem DE{O:bI}{dst:Option Nat}{n:Bool}{os:List Nat}{sz:Nat}{a x:bD}{e1:Env}{J1:SK}(h:tQ O ⟨dst,none,n,.Pv os sz a x⟩ e J=some (e1,J1)):
  ∃l i v off b,ba e a=.ref l i v off/\(∀m∈os,D.off l i (get e m)=true)/\J1=aR J l i b /\
   ∀τ,τ.length=J.length->cells? τ l i v=cells? J l i v->tQ O ⟨dst,none,n,.Pv os sz a x⟩ e τ=some (e1,aR τ l i b):=by
 simp only[tQ,vn,bG]at h ⊢;cases ha:ba e a<;>rw[ha]at h<;>try (cases h;done)
 rename_i l i v off;dsimp only at h ⊢;split at h
 case isFalse=>cases h
 rename_i hall;cases hc:cells? J l i v with
 |none=>rw[hc]at h;cases h
 |some cs =>
 rw[hc]at h;dsimp only at h;cases hp:(ba e x).cells with
 |none=>rw[hp]at h;cases h
 |some p =>
 rw[hp]at h;dsimp only at h;split at h
 case isFalse=>cases h
 rename_i hq;simp only[aQ,ad,aj]at h;refine⟨l,i,v,off,.cells v (cs.take off++p++cs.drop (off+sz)),rfl,λm hm=>gX.1 hall m hm,h.2.symm,fun τ hlen hτ=>?_⟩;simp only[hall,if_true,hτ,hc,hlen,if_pos hq,aQ,h.1]
theorem K2{O:bI}{dst:Option Nat}{n:Bool}{os:List Nat}{w b:Nat}{a x:bD}{e1:Env}{J1:SK}(h:tQ O ⟨dst,none,n,.Oy os w b a x⟩ e J=some (e1,J1)):
  ∃l i v cs,(∀m∈os,D.off l i (get e m)=true)/\J1=aR J l i (.cells (v+1) cs):=by
 simp only[tQ,vn,ab,Prod.exists,aj]at h;obtain⟨d,J2,h,_,rfl⟩:=h;simp only[bG]at h;split at h
 case h_2=>cases h
 rename_i l i v off n' w' ha;split at h
 case isFalse=>cases h
 rename_i hall;simp only[af]at h;obtain⟨⟨m,xs⟩,he,h⟩:=h;dsimp only at h;split at h
 case isFalse=>cases h
 rename_i hcl;simp only[IW,aM,he,Option.bind_some,ha]at h;split at h
 case h_2=>cases h
 split at h
 case isFalse=>cases h
 refine⟨l,i,?_⟩;split at h
 .cases h;exact⟨_,_,λm hm=>gX.1 hall m hm,rfl⟩
 .rw[show deep=15+1 from rfl,Ef hcl]at h;cases h;exact⟨_,_,λm hm=>gX.1 hall m hm,rfl⟩
theorem Ul{J:SK}{l i v:Nat}{cs:List D}{d:D}{c:List D}(h:PF (aR J l i (.cells (v+1) cs)) d=some c):PF J d=some c:=by
 unfold PF at h ⊢;split at h
 case h_2=>cases h
 rename_i l2 i2 off;simp only[Eo,ab]at h ⊢;obtain⟨a,h1,h2⟩:=h;refine⟨a,?_,h2⟩;by_cases hh:l2=l/\i2=i
 .obtain⟨rfl,rfl⟩:=hh;unfold cells? at h1;cases hb:dn J l2 i2 with
  |some b0=>rw[na hb]at h1;simp at h1
  |none =>
   have hn:dn (aR J l2 i2 (.cells (v+1) cs)) l2 i2=none:=by
    unfold dn at hb ⊢;unfold aR;cases hs:eZ J l2 with
    |none=>simp only[hs];rfl
    |some s =>
     simp only[hs,Option.bind_some]at hb;simp only[sT (zH hs),Option.bind_some];rw[List.getElem?_eq_none_iff]at hb ⊢;simpa using hb
   rw[hn]at h1;cases h1
 .rwa[zk hh]at h1
theorem R9{O:bI}{dst:Option Nat}{n ag:Bool}{sz m:Nat}{e1:Env}{J1:SK}(h:tQ O ⟨dst,none,n,.PD ag sz (.t m)⟩ e J=some (e1,J1)):
  J1=J/\∃c,PF J (get e m).strip=some c/\∀τ,PF τ (get e m).strip=some c->tQ O ⟨dst,none,n,.PD ag sz (.t m)⟩ e τ=some (e1,τ):=by
 simp only[tQ,vn,bG,ba]at h ⊢;cases hr:PF J (get e m).strip with
 |none=>rw[hr]at h;cases h
 |some cs =>
  rw[hr]at h;dsimp only at h ⊢;have hs:J1=J:=by
   split at h
   .cases ag with
    |true=>simp at h;exact h.2.symm
    |false=>cases cs<;>simp at h;exact h.2.symm
   .cases h
  refine⟨hs,cs,rfl,fun τ hτ=>?_⟩;rw[hτ];dsimp only;split at h
  .rename_i hsz;rw[if_pos hsz];cases ag with
   |true=>simp at h ⊢;exact h.1
   |false =>
    simp only[ar,if_false]at h ⊢;cases cs with
    |nil=>cases h
    |cons d ds=>simp at h ⊢;exact h.1
  .cases h
theorem Pd{J J':SK}{b:aI}{l i:Nat}(h:fJ J b=some (l,i,J')){d:D}{cs:List D}(hd:Eo J d=some cs):Eo J' d=some cs:=by
 cases d<;>try exact hd
 rename_i l' i' v off;simp only[Eo,ab]at hd ⊢;obtain⟨c,h1,h2⟩:=hd;refine⟨c,?_,h2⟩;unfold cells? at h1 ⊢;have hb:∃b0,dn J l' i'=some b0:=by
  cases hb:dn J l' i' with
  |none=>rw[hb]at h1;cases h1
  |some b0=>exact⟨b0,rfl⟩
 obtain⟨b0,hb⟩:=hb;have hne:¬(l'=l/\i'=i):=λhh=>by
  have:=(iW h).1;rw[hh.1,hh.2,this]at hb;cases hb
 rw[(iW h).2.2.1 l' i' hne];exact h1
theorem Wm{O:bI}{x y:Op}{e2:Env}{J2:SK}{r:List Op}(hf:x.adr y=true)
  (h:kK O (x::y::r) e J=some (e2,J2)):∃e2',kK O (y::x::r) e J=some (e2',J2)/\EE e2 e2':=by
 unfold Op.adr at hf;split at hf
 case h_2=>cases hf
 rename_i n v sz a X d n' off m;simp only[ao]at hf;obtain⟨rfl,hdv,hda,hdX⟩:=hf;rw[ja]at h;simp only[af,Prod.exists]at h;obtain⟨ex,Jx,h1,h2⟩:=h;rw[ja]at h2;simp only[af,Prod.exists]at h2;obtain⟨ey,Jy,h2,h3⟩:=h2;simp only[tQ,vn]at h1;cases hin:rq e m a with
 |none=>rw[hin]at h1;cases h1
 |some z =>
 obtain⟨s,cs,o⟩:=z;rw[hin]at h1;cases hX:(ba e X).cells with
 |none=>rw[hX]at h1;cases h1
 |some p =>
 rw[hX]at h1;dsimp only at h1;split at h1
 case isFalse=>cases h1
 rename_i hq;simp only[jF,ad,aj]at h1;obtain⟨rfl,rfl⟩:=h1;have hgv:∃cs',get e m=.own s cs':=by
  unfold rq at hin;cases hg:get e m<;>rw[hg]at hin<;>try (cases hin;done)
  rename_i s' cs';dsimp only at hin;split at hin
  .cases hin;exact⟨_,rfl⟩
  .split at hin
   .split at hin
    .cases hin;exact⟨_,rfl⟩
    .cases hin
   .cases hin
 obtain⟨cs',hgv⟩:=hgv;simp only[tQ,vn,bG,get,if_true,aQ,ad,aj]at h2;obtain⟨rfl,rfl⟩:=h2;have hne:get ((d,D.vr m s off)::e) m=get e m:=by simp[get,hdv]
 have hna:get ((d,D.vr m s off)::e) a=get e a:=by simp[get,hda]
 have hin':rq ((d,D.vr m s off)::e) m a=some (s,cs,o):=by rw[AM hne hna,hin]
 have hX':ba ((d,D.vr m s off)::e) X=ba e X:=aS λt ht=>by
  have:d≠t:=λhe=>hdX (he ▸ ht)
  simp[get,this]
 have heq:EE (put (some d) (D.vr m s off) ((m,.own s (cs.take o++p++cs.drop (o+sz)))::e)) ((m,.own s (cs.take o++p++cs.drop (o+sz)))::(d,D.vr m s off)::e):=by
  intro t;simp only[put,get];by_cases h1:d=t
  .have:¬m=t:=λe=>hdv (h1.trans e.symm)
   simp[h1,this]
  .simp[h1]
 obtain⟨e3,k1,k2⟩:=Ga h3 heq;refine⟨e3,?_,k2⟩;rw[ja];simp only[tQ,vn,bG,hgv,aQ,Option.bind_some];rw[ja];simp only[tQ,vn,put,hin',hX',hX,hq,and_self,if_true,jF,Option.bind_some];exact k1
theorem UI{O:bI}{x y:Op}{e2:Env}{J2:SK}{r:List Op}(hf:x.free y=true)
  (h:kK O (x::y::r) e J=some (e2,J2)):∃e2',kK O (y::x::r) e J=some (e2',J2)/\EE e2 e2':=by
 unfold Op.free at hf;rw[bW]at hf;rcases hf with hf | hf
 .exact Wm hf h
 simp only[ae,cG]at hf;obtain⟨hc,hf⟩:=hf;simp only[Op.U0,Bool.or_eq_false_iff,List.any_eq_false,List.contains_iff_mem,bW,not_or]at hc;obtain⟨c1,c2⟩:=hc;rw[ja]at h;simp only[af,Prod.exists]at h;obtain⟨ex,Jx,h1,h2⟩:=h;rw[ja]at h2;simp only[af,Prod.exists]at h2;obtain⟨ey,Jy,h2,h3⟩:=h2;obtain⟨lx,d1,hl1⟩:=CL h1;obtain⟨ly,d2,hl2⟩:=CL h2;have k1:=hl1 e (EE.agree (.refl e) _);rw[h1]at k1;cases k1;have k2:=hl2 _ (EE.agree (.refl _) _);rw[h2]at k2;cases k2;have ay:iY (y.DN++y.defs) (lx++e) e:=λt ht=>by
  rw[Fz,if_neg];intro hm;obtain⟨p,hp,rfl⟩:=bO.1 hm;have:=c1 _ (d1 p hp);simp only[aZ]at ht;rcases ht with ht | ht
  .exact this.2 (by simpa using ht)
  .exact this.1 (by simpa using ht)
 have ax:iY (x.DN++x.defs) e (ly++e):=λt ht=>by
  rw[Fz,if_neg];intro hm;obtain⟨p,hp,rfl⟩:=bO.1 hm;have hp':=d2 p hp;simp only[aZ]at ht;rcases ht with ht | ht
  .exact c2 _ ht (by simpa using hp')
  .exact(c1 _ ht).1 (by simpa using hp')
 have hy0:=hl2 e ay;have hx0:=hl1 (ly++e) ax;obtain⟨Jm,hy1,hx1⟩:∃Jm,tQ O y e J=some (ly++e,Jm)/\tQ O x (ly++e) Jm=some (lx++(ly++e),Jy):=by
  simp only[bW,ae]at hf;rcases hf with((⟨hx,hy⟩ | hx) | hy) | hfar
  .obtain rfl:=CM h1 hx;obtain rfl:=CM h2 hy;exact⟨_,hy0,hx0⟩
  .have e1:=Bw h1 hx J;rw[h1]at e1;cases e1;exact⟨Jy,hy0,Bw hx0 hx Jy⟩
  .have e2:=Bw h2 hy Jx;rw[h2]at e2;cases e2;exact⟨J,Bw hy0 hy J,hx0⟩
  .unfold Op.U5 at hfar;obtain⟨dx,gx,nx,kx⟩:=x;obtain⟨dy,gy,ny,ky⟩:=y;simp only[ae,Option.isNone_iff_eq_none]at hfar;obtain⟨⟨rfl,rfl⟩,hfar⟩:=hfar;split at hfar
   .rename_i os sz a X ag sz' m;have hm:m∈os:=by simpa using hfar
    obtain⟨l,i,v,off,b,_,hoff,rfl,_⟩:=DE h1;obtain⟨rfl,hall⟩:=Bu hy0;exact⟨J,hall J (Js (hoff m hm)).symm,hx0⟩
   .rename_i ag sz' m os sz a X;have hm:m∈os:=by simpa using hfar
    obtain⟨rfl,_⟩:=Bu h1;obtain⟨l,i,v,off,b,_,hoff,rfl,_⟩:=DE hy0;obtain⟨_,hall⟩:=Bu hx0;refine⟨_,hy0,hall _ ?_⟩;have hg:get (ly++e) m=get e m:=ax m (by simp[Op.DN,K.tmps,bD.tmps]);rw[hg];exact Js (hoff m hm)
   .rename_i os sz a X os' sz' m X';have hm:m∈os:=by simpa using hfar
    obtain⟨l,i,v,off,b,_,hoff,rfl,hall⟩:=DE hx0;obtain⟨l',i',v',off',b',hr,hoff',rfl,hall'⟩:=DE hy0;have hg:get (ly++e) m=get e m:=ax m (by simp[Op.DN,K.tmps,hm]);have h4:=hoff m hm;rw[hg]at h4;have h5:get e m=.ref l' i' v' off':=by
     simp only[ba]at hr;cases hgm:get e m<;>rw[hgm]at hr<;>simp only[D.strip,reduceCtorEq]at hr;exact hr
    rw[h5]at h4;simp only[D.off,ao]at h4;refine⟨aR J l' i' b',hall' J dD.symm (zk h4).symm,?_⟩;rw[K5 h4];exact hall _ dD (zk λhh=>h4 ⟨hh.1.symm,hh.2.symm⟩)
   .rename_i os wd bt a X ag sz' m;have hm:m∈os:=by simpa using hfar
    obtain⟨l,i,b,bc,hoff,rfl⟩:=K2 h1;obtain⟨rfl,hall⟩:=Bu hy0;exact⟨J,hall J (Js (hoff m hm)).symm,hx0⟩
   .rename_i ag sz' m cs;obtain⟨rfl,_⟩:=Bu h1;obtain⟨_,hall⟩:=Bu hx0;refine⟨_,hy0,hall _ ?_⟩;have hg:get (ly++e) m=get e m:=ax m (by simp[Op.DN,K.tmps,bD.tmps]);rw[hg];have hrd:∃c,Eo Jx (get e m).strip=some c:=by
     simp only[tQ,vn,bG,ba]at h1;cases hr:Eo Jx (get e m).strip with
     |none=>rw[hr]at h1;simp at h1
     |some c=>exact⟨c,rfl⟩
    obtain⟨c,hrd⟩:=hrd;have hn:∃l i,fJ Jx (.cells 0 cs)=some (l,i,Jy):=by
     simp only[tQ,vn,bG,jF,aM,Option.bind_some,ab,af,Prod.exists,aj]at hy0;obtain⟨d0,J0,⟨l,i,J3,h1,h2⟩,_,h3⟩:=hy0;cases h2;cases h3;exact⟨l,i,h1⟩
    obtain⟨l,i,hn⟩:=hn;rw[hrd,Pd hn hrd]
   .rename_i os wd bt a X ag sz' m;obtain⟨l,i,b,bc,hoff,rfl⟩:=K2 h1;obtain⟨rfl,c,hc,hall⟩:=R9 hy0;exact⟨J,hall J (Ul hc),hx0⟩
   .cases hfar
 have heq:EE (ly++(lx++e)) (lx++(ly++e)):=λt=>by
  simp only[Fz];by_cases m1:t∈lx.map (·.1)
  .by_cases m2:t∈ly.map (·.1)
   .obtain⟨p,hp,rfl⟩:=bO.1 m1;obtain⟨q,hq,he⟩:=bO.1 m2;have:=(c1 _ (d1 p hp)).1;have hq':=d2 q hq;rw[he]at hq';exact absurd hq' (by simpa using this)
   .rw[if_pos m1,if_neg m2,if_pos m1]
  .by_cases m2:t∈ly.map (·.1)
   .rw[if_neg m1,if_pos m2,if_pos m2]
   .rw[if_neg m1,if_neg m2,if_neg m2,if_neg m1]
 obtain⟨e3,k3,k4⟩:=Ga h3 heq;refine⟨e3,?_,k4⟩;rw[ja,hy1];simp only[Option.bind_some];rw[ja,hx1];exact k3
theorem Kx{O:bI}{y:Op}{r:List Op}:∀{pre:List Op} {e e2:Env} {J J2:SK},(∀x∈pre,x.free y=true) ->
  kK O (pre++y::r) e J=some (e2,J2)->∃e2',kK O (y::(pre++r)) e J=some (e2',J2)/\EE e2 e2'
 |[],e,e2,J,J2,hp,h=>⟨e2,h,.refl _⟩
 |x::pre,e,e2,J,J2,hp,h=>by
  simp only[fg]at h;rw[ja]at h;simp only[af,Prod.exists]at h;obtain⟨e1,J1,h1,h2⟩:=h;obtain⟨e3,h3,h4⟩:=Kx (λz hz=>hp z (by simp[hz])) h2;have h5:kK O (x::y::(pre++r)) e J=some (e3,J2):=by rw[ja,h1];exact h3
  obtain⟨e4,h6,h7⟩:=UI (hp x (by simp)) h5;exact⟨e4,h6,h4.trans h7⟩
theorem Ju{live:List Nat}(h:EE e e'):restrict live e'=restrict live e:=by
 simp only[restrict];exact List.map_congr_left λt _=>by rw[h t]
end Go.az
