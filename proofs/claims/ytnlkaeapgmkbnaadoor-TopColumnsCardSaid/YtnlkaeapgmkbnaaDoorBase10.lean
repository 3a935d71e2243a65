import Derived.Test.YtnlkaeapgmkbnaaDoorBase9
import Derived.Recover
set_option linter.all false
namespace Go.Abs
open Go
def ko(P:Program)(CR:cm)(f:Nat)(args:List D)(σ:SK)(d:D)(σ':SK):Prop :=
 (∃F c,P.funcs[f]?=some F∧F.name ≠ "runtime.NumGoroutine" ∧ F.body=some c) ∧
 ∀base g w vs,Inv CR base g σ w→gu σ→0<σ.length→aH g args vs.toList →
  ct σ σ'∧Calls P f vs w (fun e w'=>∃v g',e=.returned v∧Ev g w g' w'∧Inv CR base g' σ' w'∧aI g' d v)
def zq(P:Program)(CR:cm)(f:Nat)(args:List D)(σ:SK)(d:D)(σ':SK):Prop :=
 d.clean=true∧(∃F c,P.funcs[f]?=some F∧F.name ≠ "runtime.NumGoroutine" ∧ F.body=some c) ∧
 ∀base g w vs,Inv CR base g σ w→gu σ→0<σ.length→aH g args vs.toList →
  ct σ σ'∧Calls P f vs w (fun e w'=>∃v g',e=.panicked [{v,recovered:=false }]∧Ev g w g' w'∧Inv CR base g' σ' w'∧aI g' d v)
def uW(g:G):Option D→FrameMode→Prop
 |none,u=>u=.returning
 |some d,u=>∃v,aI g d v∧u=.panicking [{v,recovered:=false }]
def zm(P:Program)(CR:cm)(f:Nat)(args:List D)(th:Option D)(σ σ':SK):Prop :=
 (∃F c,P.funcs[f]?=some F∧F.name ≠ "runtime.NumGoroutine" ∧ F.body=some c) ∧
 ∀base g w vs u,Inv CR base g σ w→gu σ→0<σ.length→aH g args vs.toList→uW g th u →
  ct σ σ'∧CallsD P f vs u w (fun e u' w'=>∃v g',e=.returned v∧settle u'=.returning∧Ev g w g' w'∧Inv CR base g' σ' w')
def u7(P:Program)(CR:cm)(l i:Nat)(args:List D)(σ:SK)(d:D)(σ':SK):Prop :=
 (∃lp,bS σ l i=some (.loop lp))∧∀base g w vs b,Inv CR base g σ w→gu σ→0<σ.length→aH g args vs.toList→aI g (.fJ l i) (.func (.yield b) #[] #[]) →
  ct σ σ'∧∃f tmps lK body,(Instr.yield b vs).run P w=.ok (.round b f tmps lK body) w ∧
   ∀c cs,∃v g' w',Steps P (lone (Frame.round b f tmps lK body .normal) (c::cs) w) (lone (c.finish v) cs w')∧Ev g w g' w'∧Inv CR base g' σ' w'∧aI g' d v
def lC(k:List Item):Exit→List Item→Prop
 |.normal,t=>t=k
 |.exit id,t=>∃k',t=.code (.exit id)::k'∧exitTo id k'=exitTo id k
 |.ret,t=>∃k',t=.code .ret::k'
 |.eO _,_=>True
def jy(S:Frame→Prop)(g:G)(b:Frame)(a:Act)(todo:List Item):Exit→Prop
 |.eO d=>d.clean=true∧∃v,aI g d v∧S {b.atR a todo with mode:=.panicking [{v,recovered:=false }] }
 |_=>S (b.atR a todo)
theorem jy.imp{S S':Frame→Prop}{g:G}{b:Frame}{a:Act}{todo:List Item}{x:Exit}(h:jy S g b a todo x)(hs:∀fr,S fr→S' fr):jy S' g b a todo x:=by
 cases x with
 |eO d=>obtain⟨h0,v,h1,h2⟩:=h;exact⟨h0,v,h1,hs _ h2⟩
 |_=>exact hs _ h
def EY(P:Program)(CR:cm)(c:bC)(e:Env)(σ:SK)(x:Exit)(e':Env)(σ':SK):Prop :=
 x ≠ .normal∧∀(ann:jq) aR code n,aP P ann n aR code=some c→∀base g0 w0 b a k cs g w B,At CR base ann.bH g0 w0 n b g w B e σ a →
  ∃g' w' B' a' todo,jy (fun fr=>Steps P (lone (b.atR a (.code code::.inLoop code::k)) cs w) (lone fr cs w')) g' b a' todo x ∧
   At CR base ann.bH g0 w0 n b g' w' B' e' σ' a'∧g.le g'∧lC k x todo∧ct σ σ'
def wS(P:Program)(ann:jq)(n aR:Nat)(rest:bC):Option Code→Prop
 |none=>rest=.dY
 |some q=>aP P ann n aR q=some rest
def zp(P:Program)(CR:cm)(live:List Nat)(it:aM)(nx ok bid:Nat)(c rest:bC)(e:Env)(σ:SK)(x:Exit)(e':Env)(σ':SK):Prop :=
 ∀(ann:jq) aR rid ops p n it0 (qs:Option Code),it=.t it0→uF ann n (.loop (.seq (.region rid ops false) p))=some (it0,nx,ok)→aP P ann n bid p=some c→wS P ann n aR rest qs →
  ∀base g0 w0 b a k cs g w B,At CR base ann.bH g0 w0 n b g w B e σ a →
  ∃g' w' B' a' todo,jy (fun fr=>Steps P (lone (b.atR a (.code (.seq (.region rid ops false) p)::.inLoop (.seq (.region rid ops false) p)::.inBlock bid::(qs.toList.map Item.code++k))) cs w) (lone fr cs w')) g' b a' todo x ∧
   At CR base ann.bH g0 w0 n b g' w' B' e' σ' a'∧g.le g'∧lC k x todo∧ct σ σ'
def oh(P:Program)(CR:cm):Q→R→Prop
 |.call _ f args σ,.val d σ'=>ko P CR f args σ d σ'
 |.round l i args σ,.val d σ'=>u7 P CR l i args σ d σ'
 |.loop _ _ c e σ,.mF x e' σ'=>EY P CR c e σ x e' σ'
 |.call _ f args σ,.eO d σ'=>zq P CR f args σ d σ'
 |.cU live it nx ok bid c rest e σ,.mF x e' σ'=>zp P CR live it nx ok bid c rest e σ x e' σ'
 |.pz f args th σ,.val _ σ'=>zm P CR f args th σ σ'
 |_,_=>True
def kJ(P:Program)(CR:cm)(O:aN):Prop:=∀q r,O q=some r→oh P CR q r
theorem og{r:Option R}{d:D}{σ:SK}(h:R.mE r=some (d,σ)):r=some (.val d σ):=by
 unfold R.mE at h;split at h
 ·cases h;rfl
 ·cases h
theorem rn{r:Option R}{x:Exit}{e:Env}{σ:SK}(h:R.vR r=some (x,e,σ)):r=some (.mF x e σ):=by
 unfold R.vR at h;split at h
 ·cases h;rfl
 ·cases h
section
variable {P:Program} {CR:cm} {O:aN} {ann:jq} {n b7:Nat} {ops:Array Oper} {base:Nat} {g0 g:G} {w0 w:World} {b:Frame} {B:Nat→Nat} {e e':Env} {σ σ':SK} {a:Act}
 {k:List Item} {cs:List Frame} {i:Nat} {rest:List Nat}
def tc(P:Program)(CR:cm)(ann:jq)(n:Nat)(ops:Array Oper)(base:Nat)(g0:G)(w0:World)(b:Frame)(g:G)(w:World)(a:Act)(k:List Item)(cs:List Frame)(i:Nat)(rest:List Nat)(σ:SK)(e':Env)(σ':SK):Prop :=
 ∃g' w' B' a',Steps P (lone (b.atR a (.inRegion ops (i::rest)::k)) cs w) (lone (b.atR a' (.inRegion ops rest::k)) cs w') ∧
  At CR base ann.bH g0 w0 n b g' w' B' e' σ' a'∧g.le g'∧ct σ σ'
theorem At.go{V:List Nat}(ha:At CR base V g0 w0 n b g w B e σ a){g':G}{w':World}{B':Nat→Nat}{tm:Act}(he:Ev g w g' w')(hi:Inv CR base g' σ' w')(hg:ct σ σ')
  (hf:Fr w0.heap.size V g' w' B' e' tm.tmps) (hs:tm.tmps.size=a.tmps.size) (hd:tm.defers=a.defers):At CR base V g0 w0 n b g' w' B' e' σ' tm where
 fr:=hf
 ev:=ha.ev.trans he
 inv:=hi
 low:=hg.low ha.low
 pos:=by rw[hg.len];exact ha.pos
 size:=by rw[hs];exact ha.size
 marks:=let ⟨rs,h⟩:=ha.marks;⟨rs,by rw[hd];exact h.ev he⟩
 round:=jb ha.round he.le
theorem l6{dst:Option Nat}{c:Value}:(a.put dst c).tmps.size=a.tmps.size:=by cases dst<;>simp[Act.put]
theorem put_defers{dst:Option Nat}{c:Value}:(a.put dst c).defers=a.defers:=by cases dst<;>simp[Act.put]
theorem tL{ann:jq}{key:Nat}{o:Oper}{kk:K}(h:kC P ann ops key o=some kk):∀c,o.op ≠ .defer c:=by
 intro c hc;unfold kC at h;rw[hc]at h;cases h
theorem ll(ha:At CR base ann.bH g0 w0 n b g w B e σ a){o:Oper}(ho:ops[i]?=some o)(hn:∀t,o.dst=some t→t<n)(hV:∀t,o.dst=some t→t ∉ ann.bH)
  {g':G} {w':World} {d:D} {c:Value} (hsteps:Steps P (lone (b.atR a (.inRegion ops (i::rest)::k)) cs w) (lone (b.atR (a.put o.dst c) (.inRegion ops rest::k)) cs w'))
  (he:Ev g w g' w') (hi:Inv CR base g' σ' w') (hg:ct σ σ') (hr:a8 g' B e d c):
  tc P CR ann n ops base g0 w0 b g w a k cs i rest σ (put o.dst d e) σ':=by
 refine⟨g',w',B,a.put o.dst c,hsteps,ha.go he hi hg ?_ l6 put_defers,he.le,hg⟩;exact(ha.fr.ev he).put hr hV fun t ht=>by rw[ha.size];exact hn t ht
theorem dF{ρ:Operand→Value}{f:Operand}{args:Array Operand}{ts:Array TypeId}{ty:TypeId}{fn:Go.Fn}{first cap:Array Value}(hf:ρ f=.func fn first cap)(w:World):
  (resolve ρ {callee:=.value f,args,argTypes:=ts } ty).run P w=.ok {target:=.fn fn cap,args:=first++args.map ρ } w:=by
 simp[resolve,Deferred.ofValue,hf]
theorem jC{f:FuncId}{args:Array Value}{F:Func}(h1:P.funcs[f]?=some F)(h2:F.name ≠ "runtime.NumGoroutine"){c:Code}(h3:F.body=some c)(w:World):
  (callFunc f args).run P w=.ok (.enter f args) w:=by
 simp[callFunc,program,Sem.run,h1,h2,h3]
theorem nD{xs:Array Operand}{Xs:List aM}{fb:Nat}{V:List Nat}{tmps:Array Value}{df:List Deferred}(hf:Fr fb V g w B e tmps)(hx:jv xs.toList=some Xs):
  aH g (Xs.map (Abs.aC e)) (xs.map (Act.mk tmps df).eval).toList:=by
 have:=hf.GA (df:=df) hx;simpa using this
theorem vf(hO:kJ P CR O)(ha:At CR base ann.bH g0 w0 n b g w B e σ a){o:Oper}(ho:ops[i]?=some o)(hw:Region.wanted o (yielded ops a.tmps)=true)
  (hn:∀t,o.dst=some t→t<n) (hV:∀t,o.dst=some t→t ∉ ann.bH) {f:Operand} {args:Array Operand} {ts:Array TypeId} (hop:o.op=.call {callee:=.value f,args,argTypes:=ts })
  {F:aM} {Xs:List aM} (hF:aF f=some F) (hX:jv args.toList=some Xs) {kp:Bool} {d:D} (h:jL O kp (aC e F) (Xs.map (aC e)) σ=some (d,σ')):
  tc P CR ann n ops base g0 w0 b g w a k cs i rest σ (put o.dst d e) σ':=by
 obtain⟨tmps,df⟩:=a;have hd:∀c,o.op ≠ .defer c:=by intro c hc;rw[hop]at hc;cases hc
 have hfv:=ha.fr.aC (df:=df) hF;have hxs:=nD (df:=df) ha.fr hX;unfold jL at h;split at h
 ·rename_i fi first cap hfe
  rw[hfe]at hfv;have hans:=hO _ _ (og h);obtain⟨⟨Fn,cd,hfn1,hfn2,hfn3⟩,hcall⟩:=hans;generalize hev:(Act.mk tmps df).eval f=fv at hfv;cases hfv with
  |fn _ _ _ first' cap' r1 r2 =>
   have hrun:(execOp (Act.mk tmps df).eval o).run P w=.ok (.enter fi (first'++args.map (Act.mk tmps df).eval++cap')) w:=by
    simp only[execOp,hop,Sem.run_bind,dF hev,Result.andThen_ok,invoke,jC hfn1 hfn2 hfn3]
   have hargs:aH g (first++Xs.map (aC e)++cap) (first'++args.map (Act.mk tmps df).eval++cap').toList:=by
    simpa using(r1.append hxs).append r2
   obtain⟨hgo,hcalls⟩:=hcall base g w _ ha.inv ha.low ha.pos hargs;obtain⟨en,w',fr,⟨v,g',rfl,he,hi,hr⟩,hcomes,hfr,hleave⟩:=hcalls (b.atR ⟨tmps,df⟩ (.inRegion ops (i::rest)::k)::cs);refine ll ha ho hn hV (Steps.head (pY ho hw hd hrun) (Steps.trans hcomes (Steps.one ?_))) he hi hgo (a8.of hr);rw[step_leave_returned hleave,mf ho]
 ·rename_i l j hfe;rw[hfe]at hfv;have hans:=hO _ _ (og h);generalize hev:(Act.mk tmps df).eval f=fv at hfv;have hfv0:=hfv;cases hfv with
  |wc _ _ bb r1 =>
   obtain⟨⟨lp,hlp⟩,_⟩:=hans;obtain⟨b0,hb0,hrel⟩:=ha.inv.jZ _ _ _ r1;rw[hlp]at hb0;cases hb0;exact hrel.elim
  |zh _ _ bb L r1 r2 =>
   obtain⟨⟨lp,hlp⟩,_⟩:=hans;obtain⟨b0,hb0,hrel⟩:=ha.inv.jZ _ _ _ r1;rw[hlp]at hb0;cases hb0;rcases r2 with rfl | rfl<;>exact hrel.elim
  |wE _ _ bb L r1 r2 =>
   obtain⟨⟨lp,hlp⟩,_⟩:=hans;obtain⟨b0,hb0,hrel⟩:=ha.inv.jZ _ _ _ r1;rw[hlp]at hb0;cases hb0;rcases r2 with⟨c,rfl⟩ | rfl<;>exact hrel.elim
  |fJ _ _ bb r1 =>
   obtain⟨hgo,f0,tm0,lK,body,hy,hround⟩:=hans.2 base g w (args.map (Act.mk tmps df).eval) bb ha.inv ha.low ha.pos (by simpa using hxs) hfv0;have hrun:(execOp (Act.mk tmps df).eval o).run P w=.ok (.round bb f0 tm0 lK body) w:=by
    simp only[execOp,hop,Sem.run_bind,dF hev,Result.andThen_ok,invoke];simpa using hy
   obtain⟨v,g',w',hsteps,he,hi,hr⟩:=hround (b.atR ⟨tmps,df⟩ (.inRegion ops (i::rest)::k)) cs;refine ll ha ho hn hV (Steps.head (uS ho hw hd hrun) ?_) he hi hgo (a8.of hr);rw[mf ho]at hsteps;exact hsteps
 ·cases h
end
section
variable {P:Program} {CR:cm} {O:aN} {ann:jq} {n b7:Nat} {ops:Array Oper} {base:Nat} {g0 g:G} {w0 w:World} {b:Frame} {B:Nat→Nat} {e e':Env} {σ σ':SK} {a:Act}
 {k:List Item} {cs:List Frame} {i:Nat} {rest:List Nat}
theorem yE(ha:At CR base ann.bH g0 w0 n b g w B e σ a){o:Oper}(ho:ops[i]?=some o)(hw:Region.wanted o (yielded ops a.tmps)=true)(hd:∀c,o.op ≠ .defer c)
  {v:Nat} (hdst:o.dst=some v) (hV:v∈ann.bH) (hn:v<n) {g1:G} {ds:List D} {ca:Array Value} {el:TypeId}
  (hrun:(execOp a.eval o).run P w=.ok (.value (.pointer (some ⟨w.heap.size,0,none⟩))) (w.alloc (.cells ca el)))
  (i1:Inv CR base g1 σ' w) (e1:Ev g w g1 w) (hg:ct σ σ') (hr:aH g1 ds ca.toList) (h1:∀x∈ca.toList,x.oneCell'=true):
  tc P CR ann n ops base g0 w0 b g w a k cs i rest σ ((v,.own (iT e v) ds)::e) σ':=by
 obtain⟨tmps,df⟩:=a;have i2:=i1.alloc (.cells ca el);have e2:=e1.trans (Ev.alloc g1 w (.cells ca el));have hsteps:=jX (P:=P) (b:=b) (a:=⟨tmps,df⟩) (k:=k) (cs:=cs) (rest:=rest) ho hw hd hrun rfl;rw[hdst]at hsteps;have hsz:v<tmps.size:=by have:=ha.size;simp only at this;omega
 refine⟨g1,_,_,_,.one hsteps,ha.go e2 i2 hg ((ha.fr.ev e2).GF hV hsz ⟨ha.ev.size,fun hb=>?_,fun o=>?_,ca,el,ic,hr,h1⟩ fun t s cs' ht=>?_) l6 put_defers,e2.le,hg⟩
 ·exact Nat.lt_irrefl _ (i1.ya hb)
 ·cases hh:g1.fp w.heap.size o with
  |none=>rfl
  |some x=>exact absurd (i1.di hh) (Nat.lt_irrefl _)
 ·have:=(ha.fr.own t s cs' ht).2.2.lt;omega
theorem Hn(ha:At CR base ann.bH g0 w0 n b g w B e σ a){o:Oper}(ho:ops[i]?=some o)(hw:Region.wanted o (yielded ops a.tmps)=true)
  (hn:∀t,o.dst=some t→t<n) (hV:∀t,o.dst=some t→t ∉ ann.bH) {t:TypeId} {x v:Nat} {y:Operand} {Y:aM} (hop:o.op=.store t (.tmp x) y) (hy:aF y=some Y) {sz:Nat} (hsz:bx P t=some sz)
  {s off:Nat} {cv p p':List D} {nb:List (Nat×Nat)} (hin:gK e v x=some (s,cv,off)) (hp:(aC e Y).cells=some p) (hlen:p.length=sz∧off+sz≤cv.length)
  (hnb:dJ nb p σ=some (p',σ')) (hdst:o.dst=none):
  tc P CR ann n ops base g0 w0 b g w a k cs i rest σ ((v,.own s (cv.take off++p'++cv.drop (off+sz)))::e) σ':=by
 obtain⟨tmps,df⟩:=a;have hd:∀c,o.op ≠ .defer c:=by intro c hc;rw[hop]at hc;cases hc
 obtain⟨hgv,hpx⟩:=ha.fr.gK hin;obtain⟨hvV,hptr,hob⟩:=ha.fr.own v s cv hgv;obtain⟨ca,el,hheap,hrl,h1c⟩:=hob.aR;obtain⟨hrp,h1p⟩:=(ha.fr.aC (df:=df) hy).cells hp;obtain⟨g1,i1,e1,r1⟩:=jS nb _ _ _ _ g _ hnb ha.inv hrp;obtain⟨_,hp'len,_⟩:=lq nb _ _ _ _ hnb;have hpl:((Act.mk tmps df).eval y).cells.toList.length=sz:=by rw[← r1.length,hp'len];exact hlen.1
 have hpl':((Act.mk tmps df).eval y).cells.size=sz:=by simpa using hpl
 have hcl:ca.size=cv.length:=by have:=hrl.length;simpa using this.symm
 obtain⟨w',c',hrun,hb',hs',hc',hother,hsize,ho1,ho2,ho3⟩:=nG (P:=P) (t:=t) (w:=w) (b:=B v) (o:=off) (v:=(Act.mk tmps df).eval y) hsz (by simpa using hpl) h1p hheap (by omega);have hob1:=hob.ev e1;have hcv:(Act.mk tmps df).eval (.tmp x)=.pointer (some ⟨B v,off,none⟩):=hpx;have hrunO:(execOp (Act.mk tmps df).eval o).run P w=.ok .skip w':=by
  simp[execOp,hop,Instr.storeAt,hcv,Instr.sureAddr,hrun]
 have hoth:∀b',b'≠B v→w'.heap[b']?=w.heap[b']?:=hother;have i2:Inv CR base g1 σ' w':=i1.oT (fun b' hb'' hk=>hoth b' fun hh=>by
  subst hh;rcases hk with hk | ⟨o2,v2,hk⟩
  ·exact hob1.free hk
  ·rw[hob1.gL]at hk;cases hk) (by omega)
 have hwrite:aH g1 (cv.take off++p'++cv.drop (off+sz)) c'.toList∧∀z∈c'.toList,z.oneCell'=true:=by
  have hrow:=rM (c:=ca) (c':=c') (bo:=0) (off:=off) (vs:=ca.toList) (ps:=((Act.mk tmps df).eval y).cells.toList) (fun j z hz=>⟨by simpa using hz,h1c z (av hz)⟩) h1p (by simp;omega)
   (by rw[hpl];simpa using hc')
  rw[hpl]at hrow;have hrel:=(((hrl.mono e1.le).take off).append r1).append ((hrl.mono e1.le).drop (off+sz));have heq:c'.toList=ca.toList.take off++((Act.mk tmps df).eval y).cells.toList++ca.toList.drop (off+sz):=by
   have hll:(ca.toList.take off++((Act.mk tmps df).eval y).cells.toList++ca.toList.drop (off+sz)).length=c'.toList.length:=by
    simp only[cr,hpl,nK,List.length_drop,Array.length_toList,hs'];omega
   apply eA;intro j;by_cases hj:j<c'.toList.length
   ·have hj2:=hj;rw[← hll]at hj2;have:=(hrow j _ (aW hj2)).1;rw[aW hj2];simpa using this
   ·rw[bQ (by omega),bQ (by omega)]
  rw[heq];refine⟨hrel,fun z hz=>?_⟩;simp only[a7]at hz;rcases hz with(hz | hz) | hz
  ·exact h1c z (bJ hz)
  ·exact h1p z hz
  ·exact h1c z (bI hz)
 have hob2:qh w0.heap.size g1 w' (B v) (cv.take off++p'++cv.drop (off+sz)):=⟨hob1.lo,hob1.free,hob1.gL,c',el,hb',hwrite.1,hwrite.2⟩;have hsteps:=jX (P:=P) (b:=b) (a:=⟨tmps,df⟩) (k:=k) (cs:=cs) (rest:=rest) ho hw hd hrunO rfl;rw[hdst]at hsteps;have hgo:=hZ _ _ _ _ _ hnb;refine⟨g1,w',B,⟨tmps,df⟩,.one hsteps,⟨?_,?_,i2,hgo.low ha.low,by rw[hgo.len];exact ha.pos,ha.size,?_,jb ha.round e1.le⟩,e1.le,hgo⟩
 ·exact(ha.fr.ev e1).uN hgv hob2 fun b' _ hne=>hoth b' hne
 ·have h0:=ha.ev.trans e1;refine⟨h0.le,ho1.trans h0.os,ho2.trans h0.tape,ho3.trans h0.output,by have:=h0.size;omega,fun b' hb'' hnb'=>?_,h0.wF,h0.q4⟩;rw[hoth b' (by have:=hob.lo;omega)];exact h0.kept b' hb'' hnb'
 ·obtain⟨rs,hm⟩:=ha.marks;have hm1:=hm.ev e1;refine⟨rs,hm1.eq,hm1.nodup,fun r hr=>?_⟩;have hmr:=hm1.all r hr;refine⟨hmr.lo,hmr.free,hmr.gL,?_⟩;rw[hoth r,hmr.aR];intro hh;subst hh;have:=hmr.aR;rw[hheap]at this;cases this
def NX(P:Program)(ann:jq)(o:Oper)(kk:K):Prop :=
  match kk with
  |.call _ F Xs=>∃f args ts,o.op=.call {callee:=.value f,args,argTypes:=ts }∧aF f=some F∧jv args.toList=some Xs
  |.ft _ z=>∃el v,o.op=.alloc el∧gM P el=some z∧o.dst=some v∧v∈ann.bH
  |.pq X=>∃t x v,o.op=.box t x∧aF x=some X∧o.dst=some v∧v∈ann.bH
  |.q9 _ _ sz x Y=>∃t y,o.op=.store t (.tmp x) y∧aF y=some Y∧bx P t=some sz
  |.z6 X=>∃y,o.op=.panic y∧aF y=some X
  |.vy=>∃args ts,o.op=.call {callee:=.builtin .recover,args,argTypes:=ts }
  |_=>True
theorem uB{X Y:aM}{t:TypeId}{bo:BinOp}{kk:K}{o:Oper}(hk:Fh P bo t X Y=some kk):NX P ann o kk:=by
 unfold Fh at hk;split at hk
 case h_2=>cases hk
 split at hk
 ·cases hk
 split at hk
 ·obtain⟨ag,hag,rfl⟩:=ab.1 hk;trivial
 ·obtain⟨ag,hag,rfl⟩:=ab.1 hk;trivial
 ·cases hk
theorem yi{kk:K}{key:Nat}{o:Oper}(hk:kC P ann ops key o=some kk):NX P ann o kk:=by
 unfold kC at hk;split at hk
 ·rename_i x ho;obtain⟨X,hX,rfl⟩:=ab.1 hk;trivial
 ·rename_i x ho;split at hk
  ·rename_i hnil _ _;split at hk
   ·obtain⟨X,hX,rfl⟩:=ab.1 hk;trivial
   ·obtain⟨X,hX,rfl⟩:=ab.1 hk;trivial
  ·obtain⟨X,hX,rfl⟩:=ab.1 hk;trivial
 ·rename_i c x y ho;split at hk
  ·rename_i c' x' y' h1 h2 h3;cases hk;trivial
  ·cases hk
 ·rename_i el ho;split at hk
  ·rename_i z d0 hz hd0;split at hk
   ·split at hk
    case h_2=>cases hk
    split at hk
    case h_2=>cases hk
    split at hk
    case h_2=>cases hk
    cases hk;trivial
   cases hk;split
   ·rename_i hc;exact⟨el,d0,ho,hz,hd0,by simpa using hc⟩
   ·trivial
  ·cases hk
 ·rename_i t x ho;split at hk
  ·rename_i x' d0 hx hd0;cases hk;by_cases hc:ann.bH.contains d0=true
   ·simp only[hc,if_true];exact⟨t,x,d0,ho,hx,hd0,by simpa using hc⟩
   ·rw[if_neg hc];split
    ·split<;>trivial
    ·trivial
  ·cases hk
 ·rename_i t ps ho;split at hk
  ·rename_i fs z ht hz;split at hk
   ·rename_i hall;obtain⟨parts,hp,rfl⟩:=ab.1 hk;trivial
   ·cases hk
  ·rename_i n el z ht hz;split at hk
   ·rename_i wd hw;obtain⟨parts,hp,rfl⟩:=ab.1 hk;trivial
   ·cases hk
  ·cases hk
 ·rename_i t n ps ho;split at hk
  ·rename_i el ht;split at hk
   ·rename_i wd z d0 hw hz _;split at hk
    ·rename_i hc;obtain⟨parts,hp,rfl⟩:=ab.1 hk;dsimp only;split
     ·trivial
     split<;>trivial
    ·cases hk
   ·cases hk
  ·cases hk
 ·rename_i t x ho;split at hk
  ·rename_i ag sz n hag hsz hx;split at hk
   ·rename_i hc;simp only[ah,aq]at hc;cases hk;have hxe:x=.tmp n:=by
     cases x<;>simp only[aF,ad,aM.t.injEq,reduceCtorEq,ab,and_false,exists_false]at hx;rw[hx]
    split
    ·trivial
    ·split
     ·trivial
     ·split<;>trivial
   ·cases hk
  ·cases hk
 ·rename_i t x y ho;split at hk
  ·rename_i sz n y' hsz hx hy;cases hk;have hxe:x=.tmp n:=by
    cases x<;>simp only[aF,ad,aM.t.injEq,reduceCtorEq,ab,and_false,exists_false]at hx;rw[hx]
   by_cases hc:ann.bH.contains (oC ops 8 n)=true
   ·simp only[hc,if_true];exact⟨t,y,by rw[ho,hxe],hy,hsz⟩
   ·rw[if_neg hc];split<;>trivial
  ·cases hk
 ·rename_i b t x y u ho;split at hk
  ·rename_i hx hy;cases hk;trivial
  ·rename_i hx hy;exact uB hk
  ·rename_i hx hy;exact uB hk
  ·rename_i hx hy;exact uB hk
  ·rename_i ht hx hy;split at hk<;>cases hk<;>trivial
  ·rename_i ht hx hy;unfold zg at hk;split at hk<;>cases hk<;>trivial
  ·rename_i ht hx hy;split at hk
   ·split at hk<;>cases hk<;>trivial
   ·cases hk
  ·rename_i ht hx hy;unfold zg at hk;split at hk<;>cases hk<;>trivial
  ·rename_i ht hx hy;split at hk<;>cases hk<;>trivial
  ·cases hk
 ·rename_i x ho;obtain⟨X,hX,rfl⟩:=ab.1 hk;trivial
 ·rename_i b t x ho;obtain⟨X,hX,rfl⟩:=ab.1 hk;trivial
 ·rename_i s t x ho;split at hk
  ·rename_i hs ht hx;cases hk;trivial
  ·split at hk<;>cases hk<;>trivial
  ·split at hk<;>cases hk<;>trivial
  ·split at hk
   ·split at hk<;>cases hk<;>trivial
   ·cases hk
  ·cases hk
 ·rename_i t x ho;split at hk
  ·obtain⟨X,hX,rfl⟩:=ab.1 hk;trivial
  ·cases hk
 ·rename_i f xs ys ho;split at hk
  ·rename_i hx hy;cases hk;trivial
  ·cases hk
 ·rename_i t x y ho;split at hk
  ·rename_i el ht;split at hk
   ·rename_i hw hb hz hx hy;split at hk
    ·rename_i hc;cases hk;trivial
    ·cases hk
   ·cases hk
  ·cases hk
 ·rename_i t x lo hh mx ho;split at hk
  ·rename_i ht hx hlo hhi hmx;obtain⟨wd,hw,rfl⟩:=ab.1 hk;trivial
  ·rename_i ht hx hlo hhi hmx;obtain⟨wd,hw,rfl⟩:=ab.1 hk;have hm:mx=none:=by
    cases mx with
    |none=>rfl
    |some m=>simp[jU,ab]at hmx
   subst hm;trivial
  ·rename_i ht hx hlo hhi hmx;cases hk;trivial
  ·cases hk
 ·rename_i s x i ho;split at hk
  ·rename_i fs x' hs hx;split at hk
   ·rename_i off sz hfc;split at hk
    ·rename_i hpos;cases hk;trivial
    ·cases hk
   ·cases hk
  ·cases hk
 ·rename_i s x i ho;split at hk
  ·rename_i fs x' hs hx;split at hk
   ·rename_i f hfi;split at hk
    ·rename_i hag hsz;split at hk
     ·cases hk;trivial
     ·cases hk
    ·cases hk
   ·cases hk
  ·cases hk
 ·rename_i t x y ho;split at hk
  ·rename_i ht hx hy;obtain⟨wd,hw,rfl⟩:=ab.1 hk;trivial
  ·rename_i ht hx hy;obtain⟨wd,hw,rfl⟩:=ab.1 hk;trivial
  ·cases hk
 ·rename_i t x y ho;split at hk
  ·rename_i ht hx hy;split at hk
   ·rename_i hag hsz;split at hk
    ·cases hk;trivial
    ·cases hk
   ·cases hk
  ·rename_i ht hx hy;cases hk;trivial
  ·cases hk
 ·rename_i x i ho;obtain⟨X,hX,rfl⟩:=ab.1 hk;trivial
 ·rename_i c ho;obtain⟨callee,args,ts⟩:=c;dsimp only at hk;split at hk
  ·rename_i f;split at hk
   ·rename_i hf hx;cases hk;exact⟨f,args,ts,ho,hf,hx⟩
   ·cases hk
  ·split at hk
   ·rename_i t tr x r hts ha;split at hk
    ·rename_i ht hx;cases hk;trivial
    ·rename_i ht hx;cases hk;trivial
    ·rename_i ht hx;cases hk;trivial
    ·rename_i ht;cases hk;trivial
    ·rename_i ht;split at hk
     ·rename_i hr;cases hk;trivial
     ·cases hk
    ·cases hk
   ·cases hk
  ·cases hk;exact⟨_,_,ho⟩
  ·split at hk
   ·rename_i ha;split at hk
    ·rename_i hx hy;cases hk;trivial
    ·cases hk
   ·cases hk
  ·split at hk
   ·rename_i ha;split at hk
    ·rename_i hx hy;cases hk;trivial
    ·cases hk
   ·cases hk
  ·split at hk
   ·rename_i t u x y hts ha;split at hk
    ·rename_i ht hu hx hy;split at hk
     case isFalse=>cases hk
     split at hk
     ·rename_i hw hb hz;split at hk
      ·rename_i hc;cases hk;split
       ·trivial
       ·split
        ·trivial
        ·split
         ·trivial
         ·split<;>trivial
      ·cases hk
     ·cases hk
    ·cases hk
   ·cases hk
  ·cases hk
 ·rename_i t x ho;split at hk
  ·obtain⟨X,hX,rfl⟩:=ab.1 hk;trivial
  ·cases hk
 ·rename_i x xt t ok ho;split at hk
  ·cases hk
  ·split at hk
   ·obtain⟨z,hz,rfl⟩:=ab.1 hk;trivial
   ·cases hk;trivial
  ·cases hk
 ·rename_i x ho;obtain⟨X,hX,rfl⟩:=ab.1 hk;exact⟨x,ho,hX⟩
 ·rename_i t ho;cases hk;trivial
 ·split at hk<;>cases hk<;>trivial
 ·rename_i t x ho;split at hk
  ·rename_i ht hx;cases hk;trivial
  ·cases hk
 ·rename_i x ho;split at hk
  ·rename_i hx;cases hk;trivial
  ·cases hk
 ·rename_i t x y ok ho;split at hk
  ·split at hk
   ·cases hk;trivial
   ·cases hk
  ·cases hk
 ·rename_i t m x y ho;split at hk
  ·split at hk
   ·cases hk;trivial
   ·cases hk
  ·cases hk
 ·rename_i t m x y ho;split at hk
  ·split at hk
   ·cases hk;trivial
   ·cases hk
  ·cases hk
 ·cases hk
theorem wx{kk:K}(h:kk.makes=true):aK e σ kk=none:=by
 cases kk<;>simp[K.makes]at h<;>rfl
theorem wX(hO:kJ P CR O)(ha:At CR base ann.bH g0 w0 n b g w B e σ a){o:Oper}(ho:ops[i]?=some o)(hw:Region.wanted o (yielded ops a.tmps)=true)
  {lI:Bool} {op:Op} (hop:wh P ann n b7 ops lI i o=some op) (h:jF O op e σ=some (e',σ')):
  tc P CR ann n ops base g0 w0 b g w a k cs i rest σ e' σ':=by
 unfold wh at hop;split at hop
 case h_2=>cases hop
 rename_i kk hk;split at hop
 case h_2=>cases hop
 rename_i gd hgd hdn;simp only[an,ah]at hop;obtain⟨⟨hown,hst⟩,hop⟩:=hop;cases hop;have hn:∀t,o.dst=some t→t<n:=by
  intro t ht;rw[ht]at hdn;simpa using hdn
 have hV:kk.makes=false→∀t,o.dst=some t→t ∉ ann.bH:=by
  intro hm t ht;rw[ht]at hown;simp[hm]at hown;simpa using hown
 have hd:=tL hk;have hkeq:=yi hk;unfold jF at h;dsimp only at h;split at h
 ·
  rename_i kp F Xs;split at h
  case h_2=>cases h
  rename_i d σ1 hc;split at h
  case isFalse=>cases h
  cases h;obtain⟨f,args,ts,h1,h2,h3⟩:=hkeq;exact vf hO ha ho hw hn (hV rfl) h1 h2 h3 hc
 ·
  rename_i nb z;obtain⟨el,v,h1,h2,h3,h4⟩:=hkeq;rw[h3]at h;cases hnb:dJ nb z σ with
  |none=>simp[hnb]at h
  |some x =>
   obtain⟨cs',σ1⟩:=x;simp only[hnb,ad,af]at h;obtain⟨rfl,rfl⟩:=h;obtain⟨i0,vz,hinfo,hzero,hrz,h1z⟩:=ir g h2;obtain⟨g1,i1,e1,r1⟩:=jS nb _ _ _ _ g _ hnb ha.inv hrz;exact yE (el:=el) ha ho hw hd h3 h4 (hn _ h3) (by simp[execOp,h1,oc hinfo hzero]) i1 e1 (hZ _ _ _ _ _ hnb) r1 h1z
 ·
  rename_i X;obtain⟨t,x,v,h1,h2,h3,h4⟩:=hkeq;rw[h3]at h;cases hcx:(aC e X).cells with
  |none=>simp[hcx]at h
  |some cs' =>
   simp only[hcx,ad,af]at h;obtain⟨rfl,rfl⟩:=h;obtain⟨tmps,df⟩:=a;obtain⟨hr,h1z⟩:=(ha.fr.aC (df:=df) h2).cells hcx;exact yE (el:=t) ha ho hw hd h3 h4 (hn _ h3) (by simp[execOp,h1,Instr.box,newVar,newRow]) ha.inv (Ev.refl g w) (.refl σ) hr h1z
 ·
  rename_i v nb sz x X;obtain⟨t,y,h1,h2,h3⟩:=hkeq;have hdst:o.dst=none:=by simpa[K.Mj]using hst
  split at h
  case h_2=>cases h
  rename_i s cv off p hin hp;split at h
  case isFalse=>cases h
  rename_i hlen;split at h
  case h_2=>cases h
  rename_i p' σ1 hnb;cases h;exact Hn ha ho hw hn (hV rfl) h1 h2 h3 hin hp hlen hnb hdst
 ·
  rename_i k1 h1 h2 h3 h4;cases hs:aK e σ kk with
  |none=>simp[hs]at h
  |some x =>
   obtain⟨d,σ1⟩:=x;simp only[hs,aG,ad,af]at h;obtain⟨rfl,rfl⟩:=h;have hm:kk.makes=false:=by
    cases hm:kk.makes
    ·rfl
    ·rw[wx hm]at hs;cases hs
   obtain⟨tmps,df⟩:=a;obtain⟨x,c,g',w',hrun,hx,he,hi,hr⟩:=Hk (df:=df) ha.fr ha.inv hk hs;exact ll ha ho hn (hV hm) (.one (jX ho hw hd hrun hx)) he hi (yQ hs) hr
inductive jx {α β:Type} (R:α→β→Prop):List α→List β→Prop
 |nil:jx R [] []
 |cons {x:α} {y:β} {xs:List α} {ys:List β}:R x y→jx R xs ys→jx R (x::xs) (y::ys)
def o5(P:Program)(ann:jq)(n b7:Nat)(ops:Array Oper)(i:Nat)(x:Op):Prop:=∃o lI,ops[i]?=some o∧wh P ann n b7 ops lI i o=some x
theorem sk{lI:Bool}{o:Oper}{op:Op}(h:wh P ann n b7 ops lI i o=some op):
  op.dst=o.dst∧(∀t,o.dst=some t→t<n)∧((o.guard=none∧op.mL=none)∨∃j d bb,o.guard=some (j,bb)∧op.mL=some (d,bb)∧(ops[j]?).bind (·.dst)=some d∧(∀t,o.dst=some t→t ∉ ann.bH)):=by
 unfold wh at h;split at h
 case h_2=>cases h
 rename_i kk hk;split at h
 case h_2=>cases h
 rename_i gd hgd hdn;simp only[an,ah]at h;obtain⟨⟨hown,hst⟩,h⟩:=h;cases h;refine⟨rfl,fun t ht=>by rw[ht]at hdn;simpa using hdn,?_⟩;cases hg:o.guard with
 |none=>rw[hg]at hgd;cases hgd;exact .inl ⟨rfl,rfl⟩
 |some x =>
  obtain⟨j,bb⟩:=x;rw[hg]at hgd;dsimp only at hgd;cases hj:(ops[j]?).bind (·.dst)with
  |none=>rw[hj]at hgd;cases hgd
  |some d =>
   rw[hj]at hgd;cases hgd;refine .inr ⟨j,d,bb,rfl,rfl,hj,fun t ht=>?_⟩;rw[ht,hg]at hown;simpa using hown
theorem mj(hO:kJ P CR O){tl:List Nat}:∀(is:List Nat) (xs:List Op) (e:Env) (σ:SK) (g:G) (w:World) (B:Nat→Nat) (a:Act),jx (o5 P ann n b7 ops) is xs →
  eN O xs e σ=some (e',σ')→At CR base ann.bH g0 w0 n b g w B e σ a →
  ∃g' w' B' a',Steps P (lone (b.atR a (.inRegion ops (is++tl)::k)) cs w) (lone (b.atR a' (.inRegion ops tl::k)) cs w')∧At CR base ann.bH g0 w0 n b g' w' B' e' σ' a'∧g.le g'∧ct σ σ'
 |[],xs,e,σ,g,w,B,a,hF,h,ha=>by
  cases hF;simp only[eN,ad,af]at h;obtain⟨rfl,rfl⟩:=h;exact⟨g,w,B,a,.refl _ _,ha,g.le_refl,.refl σ⟩
 |i::is,xs,e,σ,g,w,B,a,hF,h,ha=>by
  cases hF with
  |cons hx hF =>
   rename_i x xs;obtain⟨o,lI,ho,hop⟩:=hx;obtain⟨hdst,hn,hgrd⟩:=sk hop;simp only[eN]at h;have hgo:∀{e1 σ1 g1 w1 B1 a1},Steps P (lone (b.atR a (.inRegion ops (i::is++tl)::k)) cs w) (lone (b.atR a1 (.inRegion ops (is++tl)::k)) cs w1) →
     At CR base ann.bH g0 w0 n b g1 w1 B1 e1 σ1 a1→g.le g1→ct σ σ1→eN O xs e1 σ1=some (e',σ') →
     ∃g' w' B' a',Steps P (lone (b.atR a (.inRegion ops (i::is++tl)::k)) cs w) (lone (b.atR a' (.inRegion ops tl::k)) cs w')∧At CR base ann.bH g0 w0 n b g' w' B' e' σ' a'∧g.le g'∧ct σ σ':=by
    intro e1 σ1 g1 w1 B1 a1 h1 h2 h3 h4 h5;obtain⟨g2,w2,B2,a2,k1,k2,k3,k4⟩:=mj hO is xs _ _ _ _ _ _ hF h5 h2;exact⟨g2,w2,B2,a2,h1.trans k1,k2,h3.trans' k3,h4.trans k4⟩
   rcases hgrd with⟨hg1,hg2⟩ | ⟨j,d,bb,hg1,hg2,hj,hV⟩
   ·rw[hg2]at h;simp only[ae,Prod.exists]at h;obtain⟨e1,σ1,h1,h2⟩:=h;obtain⟨g1,w1,B1,a1,k1,k2,k3,k4⟩:=wX (k:=k) (cs:=cs) (rest:=is++tl) hO ha ho (by simp[Region.wanted,hg1]) hop h1;exact hgo k1 k2 k3 k4 h2
   ·rw[hg2]at h;dsimp only at h;split at h
    case h_2=>cases h
    rename_i bv hbv;have hy:yielded ops a.tmps j=bv:=by
     have hrel:=ha.fr.rel d;unfold yielded;rw[hj];simp only[Option.bind_some];cases hg:get e d with
     |bool b =>
      rw[hg]at hrel hbv;have hrel':aI g (.bool b) (a.tmps.getD d Go.undef):=hrel;have hval:=hrel'.fu;simp only[D.bit,ad]at hbv;subst hbv;rw[aU]at hval;cases hd:a.tmps[d]? with
      |none=>rw[hd]at hval;simp[Go.undef]at hval
      |some y=>rw[hd]at hval;simp at hval;subst hval;rfl
     |er ds =>
      cases ds with
      |nil =>
       rw[hg]at hrel hbv;have hrel':aI g (.er []) (a.tmps.getD d Go.undef):=hrel;have hval:a.tmps.getD d Go.undef=.tuple #[]:=by
        generalize a.tmps.getD d Go.undef=z at hrel';cases hrel' with | er _ cs hl =>
         cases cs with | mk cs=>cases cs with
          |nil=>rfl
          |cons c cs=>cases hl
       simp only[D.bit,ad]at hbv;subst hbv;rw[aU]at hval;cases hd:a.tmps[d]? with
       |none=>rfl
       |some y=>rw[hd]at hval;simp at hval;subst hval;rfl
      |cons x xs=>rw[hg]at hbv;simp[D.bit]at hbv
     |_=>rw[hg]at hbv;simp[D.bit]at hbv
    split at h
    ·rename_i hb;simp only[ae,Prod.exists]at h;obtain⟨e1,σ1,h1,h2⟩:=h;obtain⟨g1,w1,B1,a1,k1,k2,k3,k4⟩:=wX (k:=k) (cs:=cs) (rest:=is++tl) hO ha ho (by simp[Region.wanted,hg1,hy,hb]) hop h1;exact hgo k1 k2 k3 k4 h2
    ·rename_i hb;have hstep:=stepR_op_skip (P:=P) (b:=b) (a:=a) (k:=k) (cs:=cs) (w:=w) (ops:=ops) (i:=i) (rest:=is++tl) (by simp[ho,Region.wanted,hg1,hy,hb]);rw[show(ops[i]?).bind (·.dst)=o.dst from by rw[ho];rfl]at hstep;obtain⟨g1,w1,B1,a1,k1,k2,k3,k4⟩:=ll (d:=.er []) ha ho hn hV (.one hstep) (Ev.refl g w) ha.inv (.refl σ) (a8.of (.er [] #[] .nil));rw[hdst]at h;exact hgo k1 k2 k3 k4 h
theorem uI(hO:kJ P CR O)(is:List Nat)(xs:List Op)(e:Env)(σ:SK)(g:G)(w:World)(B:Nat→Nat)(a:Act)(hF:jx (o5 P ann n b7 ops) is xs)
  (h:eN O xs e σ=some (e',σ')) (ha:At CR base ann.bH g0 w0 n b g w B e σ a):
  ∃g' w' B' a',Steps P (lone (b.atR a (.inRegion ops is::k)) cs w) (lone (b.atR a' (.inRegion ops []::k)) cs w')∧At CR base ann.bH g0 w0 n b g' w' B' e' σ' a'∧g.le g'∧ct σ σ':=by
 have:=mj (k:=k) (cs:=cs) (tl:=[]) hO is xs e σ g w B a hF h ha;simpa using this
theorem vP{O:aN}{fv:D}{args:List D}{r:R}(h:ng O fv args σ=some r):∃f first cap,fv=.fn f first cap∧O (.call false f (first++args++cap) σ)=some r:=by
 unfold ng at h;split at h
 ·exact⟨_,_,_,rfl,h⟩
 ·cases h
theorem Es{lI:Bool}{o:Oper}{op:Op}(h:wh P ann n b7 ops lI i o=some op):kC P ann ops (b7*1000+i) o=some op.k∧(op.k.makes=false→∀t,o.dst=some t→t ∉ ann.bH):=by
 unfold wh at h;split at h
 case h_2=>cases h
 rename_i kk hk;split at h
 case h_2=>cases h
 simp only[an,ah]at h;obtain⟨⟨hown,hst⟩,h⟩:=h;cases h;refine⟨hk,fun hm t ht=>?_⟩;dsimp only at hm;rw[ht]at hown;simp[hm]at hown;simpa using hown
theorem uR{o:Oper}{v:Value}{w':World}{is:List Nat}(ho:ops[i]?=some o)(hw:Region.wanted o (yielded ops a.tmps)=true)(hd:∀c,o.op ≠ .defer c)
  (hr:(execOp a.eval o).run P w=.halt (.panic v) w'):
  step P (lone (b.atR a (.inRegion ops (i::is)::k)) cs w)=.next (lone {b.atR a (.inRegion ops (i::is)::k)with mode:=.panicking [{v,recovered:=false }] } cs w'):=by
 have hg:=stepGR_op (P:=P) (b:=b) (k:=k) (cs:=cs) (w:=w) (rest:=is) ho hw;rw[Oper.semAt_eq _ _ _ hd]at hg;exact step_lone_go (by rw[hg,← Frame.raise_atR];simp[stepG.apply,hr])
end
def dz(ts:List Nat)(e e':Env):Prop:=∀t∈ts,get e' t=get e t
theorem dz.mono{ts us:List Nat}{e e':Env}(h:dz us e e')(hs:∀t∈ts,t∈us):dz ts e e':=fun t ht=>h t (hs t ht)
theorem dz.app{ts us:List Nat}{e e':Env}:dz (ts++us) e e'↔dz ts e e'∧dz us e e' :=
 ⟨fun h=>⟨fun t ht=>h t (by simp[ht]),fun t ht=>h t (by simp[ht])⟩,fun h t ht=>(a7.1 ht).elim (h.1 t) (h.2 t)⟩
theorem dz.cons{t:Nat}{us:List Nat}{e e':Env}:dz (t::us) e e'↔get e' t=get e t∧dz us e e' :=
 ⟨fun h=>⟨h t (by simp),fun u hu=>h u (by simp[hu])⟩,fun h u hu=>(aJ.1 hu).elim (fun x=>x ▸ h.1) (h.2 u)⟩
variable {e e':Env} {σ σ':SK}
theorem au{x:aM}(h:dz x.tmps e e'):aC e' x=aC e x:=by
 cases x with
 |t n=>simp only[aC];rw[h n (by simp[aM.tmps])]
 |c d=>rfl
theorem ja{xs:List aM}(h:dz (xs.flatMap aM.tmps) e e'):xs.map (aC e')=xs.map (aC e):=by
 induction xs with
 |nil=>rfl
 |cons x xs ih =>
  simp only[br,dz.app]at h;simp only[aw,au h.1,ih h.2]
theorem kf:∀{ps:List (Nat×Nat×aM)} {cs:List D},dz (ps.flatMap fun p=>p.2.2.tmps) e e'→gJ e' ps cs=gJ e ps cs
 |[],cs,h=>rfl
 |(off,sz,x)::ps,cs,h=>by
  simp only[br,dz.app]at h;simp only[gJ,au h.1];split
  ·split
   ·exact kf h.2
   ·rfl
  ·rfl
theorem nR{m:Nat}{dfl:Option Nat}{x:Option aM}(h:dz ((x.map aM.tmps).getD []) e e'):zy e' m dfl x=zy e m dfl x:=by
 cases x with
 |none=>rfl
 |some x=>simp only[zy];rw[au (by simpa using h)]
theorem nf{n:Nat}{lo hi mx:Option aM}(h1:dz ((lo.map aM.tmps).getD []) e e')(h2:dz ((hi.map aM.tmps).getD []) e e')(h3:dz ((mx.map aM.tmps).getD []) e e'):
  bounds n e' lo hi mx=bounds n e lo hi mx:=by
 simp only[bounds,nR h1,nR h2,nR h3]
theorem lV{v a:Nat}(h1:get e' v=get e v)(h2:get e' a=get e a):gK e' v a=gK e v a:=by
 simp only[gK,h1,h2]
theorem wv{k:K}(h:dz k.tmps e e'):aK e' σ k=aK e σ k:=by
 cases k<;>simp only[K.tmps,dz.app,dz.cons]at h
 case mv x=>simp only[aK,au h]
 case ln=>rfl
 case pick c a b=>simp only[aK,au h.1.1,au h.1.2,au h.2]
 case ui=>rfl
 case HH=>simp only[aK,au h]
 case Ho=>simp only[aK,au h]
 case Gi=>simp only[aK,au h]
 case z6=>rfl
 case vy=>rfl
 case ft=>rfl
 case qR x=>simp only[aK,au h]
 case um x=>simp only[aK,au h]
 case E7 nb x=>simp only[aK,au h]
 case pq=>rfl
 case kR=>simp only[aK,kf h]
 case sS=>simp only[aK,kf h]
 case ze=>simp only[aK,kf h]
 case ld=>simp only[aK,au h]
 case HC=>simp only[aK,au h]
 case zi=>simp only[aK,au h]
 case Gj=>simp only[aK,au h]
 case sV=>simp only[aK,au h]
 case st=>simp only[aK,au h.1,au h.2]
 case wA os sz a x =>
  have hall:∀l i,(os.all fun t=>D.off l i (get e' t))=os.all fun t=>D.off l i (get e t):=by
   intro l i;have h2:=h.2;clear h;induction os with
   |nil=>rfl
   |cons o os ih=>simp only[gO,h2 o (by simp),ih (h2.mono fun t ht=>by simp[ht])]
  simp only[aK,au h.1.1,au h.1.2,hall]
 case wG=>simp only[aK,lV h.1 h.2.1]
 case q9=>rfl
 case bin=>simp only[aK,au h.1,au h.2]
 case eqv=>simp only[aK,au h.1,au h.2]
 case un=>simp only[aK,au h]
 case r8=>simp only[aK,au h]
 case yq=>simp only[aK,ja h.1,ja h.2]
 case Gt=>simp only[aK,au h.1,au h.2]
 case HW=>simp only[aK,au h.1.1.1,nf h.1.1.2 h.1.2 h.2]
 case pX=>simp only[aK,au h.1.1,nf (mx:=none) h.1.2 h.2 (fun t ht=>by simp at ht)]
 case qT off x =>
  cases x with
  |t n=>simp only[aK,h n (by simp[aM.tmps])]
  |c d=>rfl
 case Ek=>simp only[aK,au h]
 case vV len w x i =>
  cases x with
  |t n =>
   have h1:=h.1 n (by simp[aM.tmps]);simp only[aK,au h.2];cases oL (aC e i)<;>simp only[h1]
  |c d=>simp only[aK]
 case oI=>simp only[aK,au h.1,au h.2]
 case oJ=>simp only[aK,au h.1,au h.2]
 case q5=>simp only[aK,au h]
 case uC=>rfl
 case mn=>simp only[aK,au h.1,au h.2]
 case mx=>simp only[aK,au h.1,au h.2]
 case app=>simp only[aK,au h.1,au h.2]
 case zd os w b s x =>
  have hall:∀l i,(os.all fun t=>D.off l i (get e' t))=os.all fun t=>D.off l i (get e t):=by
   intro l i;have h2:=h.2;clear h;induction os with
   |nil=>rfl
   |cons o os ih=>simp only[gO,h2 o (by simp),ih (h2.mono fun t ht=>by simp[ht])]
  simp only[aK,r6,au h.1.1,au h.1.2,hall]
 case E4=>simp only[aK,r6,au h.1,au h.2]
 case E9=>simp only[aK,au h]
 case Fc=>simp only[aK,au h]
 case Hr=>rfl
 case E3 w b v x=>simp only[aK,h.1,au h.2]
 case ext=>simp only[aK,au h]
 case oA=>simp only[aK,ja h]
 case mp=>simp only[aK,ja h]
 case me=>simp only[aK,ja h]
 case call=>rfl
noncomputable def iL(O:aN)(op:Op)(e:Env)(σ:SK):Option (Env×SK) :=
 match op.mL with
 |none=>jF O op e σ
 |some (g,want) =>
  match(get e g).bit with
  |some y=>if y=some want then jF O op e σ else some (put op.dst (.er []) e,σ)
  |none=>none
theorem dA{O:aN}{op:Op}{r:List Op}:eN O (op::r) e σ=(iL O op e σ).bind fun x=>eN O r x.1 x.2:=by
 simp only[eN,iL];cases op.mL with
 |none=>rfl
 |some x =>
  obtain⟨g,want⟩:=x;dsimp only;cases(get e g).bit<;>try rfl
  dsimp only;split<;>rfl
theorem sq{dst:Option Nat}{d:D}:put dst d e=(dst.toList.map fun t=>(t,d))++e:=by
 cases dst<;>rfl
theorem rk{O:aN}{op:Op}{e1:Env}{σ1:SK}(h:jF O op e σ=some (e1,σ1)):
  ∃l:List (Nat×D),(∀p∈l,p.1∈op.defs)∧∀e',dz (op.nJ++op.defs) e e'→jF O op e' σ=some (l++e',σ1):=by
 obtain⟨dst,mL,lI,k⟩:=op;have hk:∀e',dz (Op.nJ ⟨dst,mL,lI,k⟩++Op.defs ⟨dst,mL,lI,k⟩) e e'→dz k.tmps e e':=fun e' ha=>ha.mono fun t ht=>by simp[Op.nJ,ht]
 have hdst:∀d:D,∀p∈dst.toList.map (fun t=>(t,d)),p.1∈Op.defs ⟨dst,mL,lI,k⟩:=by
  intro d p hp;simp only[bg]at hp;obtain⟨t,ht,rfl⟩:=hp;simp only[Op.defs,a7];exact .inl ht
 have hplain:(∀e0,jF O ⟨dst,mL,lI,k⟩ e0 σ=(aK e0 σ k).map fun x=>(put dst x.1 e0,x.2)) →
   ∃l:List (Nat×D),(∀p∈l,p.1∈Op.defs ⟨dst,mL,lI,k⟩)∧∀e',dz (Op.nJ ⟨dst,mL,lI,k⟩++Op.defs ⟨dst,mL,lI,k⟩) e e'→jF O ⟨dst,mL,lI,k⟩ e' σ=some (l++e',σ1):=by
  intro hall;rw[hall]at h;simp only[ab,Prod.exists,af]at h;obtain⟨d,σ2,hs,rfl,rfl⟩:=h;refine⟨dst.toList.map fun t=>(t,d),hdst d,fun e' ha=>?_⟩;rw[hall,wv (hk e' ha),hs];simp only[aG,sq]
 cases k
 case call kp f args =>
  simp only[jF]at h ⊢;split at h
  case h_2=>cases h
  rename_i d σ2 hc;split at h
  case isFalse=>cases h
  rename_i hn;cases h;refine⟨dst.toList.map fun t=>(t,d),hdst d,fun e' ha=>?_⟩;have h1:=hk e' ha;simp only[K.tmps,dz.app]at h1;rw[au h1.1,ja h1.2,hc];simp only[if_pos hn,sq]
 case ft nb cs =>
  simp only[jF]at h ⊢;split at h
  case h_2=>cases h
  rename_i v cs' σ2 hnb;cases h;refine⟨[(v,.own (iT e v) cs')],by simp[Op.defs],fun e' ha=>?_⟩;rw[show iT e' v=iT e v from by simp only[iT];rw[ha v (by simp[Op.defs])]];rfl
 case pq x =>
  simp only[jF]at h ⊢;split at h
  case h_2=>cases h
  rename_i v cs' hc;cases h;refine⟨[(v,.own (iT e v) cs')],by simp[Op.defs],fun e' ha=>?_⟩;have h1:=hk e' ha;simp only[K.tmps]at h1;rw[au h1,hc];simp only[show iT e' v=iT e v from by simp only[iT];rw[ha v (by simp[Op.defs])]];rfl
 case q9 v nb sz a x =>
  simp only[jF]at h ⊢;split at h
  case h_2=>cases h
  rename_i s cs off p hin hp;split at h
  case isFalse=>cases h
  rename_i hc;split at h
  case h_2=>cases h
  rename_i p' σ2 hnb;cases h;refine⟨[(v,.own s (cs.take off++p'++cs.drop (off+sz)))],by simp[Op.defs],fun e' ha=>?_⟩;have h1:=hk e' ha;simp only[K.tmps,dz.app,dz.cons]at h1;rw[lV h1.1.1 h1.1.2.1,au h1.2,hin,hp];simp only[if_pos hc,hnb];rfl
 all_goals exact hplain fun e0=>rfl
theorem mR{O:aN}{op:Op}{e1:Env}{σ1:SK}(h:iL O op e σ=some (e1,σ1)):
  ∃l:List (Nat×D),(∀p∈l,p.1∈op.defs)∧∀e',dz (op.nJ++op.defs) e e'→iL O op e' σ=some (l++e',σ1):=by
 unfold iL at h ⊢;cases hg:op.mL with
 |none=>rw[hg]at h;simp only at h ⊢;exact rk h
 |some x =>
  obtain⟨t,want⟩:=x;rw[hg]at h;simp only at h ⊢;split at h
  case h_2=>cases h
  rename_i b hb;have hgt:∀e',dz (op.nJ++op.defs) e e'→(get e' t).bit=some b:=fun e' ha=>by rw[ha t (by simp[Op.nJ,hg]),hb]
  split at h
  ·rename_i hw;obtain⟨l,h1,h2⟩:=rk h;refine⟨l,h1,fun e' ha=>?_⟩;rw[hgt e' ha];simp only[if_pos hw];exact h2 e' ha
  ·rename_i hw;cases h;refine⟨op.dst.toList.map fun t=>(t,.er []),fun p hp=>?_,fun e' ha=>?_⟩
   ·simp only[bg]at hp;obtain⟨t,ht,rfl⟩:=hp;simp only[Op.defs,a7];exact .inl ht
   ·rw[hgt e' ha];simp only[if_neg hw,sq]
theorem rK{cs cs':List D}(h:dJ [] cs σ=some (cs',σ')):σ'=σ:=by
 simp only[dJ,ad,af]at h;exact h.2.symm
theorem rP{d:D}{k:K}(h:aK e σ k=some (d,σ'))(hk:k.calm=true):σ'=σ:=tY h hk
theorem rl{O:aN}{op:Op}{e1:Env}{σ1:SK}(h:jF O op e σ=some (e1,σ1))(hs:op.still=true):σ1=σ:=by
 obtain⟨dst,mL,lI,k⟩:=op;simp only[Op.still,ah]at hs;obtain⟨hk,hn⟩:=hs;have hplain:(jF O ⟨dst,mL,lI,k⟩ e σ=(aK e σ k).map fun x=>(put dst x.1 e,x.2))→σ1=σ:=by
  intro hall;rw[hall]at h;simp only[ab,Prod.exists,af]at h;obtain⟨d,σ2,hs,rfl,rfl⟩:=h;exact rP hs hk
 cases k
 case call kp f args =>
  simp only[jF]at h;split at h
  case h_2=>cases h
  split at h
  case isFalse=>cases h
  rename_i hx;cases h;exact hx hn
 case ft nb cs =>
  simp only[jF]at h;split at h
  case h_2=>cases h
  rename_i v cs' σ2 hnb;cases h;simp only[K.calm,List.isEmpty_iff]at hk;subst hk;exact rK hnb
 case pq x =>
  simp only[jF]at h;split at h
  case h_2=>cases h
  cases h;rfl
 case q9 v nb sz a x =>
  simp only[jF]at h;split at h
  case h_2=>cases h
  split at h
  case isFalse=>cases h
  split at h
  case h_2=>cases h
  rename_i hnb;cases h;simp only[K.calm,List.isEmpty_iff]at hk;subst hk;exact rK hnb
 all_goals exact hplain rfl
theorem mS{O:aN}{op:Op}{e1:Env}{σ1:SK}(h:iL O op e σ=some (e1,σ1))(hs:op.still=true):σ1=σ:=by
 unfold iL at h;split at h
 ·exact rl h hs
 ·split at h
  case h_2=>cases h
  split at h
  ·exact rl h hs
  ·cases h;rfl
def oj(e e':Env):Prop:=∀t,get e' t=get e t
theorem oj.refl(e:Env):oj e e:=fun _=>rfl
theorem oj.trans{a b c:Env}(h:oj a b)(h':oj b c):oj a c:=fun t=>(h' t).trans (h t)
theorem oj.agree(h:oj e e')(ts:List Nat):dz ts e e':=fun t _=>h t
theorem oV{l:List (Nat×D)}{t:Nat}:get (l++e) t=if t∈l.map (·.1)then get l t else get e t:=by
 induction l with
 |nil=>simp
 |cons p l ih =>
  obtain⟨k,v⟩:=p;simp only[aY,get];by_cases hk:k=t
  ·simp[hk]
  ·rw[if_neg hk,ih];simp only[aw,aJ];by_cases ht:t∈l.map (·.1)
   ·rw[if_pos ht,if_pos (.inr ht)];rw[if_neg hk]
   ·rw[if_neg ht,if_neg (by intro h;rcases h with h | h;exact hk h.symm;exact ht h)]
theorem oj.app(h:oj e e')(l:List (Nat×D)):oj (l++e) (l++e'):=fun t=>by
 simp only[oV,h t]
theorem pj{O:aN}:∀{xs:List Op} {e e' e1:Env} {σ σ1:SK},eN O xs e σ=some (e1,σ1)→oj e e'→∃e1',eN O xs e' σ=some (e1',σ1)∧oj e1 e1'
 |[],e,e',e1,σ,σ1,h,he=>by
  simp only[eN,ad,af]at h;obtain⟨rfl,rfl⟩:=h;exact⟨e',rfl,he⟩
 |x::xs,e,e',e1,σ,σ1,h,he=>by
  rw[dA]at h;simp only[ae,Prod.exists]at h;obtain⟨e2,σ2,h1,h2⟩:=h;obtain⟨l,_,hl⟩:=mR h1;have h3:=hl e (oj.agree (.refl e) _);rw[h1]at h3;cases h3;obtain⟨e3,h4,h5⟩:=pj h2 (he.app l);exact⟨e3,by rw[dA,hl e' (he.agree _)];exact h4,h5⟩
theorem yR{d:D}{k:K}(h:aK e σ k=some (d,σ'))(hk:k.pure=true)(τ:SK):aK e τ k=some (d,τ):=by
 cases k<;>simp only[K.pure,K.calm,ai]at hk<;>simp only[aK,ak,reduceCtorEq]at h ⊢ <;> (repeat' split at h)<;>
  simp only[ab,ae,ad,af,Prod.exists,reduceCtorEq,exists_eq_left,and_false,exists_false]at h<;>(try split at h)<;>
  simp_all<;>(try (obtain⟨_,_,h⟩:=h;simp_all))<;>(try grind)
theorem tk{O:aN}{op:Op}{e1:Env}{σ1:SK}(h:jF O op e σ=some (e1,σ1))(hs:op.k.pure=true)(τ:SK):jF O op e τ=some (e1,τ):=by
 obtain⟨dst,mL,lI,k⟩:=op;have hplain:(∀τ,jF O ⟨dst,mL,lI,k⟩ e τ=(aK e τ k).map fun x=>(put dst x.1 e,x.2))→jF O ⟨dst,mL,lI,k⟩ e τ=some (e1,τ):=by
  intro hall;rw[hall]at h ⊢;simp only[ab,Prod.exists,af]at h;obtain⟨d,σ2,hs',rfl,rfl⟩:=h;rw[yR hs' hs τ];rfl
 cases k
 case call kp f args=>simp[K.pure]at hs
 case ft nb cs =>
  simp only[K.pure,K.calm,List.isEmpty_iff]at hs;subst hs;simp only[jF]at h ⊢;cases dst with
  |none=>cases h
  |some v=>simp only[dJ,ad,af]at h ⊢;exact⟨h.1,trivial⟩
 case pq x =>
  simp only[jF]at h ⊢;cases dst with
  |none=>cases h
  |some v =>
   cases hx:(aC e x).cells with
   |none=>rw[hx]at h;cases h
   |some cs=>rw[hx]at h;simp only[ad,af]at h ⊢;exact⟨h.1,trivial⟩
 case q9 v nb sz a x =>
  simp only[K.pure,K.calm,List.isEmpty_iff]at hs;subst hs;simp only[jF]at h ⊢;cases hin:gK e v a<;>rw[hin]at h<;>try (cases h;done)
  cases hx:(aC e x).cells<;>rw[hx]at h<;>try (cases h;done)
  simp only[dJ]at h ⊢;split at h
  ·rename_i hc;rw[if_pos hc];simp only[ad,af]at h ⊢;exact⟨h.1,trivial⟩
  ·cases h
 all_goals exact hplain fun τ=>rfl
theorem mo{O:aN}{op:Op}{e1:Env}{σ1:SK}(h:iL O op e σ=some (e1,σ1))(hs:op.k.pure=true):∀τ,iL O op e τ=some (e1,τ):=by
 intro τ;unfold iL at h ⊢;cases hg:op.mL with
 |none=>rw[hg]at h;exact tk h hs τ
 |some y =>
  obtain⟨g,want⟩:=y;rw[hg]at h;dsimp only at h ⊢;cases hb:(get e g).bit with
  |none=>rw[hb]at h;cases h
  |some b =>
   rw[hb]at h;dsimp only at h ⊢;split at h
   ·rename_i hw;rw[if_pos hw];exact tk h hs τ
   ·rename_i hw;rw[if_neg hw];cases h;rfl
theorem lz{a:List b8}{σ:SK}{l:Nat}{s:List b8}(h:σ.length=l):dj (a::σ) l s=s::σ:=by simp only[dj];rw[if_pos h]
theorem e7{a:List b8}{σ:SK}{l:Nat}{s:List b8}(h:¬σ.length=l):dj (a::σ) l s=a::dj σ l s:=by simp only[dj];rw[if_neg h]
theorem tX{σ:SK}{l l':Nat}{s s':List b8}(h:l≠l'):dj (dj σ l s) l' s'=dj (dj σ l' s') l s:=by
 induction σ with
 |nil=>rfl
 |cons a σ ih =>
  by_cases h1:σ.length=l
  ·have h2:¬σ.length=l':=by omega
   rw[lz h1,e7 h2,e7 h2,lz (by rw[cl];exact h1)]
  ·by_cases h2:σ.length=l'
   ·rw[e7 h1,lz h2,lz (by rw[cl];exact h2),e7 h1]
   ·rw[e7 h1,e7 h2,e7 (by rw[cl];exact h2),e7 (by rw[cl];exact h1),ih]
theorem iN{σ:SK}{l l':Nat}{s:List b8}(h:l≠l'):gq (dj σ l s) l'=gq σ l':=by
 induction σ with
 |nil=>rfl
 |cons a σ ih =>
  simp only[dj];by_cases h1:σ.length=l
  ·rw[if_pos h1];simp only[gq];rw[if_neg (by omega),if_neg (by omega)]
  ·rw[if_neg h1];simp only[gq,cl,ih]
theorem sF{σ:SK}{l:Nat}{s s':List b8}:dj (dj σ l s) l s'=dj σ l s':=by
 induction σ with
 |nil=>rfl
 |cons a σ ih =>
  simp only[dj];by_cases h1:σ.length=l
  ·rw[if_pos h1,if_pos h1];simp only[dj];rw[if_pos h1]
  ·rw[if_neg h1,if_neg h1];simp only[dj,cl];rw[if_neg h1,ih]
theorem tW{σ:SK}{l i l' i':Nat}{b b':b8}(h:¬(l'=l∧i'=i)):az (az σ l i b) l' i' b'=az (az σ l' i' b') l i b:=by
 by_cases hl:l=l'
 ·subst hl;have hi:i≠i':=fun e=>h ⟨rfl,e.symm⟩
  unfold az;cases hs:gq σ l with
  |none=>simp[hs]
  |some s =>
   simp only[iq (lu hs),sF];rw[List.set_comm _ _ hi]
 ·unfold az;cases hs:gq σ l with
  |none =>
   cases hs':gq σ l' with
   |none=>simp[hs,hs']
   |some s'=>simp only[iN (Ne.symm hl),hs]
  |some s =>
   cases hs':gq σ l' with
   |none=>simp only[iN hl,hs',hs]
   |some s' =>
    simp only[iN hl,iN (Ne.symm hl),hs,hs'];exact tX hl
theorem kW{σ:SK}{l i l' i' v:Nat}{b:b8}(h:¬(l'=l∧i'=i)):cells? (az σ l i b) l' i' v=cells? σ l' i' v:=by
 unfold cells?;rw[bT h]
theorem sr{σ:SK}{l i:Nat}{b:b8}{d:D}(h:D.off l i d=true):oX (az σ l i b) d.strip=oX σ d.strip:=by
 cases d<;>try rfl
 simp only[D.off,aq]at h;simp only[D.strip,oX,kW h]
theorem mm{O:aN}{dst:Option Nat}{n ag:Bool}{sz m:Nat}{e1:Env}{σ1:SK}(h:iL O ⟨dst,none,n,.ld ag sz (.t m)⟩ e σ=some (e1,σ1)):
  σ1=σ∧∀τ,oX τ (get e m).strip=oX σ (get e m).strip→iL O ⟨dst,none,n,.ld ag sz (.t m)⟩ e τ=some (e1,τ):=by
 have hs:=mS h;simp only[iL,jF,aK,aC]at h ⊢;refine⟨?_,fun τ hτ=>?_⟩
 ·simp only[ab,Prod.exists,af]at h;obtain⟨d,σ2,h,_,rfl⟩:=h;exact rP (k:=.ld ag sz (.t m)) (e:=e) (d:=d) (by simpa only[aK,aC]using h) rfl
 ·rw[hτ];cases hr:oX σ (get e m).strip with
  |none=>rw[hr]at h;cases h
  |some cs =>
   rw[hr]at h;dsimp only at h ⊢;split at h
   ·rename_i hsz;rw[if_pos hsz];cases ag with
    |true=>simp at h ⊢;exact h.1
    |false =>
     simp only[ai,if_false]at h ⊢;cases cs with
     |nil=>cases h
     |cons d ds=>simp at h ⊢;exact h.1
   ·cases h
theorem nF{O:aN}{dst:Option Nat}{n:Bool}{os:List Nat}{sz:Nat}{a x:aM}{e1:Env}{σ1:SK}(h:iL O ⟨dst,none,n,.wA os sz a x⟩ e σ=some (e1,σ1)):
  ∃l i v off b,aC e a=.ref l i v off∧(∀m∈os,D.off l i (get e m)=true)∧σ1=az σ l i b ∧
   ∀τ,τ.length=σ.length→cells? τ l i v=cells? σ l i v→iL O ⟨dst,none,n,.wA os sz a x⟩ e τ=some (e1,az τ l i b):=by
 simp only[iL,jF,aK]at h ⊢;cases ha:aC e a<;>rw[ha]at h<;>try (cases h;done)
 rename_i l i v off;dsimp only at h ⊢;split at h
 case isFalse=>cases h
 rename_i hall;cases hc:cells? σ l i v with
 |none=>rw[hc]at h;cases h
 |some cs =>
 rw[hc]at h;dsimp only at h;cases hp:(aC e x).cells with
 |none=>rw[hp]at h;cases h
 |some p =>
 rw[hp]at h;dsimp only at h;split at h
 case isFalse=>cases h
 rename_i hq;simp only[aG,ad,af]at h;refine⟨l,i,v,off,.cells v (cs.take off++p++cs.drop (off+sz)),rfl,fun m hm=>b6.1 hall m hm,h.2.symm,fun τ hlen hτ=>?_⟩;simp only[hall,if_true,hτ,hc,hlen,if_pos hq,aG,h.1]
theorem tU{O:aN}{dst:Option Nat}{n:Bool}{os:List Nat}{w b:Nat}{a x:aM}{e1:Env}{σ1:SK}(h:iL O ⟨dst,none,n,.zd os w b a x⟩ e σ=some (e1,σ1)):
  ∃l i v cs,(∀m∈os,D.off l i (get e m)=true)∧σ1=az σ l i (.cells (v+1) cs):=by
 simp only[iL,jF,ab,Prod.exists,af]at h;obtain⟨d,σ2,h,_,rfl⟩:=h;simp only[aK]at h;split at h
 case h_2=>cases h
 rename_i l i v off n' w' ha;split at h
 case isFalse=>cases h
 rename_i hall;simp only[ae]at h;obtain⟨⟨m,xs⟩,he,h⟩:=h;dsimp only at h;split at h
 case isFalse=>cases h
 rename_i hcl;simp only[r6,ak,he,Option.bind_some,ha]at h;split at h
 case h_2=>cases h
 split at h
 case isFalse=>cases h
 refine⟨l,i,?_⟩;split at h
 ·cases h;exact⟨_,_,fun m hm=>b6.1 hall m hm,rfl⟩
 ·rw[show deep=15+1 from rfl,nZ hcl]at h;cases h;exact⟨_,_,fun m hm=>b6.1 hall m hm,rfl⟩
theorem Aa{σ:SK}{l i v:Nat}{cs:List D}{d:D}{c:List D}(h:z8 (az σ l i (.cells (v+1) cs)) d=some c):z8 σ d=some c:=by
 unfold z8 at h ⊢;split at h
 case h_2=>cases h
 rename_i l2 i2 off;simp only[oX,ab]at h ⊢;obtain⟨a,h1,h2⟩:=h;refine⟨a,?_,h2⟩;by_cases hh:l2=l∧i2=i
 ·obtain⟨rfl,rfl⟩:=hh;unfold cells? at h1;cases hb:bS σ l2 i2 with
  |some b0=>rw[e6 hb]at h1;simp at h1
  |none =>
   have hn:bS (az σ l2 i2 (.cells (v+1) cs)) l2 i2=none:=by
    unfold bS at hb ⊢;unfold az;cases hs:gq σ l2 with
    |none=>simp only[hs];rfl
    |some s =>
     simp only[hs,Option.bind_some]at hb;simp only[iq (lu hs),Option.bind_some];rw[List.getElem?_eq_none_iff]at hb ⊢;simpa using hb
   rw[hn]at h1;cases h1
 ·rwa[kW hh]at h1
theorem yL{O:aN}{dst:Option Nat}{n ag:Bool}{sz m:Nat}{e1:Env}{σ1:SK}(h:iL O ⟨dst,none,n,.zi ag sz (.t m)⟩ e σ=some (e1,σ1)):
  σ1=σ∧∃c,z8 σ (get e m).strip=some c∧∀τ,z8 τ (get e m).strip=some c→iL O ⟨dst,none,n,.zi ag sz (.t m)⟩ e τ=some (e1,τ):=by
 simp only[iL,jF,aK,aC]at h ⊢;cases hr:z8 σ (get e m).strip with
 |none=>rw[hr]at h;cases h
 |some cs =>
  rw[hr]at h;dsimp only at h ⊢;have hs:σ1=σ:=by
   split at h
   ·cases ag with
    |true=>simp at h;exact h.2.symm
    |false=>cases cs<;>simp at h;exact h.2.symm
   ·cases h
  refine⟨hs,cs,rfl,fun τ hτ=>?_⟩;rw[hτ];dsimp only;split at h
  ·rename_i hsz;rw[if_pos hsz];cases ag with
   |true=>simp at h ⊢;exact h.1
   |false =>
    simp only[ai,if_false]at h ⊢;cases cs with
    |nil=>cases h
    |cons d ds=>simp at h ⊢;exact h.1
  ·cases h
theorem we{σ σ':SK}{b:b8}{l i:Nat}(h:cG σ b=some (l,i,σ')){d:D}{cs:List D}(hd:oX σ d=some cs):oX σ' d=some cs:=by
 cases d<;>try exact hd
 rename_i l' i' v off;simp only[oX,ab]at hd ⊢;obtain⟨c,h1,h2⟩:=hd;refine⟨c,?_,h2⟩;unfold cells? at h1 ⊢;have hb:∃b0,bS σ l' i'=some b0:=by
  cases hb:bS σ l' i' with
  |none=>rw[hb]at h1;cases h1
  |some b0=>exact⟨b0,rfl⟩
 obtain⟨b0,hb⟩:=hb;have hne:¬(l'=l∧i'=i):=fun hh=>by
  have:=(du h).1;rw[hh.1,hh.2,this]at hb;cases hb
 rw[(du h).2.2.1 l' i' hne];exact h1
theorem E2{O:aN}{x y:Op}{e2:Env}{σ2:SK}{r:List Op}(hf:x.Ns y=true)
  (h:eN O (x::y::r) e σ=some (e2,σ2)):∃e2',eN O (y::x::r) e σ=some (e2',σ2)∧oj e2 e2':=by
 unfold Op.Ns at hf;split at hf
 case h_2=>cases hf
 rename_i n v sz a X d n' off m;simp only[aq]at hf;obtain⟨rfl,hdv,hda,hdX⟩:=hf;rw[dA]at h;simp only[ae,Prod.exists]at h;obtain⟨ex,σx,h1,h2⟩:=h;rw[dA]at h2;simp only[ae,Prod.exists]at h2;obtain⟨ey,σy,h2,h3⟩:=h2;simp only[iL,jF]at h1;cases hin:gK e m a with
 |none=>rw[hin]at h1;cases h1
 |some z =>
 obtain⟨s,cs,o⟩:=z;rw[hin]at h1;cases hX:(aC e X).cells with
 |none=>rw[hX]at h1;cases h1
 |some p =>
 rw[hX]at h1;dsimp only at h1;split at h1
 case isFalse=>cases h1
 rename_i hq;simp only[dJ,ad,af]at h1;obtain⟨rfl,rfl⟩:=h1;have hgv:∃cs',get e m=.own s cs':=by
  unfold gK at hin;cases hg:get e m<;>rw[hg]at hin<;>try (cases hin;done)
  rename_i s' cs';dsimp only at hin;split at hin
  ·cases hin;exact⟨_,rfl⟩
  ·split at hin
   ·split at hin
    ·cases hin;exact⟨_,rfl⟩
    ·cases hin
   ·cases hin
 obtain⟨cs',hgv⟩:=hgv;simp only[iL,jF,aK,get,if_true,aG,ad,af]at h2;obtain⟨rfl,rfl⟩:=h2;have hne:get ((d,D.vr m s off)::e) m=get e m:=by simp[get,hdv]
 have hna:get ((d,D.vr m s off)::e) a=get e a:=by simp[get,hda]
 have hin':gK ((d,D.vr m s off)::e) m a=some (s,cs,o):=by rw[lV hne hna,hin]
 have hX':aC ((d,D.vr m s off)::e) X=aC e X:=au fun t ht=>by
  have:d≠t:=fun he=>hdX (he ▸ ht)
  simp[get,this]
 have heq:oj (put (some d) (D.vr m s off) ((m,.own s (cs.take o++p++cs.drop (o+sz)))::e)) ((m,.own s (cs.take o++p++cs.drop (o+sz)))::(d,D.vr m s off)::e):=by
  intro t;simp only[put,get];by_cases h1:d=t
  ·have:¬m=t:=fun e=>hdv (h1.trans e.symm)
   simp[h1,this]
  ·simp[h1]
 obtain⟨e3,k1,k2⟩:=pj h3 heq;refine⟨e3,?_,k2⟩;rw[dA];simp only[iL,jF,aK,hgv,aG,Option.bind_some];rw[dA];simp only[iL,jF,put,hin',hX',hX,hq,and_self,if_true,dJ,Option.bind_some];exact k1
theorem Al{O:aN}{x y:Op}{e2:Env}{σ2:SK}{r:List Op}(hf:x.free y=true)
  (h:eN O (x::y::r) e σ=some (e2,σ2)):∃e2',eN O (y::x::r) e σ=some (e2',σ2)∧oj e2 e2':=by
 unfold Op.free at hf;rw[gR]at hf;rcases hf with hf | hf
 ·exact E2 hf h
 simp only[ah,ix]at hf;obtain⟨hc,hf⟩:=hf;simp only[Op.Ay,Bool.or_eq_false_iff,List.any_eq_false,List.contains_iff_mem,gR,not_or]at hc;obtain⟨c1,c2⟩:=hc;rw[dA]at h;simp only[ae,Prod.exists]at h;obtain⟨ex,σx,h1,h2⟩:=h;rw[dA]at h2;simp only[ae,Prod.exists]at h2;obtain⟨ey,σy,h2,h3⟩:=h2;obtain⟨lx,d1,hl1⟩:=mR h1;obtain⟨ly,d2,hl2⟩:=mR h2;have k1:=hl1 e (oj.agree (.refl e) _);rw[h1]at k1;cases k1;have k2:=hl2 _ (oj.agree (.refl _) _);rw[h2]at k2;cases k2;have ay:dz (y.nJ++y.defs) (lx++e) e:=fun t ht=>by
  rw[oV,if_neg];intro hm;obtain⟨p,hp,rfl⟩:=bg.1 hm;have:=c1 _ (d1 p hp);simp only[a7]at ht;rcases ht with ht | ht
  ·exact this.2 (by simpa using ht)
  ·exact this.1 (by simpa using ht)
 have ax:dz (x.nJ++x.defs) e (ly++e):=fun t ht=>by
  rw[oV,if_neg];intro hm;obtain⟨p,hp,rfl⟩:=bg.1 hm;have hp':=d2 p hp;simp only[a7]at ht;rcases ht with ht | ht
  ·exact c2 _ ht (by simpa using hp')
  ·exact(c1 _ ht).1 (by simpa using hp')
 have hy0:=hl2 e ay;have hx0:=hl1 (ly++e) ax;obtain⟨σm,hy1,hx1⟩:∃σm,iL O y e σ=some (ly++e,σm)∧iL O x (ly++e) σm=some (lx++(ly++e),σy):=by
  simp only[gR,ah]at hf;rcases hf with((⟨hx,hy⟩ | hx) | hy) | hfar
  ·obtain rfl:=mS h1 hx;obtain rfl:=mS h2 hy;exact⟨_,hy0,hx0⟩
  ·have e1:=mo h1 hx σ;rw[h1]at e1;cases e1;exact⟨σy,hy0,mo hx0 hx σy⟩
  ·have e2:=mo h2 hy σx;rw[h2]at e2;cases e2;exact⟨σ,mo hy0 hy σ,hx0⟩
  ·unfold Op.N7 at hfar;obtain⟨dx,gx,nx,kx⟩:=x;obtain⟨dy,gy,ny,ky⟩:=y;simp only[ah,Option.isNone_iff_eq_none]at hfar;obtain⟨⟨rfl,rfl⟩,hfar⟩:=hfar;split at hfar
   ·rename_i os sz a X ag sz' m;have hm:m∈os:=by simpa using hfar
    obtain⟨l,i,v,off,b,_,hoff,rfl,_⟩:=nF h1;obtain⟨rfl,hall⟩:=mm hy0;exact⟨σ,hall σ (sr (hoff m hm)).symm,hx0⟩
   ·rename_i ag sz' m os sz a X;have hm:m∈os:=by simpa using hfar
    obtain⟨rfl,_⟩:=mm h1;obtain⟨l,i,v,off,b,_,hoff,rfl,_⟩:=nF hy0;obtain⟨_,hall⟩:=mm hx0;refine⟨_,hy0,hall _ ?_⟩;have hg:get (ly++e) m=get e m:=ax m (by simp[Op.nJ,K.tmps,aM.tmps]);rw[hg];exact sr (hoff m hm)
   ·rename_i os sz a X os' sz' m X';have hm:m∈os:=by simpa using hfar
    obtain⟨l,i,v,off,b,_,hoff,rfl,hall⟩:=nF hx0;obtain⟨l',i',v',off',b',hr,hoff',rfl,hall'⟩:=nF hy0;have hg:get (ly++e) m=get e m:=ax m (by simp[Op.nJ,K.tmps,hm]);have h4:=hoff m hm;rw[hg]at h4;have h5:get e m=.ref l' i' v' off':=by
     simp only[aC]at hr;cases hgm:get e m<;>rw[hgm]at hr<;>simp only[D.strip,reduceCtorEq]at hr;exact hr
    rw[h5]at h4;simp only[D.off,aq]at h4;refine⟨az σ l' i' b',hall' σ bP.symm (kW h4).symm,?_⟩;rw[tW h4];exact hall _ bP (kW fun hh=>h4 ⟨hh.1.symm,hh.2.symm⟩)
   ·rename_i os wd bt a X ag sz' m;have hm:m∈os:=by simpa using hfar
    obtain⟨l,i,b,bc,hoff,rfl⟩:=tU h1;obtain⟨rfl,hall⟩:=mm hy0;exact⟨σ,hall σ (sr (hoff m hm)).symm,hx0⟩
   ·rename_i ag sz' m cs;obtain⟨rfl,_⟩:=mm h1;obtain⟨_,hall⟩:=mm hx0;refine⟨_,hy0,hall _ ?_⟩;have hg:get (ly++e) m=get e m:=ax m (by simp[Op.nJ,K.tmps,aM.tmps]);rw[hg];have hrd:∃c,oX σx (get e m).strip=some c:=by
     simp only[iL,jF,aK,aC]at h1;cases hr:oX σx (get e m).strip with
     |none=>rw[hr]at h1;simp at h1
     |some c=>exact⟨c,rfl⟩
    obtain⟨c,hrd⟩:=hrd;have hn:∃l i,cG σx (.cells 0 cs)=some (l,i,σy):=by
     simp only[iL,jF,aK,dJ,ak,Option.bind_some,ab,ae,Prod.exists,af]at hy0;obtain⟨d0,σ0,⟨l,i,σ3,h1,h2⟩,_,h3⟩:=hy0;cases h2;cases h3;exact⟨l,i,h1⟩
    obtain⟨l,i,hn⟩:=hn;rw[hrd,we hn hrd]
   ·rename_i os wd bt a X ag sz' m;obtain⟨l,i,b,bc,hoff,rfl⟩:=tU h1;obtain⟨rfl,c,hc,hall⟩:=yL hy0;exact⟨σ,hall σ (Aa hc),hx0⟩
   ·cases hfar
 have heq:oj (ly++(lx++e)) (lx++(ly++e)):=fun t=>by
  simp only[oV];by_cases m1:t∈lx.map (·.1)
  ·by_cases m2:t∈ly.map (·.1)
   ·obtain⟨p,hp,rfl⟩:=bg.1 m1;obtain⟨q,hq,he⟩:=bg.1 m2;have:=(c1 _ (d1 p hp)).1;have hq':=d2 q hq;rw[he]at hq';exact absurd hq' (by simpa using this)
   ·rw[if_pos m1,if_neg m2,if_pos m1]
  ·by_cases m2:t∈ly.map (·.1)
   ·rw[if_neg m1,if_pos m2,if_pos m2]
   ·rw[if_neg m1,if_neg m2,if_neg m2,if_neg m1]
 obtain⟨e3,k3,k4⟩:=pj h3 heq;refine⟨e3,?_,k4⟩;rw[dA,hy1];simp only[Option.bind_some];rw[dA,hx1];exact k3
theorem tv{O:aN}{y:Op}{r:List Op}:∀{pre:List Op} {e e2:Env} {σ σ2:SK},(∀x∈pre,x.free y=true) →
  eN O (pre++y::r) e σ=some (e2,σ2)→∃e2',eN O (y::(pre++r)) e σ=some (e2',σ2)∧oj e2 e2'
 |[],e,e2,σ,σ2,hp,h=>⟨e2,h,.refl _⟩
 |x::pre,e,e2,σ,σ2,hp,h=>by
  simp only[aY]at h;rw[dA]at h;simp only[ae,Prod.exists]at h;obtain⟨e1,σ1,h1,h2⟩:=h;obtain⟨e3,h3,h4⟩:=tv (fun z hz=>hp z (by simp[hz])) h2;have h5:eN O (x::y::(pre++r)) e σ=some (e3,σ2):=by rw[dA,h1];exact h3
  obtain⟨e4,h6,h7⟩:=Al (hp x (by simp)) h5;exact⟨e4,h6,h4.trans h7⟩
theorem sv{live:List Nat}(h:oj e e'):restrict live e'=restrict live e:=by
 simp only[restrict];exact List.map_congr_left fun t _=>by rw[h t]
end Go.Abs
