import Derived.Test.YtcgippbplkagkaaGreatBase9
import Derived.Recover
set_option linter.all false
namespace Go.Abs
open Go
def tM(P:Program)(CR:dF)(f:Nat)(args:List D)(σ:SK)(d:D)(σ':SK):Prop :=
 (∃F c,P.funcs[f]?=some F∧F.name ≠ "runtime.NumGoroutine" ∧ F.body=some c) ∧
 ∀base g w vs,Inv CR base g σ w→kX σ→0<σ.length→aY g args vs.toList →
  dH σ σ'∧Calls P f vs w (fun e w'=>∃v g',e=.returned v∧Ev g w g' w'∧Inv CR base g' σ' w'∧a8 g' d v)
def Ku(P:Program)(CR:dF)(f:Nat)(args:List D)(σ:SK)(d:D)(σ':SK):Prop :=
 d.clean=true∧(∃F c,P.funcs[f]?=some F∧F.name ≠ "runtime.NumGoroutine" ∧ F.body=some c) ∧
 ∀base g w vs,Inv CR base g σ w→kX σ→0<σ.length→aY g args vs.toList →
  dH σ σ'∧Calls P f vs w (fun e w'=>∃v g',e=.panicked [{v,recovered:=false }]∧Ev g w g' w'∧Inv CR base g' σ' w'∧a8 g' d v)
def Db(g:G):Option D→FrameMode→Prop
 |none,u=>u=.returning
 |some d,u=>∃v,a8 g d v∧u=.panicking [{v,recovered:=false }]
def Ks(P:Program)(CR:dF)(f:Nat)(args:List D)(th:Option D)(σ σ':SK):Prop :=
 (∃F c,P.funcs[f]?=some F∧F.name ≠ "runtime.NumGoroutine" ∧ F.body=some c) ∧
 ∀base g w vs u,Inv CR base g σ w→kX σ→0<σ.length→aY g args vs.toList→Db g th u →
  dH σ σ'∧CallsD P f vs u w (fun e u' w'=>∃v g',e=.returned v∧settle u'=.returning∧Ev g w g' w'∧Inv CR base g' σ' w')
def Dw(P:Program)(CR:dF)(l i:Nat)(args:List D)(σ:SK)(d:D)(σ':SK):Prop :=
 (∃lp,cM σ l i=some (.loop lp))∧∀base g w vs b,Inv CR base g σ w→kX σ→0<σ.length→aY g args vs.toList→a8 g (.iN l i) (.func (.yield b) #[] #[]) →
  dH σ σ'∧∃f tmps q8 body,(Instr.yield b vs).run P w=.ok (.round b f tmps q8 body) w ∧
   ∀c cs,∃v g' w',Steps P (lone (Frame.round b f tmps q8 body .normal) (c::cs) w) (lone (c.finish v) cs w')∧Ev g w g' w'∧Inv CR base g' σ' w'∧a8 g' d v
def rN(k:List Item):Exit→List Item→Prop
 |.normal,t=>t=k
 |.exit id,t=>∃k',t=.code (.exit id)::k'∧exitTo id k'=exitTo id k
 |.ret,t=>∃k',t=.code .ret::k'
 |.eR _,_=>True
def ou(S:Frame→Prop)(g:G)(b:Frame)(a:Act)(todo:List Item):Exit→Prop
 |.eR d=>d.clean=true∧∃v,a8 g d v∧S {b.atR a todo with mode:=.panicking [{v,recovered:=false }] }
 |_=>S (b.atR a todo)
theorem ou.imp{S S':Frame→Prop}{g:G}{b:Frame}{a:Act}{todo:List Item}{x:Exit}(h:ou S g b a todo x)(hs:∀fr,S fr→S' fr):ou S' g b a todo x:=by
 cases x with
 |eR d=>obtain⟨h0,v,h1,h2⟩:=h;exact⟨h0,v,h1,hs _ h2⟩
 |_=>exact hs _ h
def Ub(P:Program)(CR:dF)(c:bQ)(e:Env)(σ:SK)(x:Exit)(e':Env)(σ':SK):Prop :=
 x ≠ .normal∧∀(ann:nv) bu code n,br P ann n bu code=some c→∀base g0 w0 b a k cs g w B,At CR base ann.cn g0 w0 n b g w B e σ a →
  ∃g' w' B' a' todo,ou (fun fr=>Steps P (lone (b.atR a (.code code::.inLoop code::k)) cs w) (lone fr cs w')) g' b a' todo x ∧
   At CR base ann.cn g0 w0 n b g' w' B' e' σ' a'∧g.le g'∧rN k x todo∧dH σ σ'
def FV(P:Program)(ann:nv)(n bu:Nat)(rest:bQ):Option Code→Prop
 |none=>rest=.ei
 |some q=>br P ann n bu q=some rest
def Kt(P:Program)(CR:dF)(live:List Nat)(it:ba)(nx ok bid:Nat)(c rest:bQ)(e:Env)(σ:SK)(x:Exit)(e':Env)(σ':SK):Prop :=
 ∀(ann:nv) bu rid ops p n it0 (qs:Option Code),it=.t it0→CC ann n (.loop (.seq (.region rid ops false) p))=some (it0,nx,ok)→br P ann n bid p=some c→FV P ann n bu rest qs →
  ∀base g0 w0 b a k cs g w B,At CR base ann.cn g0 w0 n b g w B e σ a →
  ∃g' w' B' a' todo,ou (fun fr=>Steps P (lone (b.atR a (.code (.seq (.region rid ops false) p)::.inLoop (.seq (.region rid ops false) p)::.inBlock bid::(qs.toList.map Item.code++k))) cs w) (lone fr cs w')) g' b a' todo x ∧
   At CR base ann.cn g0 w0 n b g' w' B' e' σ' a'∧g.le g'∧rN k x todo∧dH σ σ'
def vV(P:Program)(CR:dF):Q→R→Prop
 |.call _ f args σ,.val d σ'=>tM P CR f args σ d σ'
 |.round l i args σ,.val d σ'=>Dw P CR l i args σ d σ'
 |.loop _ _ c e σ,.tJ x e' σ'=>Ub P CR c e σ x e' σ'
 |.call _ f args σ,.eR d σ'=>Ku P CR f args σ d σ'
 |.ew live it nx ok bid c rest e σ,.tJ x e' σ'=>Kt P CR live it nx ok bid c rest e σ x e' σ'
 |.so f args th σ,.val _ σ'=>Ks P CR f args th σ σ'
 |_,_=>True
def pR(P:Program)(CR:dF)(O:bd):Prop:=∀q r,O q=some r→vV P CR q r
theorem vT{r:Option R}{d:D}{σ:SK}(h:R.aP r=some (d,σ)):r=some (.val d σ):=by
 unfold R.aP at h;split at h
 ·cases h;rfl
 ·cases h
theorem y8{r:Option R}{x:Exit}{e:Env}{σ:SK}(h:R.Ex r=some (x,e,σ)):r=some (.tJ x e σ):=by
 unfold R.Ex at h;split at h
 ·cases h;rfl
 ·cases h
section
variable {P:Program} {CR:dF} {O:bd} {ann:nv} {n cL:Nat} {ops:Array Oper} {base:Nat} {g0 g:G} {w0 w:World} {b:Frame} {B:Nat→Nat} {e e':Env} {σ σ':SK} {a:Act}
 {k:List Item} {cs:List Frame} {i:Nat} {rest:List Nat}
def AP(P:Program)(CR:dF)(ann:nv)(n:Nat)(ops:Array Oper)(base:Nat)(g0:G)(w0:World)(b:Frame)(g:G)(w:World)(a:Act)(k:List Item)(cs:List Frame)(i:Nat)(rest:List Nat)(σ:SK)(e':Env)(σ':SK):Prop :=
 ∃g' w' B' a',Steps P (lone (b.atR a (.inRegion ops (i::rest)::k)) cs w) (lone (b.atR a' (.inRegion ops rest::k)) cs w') ∧
  At CR base ann.cn g0 w0 n b g' w' B' e' σ' a'∧g.le g'∧dH σ σ'
theorem At.go{V:List Nat}(ha:At CR base V g0 w0 n b g w B e σ a){g':G}{w':World}{B':Nat→Nat}{tm:Act}(he:Ev g w g' w')(hi:Inv CR base g' σ' w')(hg:dH σ σ')
  (hf:Fr w0.heap.size V g' w' B' e' tm.tmps) (hs:tm.tmps.size=a.tmps.size) (hd:tm.defers=a.defers):At CR base V g0 w0 n b g' w' B' e' σ' tm where
 fr:=hf
 ev:=ha.ev.trans he
 inv:=hi
 low:=hg.low ha.low
 pos:=by rw[hg.len];exact ha.pos
 size:=by rw[hs];exact ha.size
 marks:=let ⟨rs,h⟩:=ha.marks;⟨rs,by rw[hd];exact h.ev he⟩
 round:=nC ha.round he.le
theorem sH{dst:Option Nat}{c:Value}:(a.put dst c).tmps.size=a.tmps.size:=by cases dst<;>simp[Act.put]
theorem put_defers{dst:Option Nat}{c:Value}:(a.put dst c).defers=a.defers:=by cases dst<;>simp[Act.put]
theorem Bx{ann:nv}{key:Nat}{o:Oper}{kk:K}(h:kC P ann ops key o=some kk):∀c,o.op ≠ .defer c:=by
 intro c hc;unfold kC at h;rw[hc]at h;cases h
theorem rB(ha:At CR base ann.cn g0 w0 n b g w B e σ a){o:Oper}(ho:ops[i]?=some o)(hn:∀t,o.dst=some t→t<n)(hV:∀t,o.dst=some t→t ∉ ann.cn)
  {g':G} {w':World} {d:D} {c:Value} (hsteps:Steps P (lone (b.atR a (.inRegion ops (i::rest)::k)) cs w) (lone (b.atR (a.put o.dst c) (.inRegion ops rest::k)) cs w'))
  (he:Ev g w g' w') (hi:Inv CR base g' σ' w') (hg:dH σ σ') (hr:bI g' B e d c):
  AP P CR ann n ops base g0 w0 b g w a k cs i rest σ (put o.dst d e) σ':=by
 refine⟨g',w',B,a.put o.dst c,hsteps,ha.go he hi hg ?_ sH put_defers,he.le,hg⟩;exact(ha.fr.ev he).put hr hV fun t ht=>by rw[ha.size];exact hn t ht
theorem fF{ρ:Operand→Value}{f:Operand}{args:Array Operand}{ts:Array TypeId}{ty:TypeId}{fn:Go.Fn}{first cap:Array Value}(hf:ρ f=.func fn first cap)(w:World):
  (resolve ρ {callee:=.value f,args,argTypes:=ts } ty).run P w=.ok {target:=.fn fn cap,args:=first++args.map ρ } w:=by
 simp[resolve,Deferred.ofValue,hf]
theorem oD{f:FuncId}{args:Array Value}{F:Func}(h1:P.funcs[f]?=some F)(h2:F.name ≠ "runtime.NumGoroutine"){c:Code}(h3:F.body=some c)(w:World):
  (callFunc f args).run P w=.ok (.enter f args) w:=by
 simp[callFunc,program,Sem.run,h1,h2,h3]
theorem va{xs:Array Operand}{Xs:List ba}{fb:Nat}{V:List Nat}{tmps:Array Value}{df:List Deferred}(hf:Fr fb V g w B e tmps)(hx:om xs.toList=some Xs):
  aY g (Xs.map (Abs.aR e)) (xs.map (Act.mk tmps df).eval).toList:=by
 have:=hf.Vn (df:=df) hx;simpa using this
theorem DC(hO:pR P CR O)(ha:At CR base ann.cn g0 w0 n b g w B e σ a){o:Oper}(ho:ops[i]?=some o)(hw:Region.wanted o (yielded ops a.tmps)=true)
  (hn:∀t,o.dst=some t→t<n) (hV:∀t,o.dst=some t→t ∉ ann.cn) {f:Operand} {args:Array Operand} {ts:Array TypeId} (hop:o.op=.call {callee:=.value f,args,argTypes:=ts })
  {F:ba} {Xs:List ba} (hF:aW f=some F) (hX:om args.toList=some Xs) {kp:Bool} {d:D} (h:kN O kp (aR e F) (Xs.map (aR e)) σ=some (d,σ')):
  AP P CR ann n ops base g0 w0 b g w a k cs i rest σ (put o.dst d e) σ':=by
 obtain⟨tmps,df⟩:=a;have hd:∀c,o.op ≠ .defer c:=by intro c hc;rw[hop]at hc;cases hc
 have hfv:=ha.fr.aR (df:=df) hF;have hxs:=va (df:=df) ha.fr hX;unfold kN at h;split at h
 ·rename_i fi first cap hfe
  rw[hfe]at hfv;have hans:=hO _ _ (vT h);obtain⟨⟨Fn,cd,hfn1,hfn2,hfn3⟩,hcall⟩:=hans;generalize hev:(Act.mk tmps df).eval f=fv at hfv;cases hfv with
  |fn _ _ _ first' cap' r1 r2 =>
   have hrun:(execOp (Act.mk tmps df).eval o).run P w=.ok (.enter fi (first'++args.map (Act.mk tmps df).eval++cap')) w:=by
    simp only[execOp,hop,Sem.run_bind,fF hev,Result.andThen_ok,invoke,oD hfn1 hfn2 hfn3]
   have hargs:aY g (first++Xs.map (aR e)++cap) (first'++args.map (Act.mk tmps df).eval++cap').toList:=by
    simpa using(r1.append hxs).append r2
   obtain⟨hgo,hcalls⟩:=hcall base g w _ ha.inv ha.low ha.pos hargs;obtain⟨en,w',fr,⟨v,g',rfl,he,hi,hr⟩,hcomes,hfr,hleave⟩:=hcalls (b.atR ⟨tmps,df⟩ (.inRegion ops (i::rest)::k)::cs);refine rB ha ho hn hV (Steps.head (yh ho hw hd hrun) (Steps.trans hcomes (Steps.one ?_))) he hi hgo (bI.of hr);rw[step_leave_returned hleave,sY ho]
 ·rename_i l j hfe;rw[hfe]at hfv;have hans:=hO _ _ (vT h);generalize hev:(Act.mk tmps df).eval f=fv at hfv;have hfv0:=hfv;cases hfv with
  |EP _ _ bb r1 =>
   obtain⟨⟨lp,hlp⟩,_⟩:=hans;obtain⟨b0,hb0,hrel⟩:=ha.inv.o8 _ _ _ r1;rw[hlp]at hb0;cases hb0;exact hrel.elim
  |JY _ _ bb L r1 r2 =>
   obtain⟨⟨lp,hlp⟩,_⟩:=hans;obtain⟨b0,hb0,hrel⟩:=ha.inv.o8 _ _ _ r1;rw[hlp]at hb0;cases hb0;rcases r2 with rfl | rfl<;>exact hrel.elim
  |Fa _ _ bb L r1 r2 =>
   obtain⟨⟨lp,hlp⟩,_⟩:=hans;obtain⟨b0,hb0,hrel⟩:=ha.inv.o8 _ _ _ r1;rw[hlp]at hb0;cases hb0;rcases r2 with⟨c,rfl⟩ | rfl<;>exact hrel.elim
  |iN _ _ bb r1 =>
   obtain⟨hgo,f0,tm0,q8,body,hy,hround⟩:=hans.2 base g w (args.map (Act.mk tmps df).eval) bb ha.inv ha.low ha.pos (by simpa using hxs) hfv0;have hrun:(execOp (Act.mk tmps df).eval o).run P w=.ok (.round bb f0 tm0 q8 body) w:=by
    simp only[execOp,hop,Sem.run_bind,fF hev,Result.andThen_ok,invoke];simpa using hy
   obtain⟨v,g',w',hsteps,he,hi,hr⟩:=hround (b.atR ⟨tmps,df⟩ (.inRegion ops (i::rest)::k)) cs;refine rB ha ho hn hV (Steps.head (C0 ho hw hd hrun) ?_) he hi hgo (bI.of hr);rw[sY ho]at hsteps;exact hsteps
 ·cases h
end
section
variable {P:Program} {CR:dF} {O:bd} {ann:nv} {n cL:Nat} {ops:Array Oper} {base:Nat} {g0 g:G} {w0 w:World} {b:Frame} {B:Nat→Nat} {e e':Env} {σ σ':SK} {a:Act}
 {k:List Item} {cs:List Frame} {i:Nat} {rest:List Nat}
theorem Ju(ha:At CR base ann.cn g0 w0 n b g w B e σ a){o:Oper}(ho:ops[i]?=some o)(hw:Region.wanted o (yielded ops a.tmps)=true)(hd:∀c,o.op ≠ .defer c)
  {v:Nat} (hdst:o.dst=some v) (hV:v∈ann.cn) (hn:v<n) {g1:G} {ds:List D} {ca:Array Value} {el:TypeId}
  (hrun:(execOp a.eval o).run P w=.ok (.value (.pointer (some ⟨w.heap.size,0,none⟩))) (w.alloc (.cells ca el)))
  (i1:Inv CR base g1 σ' w) (e1:Ev g w g1 w) (hg:dH σ σ') (hr:aY g1 ds ca.toList) (h1:∀x∈ca.toList,x.oneCell'=true):
  AP P CR ann n ops base g0 w0 b g w a k cs i rest σ ((v,.own (nu e v) ds)::e) σ':=by
 obtain⟨tmps,df⟩:=a;have i2:=i1.alloc (.cells ca el);have e2:=e1.trans (Ev.alloc g1 w (.cells ca el));have hsteps:=o4 (P:=P) (b:=b) (a:=⟨tmps,df⟩) (k:=k) (cs:=cs) (rest:=rest) ho hw hd hrun rfl;rw[hdst]at hsteps;have hsz:v<tmps.size:=by have:=ha.size;simp only at this;omega
 refine⟨g1,_,_,_,.one hsteps,ha.go e2 i2 hg ((ha.fr.ev e2).Vs hV hsz ⟨ha.ev.size,fun hb=>?_,fun o=>?_,ca,el,mf,hr,h1⟩ fun t s cs' ht=>?_) sH put_defers,e2.le,hg⟩
 ·exact Nat.lt_irrefl _ (i1.I0 hb)
 ·cases hh:g1.jV w.heap.size o with
  |none=>rfl
  |some x=>exact absurd (i1.eO hh) (Nat.lt_irrefl _)
 ·have:=(ha.fr.own t s cs' ht).2.2.lt;omega
theorem Wi(ha:At CR base ann.cn g0 w0 n b g w B e σ a){o:Oper}(ho:ops[i]?=some o)(hw:Region.wanted o (yielded ops a.tmps)=true)
  (hn:∀t,o.dst=some t→t<n) (hV:∀t,o.dst=some t→t ∉ ann.cn) {t:TypeId} {x v:Nat} {y:Operand} {Y:ba} (hop:o.op=.store t (.tmp x) y) (hy:aW y=some Y) {sz:Nat} (hsz:bX P t=some sz)
  {s off:Nat} {cv p p':List D} {nb:List (Nat×Nat)} (hin:lC e v x=some (s,cv,off)) (hp:(aR e Y).cells=some p) (hlen:p.length=sz∧off+sz≤cv.length)
  (hnb:fP nb p σ=some (p',σ')) (hdst:o.dst=none):
  AP P CR ann n ops base g0 w0 b g w a k cs i rest σ ((v,.own s (cv.take off++p'++cv.drop (off+sz)))::e) σ':=by
 obtain⟨tmps,df⟩:=a;have hd:∀c,o.op ≠ .defer c:=by intro c hc;rw[hop]at hc;cases hc
 obtain⟨hgv,hpx⟩:=ha.fr.lC hin;obtain⟨hvV,hptr,hob⟩:=ha.fr.own v s cv hgv;obtain⟨ca,el,hheap,hrl,h1c⟩:=hob.bu;obtain⟨hrp,h1p⟩:=(ha.fr.aR (df:=df) hy).cells hp;obtain⟨g1,i1,e1,r1⟩:=oR nb _ _ _ _ g _ hnb ha.inv hrp;obtain⟨_,hp'len,_⟩:=rD nb _ _ _ _ hnb;have hpl:((Act.mk tmps df).eval y).cells.toList.length=sz:=by rw[← r1.length,hp'len];exact hlen.1
 have hpl':((Act.mk tmps df).eval y).cells.size=sz:=by simpa using hpl
 have hcl:ca.size=cv.length:=by have:=hrl.length;simpa using this.symm
 obtain⟨w',c',hrun,hb',hs',hc',hother,hsize,ho1,ho2,ho3⟩:=ve (P:=P) (t:=t) (w:=w) (b:=B v) (o:=off) (v:=(Act.mk tmps df).eval y) hsz (by simpa using hpl) h1p hheap (by omega);have hob1:=hob.ev e1;have hcv:(Act.mk tmps df).eval (.tmp x)=.pointer (some ⟨B v,off,none⟩):=hpx;have hrunO:(execOp (Act.mk tmps df).eval o).run P w=.ok .skip w':=by
  simp[execOp,hop,Instr.storeAt,hcv,Instr.sureAddr,hrun]
 have hoth:∀b',b'≠B v→w'.heap[b']?=w.heap[b']?:=hother;have i2:Inv CR base g1 σ' w':=i1.zX (fun b' hb'' hk=>hoth b' fun hh=>by
  subst hh;rcases hk with hk | ⟨o2,v2,hk⟩
  ·exact hob1.free hk
  ·rw[hob1.lD]at hk;cases hk) (by omega)
 have hwrite:aY g1 (cv.take off++p'++cv.drop (off+sz)) c'.toList∧∀z∈c'.toList,z.oneCell'=true:=by
  have hrow:=zw (c:=ca) (c':=c') (bo:=0) (off:=off) (vs:=ca.toList) (ps:=((Act.mk tmps df).eval y).cells.toList) (fun j z hz=>⟨by simpa using hz,h1c z (aj hz)⟩) h1p (by simp;omega)
   (by rw[hpl];simpa using hc')
  rw[hpl]at hrow;have hrel:=(((hrl.mono e1.le).take off).append r1).append ((hrl.mono e1.le).drop (off+sz));have heq:c'.toList=ca.toList.take off++((Act.mk tmps df).eval y).cells.toList++ca.toList.drop (off+sz):=by
   have hll:(ca.toList.take off++((Act.mk tmps df).eval y).cells.toList++ca.toList.drop (off+sz)).length=c'.toList.length:=by
    simp only[bS,hpl,bO,List.length_drop,Array.length_toList,hs'];omega
   apply kh;intro j;by_cases hj:j<c'.toList.length
   ·have hj2:=hj;rw[← hll]at hj2;have:=(hrow j _ (au hj2)).1;rw[au hj2];simpa using this
   ·rw[bT (by omega),bT (by omega)]
  rw[heq];refine⟨hrel,fun z hz=>?_⟩;simp only[aX]at hz;rcases hz with(hz | hz) | hz
  ·exact h1c z (cq hz)
  ·exact h1p z hz
  ·exact h1c z (cp hz)
 have hob2:yj w0.heap.size g1 w' (B v) (cv.take off++p'++cv.drop (off+sz)):=⟨hob1.lo,hob1.free,hob1.lD,c',el,hb',hwrite.1,hwrite.2⟩;have hsteps:=o4 (P:=P) (b:=b) (a:=⟨tmps,df⟩) (k:=k) (cs:=cs) (rest:=rest) ho hw hd hrunO rfl;rw[hdst]at hsteps;have hgo:=ma _ _ _ _ _ hnb;refine⟨g1,w',B,⟨tmps,df⟩,.one hsteps,⟨?_,?_,i2,hgo.low ha.low,by rw[hgo.len];exact ha.pos,ha.size,?_,nC ha.round e1.le⟩,e1.le,hgo⟩
 ·exact(ha.fr.ev e1).CV hgv hob2 fun b' _ hne=>hoth b' hne
 ·have h0:=ha.ev.trans e1;refine⟨h0.le,ho1.trans h0.os,ho2.trans h0.tape,ho3.trans h0.output,by have:=h0.size;omega,fun b' hb'' hnb'=>?_,h0.Fe,h0.yJ⟩;rw[hoth b' (by have:=hob.lo;omega)];exact h0.kept b' hb'' hnb'
 ·obtain⟨rs,hm⟩:=ha.marks;have hm1:=hm.ev e1;refine⟨rs,hm1.eq,hm1.nodup,fun r hr=>?_⟩;have hmr:=hm1.all r hr;refine⟨hmr.lo,hmr.free,hmr.lD,?_⟩;rw[hoth r,hmr.bu];intro hh;subst hh;have:=hmr.bu;rw[hheap]at this;cases this
def KEq(P:Program)(ann:nv)(o:Oper)(kk:K):Prop :=
  match kk with
  |.call _ F Xs=>∃f args ts,o.op=.call {callee:=.value f,args,argTypes:=ts }∧aW f=some F∧om args.toList=some Xs
  |.fR _ z=>∃el v,o.op=.alloc el∧lE P el=some z∧o.dst=some v∧v∈ann.cn
  |.xu X=>∃t x v,o.op=.box t x∧aW x=some X∧o.dst=some v∧v∈ann.cn
  |.wM _ _ sz x Y=>∃t y,o.op=.store t (.tmp x) y∧aW y=some Y∧bX P t=some sz
  |.Fg X=>∃y,o.op=.panic y∧aW y=some X
  |.CQ=>∃args ts,o.op=.call {callee:=.builtin .recover,args,argTypes:=ts }
  |_=>True
theorem Cz{X Y:ba}{t:TypeId}{bo:BinOp}{kk:K}{o:Oper}(hk:Uv P bo t X Y=some kk):KEq P ann o kk:=by
 unfold Uv at hk;split at hk
 case h_2=>cases hk
 split at hk
 ·cases hk
 split at hk
 ·obtain⟨ag,hag,rfl⟩:=ab.1 hk;trivial
 ·obtain⟨ag,hag,rfl⟩:=ab.1 hk;trivial
 ·cases hk
theorem Ja{kk:K}{key:Nat}{o:Oper}(hk:kC P ann ops key o=some kk):KEq P ann o kk:=by
 unfold kC at hk;split at hk
 ·rename_i x ho;obtain⟨X,hX,rfl⟩:=ab.1 hk;trivial
 ·rename_i x ho;split at hk
  ·rename_i hnil _ _;split at hk
   ·obtain⟨X,hX,rfl⟩:=ab.1 hk;trivial
   ·obtain⟨X,hX,rfl⟩:=ab.1 hk;trivial
  ·obtain⟨X,hX,rfl⟩:=ab.1 hk;trivial
 ·rename_i c x y ho;split at hk
  ·rename_i c' x' y' h1 h2 h3;cases hk;trivial
  ·cases hk
 ·rename_i el ho;split at hk
  ·rename_i z d0 hz hd0;split at hk
   ·split at hk
    case h_2=>cases hk
    split at hk
    case h_2=>cases hk
    split at hk
    case h_2=>cases hk
    cases hk;trivial
   cases hk;split
   ·rename_i hc;exact⟨el,d0,ho,hz,hd0,by simpa using hc⟩
   ·trivial
  ·cases hk
 ·rename_i t x ho;split at hk
  ·rename_i x' d0 hx hd0;cases hk;by_cases hc:ann.cn.contains d0=true
   ·simp only[hc,if_true];exact⟨t,x,d0,ho,hx,hd0,by simpa using hc⟩
   ·rw[if_neg hc];split
    ·split<;>trivial
    ·trivial
  ·cases hk
 ·rename_i t ps ho;split at hk
  ·rename_i fs z ht hz;split at hk
   ·rename_i hall;obtain⟨parts,hp,rfl⟩:=ab.1 hk;trivial
   ·cases hk
  ·rename_i n el z ht hz;split at hk
   ·rename_i wd hw;obtain⟨parts,hp,rfl⟩:=ab.1 hk;trivial
   ·cases hk
  ·cases hk
 ·rename_i t n ps ho;split at hk
  ·rename_i el ht;split at hk
   ·rename_i wd z d0 hw hz _;split at hk
    ·rename_i hc;obtain⟨parts,hp,rfl⟩:=ab.1 hk;dsimp only;split
     ·trivial
     split<;>trivial
    ·cases hk
   ·cases hk
  ·cases hk
 ·rename_i t x ho;split at hk
  ·rename_i ag sz n hag hsz hx;split at hk
   ·rename_i hc;simp only[ak,av]at hc;cases hk;have hxe:x=.tmp n:=by
     cases x<;>simp only[aW,ae,ba.t.injEq,reduceCtorEq,ab,and_false,exists_false]at hx;rw[hx]
    split
    ·trivial
    ·split
     ·trivial
     ·split<;>trivial
   ·cases hk
  ·cases hk
 ·rename_i t x y ho;split at hk
  ·rename_i sz n y' hsz hx hy;cases hk;have hxe:x=.tmp n:=by
    cases x<;>simp only[aW,ae,ba.t.injEq,reduceCtorEq,ab,and_false,exists_false]at hx;rw[hx]
   by_cases hc:ann.cn.contains (wv ops 8 n)=true
   ·simp only[hc,if_true];exact⟨t,y,by rw[ho,hxe],hy,hsz⟩
   ·rw[if_neg hc];split<;>trivial
  ·cases hk
 ·rename_i b t x y u ho;split at hk
  ·rename_i hx hy;cases hk;trivial
  ·rename_i hx hy;exact Cz hk
  ·rename_i hx hy;exact Cz hk
  ·rename_i hx hy;exact Cz hk
  ·rename_i ht hx hy;split at hk<;>cases hk<;>trivial
  ·rename_i ht hx hy;unfold JX at hk;split at hk<;>cases hk<;>trivial
  ·rename_i ht hx hy;split at hk
   ·split at hk<;>cases hk<;>trivial
   ·cases hk
  ·rename_i ht hx hy;unfold JX at hk;split at hk<;>cases hk<;>trivial
  ·rename_i ht hx hy;split at hk<;>cases hk<;>trivial
  ·cases hk
 ·rename_i x ho;obtain⟨X,hX,rfl⟩:=ab.1 hk;trivial
 ·rename_i b t x ho;obtain⟨X,hX,rfl⟩:=ab.1 hk;trivial
 ·rename_i s t x ho;split at hk
  ·rename_i hs ht hx;cases hk;trivial
  ·split at hk<;>cases hk<;>trivial
  ·split at hk<;>cases hk<;>trivial
  ·split at hk
   ·split at hk<;>cases hk<;>trivial
   ·cases hk
  ·cases hk
 ·rename_i t x ho;split at hk
  ·obtain⟨X,hX,rfl⟩:=ab.1 hk;trivial
  ·cases hk
 ·rename_i f xs ys ho;split at hk
  ·rename_i hx hy;cases hk;trivial
  ·cases hk
 ·rename_i t x y ho;split at hk
  ·rename_i el ht;split at hk
   ·rename_i hw hb hz hx hy;split at hk
    ·rename_i hc;cases hk;trivial
    ·cases hk
   ·cases hk
  ·cases hk
 ·rename_i t x lo hh mx ho;split at hk
  ·rename_i ht hx hlo hhi hmx;obtain⟨wd,hw,rfl⟩:=ab.1 hk;trivial
  ·rename_i ht hx hlo hhi hmx;obtain⟨wd,hw,rfl⟩:=ab.1 hk;have hm:mx=none:=by
    cases mx with
    |none=>rfl
    |some m=>simp[oU,ab]at hmx
   subst hm;trivial
  ·rename_i ht hx hlo hhi hmx;cases hk;trivial
  ·cases hk
 ·rename_i s x i ho;split at hk
  ·rename_i fs x' hs hx;split at hk
   ·rename_i off sz hfc;split at hk
    ·rename_i hpos;cases hk;trivial
    ·cases hk
   ·cases hk
  ·cases hk
 ·rename_i s x i ho;split at hk
  ·rename_i fs x' hs hx;split at hk
   ·rename_i f hfi;split at hk
    ·rename_i hag hsz;split at hk
     ·cases hk;trivial
     ·cases hk
    ·cases hk
   ·cases hk
  ·cases hk
 ·rename_i t x y ho;split at hk
  ·rename_i ht hx hy;obtain⟨wd,hw,rfl⟩:=ab.1 hk;trivial
  ·rename_i ht hx hy;obtain⟨wd,hw,rfl⟩:=ab.1 hk;trivial
  ·cases hk
 ·rename_i t x y ho;split at hk
  ·rename_i ht hx hy;split at hk
   ·rename_i hag hsz;split at hk
    ·cases hk;trivial
    ·cases hk
   ·cases hk
  ·rename_i ht hx hy;cases hk;trivial
  ·cases hk
 ·rename_i x i ho;obtain⟨X,hX,rfl⟩:=ab.1 hk;trivial
 ·rename_i c ho;obtain⟨callee,args,ts⟩:=c;dsimp only at hk;split at hk
  ·rename_i f;split at hk
   ·rename_i hf hx;cases hk;exact⟨f,args,ts,ho,hf,hx⟩
   ·cases hk
  ·split at hk
   ·rename_i t tr x r hts ha;split at hk
    ·rename_i ht hx;cases hk;trivial
    ·rename_i ht hx;cases hk;trivial
    ·rename_i ht hx;cases hk;trivial
    ·rename_i ht;cases hk;trivial
    ·rename_i ht;split at hk
     ·rename_i hr;cases hk;trivial
     ·cases hk
    ·cases hk
   ·cases hk
  ·cases hk;exact⟨_,_,ho⟩
  ·split at hk
   ·rename_i ha;split at hk
    ·rename_i hx hy;cases hk;trivial
    ·cases hk
   ·cases hk
  ·split at hk
   ·rename_i ha;split at hk
    ·rename_i hx hy;cases hk;trivial
    ·cases hk
   ·cases hk
  ·split at hk
   ·rename_i t u x y hts ha;split at hk
    ·rename_i ht hu hx hy;split at hk
     case isFalse=>cases hk
     split at hk
     ·rename_i hw hb hz;split at hk
      ·rename_i hc;cases hk;split
       ·trivial
       ·split
        ·trivial
        ·split
         ·trivial
         ·split<;>trivial
      ·cases hk
     ·cases hk
    ·cases hk
   ·cases hk
  ·cases hk
 ·rename_i t x ho;split at hk
  ·obtain⟨X,hX,rfl⟩:=ab.1 hk;trivial
  ·cases hk
 ·rename_i x xt t ok ho;split at hk
  ·cases hk
  ·split at hk
   ·obtain⟨z,hz,rfl⟩:=ab.1 hk;trivial
   ·cases hk;trivial
  ·cases hk
 ·rename_i x ho;obtain⟨X,hX,rfl⟩:=ab.1 hk;exact⟨x,ho,hX⟩
 ·rename_i t ho;cases hk;trivial
 ·split at hk<;>cases hk<;>trivial
 ·rename_i t x ho;split at hk
  ·rename_i ht hx;cases hk;trivial
  ·cases hk
 ·rename_i x ho;split at hk
  ·rename_i hx;cases hk;trivial
  ·cases hk
 ·rename_i t x y ok ho;split at hk
  ·split at hk
   ·cases hk;trivial
   ·cases hk
  ·cases hk
 ·rename_i t m x y ho;split at hk
  ·split at hk
   ·cases hk;trivial
   ·cases hk
  ·cases hk
 ·rename_i t m x y ho;split at hk
  ·split at hk
   ·cases hk;trivial
   ·cases hk
  ·cases hk
 ·cases hk
theorem EZ{kk:K}(h:kk.makes=true):a7 e σ kk=none:=by
 cases kk<;>simp[K.makes]at h<;>rfl
theorem F0(hO:pR P CR O)(ha:At CR base ann.cn g0 w0 n b g w B e σ a){o:Oper}(ho:ops[i]?=some o)(hw:Region.wanted o (yielded ops a.tmps)=true)
  {rU:Bool} {op:Op} (hop:ET P ann n cL ops rU i o=some op) (h:oF O op e σ=some (e',σ')):
  AP P CR ann n ops base g0 w0 b g w a k cs i rest σ e' σ':=by
 unfold ET at hop;split at hop
 case h_2=>cases hop
 rename_i kk hk;split at hop
 case h_2=>cases hop
 rename_i gd hgd hdn;simp only[aJ,ak]at hop;obtain⟨⟨hown,hst⟩,hop⟩:=hop;cases hop;have hn:∀t,o.dst=some t→t<n:=by
  intro t ht;rw[ht]at hdn;simpa using hdn
 have hV:kk.makes=false→∀t,o.dst=some t→t ∉ ann.cn:=by
  intro hm t ht;rw[ht]at hown;simp[hm]at hown;simpa using hown
 have hd:=Bx hk;have hkeq:=Ja hk;unfold oF at h;dsimp only at h;split at h
 ·
  rename_i kp F Xs;split at h
  case h_2=>cases h
  rename_i d σ1 hc;split at h
  case isFalse=>cases h
  cases h;obtain⟨f,args,ts,h1,h2,h3⟩:=hkeq;exact DC hO ha ho hw hn (hV rfl) h1 h2 h3 hc
 ·
  rename_i nb z;obtain⟨el,v,h1,h2,h3,h4⟩:=hkeq;rw[h3]at h;cases hnb:fP nb z σ with
  |none=>simp[hnb]at h
  |some x =>
   obtain⟨cs',σ1⟩:=x;simp only[hnb,ae,ai]at h;obtain⟨rfl,rfl⟩:=h;obtain⟨i0,vz,hinfo,hzero,hrz,h1z⟩:=mw g h2;obtain⟨g1,i1,e1,r1⟩:=oR nb _ _ _ _ g _ hnb ha.inv hrz;exact Ju (el:=el) ha ho hw hd h3 h4 (hn _ h3) (by simp[execOp,h1,vO hinfo hzero]) i1 e1 (ma _ _ _ _ _ hnb) r1 h1z
 ·
  rename_i X;obtain⟨t,x,v,h1,h2,h3,h4⟩:=hkeq;rw[h3]at h;cases hcx:(aR e X).cells with
  |none=>simp[hcx]at h
  |some cs' =>
   simp only[hcx,ae,ai]at h;obtain⟨rfl,rfl⟩:=h;obtain⟨tmps,df⟩:=a;obtain⟨hr,h1z⟩:=(ha.fr.aR (df:=df) h2).cells hcx;exact Ju (el:=t) ha ho hw hd h3 h4 (hn _ h3) (by simp[execOp,h1,Instr.box,newVar,newRow]) ha.inv (Ev.refl g w) (.refl σ) hr h1z
 ·
  rename_i v nb sz x X;obtain⟨t,y,h1,h2,h3⟩:=hkeq;have hdst:o.dst=none:=by simpa[K.aan]using hst
  split at h
  case h_2=>cases h
  rename_i s cv off p hin hp;split at h
  case isFalse=>cases h
  rename_i hlen;split at h
  case h_2=>cases h
  rename_i p' σ1 hnb;cases h;exact Wi ha ho hw hn (hV rfl) h1 h2 h3 hin hp hlen hnb hdst
 ·
  rename_i k1 h1 h2 h3 h4;cases hs:a7 e σ kk with
  |none=>simp[hs]at h
  |some x =>
   obtain⟨d,σ1⟩:=x;simp only[hs,aM,ae,ai]at h;obtain⟨rfl,rfl⟩:=h;have hm:kk.makes=false:=by
    cases hm:kk.makes
    ·rfl
    ·rw[EZ hm]at hs;cases hs
   obtain⟨tmps,df⟩:=a;obtain⟨x,c,g',w',hrun,hx,he,hi,hr⟩:=Wf (df:=df) ha.fr ha.inv hk hs;exact rB ha ho hn (hV hm) (.one (o4 ho hw hd hrun hx)) he hi (JF hs) hr
inductive ot {α β:Type} (R:α→β→Prop):List α→List β→Prop
 |nil:ot R [] []
 |cons {x:α} {y:β} {xs:List α} {ys:List β}:R x y→ot R xs ys→ot R (x::xs) (y::ys)
def xd(P:Program)(ann:nv)(n cL:Nat)(ops:Array Oper)(i:Nat)(x:Op):Prop:=∃o rU,ops[i]?=some o∧ET P ann n cL ops rU i o=some x
theorem Ad{rU:Bool}{o:Oper}{op:Op}(h:ET P ann n cL ops rU i o=some op):
  op.dst=o.dst∧(∀t,o.dst=some t→t<n)∧((o.guard=none∧op.uf=none)∨∃j d bb,o.guard=some (j,bb)∧op.uf=some (d,bb)∧(ops[j]?).bind (·.dst)=some d∧(∀t,o.dst=some t→t ∉ ann.cn)):=by
 unfold ET at h;split at h
 case h_2=>cases h
 rename_i kk hk;split at h
 case h_2=>cases h
 rename_i gd hgd hdn;simp only[aJ,ak]at h;obtain⟨⟨hown,hst⟩,h⟩:=h;cases h;refine⟨rfl,fun t ht=>by rw[ht]at hdn;simpa using hdn,?_⟩;cases hg:o.guard with
 |none=>rw[hg]at hgd;cases hgd;exact .inl ⟨rfl,rfl⟩
 |some x =>
  obtain⟨j,bb⟩:=x;rw[hg]at hgd;dsimp only at hgd;cases hj:(ops[j]?).bind (·.dst)with
  |none=>rw[hj]at hgd;cases hgd
  |some d =>
   rw[hj]at hgd;cases hgd;refine .inr ⟨j,d,bb,rfl,rfl,hj,fun t ht=>?_⟩;rw[ht,hg]at hown;simpa using hown
theorem tc(hO:pR P CR O){tl:List Nat}:∀(is:List Nat) (xs:List Op) (e:Env) (σ:SK) (g:G) (w:World) (B:Nat→Nat) (a:Act),ot (xd P ann n cL ops) is xs →
  iI O xs e σ=some (e',σ')→At CR base ann.cn g0 w0 n b g w B e σ a →
  ∃g' w' B' a',Steps P (lone (b.atR a (.inRegion ops (is++tl)::k)) cs w) (lone (b.atR a' (.inRegion ops tl::k)) cs w')∧At CR base ann.cn g0 w0 n b g' w' B' e' σ' a'∧g.le g'∧dH σ σ'
 |[],xs,e,σ,g,w,B,a,hF,h,ha=>by
  cases hF;simp only[iI,ae,ai]at h;obtain⟨rfl,rfl⟩:=h;exact⟨g,w,B,a,.refl _ _,ha,g.le_refl,.refl σ⟩
 |i::is,xs,e,σ,g,w,B,a,hF,h,ha=>by
  cases hF with
  |cons hx hF =>
   rename_i x xs;obtain⟨o,rU,ho,hop⟩:=hx;obtain⟨hdst,hn,hgrd⟩:=Ad hop;simp only[iI]at h;have hgo:∀{e1 σ1 g1 w1 B1 a1},Steps P (lone (b.atR a (.inRegion ops (i::is++tl)::k)) cs w) (lone (b.atR a1 (.inRegion ops (is++tl)::k)) cs w1) →
     At CR base ann.cn g0 w0 n b g1 w1 B1 e1 σ1 a1→g.le g1→dH σ σ1→iI O xs e1 σ1=some (e',σ') →
     ∃g' w' B' a',Steps P (lone (b.atR a (.inRegion ops (i::is++tl)::k)) cs w) (lone (b.atR a' (.inRegion ops tl::k)) cs w')∧At CR base ann.cn g0 w0 n b g' w' B' e' σ' a'∧g.le g'∧dH σ σ':=by
    intro e1 σ1 g1 w1 B1 a1 h1 h2 h3 h4 h5;obtain⟨g2,w2,B2,a2,k1,k2,k3,k4⟩:=tc hO is xs _ _ _ _ _ _ hF h5 h2;exact⟨g2,w2,B2,a2,h1.trans k1,k2,h3.trans' k3,h4.trans k4⟩
   rcases hgrd with⟨hg1,hg2⟩ | ⟨j,d,bb,hg1,hg2,hj,hV⟩
   ·rw[hg2]at h;simp only[ah,Prod.exists]at h;obtain⟨e1,σ1,h1,h2⟩:=h;obtain⟨g1,w1,B1,a1,k1,k2,k3,k4⟩:=F0 (k:=k) (cs:=cs) (rest:=is++tl) hO ha ho (by simp[Region.wanted,hg1]) hop h1;exact hgo k1 k2 k3 k4 h2
   ·rw[hg2]at h;dsimp only at h;split at h
    case h_2=>cases h
    rename_i bv hbv;have hy:yielded ops a.tmps j=bv:=by
     have hrel:=ha.fr.rel d;unfold yielded;rw[hj];simp only[Option.bind_some];cases hg:get e d with
     |bool b =>
      rw[hg]at hrel hbv;have hrel':a8 g (.bool b) (a.tmps.getD d Go.undef):=hrel;have hval:=hrel'.jX;simp only[D.bit,ae]at hbv;subst hbv;rw[bz]at hval;cases hd:a.tmps[d]? with
      |none=>rw[hd]at hval;simp[Go.undef]at hval
      |some y=>rw[hd]at hval;simp at hval;subst hval;rfl
     |fj ds =>
      cases ds with
      |nil =>
       rw[hg]at hrel hbv;have hrel':a8 g (.fj []) (a.tmps.getD d Go.undef):=hrel;have hval:a.tmps.getD d Go.undef=.tuple #[]:=by
        generalize a.tmps.getD d Go.undef=z at hrel';cases hrel' with | fj _ cs hl =>
         cases cs with | mk cs=>cases cs with
          |nil=>rfl
          |cons c cs=>cases hl
       simp only[D.bit,ae]at hbv;subst hbv;rw[bz]at hval;cases hd:a.tmps[d]? with
       |none=>rfl
       |some y=>rw[hd]at hval;simp at hval;subst hval;rfl
      |cons x xs=>rw[hg]at hbv;simp[D.bit]at hbv
     |_=>rw[hg]at hbv;simp[D.bit]at hbv
    split at h
    ·rename_i hb;simp only[ah,Prod.exists]at h;obtain⟨e1,σ1,h1,h2⟩:=h;obtain⟨g1,w1,B1,a1,k1,k2,k3,k4⟩:=F0 (k:=k) (cs:=cs) (rest:=is++tl) hO ha ho (by simp[Region.wanted,hg1,hy,hb]) hop h1;exact hgo k1 k2 k3 k4 h2
    ·rename_i hb;have hstep:=stepR_op_skip (P:=P) (b:=b) (a:=a) (k:=k) (cs:=cs) (w:=w) (ops:=ops) (i:=i) (rest:=is++tl) (by simp[ho,Region.wanted,hg1,hy,hb]);rw[show(ops[i]?).bind (·.dst)=o.dst from by rw[ho];rfl]at hstep;obtain⟨g1,w1,B1,a1,k1,k2,k3,k4⟩:=rB (d:=.fj []) ha ho hn hV (.one hstep) (Ev.refl g w) ha.inv (.refl σ) (bI.of (.fj [] #[] .nil));rw[hdst]at h;exact hgo k1 k2 k3 k4 h
theorem CI(hO:pR P CR O)(is:List Nat)(xs:List Op)(e:Env)(σ:SK)(g:G)(w:World)(B:Nat→Nat)(a:Act)(hF:ot (xd P ann n cL ops) is xs)
  (h:iI O xs e σ=some (e',σ')) (ha:At CR base ann.cn g0 w0 n b g w B e σ a):
  ∃g' w' B' a',Steps P (lone (b.atR a (.inRegion ops is::k)) cs w) (lone (b.atR a' (.inRegion ops []::k)) cs w')∧At CR base ann.cn g0 w0 n b g' w' B' e' σ' a'∧g.le g'∧dH σ σ':=by
 have:=tc (k:=k) (cs:=cs) (tl:=[]) hO is xs e σ g w B a hF h ha;simpa using this
theorem Eu{O:bd}{fv:D}{args:List D}{r:R}(h:rP O fv args σ=some r):∃f first cap,fv=.fn f first cap∧O (.call false f (first++args++cap) σ)=some r:=by
 unfold rP at h;split at h
 ·exact⟨_,_,_,rfl,h⟩
 ·cases h
theorem Tp{rU:Bool}{o:Oper}{op:Op}(h:ET P ann n cL ops rU i o=some op):kC P ann ops (cL*1000+i) o=some op.k∧(op.k.makes=false→∀t,o.dst=some t→t ∉ ann.cn):=by
 unfold ET at h;split at h
 case h_2=>cases h
 rename_i kk hk;split at h
 case h_2=>cases h
 simp only[aJ,ak]at h;obtain⟨⟨hown,hst⟩,h⟩:=h;cases h;refine⟨hk,fun hm t ht=>?_⟩;dsimp only at hm;rw[ht]at hown;simp[hm]at hown;simpa using hown
theorem CZ{o:Oper}{v:Value}{w':World}{is:List Nat}(ho:ops[i]?=some o)(hw:Region.wanted o (yielded ops a.tmps)=true)(hd:∀c,o.op ≠ .defer c)
  (hr:(execOp a.eval o).run P w=.halt (.panic v) w'):
  step P (lone (b.atR a (.inRegion ops (i::is)::k)) cs w)=.next (lone {b.atR a (.inRegion ops (i::is)::k)with mode:=.panicking [{v,recovered:=false }] } cs w'):=by
 have hg:=stepGR_op (P:=P) (b:=b) (k:=k) (cs:=cs) (w:=w) (rest:=is) ho hw;rw[Oper.semAt_eq _ _ _ hd]at hg;exact step_lone_go (by rw[hg,← Frame.raise_atR];simp[stepG.apply,hr])
end
def fk(ts:List Nat)(e e':Env):Prop:=∀t∈ts,get e' t=get e t
theorem fk.mono{ts us:List Nat}{e e':Env}(h:fk us e e')(hs:∀t∈ts,t∈us):fk ts e e':=fun t ht=>h t (hs t ht)
theorem fk.app{ts us:List Nat}{e e':Env}:fk (ts++us) e e'↔fk ts e e'∧fk us e e' :=
 ⟨fun h=>⟨fun t ht=>h t (by simp[ht]),fun t ht=>h t (by simp[ht])⟩,fun h t ht=>(aX.1 ht).elim (h.1 t) (h.2 t)⟩
theorem fk.cons{t:Nat}{us:List Nat}{e e':Env}:fk (t::us) e e'↔get e' t=get e t∧fk us e e' :=
 ⟨fun h=>⟨h t (by simp),fun u hu=>h u (by simp[hu])⟩,fun h u hu=>(bj.1 hu).elim (fun x=>x ▸ h.1) (h.2 u)⟩
variable {e e':Env} {σ σ':SK}
theorem aI{x:ba}(h:fk x.tmps e e'):aR e' x=aR e x:=by
 cases x with
 |t n=>simp only[aR];rw[h n (by simp[ba.tmps])]
 |c d=>rfl
theorem nB{xs:List ba}(h:fk (xs.flatMap ba.tmps) e e'):xs.map (aR e')=xs.map (aR e):=by
 induction xs with
 |nil=>rfl
 |cons x xs ih =>
  simp only[bk,fk.app]at h;simp only[aG,aI h.1,ih h.2]
theorem pr:∀{ps:List (Nat×Nat×ba)} {cs:List D},fk (ps.flatMap fun p=>p.2.2.tmps) e e'→lB e' ps cs=lB e ps cs
 |[],cs,h=>rfl
 |(off,sz,x)::ps,cs,h=>by
  simp only[bk,fk.app]at h;simp only[lB,aI h.1];split
  ·split
   ·exact pr h.2
   ·rfl
  ·rfl
theorem vw{m:Nat}{dfl:Option Nat}{x:Option ba}(h:fk ((x.map ba.tmps).getD []) e e'):rO e' m dfl x=rO e m dfl x:=by
 cases x with
 |none=>rfl
 |some x=>simp only[rO];rw[aI (by simpa using h)]
theorem uI{n:Nat}{lo hi mx:Option ba}(h1:fk ((lo.map ba.tmps).getD []) e e')(h2:fk ((hi.map ba.tmps).getD []) e e')(h3:fk ((mx.map ba.tmps).getD []) e e'):
  bounds n e' lo hi mx=bounds n e lo hi mx:=by
 simp only[bounds,vw h1,vw h2,vw h3]
theorem sy{v a:Nat}(h1:get e' v=get e v)(h2:get e' a=get e a):lC e' v a=lC e v a:=by
 simp only[lC,h1,h2]
theorem EY{k:K}(h:fk k.tmps e e'):a7 e' σ k=a7 e σ k:=by
 cases k<;>simp only[K.tmps,fk.app,fk.cons]at h
 case mv x=>simp only[a7,aI h]
 case rC=>rfl
 case pick c a b=>simp only[a7,aI h.1.1,aI h.1.2,aI h.2]
 case Ch=>rfl
 case To=>simp only[a7,aI h]
 case Ll=>simp only[a7,aI h]
 case KS=>simp only[a7,aI h]
 case Fg=>rfl
 case CQ=>rfl
 case fR=>rfl
 case yC x=>simp only[a7,aI h]
 case xr x=>simp only[a7,aI h]
 case JW nb x=>simp only[a7,aI h]
 case xu=>rfl
 case o7=>simp only[a7,pr h]
 case wH=>simp only[a7,pr h]
 case Fb=>simp only[a7,pr h]
 case ld=>simp only[a7,aI h]
 case AD=>simp only[a7,aI h]
 case JZ=>simp only[a7,aI h]
 case KT=>simp only[a7,aI h]
 case uj=>simp only[a7,aI h]
 case st=>simp only[a7,aI h.1,aI h.2]
 case E3 os sz a x =>
  have hall:∀l i,(os.all fun t=>D.off l i (get e' t))=os.all fun t=>D.off l i (get e t):=by
   intro l i;have h2:=h.2;clear h;induction os with
   |nil=>rfl
   |cons o os ih=>simp only[lI,h2 o (by simp),ih (h2.mono fun t ht=>by simp[ht])]
  simp only[a7,aI h.1.1,aI h.1.2,hall]
 case Ff=>simp only[a7,sy h.1 h.2.1]
 case wM=>rfl
 case bin=>simp only[a7,aI h.1,aI h.2]
 case eqv=>simp only[a7,aI h.1,aI h.2]
 case un=>simp only[a7,aI h]
 case Fc=>simp only[a7,aI h]
 case wo=>simp only[a7,nB h.1,nB h.2]
 case Jl=>simp only[a7,aI h.1,aI h.2]
 case Lf=>simp only[a7,aI h.1.1.1,uI h.1.1.2 h.1.2 h.2]
 case CW=>simp only[a7,aI h.1.1,uI (mx:=none) h.1.2 h.2 (fun t ht=>by simp at ht)]
 case yG off x =>
  cases x with
  |t n=>simp only[a7,h n (by simp[ba.tmps])]
  |c d=>rfl
 case Wu=>simp only[a7,aI h]
 case lH len w x i =>
  cases x with
  |t n =>
   have h1:=h.1 n (by simp[ba.tmps]);simp only[a7,aI h.2];cases uV (aR e i)<;>simp only[h1]
  |c d=>simp only[a7]
 case wI=>simp only[a7,aI h.1,aI h.2]
 case Bp=>simp only[a7,aI h.1,aI h.2]
 case yK=>simp only[a7,aI h]
 case CA=>rfl
 case mn=>simp only[a7,aI h.1,aI h.2]
 case mx=>simp only[a7,aI h.1,aI h.2]
 case app=>simp only[a7,aI h.1,aI h.2]
 case JU os w b s x =>
  have hall:∀l i,(os.all fun t=>D.off l i (get e' t))=os.all fun t=>D.off l i (get e t):=by
   intro l i;have h2:=h.2;clear h;induction os with
   |nil=>rfl
   |cons o os ih=>simp only[lI,h2 o (by simp),ih (h2.mono fun t ht=>by simp[ht])]
  simp only[a7,zQ,aI h.1.1,aI h.1.2,hall]
 case JV=>simp only[a7,zQ,aI h.1,aI h.2]
 case Un=>simp only[a7,aI h]
 case Ur=>simp only[a7,aI h]
 case Wn=>rfl
 case Uh w b v x=>simp only[a7,h.1,aI h.2]
 case ext=>simp only[a7,aI h]
 case uA=>simp only[a7,nB h]
 case mp=>simp only[a7,nB h]
 case me=>simp only[a7,nB h]
 case call=>rfl
noncomputable def mW(O:bd)(op:Op)(e:Env)(σ:SK):Option (Env×SK) :=
 match op.uf with
 |none=>oF O op e σ
 |some (g,want) =>
  match(get e g).bit with
  |some y=>if y=some want then oF O op e σ else some (put op.dst (.fj []) e,σ)
  |none=>none
theorem fm{O:bd}{op:Op}{r:List Op}:iI O (op::r) e σ=(mW O op e σ).bind fun x=>iI O r x.1 x.2:=by
 simp only[iI,mW];cases op.uf with
 |none=>rfl
 |some x =>
  obtain⟨g,want⟩:=x;dsimp only;cases(get e g).bit<;>try rfl
  dsimp only;split<;>rfl
theorem Ag{dst:Option Nat}{d:D}:put dst d e=(dst.toList.map fun t=>(t,d))++e:=by
 cases dst<;>rfl
theorem yY{O:bd}{op:Op}{e1:Env}{σ1:SK}(h:oF O op e σ=some (e1,σ1)):
  ∃l:List (Nat×D),(∀p∈l,p.1∈op.defs)∧∀e',fk (op.vh++op.defs) e e'→oF O op e' σ=some (l++e',σ1):=by
 obtain⟨dst,uf,rU,k⟩:=op;have hk:∀e',fk (Op.vh ⟨dst,uf,rU,k⟩++Op.defs ⟨dst,uf,rU,k⟩) e e'→fk k.tmps e e':=fun e' ha=>ha.mono fun t ht=>by simp[Op.vh,ht]
 have hdst:∀d:D,∀p∈dst.toList.map (fun t=>(t,d)),p.1∈Op.defs ⟨dst,uf,rU,k⟩:=by
  intro d p hp;simp only[bp]at hp;obtain⟨t,ht,rfl⟩:=hp;simp only[Op.defs,aX];exact .inl ht
 have hplain:(∀e0,oF O ⟨dst,uf,rU,k⟩ e0 σ=(a7 e0 σ k).map fun x=>(put dst x.1 e0,x.2)) →
   ∃l:List (Nat×D),(∀p∈l,p.1∈Op.defs ⟨dst,uf,rU,k⟩)∧∀e',fk (Op.vh ⟨dst,uf,rU,k⟩++Op.defs ⟨dst,uf,rU,k⟩) e e'→oF O ⟨dst,uf,rU,k⟩ e' σ=some (l++e',σ1):=by
  intro hall;rw[hall]at h;simp only[ab,Prod.exists,ai]at h;obtain⟨d,σ2,hs,rfl,rfl⟩:=h;refine⟨dst.toList.map fun t=>(t,d),hdst d,fun e' ha=>?_⟩;rw[hall,EY (hk e' ha),hs];simp only[aM,Ag]
 cases k
 case call kp f args =>
  simp only[oF]at h ⊢;split at h
  case h_2=>cases h
  rename_i d σ2 hc;split at h
  case isFalse=>cases h
  rename_i hn;cases h;refine⟨dst.toList.map fun t=>(t,d),hdst d,fun e' ha=>?_⟩;have h1:=hk e' ha;simp only[K.tmps,fk.app]at h1;rw[aI h1.1,nB h1.2,hc];simp only[if_pos hn,Ag]
 case fR nb cs =>
  simp only[oF]at h ⊢;split at h
  case h_2=>cases h
  rename_i v cs' σ2 hnb;cases h;refine⟨[(v,.own (nu e v) cs')],by simp[Op.defs],fun e' ha=>?_⟩;rw[show nu e' v=nu e v from by simp only[nu];rw[ha v (by simp[Op.defs])]];rfl
 case xu x =>
  simp only[oF]at h ⊢;split at h
  case h_2=>cases h
  rename_i v cs' hc;cases h;refine⟨[(v,.own (nu e v) cs')],by simp[Op.defs],fun e' ha=>?_⟩;have h1:=hk e' ha;simp only[K.tmps]at h1;rw[aI h1,hc];simp only[show nu e' v=nu e v from by simp only[nu];rw[ha v (by simp[Op.defs])]];rfl
 case wM v nb sz a x =>
  simp only[oF]at h ⊢;split at h
  case h_2=>cases h
  rename_i s cs off p hin hp;split at h
  case isFalse=>cases h
  rename_i hc;split at h
  case h_2=>cases h
  rename_i p' σ2 hnb;cases h;refine⟨[(v,.own s (cs.take off++p'++cs.drop (off+sz)))],by simp[Op.defs],fun e' ha=>?_⟩;have h1:=hk e' ha;simp only[K.tmps,fk.app,fk.cons]at h1;rw[sy h1.1.1 h1.1.2.1,aI h1.2,hin,hp];simp only[if_pos hc,hnb];rfl
 all_goals exact hplain fun e0=>rfl
theorem uo{O:bd}{op:Op}{e1:Env}{σ1:SK}(h:mW O op e σ=some (e1,σ1)):
  ∃l:List (Nat×D),(∀p∈l,p.1∈op.defs)∧∀e',fk (op.vh++op.defs) e e'→mW O op e' σ=some (l++e',σ1):=by
 unfold mW at h ⊢;cases hg:op.uf with
 |none=>rw[hg]at h;simp only at h ⊢;exact yY h
 |some x =>
  obtain⟨t,want⟩:=x;rw[hg]at h;simp only at h ⊢;split at h
  case h_2=>cases h
  rename_i b hb;have hgt:∀e',fk (op.vh++op.defs) e e'→(get e' t).bit=some b:=fun e' ha=>by rw[ha t (by simp[Op.vh,hg]),hb]
  split at h
  ·rename_i hw;obtain⟨l,h1,h2⟩:=yY h;refine⟨l,h1,fun e' ha=>?_⟩;rw[hgt e' ha];simp only[if_pos hw];exact h2 e' ha
  ·rename_i hw;cases h;refine⟨op.dst.toList.map fun t=>(t,.fj []),fun p hp=>?_,fun e' ha=>?_⟩
   ·simp only[bp]at hp;obtain⟨t,ht,rfl⟩:=hp;simp only[Op.defs,aX];exact .inl ht
   ·rw[hgt e' ha];simp only[if_neg hw,Ag]
theorem zq{cs cs':List D}(h:fP [] cs σ=some (cs',σ')):σ'=σ:=by
 simp only[fP,ae,ai]at h;exact h.2.symm
theorem zA{d:D}{k:K}(h:a7 e σ k=some (d,σ'))(hk:k.calm=true):σ'=σ:=BQ h hk
theorem yZ{O:bd}{op:Op}{e1:Env}{σ1:SK}(h:oF O op e σ=some (e1,σ1))(hs:op.still=true):σ1=σ:=by
 obtain⟨dst,uf,rU,k⟩:=op;simp only[Op.still,ak]at hs;obtain⟨hk,hn⟩:=hs;have hplain:(oF O ⟨dst,uf,rU,k⟩ e σ=(a7 e σ k).map fun x=>(put dst x.1 e,x.2))→σ1=σ:=by
  intro hall;rw[hall]at h;simp only[ab,Prod.exists,ai]at h;obtain⟨d,σ2,hs,rfl,rfl⟩:=h;exact zA hs hk
 cases k
 case call kp f args =>
  simp only[oF]at h;split at h
  case h_2=>cases h
  split at h
  case isFalse=>cases h
  rename_i hx;cases h;exact hx hn
 case fR nb cs =>
  simp only[oF]at h;split at h
  case h_2=>cases h
  rename_i v cs' σ2 hnb;cases h;simp only[K.calm,List.isEmpty_iff]at hk;subst hk;exact zq hnb
 case xu x =>
  simp only[oF]at h;split at h
  case h_2=>cases h
  cases h;rfl
 case wM v nb sz a x =>
  simp only[oF]at h;split at h
  case h_2=>cases h
  split at h
  case isFalse=>cases h
  split at h
  case h_2=>cases h
  rename_i hnb;cases h;simp only[K.calm,List.isEmpty_iff]at hk;subst hk;exact zq hnb
 all_goals exact hplain rfl
theorem uq{O:bd}{op:Op}{e1:Env}{σ1:SK}(h:mW O op e σ=some (e1,σ1))(hs:op.still=true):σ1=σ:=by
 unfold mW at h;split at h
 ·exact yZ h hs
 ·split at h
  case h_2=>cases h
  split at h
  ·exact yZ h hs
  ·cases h;rfl
def vX(e e':Env):Prop:=∀t,get e' t=get e t
theorem vX.refl(e:Env):vX e e:=fun _=>rfl
theorem vX.trans{a b c:Env}(h:vX a b)(h':vX b c):vX a c:=fun t=>(h' t).trans (h t)
theorem vX.agree(h:vX e e')(ts:List Nat):fk ts e e':=fun t _=>h t
theorem wS{l:List (Nat×D)}{t:Nat}:get (l++e) t=if t∈l.map (·.1)then get l t else get e t:=by
 induction l with
 |nil=>simp
 |cons p l ih =>
  obtain⟨k,v⟩:=p;simp only[dI,get];by_cases hk:k=t
  ·simp[hk]
  ·rw[if_neg hk,ih];simp only[aG,bj];by_cases ht:t∈l.map (·.1)
   ·rw[if_pos ht,if_pos (.inr ht)];rw[if_neg hk]
   ·rw[if_neg ht,if_neg (by intro h;rcases h with h | h;exact hk h.symm;exact ht h)]
theorem vX.app(h:vX e e')(l:List (Nat×D)):vX (l++e) (l++e'):=fun t=>by
 simp only[wS,h t]
theorem xm{O:bd}:∀{xs:List Op} {e e' e1:Env} {σ σ1:SK},iI O xs e σ=some (e1,σ1)→vX e e'→∃e1',iI O xs e' σ=some (e1',σ1)∧vX e1 e1'
 |[],e,e',e1,σ,σ1,h,he=>by
  simp only[iI,ae,ai]at h;obtain⟨rfl,rfl⟩:=h;exact⟨e',rfl,he⟩
 |x::xs,e,e',e1,σ,σ1,h,he=>by
  rw[fm]at h;simp only[ah,Prod.exists]at h;obtain⟨e2,σ2,h1,h2⟩:=h;obtain⟨l,_,hl⟩:=uo h1;have h3:=hl e (vX.agree (.refl e) _);rw[h1]at h3;cases h3;obtain⟨e3,h4,h5⟩:=xm h2 (he.app l);exact⟨e3,by rw[fm,hl e' (he.agree _)];exact h4,h5⟩
theorem JG{d:D}{k:K}(h:a7 e σ k=some (d,σ'))(hk:k.pure=true)(τ:SK):a7 e τ k=some (d,τ):=by
 cases k<;>simp only[K.pure,K.calm,al]at hk<;>simp only[a7,aC,reduceCtorEq]at h ⊢ <;> (repeat' split at h)<;>
  simp only[ab,ah,ae,ai,Prod.exists,reduceCtorEq,exists_eq_left,and_false,exists_false]at h<;>(try split at h)<;>
  simp_all<;>(try (obtain⟨_,_,h⟩:=h;simp_all))<;>(try grind)
theorem AU{O:bd}{op:Op}{e1:Env}{σ1:SK}(h:oF O op e σ=some (e1,σ1))(hs:op.k.pure=true)(τ:SK):oF O op e τ=some (e1,τ):=by
 obtain⟨dst,uf,rU,k⟩:=op;have hplain:(∀τ,oF O ⟨dst,uf,rU,k⟩ e τ=(a7 e τ k).map fun x=>(put dst x.1 e,x.2))→oF O ⟨dst,uf,rU,k⟩ e τ=some (e1,τ):=by
  intro hall;rw[hall]at h ⊢;simp only[ab,Prod.exists,ai]at h;obtain⟨d,σ2,hs',rfl,rfl⟩:=h;rw[JG hs' hs τ];rfl
 cases k
 case call kp f args=>simp[K.pure]at hs
 case fR nb cs =>
  simp only[K.pure,K.calm,List.isEmpty_iff]at hs;subst hs;simp only[oF]at h ⊢;cases dst with
  |none=>cases h
  |some v=>simp only[fP,ae,ai]at h ⊢;exact⟨h.1,trivial⟩
 case xu x =>
  simp only[oF]at h ⊢;cases dst with
  |none=>cases h
  |some v =>
   cases hx:(aR e x).cells with
   |none=>rw[hx]at h;cases h
   |some cs=>rw[hx]at h;simp only[ae,ai]at h ⊢;exact⟨h.1,trivial⟩
 case wM v nb sz a x =>
  simp only[K.pure,K.calm,List.isEmpty_iff]at hs;subst hs;simp only[oF]at h ⊢;cases hin:lC e v a<;>rw[hin]at h<;>try (cases h;done)
  cases hx:(aR e x).cells<;>rw[hx]at h<;>try (cases h;done)
  simp only[fP]at h ⊢;split at h
  ·rename_i hc;rw[if_pos hc];simp only[ae,ai]at h ⊢;exact⟨h.1,trivial⟩
  ·cases h
 all_goals exact hplain fun τ=>rfl
theorem tg{O:bd}{op:Op}{e1:Env}{σ1:SK}(h:mW O op e σ=some (e1,σ1))(hs:op.k.pure=true):∀τ,mW O op e τ=some (e1,τ):=by
 intro τ;unfold mW at h ⊢;cases hg:op.uf with
 |none=>rw[hg]at h;exact AU h hs τ
 |some y =>
  obtain⟨g,want⟩:=y;rw[hg]at h;dsimp only at h ⊢;cases hb:(get e g).bit with
  |none=>rw[hb]at h;cases h
  |some b =>
   rw[hb]at h;dsimp only at h ⊢;split at h
   ·rename_i hw;rw[if_pos hw];exact AU h hs τ
   ·rename_i hw;rw[if_neg hw];cases h;rfl
theorem rJ{a:List aF}{σ:SK}{l:Nat}{s:List aF}(h:σ.length=l):eP (a::σ) l s=s::σ:=by simp only[eP];rw[if_pos h]
theorem jz{a:List aF}{σ:SK}{l:Nat}{s:List aF}(h:¬σ.length=l):eP (a::σ) l s=a::eP σ l s:=by simp only[eP];rw[if_neg h]
theorem BP{σ:SK}{l l':Nat}{s s':List aF}(h:l≠l'):eP (eP σ l s) l' s'=eP (eP σ l' s') l s:=by
 induction σ with
 |nil=>rfl
 |cons a σ ih =>
  by_cases h1:σ.length=l
  ·have h2:¬σ.length=l':=by omega
   rw[rJ h1,jz h2,jz h2,rJ (by rw[dw];exact h1)]
  ·by_cases h2:σ.length=l'
   ·rw[jz h1,rJ h2,rJ (by rw[dw];exact h2),jz h1]
   ·rw[jz h1,jz h2,jz (by rw[dw];exact h2),jz (by rw[dw];exact h1),ih]
theorem mY{σ:SK}{l l':Nat}{s:List aF}(h:l≠l'):gv (eP σ l s) l'=gv σ l':=by
 induction σ with
 |nil=>rfl
 |cons a σ ih =>
  simp only[eP];by_cases h1:σ.length=l
  ·rw[if_pos h1];simp only[gv];rw[if_neg (by omega),if_neg (by omega)]
  ·rw[if_neg h1];simp only[gv,dw,ih]
theorem As{σ:SK}{l:Nat}{s s':List aF}:eP (eP σ l s) l s'=eP σ l s':=by
 induction σ with
 |nil=>rfl
 |cons a σ ih =>
  simp only[eP];by_cases h1:σ.length=l
  ·rw[if_pos h1,if_pos h1];simp only[eP];rw[if_pos h1]
  ·rw[if_neg h1,if_neg h1];simp only[eP,dw];rw[if_neg h1,ih]
theorem BO{σ:SK}{l i l' i':Nat}{b b':aF}(h:¬(l'=l∧i'=i)):aN (aN σ l i b) l' i' b'=aN (aN σ l' i' b') l i b:=by
 by_cases hl:l=l'
 ·subst hl;have hi:i≠i':=fun e=>h ⟨rfl,e.symm⟩
  unfold aN;cases hs:gv σ l with
  |none=>simp[hs]
  |some s =>
   simp only[mr (rI hs),As];rw[List.set_comm _ _ hi]
 ·unfold aN;cases hs:gv σ l with
  |none =>
   cases hs':gv σ l' with
   |none=>simp[hs,hs']
   |some s'=>simp only[mY (Ne.symm hl),hs]
  |some s =>
   cases hs':gv σ l' with
   |none=>simp only[mY hl,hs',hs]
   |some s' =>
    simp only[mY hl,mY (Ne.symm hl),hs,hs'];exact BP hl
theorem rf{σ:SK}{l i l' i' v:Nat}{b:aF}(h:¬(l'=l∧i'=i)):cells? (aN σ l i b) l' i' v=cells? σ l' i' v:=by
 unfold cells?;rw[cN h]
theorem Ah{σ:SK}{l i:Nat}{b:aF}{d:D}(h:D.off l i d=true):wq (aN σ l i b) d.strip=wq σ d.strip:=by
 cases d<;>try rfl
 simp only[D.off,av]at h;simp only[D.strip,wq,rf h]
theorem tf{O:bd}{dst:Option Nat}{n ag:Bool}{sz m:Nat}{e1:Env}{σ1:SK}(h:mW O ⟨dst,none,n,.ld ag sz (.t m)⟩ e σ=some (e1,σ1)):
  σ1=σ∧∀τ,wq τ (get e m).strip=wq σ (get e m).strip→mW O ⟨dst,none,n,.ld ag sz (.t m)⟩ e τ=some (e1,τ):=by
 have hs:=uq h;simp only[mW,oF,a7,aR]at h ⊢;refine⟨?_,fun τ hτ=>?_⟩
 ·simp only[ab,Prod.exists,ai]at h;obtain⟨d,σ2,h,_,rfl⟩:=h;exact zA (k:=.ld ag sz (.t m)) (e:=e) (d:=d) (by simpa only[a7,aR]using h) rfl
 ·rw[hτ];cases hr:wq σ (get e m).strip with
  |none=>rw[hr]at h;cases h
  |some cs =>
   rw[hr]at h;dsimp only at h ⊢;split at h
   ·rename_i hsz;rw[if_pos hsz];cases ag with
    |true=>simp at h ⊢;exact h.1
    |false =>
     simp only[al,if_false]at h ⊢;cases cs with
     |nil=>cases h
     |cons d ds=>simp at h ⊢;exact h.1
   ·cases h
theorem vd{O:bd}{dst:Option Nat}{n:Bool}{os:List Nat}{sz:Nat}{a x:ba}{e1:Env}{σ1:SK}(h:mW O ⟨dst,none,n,.E3 os sz a x⟩ e σ=some (e1,σ1)):
  ∃l i v off b,aR e a=.ref l i v off∧(∀m∈os,D.off l i (get e m)=true)∧σ1=aN σ l i b ∧
   ∀τ,τ.length=σ.length→cells? τ l i v=cells? σ l i v→mW O ⟨dst,none,n,.E3 os sz a x⟩ e τ=some (e1,aN τ l i b):=by
 simp only[mW,oF,a7]at h ⊢;cases ha:aR e a<;>rw[ha]at h<;>try (cases h;done)
 rename_i l i v off;dsimp only at h ⊢;split at h
 case isFalse=>cases h
 rename_i hall;cases hc:cells? σ l i v with
 |none=>rw[hc]at h;cases h
 |some cs =>
 rw[hc]at h;dsimp only at h;cases hp:(aR e x).cells with
 |none=>rw[hp]at h;cases h
 |some p =>
 rw[hp]at h;dsimp only at h;split at h
 case isFalse=>cases h
 rename_i hq;simp only[aM,ae,ai]at h;refine⟨l,i,v,off,.cells v (cs.take off++p++cs.drop (off+sz)),rfl,fun m hm=>gp.1 hall m hm,h.2.symm,fun τ hlen hτ=>?_⟩;simp only[hall,if_true,hτ,hc,hlen,if_pos hq,aM,h.1]
theorem BL{O:bd}{dst:Option Nat}{n:Bool}{os:List Nat}{w b:Nat}{a x:ba}{e1:Env}{σ1:SK}(h:mW O ⟨dst,none,n,.JU os w b a x⟩ e σ=some (e1,σ1)):
  ∃l i v cs,(∀m∈os,D.off l i (get e m)=true)∧σ1=aN σ l i (.cells (v+1) cs):=by
 simp only[mW,oF,ab,Prod.exists,ai]at h;obtain⟨d,σ2,h,_,rfl⟩:=h;simp only[a7]at h;split at h
 case h_2=>cases h
 rename_i l i v off n' w' ha;split at h
 case isFalse=>cases h
 rename_i hall;simp only[ah]at h;obtain⟨⟨m,xs⟩,he,h⟩:=h;dsimp only at h;split at h
 case isFalse=>cases h
 rename_i hcl;simp only[zQ,aC,he,Option.bind_some,ha]at h;split at h
 case h_2=>cases h
 split at h
 case isFalse=>cases h
 refine⟨l,i,?_⟩;split at h
 ·cases h;exact⟨_,_,fun m hm=>gp.1 hall m hm,rfl⟩
 ·rw[show deep=15+1 from rfl,vI hcl]at h;cases h;exact⟨_,_,fun m hm=>gp.1 hall m hm,rfl⟩
theorem K9{σ:SK}{l i v:Nat}{cs:List D}{d:D}{c:List D}(h:K8 (aN σ l i (.cells (v+1) cs)) d=some c):K8 σ d=some c:=by
 unfold K8 at h ⊢;split at h
 case h_2=>cases h
 rename_i l2 i2 off;simp only[wq,ab]at h ⊢;obtain⟨a,h1,h2⟩:=h;refine⟨a,?_,h2⟩;by_cases hh:l2=l∧i2=i
 ·obtain⟨rfl,rfl⟩:=hh;unfold cells? at h1;cases hb:cM σ l2 i2 with
  |some b0=>rw[jx hb]at h1;simp at h1
  |none =>
   have hn:cM (aN σ l2 i2 (.cells (v+1) cs)) l2 i2=none:=by
    unfold cM at hb ⊢;unfold aN;cases hs:gv σ l2 with
    |none=>simp only[hs];rfl
    |some s =>
     simp only[hs,Option.bind_some]at hb;simp only[mr (rI hs),Option.bind_some];rw[List.getElem?_eq_none_iff]at hb ⊢;simpa using hb
   rw[hn]at h1;cases h1
 ·rwa[rf hh]at h1
theorem Jz{O:bd}{dst:Option Nat}{n ag:Bool}{sz m:Nat}{e1:Env}{σ1:SK}(h:mW O ⟨dst,none,n,.JZ ag sz (.t m)⟩ e σ=some (e1,σ1)):
  σ1=σ∧∃c,K8 σ (get e m).strip=some c∧∀τ,K8 τ (get e m).strip=some c→mW O ⟨dst,none,n,.JZ ag sz (.t m)⟩ e τ=some (e1,τ):=by
 simp only[mW,oF,a7,aR]at h ⊢;cases hr:K8 σ (get e m).strip with
 |none=>rw[hr]at h;cases h
 |some cs =>
  rw[hr]at h;dsimp only at h ⊢;have hs:σ1=σ:=by
   split at h
   ·cases ag with
    |true=>simp at h;exact h.2.symm
    |false=>cases cs<;>simp at h;exact h.2.symm
   ·cases h
  refine⟨hs,cs,rfl,fun τ hτ=>?_⟩;rw[hτ];dsimp only;split at h
  ·rename_i hsz;rw[if_pos hsz];cases ag with
   |true=>simp at h ⊢;exact h.1
   |false =>
    simp only[al,if_false]at h ⊢;cases cs with
    |nil=>cases h
    |cons d ds=>simp at h ⊢;exact h.1
  ·cases h
theorem ER{σ σ':SK}{b:aF}{l i:Nat}(h:dP σ b=some (l,i,σ')){d:D}{cs:List D}(hd:wq σ d=some cs):wq σ' d=some cs:=by
 cases d<;>try exact hd
 rename_i l' i' v off;simp only[wq,ab]at hd ⊢;obtain⟨c,h1,h2⟩:=hd;refine⟨c,?_,h2⟩;unfold cells? at h1 ⊢;have hb:∃b0,cM σ l' i'=some b0:=by
  cases hb:cM σ l' i' with
  |none=>rw[hb]at h1;cases h1
  |some b0=>exact⟨b0,rfl⟩
 obtain⟨b0,hb⟩:=hb;have hne:¬(l'=l∧i'=i):=fun hh=>by
  have:=(fh h).1;rw[hh.1,hh.2,this]at hb;cases hb
 rw[(fh h).2.2.1 l' i' hne];exact h1
theorem Ug{O:bd}{x y:Op}{e2:Env}{σ2:SK}{r:List Op}(hf:x.adr y=true)
  (h:iI O (x::y::r) e σ=some (e2,σ2)):∃e2',iI O (y::x::r) e σ=some (e2',σ2)∧vX e2 e2':=by
 unfold Op.adr at hf;split at hf
 case h_2=>cases hf
 rename_i n v sz a X d n' off m;simp only[av]at hf;obtain⟨rfl,hdv,hda,hdX⟩:=hf;rw[fm]at h;simp only[ah,Prod.exists]at h;obtain⟨ex,σx,h1,h2⟩:=h;rw[fm]at h2;simp only[ah,Prod.exists]at h2;obtain⟨ey,σy,h2,h3⟩:=h2;simp only[mW,oF]at h1;cases hin:lC e m a with
 |none=>rw[hin]at h1;cases h1
 |some z =>
 obtain⟨s,cs,o⟩:=z;rw[hin]at h1;cases hX:(aR e X).cells with
 |none=>rw[hX]at h1;cases h1
 |some p =>
 rw[hX]at h1;dsimp only at h1;split at h1
 case isFalse=>cases h1
 rename_i hq;simp only[fP,ae,ai]at h1;obtain⟨rfl,rfl⟩:=h1;have hgv:∃cs',get e m=.own s cs':=by
  unfold lC at hin;cases hg:get e m<;>rw[hg]at hin<;>try (cases hin;done)
  rename_i s' cs';dsimp only at hin;split at hin
  ·cases hin;exact⟨_,rfl⟩
  ·split at hin
   ·split at hin
    ·cases hin;exact⟨_,rfl⟩
    ·cases hin
   ·cases hin
 obtain⟨cs',hgv⟩:=hgv;simp only[mW,oF,a7,get,if_true,aM,ae,ai]at h2;obtain⟨rfl,rfl⟩:=h2;have hne:get ((d,D.vr m s off)::e) m=get e m:=by simp[get,hdv]
 have hna:get ((d,D.vr m s off)::e) a=get e a:=by simp[get,hda]
 have hin':lC ((d,D.vr m s off)::e) m a=some (s,cs,o):=by rw[sy hne hna,hin]
 have hX':aR ((d,D.vr m s off)::e) X=aR e X:=aI fun t ht=>by
  have:d≠t:=fun he=>hdX (he ▸ ht)
  simp[get,this]
 have heq:vX (put (some d) (D.vr m s off) ((m,.own s (cs.take o++p++cs.drop (o+sz)))::e)) ((m,.own s (cs.take o++p++cs.drop (o+sz)))::(d,D.vr m s off)::e):=by
  intro t;simp only[put,get];by_cases h1:d=t
  ·have:¬m=t:=fun e=>hdv (h1.trans e.symm)
   simp[h1,this]
  ·simp[h1]
 obtain⟨e3,k1,k2⟩:=xm h3 heq;refine⟨e3,?_,k2⟩;rw[fm];simp only[mW,oF,a7,hgv,aM,Option.bind_some];rw[fm];simp only[mW,oF,put,hin',hX',hX,hq,and_self,if_true,fP,Option.bind_some];exact k1
theorem Lk{O:bd}{x y:Op}{e2:Env}{σ2:SK}{r:List Op}(hf:x.free y=true)
  (h:iI O (x::y::r) e σ=some (e2,σ2)):∃e2',iI O (y::x::r) e σ=some (e2',σ2)∧vX e2 e2':=by
 unfold Op.free at hf;rw[lV]at hf;rcases hf with hf | hf
 ·exact Ug hf h
 simp only[ak,dR]at hf;obtain⟨hc,hf⟩:=hf;simp only[Op.Ly,Bool.or_eq_false_iff,List.any_eq_false,List.contains_iff_mem,lV,not_or]at hc;obtain⟨c1,c2⟩:=hc;rw[fm]at h;simp only[ah,Prod.exists]at h;obtain⟨ex,σx,h1,h2⟩:=h;rw[fm]at h2;simp only[ah,Prod.exists]at h2;obtain⟨ey,σy,h2,h3⟩:=h2;obtain⟨lx,d1,hl1⟩:=uo h1;obtain⟨ly,d2,hl2⟩:=uo h2;have k1:=hl1 e (vX.agree (.refl e) _);rw[h1]at k1;cases k1;have k2:=hl2 _ (vX.agree (.refl _) _);rw[h2]at k2;cases k2;have ay:fk (y.vh++y.defs) (lx++e) e:=fun t ht=>by
  rw[wS,if_neg];intro hm;obtain⟨p,hp,rfl⟩:=bp.1 hm;have:=c1 _ (d1 p hp);simp only[aX]at ht;rcases ht with ht | ht
  ·exact this.2 (by simpa using ht)
  ·exact this.1 (by simpa using ht)
 have ax:fk (x.vh++x.defs) e (ly++e):=fun t ht=>by
  rw[wS,if_neg];intro hm;obtain⟨p,hp,rfl⟩:=bp.1 hm;have hp':=d2 p hp;simp only[aX]at ht;rcases ht with ht | ht
  ·exact c2 _ ht (by simpa using hp')
  ·exact(c1 _ ht).1 (by simpa using hp')
 have hy0:=hl2 e ay;have hx0:=hl1 (ly++e) ax;obtain⟨σm,hy1,hx1⟩:∃σm,mW O y e σ=some (ly++e,σm)∧mW O x (ly++e) σm=some (lx++(ly++e),σy):=by
  simp only[lV,ak]at hf;rcases hf with((⟨hx,hy⟩ | hx) | hy) | hfar
  ·obtain rfl:=uq h1 hx;obtain rfl:=uq h2 hy;exact⟨_,hy0,hx0⟩
  ·have e1:=tg h1 hx σ;rw[h1]at e1;cases e1;exact⟨σy,hy0,tg hx0 hx σy⟩
  ·have e2:=tg h2 hy σx;rw[h2]at e2;cases e2;exact⟨σ,tg hy0 hy σ,hx0⟩
  ·unfold Op.far at hfar;obtain⟨dx,gx,nx,kx⟩:=x;obtain⟨dy,gy,ny,ky⟩:=y;simp only[ak,Option.isNone_iff_eq_none]at hfar;obtain⟨⟨rfl,rfl⟩,hfar⟩:=hfar;split at hfar
   ·rename_i os sz a X ag sz' m;have hm:m∈os:=by simpa using hfar
    obtain⟨l,i,v,off,b,_,hoff,rfl,_⟩:=vd h1;obtain⟨rfl,hall⟩:=tf hy0;exact⟨σ,hall σ (Ah (hoff m hm)).symm,hx0⟩
   ·rename_i ag sz' m os sz a X;have hm:m∈os:=by simpa using hfar
    obtain⟨rfl,_⟩:=tf h1;obtain⟨l,i,v,off,b,_,hoff,rfl,_⟩:=vd hy0;obtain⟨_,hall⟩:=tf hx0;refine⟨_,hy0,hall _ ?_⟩;have hg:get (ly++e) m=get e m:=ax m (by simp[Op.vh,K.tmps,ba.tmps]);rw[hg];exact Ah (hoff m hm)
   ·rename_i os sz a X os' sz' m X';have hm:m∈os:=by simpa using hfar
    obtain⟨l,i,v,off,b,_,hoff,rfl,hall⟩:=vd hx0;obtain⟨l',i',v',off',b',hr,hoff',rfl,hall'⟩:=vd hy0;have hg:get (ly++e) m=get e m:=ax m (by simp[Op.vh,K.tmps,hm]);have h4:=hoff m hm;rw[hg]at h4;have h5:get e m=.ref l' i' v' off':=by
     simp only[aR]at hr;cases hgm:get e m<;>rw[hgm]at hr<;>simp only[D.strip,reduceCtorEq]at hr;exact hr
    rw[h5]at h4;simp only[D.off,av]at h4;refine⟨aN σ l' i' b',hall' σ cI.symm (rf h4).symm,?_⟩;rw[BO h4];exact hall _ cI (rf fun hh=>h4 ⟨hh.1.symm,hh.2.symm⟩)
   ·rename_i os wd bt a X ag sz' m;have hm:m∈os:=by simpa using hfar
    obtain⟨l,i,b,bc,hoff,rfl⟩:=BL h1;obtain⟨rfl,hall⟩:=tf hy0;exact⟨σ,hall σ (Ah (hoff m hm)).symm,hx0⟩
   ·rename_i ag sz' m cs;obtain⟨rfl,_⟩:=tf h1;obtain⟨_,hall⟩:=tf hx0;refine⟨_,hy0,hall _ ?_⟩;have hg:get (ly++e) m=get e m:=ax m (by simp[Op.vh,K.tmps,ba.tmps]);rw[hg];have hrd:∃c,wq σx (get e m).strip=some c:=by
     simp only[mW,oF,a7,aR]at h1;cases hr:wq σx (get e m).strip with
     |none=>rw[hr]at h1;simp at h1
     |some c=>exact⟨c,rfl⟩
    obtain⟨c,hrd⟩:=hrd;have hn:∃l i,dP σx (.cells 0 cs)=some (l,i,σy):=by
     simp only[mW,oF,a7,fP,aC,Option.bind_some,ab,ah,Prod.exists,ai]at hy0;obtain⟨d0,σ0,⟨l,i,σ3,h1,h2⟩,_,h3⟩:=hy0;cases h2;cases h3;exact⟨l,i,h1⟩
    obtain⟨l,i,hn⟩:=hn;rw[hrd,ER hn hrd]
   ·rename_i os wd bt a X ag sz' m;obtain⟨l,i,b,bc,hoff,rfl⟩:=BL h1;obtain⟨rfl,c,hc,hall⟩:=Jz hy0;exact⟨σ,hall σ (K9 hc),hx0⟩
   ·cases hfar
 have heq:vX (ly++(lx++e)) (lx++(ly++e)):=fun t=>by
  simp only[wS];by_cases m1:t∈lx.map (·.1)
  ·by_cases m2:t∈ly.map (·.1)
   ·obtain⟨p,hp,rfl⟩:=bp.1 m1;obtain⟨q,hq,he⟩:=bp.1 m2;have:=(c1 _ (d1 p hp)).1;have hq':=d2 q hq;rw[he]at hq';exact absurd hq' (by simpa using this)
   ·rw[if_pos m1,if_neg m2,if_pos m1]
  ·by_cases m2:t∈ly.map (·.1)
   ·rw[if_neg m1,if_pos m2,if_pos m2]
   ·rw[if_neg m1,if_neg m2,if_neg m2,if_neg m1]
 obtain⟨e3,k3,k4⟩:=xm h3 heq;refine⟨e3,?_,k4⟩;rw[fm,hy1];simp only[Option.bind_some];rw[fm,hx1];exact k3
theorem Be{O:bd}{y:Op}{r:List Op}:∀{pre:List Op} {e e2:Env} {σ σ2:SK},(∀x∈pre,x.free y=true) →
  iI O (pre++y::r) e σ=some (e2,σ2)→∃e2',iI O (y::(pre++r)) e σ=some (e2',σ2)∧vX e2 e2'
 |[],e,e2,σ,σ2,hp,h=>⟨e2,h,.refl _⟩
 |x::pre,e,e2,σ,σ2,hp,h=>by
  simp only[dI]at h;rw[fm]at h;simp only[ah,Prod.exists]at h;obtain⟨e1,σ1,h1,h2⟩:=h;obtain⟨e3,h3,h4⟩:=Be (fun z hz=>hp z (by simp[hz])) h2;have h5:iI O (x::y::(pre++r)) e σ=some (e3,σ2):=by rw[fm,h1];exact h3
  obtain⟨e4,h6,h7⟩:=Lk (hp x (by simp)) h5;exact⟨e4,h6,h4.trans h7⟩
theorem Ai{live:List Nat}(h:vX e e'):restrict live e'=restrict live e:=by
 simp only[restrict];exact List.map_congr_left fun t _=>by rw[h t]
end Go.Abs
