import Derived.Test.YtfgljaglidhjiaaGreatDoorBase9
import Derived.Recover
set_option linter.all false
namespace Go.Abs
open Go
def wc(P:Program)(CR:gg)(f:Nat)(args:List D)(σ:SK)(d:D)(σ':SK):Prop :=
 (∃F c,P.funcs[f]?=some F∧F.name ≠ "runtime.NumGoroutine" ∧ F.body=some c) ∧
 ∀base g w vs,Inv CR base g σ w→rU σ→0<σ.length→bA g args vs.toList →
  gT σ σ'∧Calls P f vs w (fun e w'=>∃v g',e=.returned v∧Ev g w g' w'∧Inv CR base g' σ' w'∧bF g' d v)
def agx(P:Program)(CR:gg)(f:Nat)(args:List D)(σ:SK)(d:D)(σ':SK):Prop :=
 d.clean=true∧(∃F c,P.funcs[f]?=some F∧F.name ≠ "runtime.NumGoroutine" ∧ F.body=some c) ∧
 ∀base g w vs,Inv CR base g σ w→rU σ→0<σ.length→bA g args vs.toList →
  gT σ σ'∧Calls P f vs w (fun e w'=>∃v g',e=.panicked [{v,recovered:=false }]∧Ev g w g' w'∧Inv CR base g' σ' w'∧bF g' d v)
def OD(g:G):Option D→FrameMode→Prop
 |none,u=>u=.returning
 |some d,u=>∃v,bF g d v∧u=.panicking [{v,recovered:=false }]
def ago(P:Program)(CR:gg)(f:Nat)(args:List D)(th:Option D)(σ σ':SK):Prop :=
 (∃F c,P.funcs[f]?=some F∧F.name ≠ "runtime.NumGoroutine" ∧ F.body=some c) ∧
 ∀base g w vs u,Inv CR base g σ w→rU σ→0<σ.length→bA g args vs.toList→OD g th u →
  gT σ σ'∧CallsD P f vs u w (fun e u' w'=>∃v g',e=.returned v∧settle u'=.returning∧Ev g w g' w'∧Inv CR base g' σ' w')
def OP(P:Program)(CR:gg)(l i:Nat)(args:List D)(σ:SK)(d:D)(σ':SK):Prop :=
 (∃lp,ef σ l i=some (.loop lp))∧∀base g w vs b,Inv CR base g σ w→rU σ→0<σ.length→bA g args vs.toList→bF g (.l7 l i) (.func (.yield b) #[] #[]) →
  gT σ σ'∧∃f tmps zd body,(Instr.yield b vs).run P w=.ok (.round b f tmps zd body) w ∧
   ∀c cs,∃v g' w',Steps P (lone (Frame.round b f tmps zd body .normal) (c::cs) w) (lone (c.finish v) cs w')∧Ev g w g' w'∧Inv CR base g' σ' w'∧bF g' d v
def AD(k:List Item):Exit→List Item→Prop
 |.normal,t=>t=k
 |.exit id,t=>∃k',t=.code (.exit id)::k'∧exitTo id k'=exitTo id k
 |.ret,t=>∃k',t=.code .ret::k'
 |.gf _,_=>True
def wN(S:Frame→Prop)(g:G)(b:Frame)(a:Act)(todo:List Item):Exit→Prop
 |.gf d=>d.clean=true∧∃v,bF g d v∧S {b.atR a todo with mode:=.panicking [{v,recovered:=false }] }
 |_=>S (b.atR a todo)
theorem wN.imp{S S':Frame→Prop}{g:G}{b:Frame}{a:Act}{todo:List Item}{x:Exit}(h:wN S g b a todo x)(hs:∀fr,S fr→S' fr):wN S' g b a todo x:=by
 cases x with
 |gf d=>obtain⟨h0,v,h1,h2⟩:=h;exact⟨h0,v,h1,hs _ h2⟩
 |_=>exact hs _ h
def anF(P:Program)(CR:gg)(c:cF)(e:Env)(σ:SK)(x:Exit)(e':Env)(σ':SK):Prop :=
 x ≠ .normal∧∀(ann:ub) bO code n,bU P ann n bO code=some c→∀base g0 w0 b a k cs g w B,At CR base ann.ed g0 w0 n b g w B e σ a →
  ∃g' w' B' a' todo,wN (fun fr=>Steps P (lone (b.atR a (.code code::.inLoop code::k)) cs w) (lone fr cs w')) g' b a' todo x ∧
   At CR base ann.ed g0 w0 n b g' w' B' e' σ' a'∧g.le g'∧AD k x todo∧gT σ σ'
def TQ(P:Program)(ann:ub)(n bO:Nat)(rest:cF):Option Code→Prop
 |none=>rest=.eo
 |some q=>bU P ann n bO q=some rest
def agr(P:Program)(CR:gg)(live:List Nat)(it:bG)(nx ok bid:Nat)(c rest:cF)(e:Env)(σ:SK)(x:Exit)(e':Env)(σ':SK):Prop :=
 ∀(ann:ub) bO rid ops p n it0 (qs:Option Code),it=.t it0→NW ann n (.loop (.seq (.region rid ops false) p))=some (it0,nx,ok)→bU P ann n bid p=some c→TQ P ann n bO rest qs →
  ∀base g0 w0 b a k cs g w B,At CR base ann.ed g0 w0 n b g w B e σ a →
  ∃g' w' B' a' todo,wN (fun fr=>Steps P (lone (b.atR a (.code (.seq (.region rid ops false) p)::.inLoop (.seq (.region rid ops false) p)::.inBlock bid::(qs.toList.map Item.code++k))) cs w) (lone fr cs w')) g' b a' todo x ∧
   At CR base ann.ed g0 w0 n b g' w' B' e' σ' a'∧g.le g'∧AD k x todo∧gT σ σ'
def FF(P:Program)(CR:gg):Q→R→Prop
 |.call _ f args σ,.val d σ'=>wc P CR f args σ d σ'
 |.round l i args σ,.val d σ'=>OP P CR l i args σ d σ'
 |.loop _ _ c e σ,.CJ x e' σ'=>anF P CR c e σ x e' σ'
 |.call _ f args σ,.gf d σ'=>agx P CR f args σ d σ'
 |.ji live it nx ok bid c rest e σ,.CJ x e' σ'=>agr P CR live it nx ok bid c rest e σ x e' σ'
 |.yc f args th σ,.val _ σ'=>ago P CR f args th σ σ'
 |_,_=>True
def zi(P:Program)(CR:gg)(O:bM):Prop:=∀q r,O q=some r→FF P CR q r
theorem FB{r:Option R}{d:D}{σ:SK}(h:R.bq r=some (d,σ)):r=some (.val d σ):=by
 unfold R.bq at h;split at h
 ·cases h;rfl
 ·cases h
theorem I5{r:Option R}{x:Exit}{e:Env}{σ:SK}(h:R.RY r=some (x,e,σ)):r=some (.CJ x e σ):=by
 unfold R.RY at h;split at h
 ·cases h;rfl
 ·cases h
section
variable {P:Program} {CR:gg} {O:bM} {ann:ub} {n cr:Nat} {ops:Array Oper} {base:Nat} {g0 g:G} {w0 w:World} {b:Frame} {B:Nat→Nat} {e e':Env} {σ σ':SK} {a:Act}
 {k:List Item} {cs:List Frame} {i:Nat} {rest:List Nat}
def K9(P:Program)(CR:gg)(ann:ub)(n:Nat)(ops:Array Oper)(base:Nat)(g0:G)(w0:World)(b:Frame)(g:G)(w:World)(a:Act)(k:List Item)(cs:List Frame)(i:Nat)(rest:List Nat)(σ:SK)(e':Env)(σ':SK):Prop :=
 ∃g' w' B' a',Steps P (lone (b.atR a (.inRegion ops (i::rest)::k)) cs w) (lone (b.atR a' (.inRegion ops rest::k)) cs w') ∧
  At CR base ann.ed g0 w0 n b g' w' B' e' σ' a'∧g.le g'∧gT σ σ'
theorem At.go{V:List Nat}(ha:At CR base V g0 w0 n b g w B e σ a){g':G}{w':World}{B':Nat→Nat}{tm:Act}(he:Ev g w g' w')(hi:Inv CR base g' σ' w')(hg:gT σ σ')
  (hf:Fr w0.heap.size V g' w' B' e' tm.tmps) (hs:tm.tmps.size=a.tmps.size) (hd:tm.defers=a.defers):At CR base V g0 w0 n b g' w' B' e' σ' tm where
 fr:=hf
 ev:=ha.ev.trans he
 inv:=hi
 low:=hg.low ha.low
 pos:=by rw[hg.len];exact ha.pos
 size:=by rw[hs];exact ha.size
 marks:=let ⟨rs,h⟩:=ha.marks;⟨rs,by rw[hd];exact h.ev he⟩
 round:=xK ha.round he.le
theorem BH{dst:Option Nat}{c:Value}:(a.put dst c).tmps.size=a.tmps.size:=by cases dst<;>simp[Act.put]
theorem put_defers{dst:Option Nat}{c:Value}:(a.put dst c).defers=a.defers:=by cases dst<;>simp[Act.put]
theorem L8{ann:ub}{key:Nat}{o:Oper}{kk:K}(h:kC P ann ops key o=some kk):∀c,o.op ≠ .defer c:=by
 intro c hc;unfold kC at h;rw[hc]at h;cases h
theorem Ak(ha:At CR base ann.ed g0 w0 n b g w B e σ a){o:Oper}(ho:ops[i]?=some o)(hn:∀t,o.dst=some t→t<n)(hV:∀t,o.dst=some t→t ∉ ann.ed)
  {g':G} {w':World} {d:D} {c:Value} (hsteps:Steps P (lone (b.atR a (.inRegion ops (i::rest)::k)) cs w) (lone (b.atR (a.put o.dst c) (.inRegion ops rest::k)) cs w'))
  (he:Ev g w g' w') (hi:Inv CR base g' σ' w') (hg:gT σ σ') (hr:cK g' B e d c):
  K9 P CR ann n ops base g0 w0 b g w a k cs i rest σ (put o.dst d e) σ':=by
 refine⟨g',w',B,a.put o.dst c,hsteps,ha.go he hi hg ?_ BH put_defers,he.le,hg⟩;exact(ha.fr.ev he).put hr hV fun t ht=>by rw[ha.size];exact hn t ht
theorem kQ{ρ:Operand→Value}{f:Operand}{args:Array Operand}{ts:Array TypeId}{ty:TypeId}{fn:Go.Fn}{first cap:Array Value}(hf:ρ f=.func fn first cap)(w:World):
  (resolve ρ {callee:=.value f,args,argTypes:=ts } ty).run P w=.ok {target:=.fn fn cap,args:=first++args.map ρ } w:=by
 simp[resolve,Deferred.ofValue,hf]
theorem wX{f:FuncId}{args:Array Value}{F:Func}(h1:P.funcs[f]?=some F)(h2:F.name ≠ "runtime.NumGoroutine"){c:Code}(h3:F.body=some c)(w:World):
  (callFunc f args).run P w=.ok (.enter f args) w:=by
 simp[callFunc,program,Sem.run,h1,h2,h3]
theorem Ep{xs:Array Operand}{Xs:List bG}{fb:Nat}{V:List Nat}{tmps:Array Value}{df:List Deferred}(hf:Fr fb V g w B e tmps)(hx:wH xs.toList=some Xs):
  bA g (Xs.map (Abs.bg e)) (xs.map (Act.mk tmps df).eval).toList:=by
 have:=hf.arB (df:=df) hx;simpa using this
theorem OX(hO:zi P CR O)(ha:At CR base ann.ed g0 w0 n b g w B e σ a){o:Oper}(ho:ops[i]?=some o)(hw:Region.wanted o (yielded ops a.tmps)=true)
  (hn:∀t,o.dst=some t→t<n) (hV:∀t,o.dst=some t→t ∉ ann.ed) {f:Operand} {args:Array Operand} {ts:Array TypeId} (hop:o.op=.call {callee:=.value f,args,argTypes:=ts })
  {F:bG} {Xs:List bG} (hF:bD f=some F) (hX:wH args.toList=some Xs) {kp:Bool} {d:D} (h:pQ O kp (bg e F) (Xs.map (bg e)) σ=some (d,σ')):
  K9 P CR ann n ops base g0 w0 b g w a k cs i rest σ (put o.dst d e) σ':=by
 obtain⟨tmps,df⟩:=a;have hd:∀c,o.op ≠ .defer c:=by intro c hc;rw[hop]at hc;cases hc
 have hfv:=ha.fr.bg (df:=df) hF;have hxs:=Ep (df:=df) ha.fr hX;unfold pQ at h;split at h
 ·rename_i fi first cap hfe
  rw[hfe]at hfv;have hans:=hO _ _ (FB h);obtain⟨⟨Fn,cd,hfn1,hfn2,hfn3⟩,hcall⟩:=hans;generalize hev:(Act.mk tmps df).eval f=fv at hfv;cases hfv with
  |fn _ _ _ first' cap' r1 r2 =>
   have hrun:(execOp (Act.mk tmps df).eval o).run P w=.ok (.enter fi (first'++args.map (Act.mk tmps df).eval++cap')) w:=by
    simp only[execOp,hop,Sem.run_bind,kQ hev,Result.andThen_ok,invoke,wX hfn1 hfn2 hfn3]
   have hargs:bA g (first++Xs.map (bg e)++cap) (first'++args.map (Act.mk tmps df).eval++cap').toList:=by
    simpa using(r1.append hxs).append r2
   obtain⟨hgo,hcalls⟩:=hcall base g w _ ha.inv ha.low ha.pos hargs;obtain⟨en,w',fr,⟨v,g',rfl,he,hi,hr⟩,hcomes,hfr,hleave⟩:=hcalls (b.atR ⟨tmps,df⟩ (.inRegion ops (i::rest)::k)::cs);refine Ak ha ho hn hV (Steps.head (H5 ho hw hd hrun) (Steps.trans hcomes (Steps.one ?_))) he hi hgo (cK.of hr);rw[step_leave_returned hleave,BX ho]
 ·rename_i l j hfe;rw[hfe]at hfv;have hans:=hO _ _ (FB h);generalize hev:(Act.mk tmps df).eval f=fv at hfv;have hfv0:=hfv;cases hfv with
  |QT _ _ bb r1 =>
   obtain⟨⟨lp,hlp⟩,_⟩:=hans;obtain⟨b0,hb0,hrel⟩:=ha.inv.wZ _ _ _ r1;rw[hlp]at hb0;cases hb0;exact hrel.elim
  |itv _ _ bb L r1 r2 =>
   obtain⟨⟨lp,hlp⟩,_⟩:=hans;obtain⟨b0,hb0,hrel⟩:=ha.inv.wZ _ _ _ r1;rw[hlp]at hb0;cases hb0;rcases r2 with rfl | rfl<;>exact hrel.elim
  |RQ _ _ bb L r1 r2 =>
   obtain⟨⟨lp,hlp⟩,_⟩:=hans;obtain⟨b0,hb0,hrel⟩:=ha.inv.wZ _ _ _ r1;rw[hlp]at hb0;cases hb0;rcases r2 with⟨c,rfl⟩ | rfl<;>exact hrel.elim
  |l7 _ _ bb r1 =>
   obtain⟨hgo,f0,tm0,zd,body,hy,hround⟩:=hans.2 base g w (args.map (Act.mk tmps df).eval) bb ha.inv ha.low ha.pos (by simpa using hxs) hfv0;have hrun:(execOp (Act.mk tmps df).eval o).run P w=.ok (.round bb f0 tm0 zd body) w:=by
    simp only[execOp,hop,Sem.run_bind,kQ hev,Result.andThen_ok,invoke];simpa using hy
   obtain⟨v,g',w',hsteps,he,hi,hr⟩:=hround (b.atR ⟨tmps,df⟩ (.inRegion ops (i::rest)::k)) cs;refine Ak ha ho hn hV (Steps.head (Oi ho hw hd hrun) ?_) he hi hgo (cK.of hr);rw[BX ho]at hsteps;exact hsteps
 ·cases h
end
section
variable {P:Program} {CR:gg} {O:bM} {ann:ub} {n cr:Nat} {ops:Array Oper} {base:Nat} {g0 g:G} {w0 w:World} {b:Frame} {B:Nat→Nat} {e e':Env} {σ σ':SK} {a:Act}
 {k:List Item} {cs:List Frame} {i:Nat} {rest:List Nat}
theorem ae8(ha:At CR base ann.ed g0 w0 n b g w B e σ a){o:Oper}(ho:ops[i]?=some o)(hw:Region.wanted o (yielded ops a.tmps)=true)(hd:∀c,o.op ≠ .defer c)
  {v:Nat} (hdst:o.dst=some v) (hV:v∈ann.ed) (hn:v<n) {g1:G} {ds:List D} {ca:Array Value} {el:TypeId}
  (hrun:(execOp a.eval o).run P w=.ok (.value (.pointer (some ⟨w.heap.size,0,none⟩))) (w.alloc (.cells ca el)))
  (i1:Inv CR base g1 σ' w) (e1:Ev g w g1 w) (hg:gT σ σ') (hr:bA g1 ds ca.toList) (h1:∀x∈ca.toList,x.oneCell'=true):
  K9 P CR ann n ops base g0 w0 b g w a k cs i rest σ ((v,.own (uP e v) ds)::e) σ':=by
 obtain⟨tmps,df⟩:=a;have i2:=i1.alloc (.cells ca el);have e2:=e1.trans (Ev.alloc g1 w (.cells ca el));have hsteps:=xP (P:=P) (b:=b) (a:=⟨tmps,df⟩) (k:=k) (cs:=cs) (rest:=rest) ho hw hd hrun rfl;rw[hdst]at hsteps;have hsz:v<tmps.size:=by have:=ha.size;simp only at this;omega
 refine⟨g1,_,_,_,.one hsteps,ha.go e2 i2 hg ((ha.fr.ev e2).arF hV hsz ⟨ha.ev.size,fun hb=>?_,fun o=>?_,ca,el,tL,hr,h1⟩ fun t s cs' ht=>?_) BH put_defers,e2.le,hg⟩
 ·exact Nat.lt_irrefl _ (i1.aeu hb)
 ·cases hh:g1.rh w.heap.size o with
  |none=>rfl
  |some x=>exact absurd (i1.jS hh) (Nat.lt_irrefl _)
 ·have:=(ha.fr.own t s cs' ht).2.2.lt;omega
theorem asB(ha:At CR base ann.ed g0 w0 n b g w B e σ a){o:Oper}(ho:ops[i]?=some o)(hw:Region.wanted o (yielded ops a.tmps)=true)
  (hn:∀t,o.dst=some t→t<n) (hV:∀t,o.dst=some t→t ∉ ann.ed) {t:TypeId} {x v:Nat} {y:Operand} {Y:bG} (hop:o.op=.store t (.tmp x) y) (hy:bD y=some Y) {sz:Nat} (hsz:dC P t=some sz)
  {s off:Nat} {cv p p':List D} {nb:List (Nat×Nat)} (hin:sA e v x=some (s,cv,off)) (hp:(bg e Y).cells=some p) (hlen:p.length=sz∧off+sz≤cv.length)
  (hnb:lq nb p σ=some (p',σ')) (hdst:o.dst=none):
  K9 P CR ann n ops base g0 w0 b g w a k cs i rest σ ((v,.own s (cv.take off++p'++cv.drop (off+sz)))::e) σ':=by
 obtain⟨tmps,df⟩:=a;have hd:∀c,o.op ≠ .defer c:=by intro c hc;rw[hop]at hc;cases hc
 obtain⟨hgv,hpx⟩:=ha.fr.sA hin;obtain⟨hvV,hptr,hob⟩:=ha.fr.own v s cv hgv;obtain⟨ca,el,hheap,hrl,h1c⟩:=hob.bO;obtain⟨hrp,h1p⟩:=(ha.fr.bg (df:=df) hy).cells hp;obtain⟨g1,i1,e1,r1⟩:=xE nb _ _ _ _ g _ hnb ha.inv hrp;obtain⟨_,hp'len,_⟩:=Al nb _ _ _ _ hnb;have hpl:((Act.mk tmps df).eval y).cells.toList.length=sz:=by rw[← r1.length,hp'len];exact hlen.1
 have hpl':((Act.mk tmps df).eval y).cells.size=sz:=by simpa using hpl
 have hcl:ca.size=cv.length:=by have:=hrl.length;simpa using this.symm
 obtain⟨w',c',hrun,hb',hs',hc',hother,hsize,ho1,ho2,ho3⟩:=Eu (P:=P) (t:=t) (w:=w) (b:=B v) (o:=off) (v:=(Act.mk tmps df).eval y) hsz (by simpa using hpl) h1p hheap (by omega);have hob1:=hob.ev e1;have hcv:(Act.mk tmps df).eval (.tmp x)=.pointer (some ⟨B v,off,none⟩):=hpx;have hrunO:(execOp (Act.mk tmps df).eval o).run P w=.ok .skip w':=by
  simp[execOp,hop,Instr.storeAt,hcv,Instr.sureAddr,hrun]
 have hoth:∀b',b'≠B v→w'.heap[b']?=w.heap[b']?:=hother;have i2:Inv CR base g1 σ' w':=i1.GD (fun b' hb'' hk=>hoth b' fun hh=>by
  subst hh;rcases hk with hk | ⟨o2,v2,hk⟩
  ·exact hob1.free hk
  ·rw[hob1.uK]at hk;cases hk) (by omega)
 have hwrite:bA g1 (cv.take off++p'++cv.drop (off+sz)) c'.toList∧∀z∈c'.toList,z.oneCell'=true:=by
  have hrow:=Fu (c:=ca) (c':=c') (bo:=0) (off:=off) (vs:=ca.toList) (ps:=((Act.mk tmps df).eval y).cells.toList) (fun j z hz=>⟨by simpa using hz,h1c z (aj hz)⟩) h1p (by simp;omega)
   (by rw[hpl];simpa using hc')
  rw[hpl]at hrow;have hrel:=(((hrl.mono e1.le).take off).append r1).append ((hrl.mono e1.le).drop (off+sz));have heq:c'.toList=ca.toList.take off++((Act.mk tmps df).eval y).cells.toList++ca.toList.drop (off+sz):=by
   have hll:(ca.toList.take off++((Act.mk tmps df).eval y).cells.toList++ca.toList.drop (off+sz)).length=c'.toList.length:=by
    simp only[bC,hpl,jC,List.length_drop,Array.length_toList,hs'];omega
   apply dY;intro j;by_cases hj:j<c'.toList.length
   ·have hj2:=hj;rw[← hll]at hj2;have:=(hrow j _ (aN hj2)).1;rw[aN hj2];simpa using this
   ·rw[eT (by omega),eT (by omega)]
  rw[heq];refine⟨hrel,fun z hz=>?_⟩;simp only[ba]at hz;rcases hz with(hz | hz) | hz
  ·exact h1c z (dq hz)
  ·exact h1p z hz
  ·exact h1c z (dp hz)
 have hob2:Ie w0.heap.size g1 w' (B v) (cv.take off++p'++cv.drop (off+sz)):=⟨hob1.lo,hob1.free,hob1.uK,c',el,hb',hwrite.1,hwrite.2⟩;have hsteps:=xP (P:=P) (b:=b) (a:=⟨tmps,df⟩) (k:=k) (cs:=cs) (rest:=rest) ho hw hd hrunO rfl;rw[hdst]at hsteps;have hgo:=tI _ _ _ _ _ hnb;refine⟨g1,w',B,⟨tmps,df⟩,.one hsteps,⟨?_,?_,i2,hgo.low ha.low,by rw[hgo.len];exact ha.pos,ha.size,?_,xK ha.round e1.le⟩,e1.le,hgo⟩
 ·exact(ha.fr.ev e1).Ob hgv hob2 fun b' _ hne=>hoth b' hne
 ·have h0:=ha.ev.trans e1;refine⟨h0.le,ho1.trans h0.os,ho2.trans h0.tape,ho3.trans h0.output,by have:=h0.size;omega,fun b' hb'' hnb'=>?_,h0.img,h0.Kg⟩;rw[hoth b' (by have:=hob.lo;omega)];exact h0.kept b' hb'' hnb'
 ·obtain⟨rs,hm⟩:=ha.marks;have hm1:=hm.ev e1;refine⟨rs,hm1.eq,hm1.nodup,fun r hr=>?_⟩;have hmr:=hm1.all r hr;refine⟨hmr.lo,hmr.free,hmr.uK,?_⟩;rw[hoth r,hmr.bO];intro hh;subst hh;have:=hmr.bO;rw[hheap]at this;cases this
def KEq(P:Program)(ann:ub)(o:Oper)(kk:K):Prop :=
  match kk with
  |.call _ F Xs=>∃f args ts,o.op=.call {callee:=.value f,args,argTypes:=ts }∧bD f=some F∧wH args.toList=some Xs
  |.fm _ z=>∃el v,o.op=.alloc el∧sC P el=some z∧o.dst=some v∧v∈ann.ed
  |.E2 X=>∃t x v,o.op=.box t x∧bD x=some X∧o.dst=some v∧v∈ann.ed
  |.Gt _ _ sz x Y=>∃t y,o.op=.store t (.tmp x) y∧bD y=some Y∧dC P t=some sz
  |.MZ X=>∃y,o.op=.panic y∧bD y=some X
  |.M0=>∃args ts,o.op=.call {callee:=.builtin .recover,args,argTypes:=ts }
  |_=>True
theorem NS{X Y:bG}{t:TypeId}{bo:BinOp}{kk:K}{o:Oper}(hk:eqC P bo t X Y=some kk):KEq P ann o kk:=by
 unfold eqC at hk;split at hk
 case h_2=>cases hk
 split at hk
 ·cases hk
 split at hk
 ·obtain⟨ag,hag,rfl⟩:=ad.1 hk;trivial
 ·obtain⟨ag,hag,rfl⟩:=ad.1 hk;trivial
 ·cases hk
theorem aeI{kk:K}{key:Nat}{o:Oper}(hk:kC P ann ops key o=some kk):KEq P ann o kk:=by
 unfold kC at hk;split at hk
 ·rename_i x ho;obtain⟨X,hX,rfl⟩:=ad.1 hk;trivial
 ·rename_i x ho;split at hk
  ·rename_i hnil _ _;split at hk
   ·obtain⟨X,hX,rfl⟩:=ad.1 hk;trivial
   ·obtain⟨X,hX,rfl⟩:=ad.1 hk;trivial
  ·obtain⟨X,hX,rfl⟩:=ad.1 hk;trivial
 ·rename_i c x y ho;split at hk
  ·rename_i c' x' y' h1 h2 h3;cases hk;trivial
  ·cases hk
 ·rename_i el ho;split at hk
  ·rename_i z d0 hz hd0;split at hk
   ·split at hk
    case h_2=>cases hk
    split at hk
    case h_2=>cases hk
    split at hk
    case h_2=>cases hk
    cases hk;trivial
   cases hk;split
   ·rename_i hc;exact⟨el,d0,ho,hz,hd0,by simpa using hc⟩
   ·trivial
  ·cases hk
 ·rename_i t x ho;split at hk
  ·rename_i x' d0 hx hd0;cases hk;by_cases hc:ann.ed.contains d0=true
   ·simp only[hc,if_true];exact⟨t,x,d0,ho,hx,hd0,by simpa using hc⟩
   ·rw[if_neg hc];split
    ·split<;>trivial
    ·trivial
  ·cases hk
 ·rename_i t ps ho;split at hk
  ·rename_i fs z ht hz;split at hk
   ·rename_i hall;obtain⟨parts,hp,rfl⟩:=ad.1 hk;trivial
   ·cases hk
  ·rename_i n el z ht hz;split at hk
   ·rename_i wd hw;obtain⟨parts,hp,rfl⟩:=ad.1 hk;trivial
   ·cases hk
  ·cases hk
 ·rename_i t n ps ho;split at hk
  ·rename_i el ht;split at hk
   ·rename_i wd z d0 hw hz _;split at hk
    ·rename_i hc;obtain⟨parts,hp,rfl⟩:=ad.1 hk;dsimp only;split
     ·trivial
     split<;>trivial
    ·cases hk
   ·cases hk
  ·cases hk
 ·rename_i t x ho;split at hk
  ·rename_i ag sz n hag hsz hx;split at hk
   ·rename_i hc;simp only[af,au]at hc;cases hk;have hxe:x=.tmp n:=by
     cases x<;>simp only[bD,ae,bG.t.injEq,reduceCtorEq,ad,and_false,exists_false]at hx;rw[hx]
    split
    ·trivial
    ·split
     ·trivial
     ·split<;>trivial
   ·cases hk
  ·cases hk
 ·rename_i t x y ho;split at hk
  ·rename_i sz n y' hsz hx hy;cases hk;have hxe:x=.tmp n:=by
    cases x<;>simp only[bD,ae,bG.t.injEq,reduceCtorEq,ad,and_false,exists_false]at hx;rw[hx]
   by_cases hc:ann.ed.contains (F5 ops 8 n)=true
   ·simp only[hc,if_true];exact⟨t,y,by rw[ho,hxe],hy,hsz⟩
   ·rw[if_neg hc];split<;>trivial
  ·cases hk
 ·rename_i b t x y u ho;split at hk
  ·rename_i hx hy;cases hk;trivial
  ·rename_i hx hy;exact NS hk
  ·rename_i hx hy;exact NS hk
  ·rename_i hx hy;exact NS hk
  ·rename_i ht hx hy;split at hk<;>cases hk<;>trivial
  ·rename_i ht hx hy;unfold isC at hk;split at hk<;>cases hk<;>trivial
  ·rename_i ht hx hy;split at hk
   ·split at hk<;>cases hk<;>trivial
   ·cases hk
  ·rename_i ht hx hy;unfold isC at hk;split at hk<;>cases hk<;>trivial
  ·rename_i ht hx hy;split at hk<;>cases hk<;>trivial
  ·cases hk
 ·rename_i x ho;obtain⟨X,hX,rfl⟩:=ad.1 hk;trivial
 ·rename_i b t x ho;obtain⟨X,hX,rfl⟩:=ad.1 hk;trivial
 ·rename_i s t x ho;split at hk
  ·rename_i hs ht hx;cases hk;trivial
  ·split at hk<;>cases hk<;>trivial
  ·split at hk<;>cases hk<;>trivial
  ·split at hk
   ·split at hk<;>cases hk<;>trivial
   ·cases hk
  ·cases hk
 ·rename_i t x ho;split at hk
  ·obtain⟨X,hX,rfl⟩:=ad.1 hk;trivial
  ·cases hk
 ·rename_i f xs ys ho;split at hk
  ·rename_i hx hy;cases hk;trivial
  ·cases hk
 ·rename_i t x y ho;split at hk
  ·rename_i el ht;split at hk
   ·rename_i hw hb hz hx hy;split at hk
    ·rename_i hc;cases hk;trivial
    ·cases hk
   ·cases hk
  ·cases hk
 ·rename_i t x lo hh mx ho;split at hk
  ·rename_i ht hx hlo hhi hmx;obtain⟨wd,hw,rfl⟩:=ad.1 hk;trivial
  ·rename_i ht hx hlo hhi hmx;obtain⟨wd,hw,rfl⟩:=ad.1 hk;have hm:mx=none:=by
    cases mx with
    |none=>rfl
    |some m=>simp[xI,ad]at hmx
   subst hm;trivial
  ·rename_i ht hx hlo hhi hmx;cases hk;trivial
  ·cases hk
 ·rename_i s x i ho;split at hk
  ·rename_i fs x' hs hx;split at hk
   ·rename_i off sz hfc;split at hk
    ·rename_i hpos;cases hk;trivial
    ·cases hk
   ·cases hk
  ·cases hk
 ·rename_i s x i ho;split at hk
  ·rename_i fs x' hs hx;split at hk
   ·rename_i f hfi;split at hk
    ·rename_i hag hsz;split at hk
     ·cases hk;trivial
     ·cases hk
    ·cases hk
   ·cases hk
  ·cases hk
 ·rename_i t x y ho;split at hk
  ·rename_i ht hx hy;obtain⟨wd,hw,rfl⟩:=ad.1 hk;trivial
  ·rename_i ht hx hy;obtain⟨wd,hw,rfl⟩:=ad.1 hk;trivial
  ·cases hk
 ·rename_i t x y ho;split at hk
  ·rename_i ht hx hy;split at hk
   ·rename_i hag hsz;split at hk
    ·cases hk;trivial
    ·cases hk
   ·cases hk
  ·rename_i ht hx hy;cases hk;trivial
  ·cases hk
 ·rename_i x i ho;obtain⟨X,hX,rfl⟩:=ad.1 hk;trivial
 ·rename_i c ho;obtain⟨callee,args,ts⟩:=c;dsimp only at hk;split at hk
  ·rename_i f;split at hk
   ·rename_i hf hx;cases hk;exact⟨f,args,ts,ho,hf,hx⟩
   ·cases hk
  ·split at hk
   ·rename_i t tr x r hts ha;split at hk
    ·rename_i ht hx;cases hk;trivial
    ·rename_i ht hx;cases hk;trivial
    ·rename_i ht hx;cases hk;trivial
    ·rename_i ht;cases hk;trivial
    ·rename_i ht;split at hk
     ·rename_i hr;cases hk;trivial
     ·cases hk
    ·cases hk
   ·cases hk
  ·cases hk;exact⟨_,_,ho⟩
  ·split at hk
   ·rename_i ha;split at hk
    ·rename_i hx hy;cases hk;trivial
    ·cases hk
   ·cases hk
  ·split at hk
   ·rename_i ha;split at hk
    ·rename_i hx hy;cases hk;trivial
    ·cases hk
   ·cases hk
  ·split at hk
   ·rename_i t u x y hts ha;split at hk
    ·rename_i ht hu hx hy;split at hk
     case isFalse=>cases hk
     split at hk
     ·rename_i hw hb hz;split at hk
      ·rename_i hc;cases hk;split
       ·trivial
       ·split
        ·trivial
        ·split
         ·trivial
         ·split<;>trivial
      ·cases hk
     ·cases hk
    ·cases hk
   ·cases hk
  ·cases hk
 ·rename_i t x ho;split at hk
  ·obtain⟨X,hX,rfl⟩:=ad.1 hk;trivial
  ·cases hk
 ·rename_i x xt t ok ho;split at hk
  ·cases hk
  ·split at hk
   ·obtain⟨z,hz,rfl⟩:=ad.1 hk;trivial
   ·cases hk;trivial
  ·cases hk
 ·rename_i x ho;obtain⟨X,hX,rfl⟩:=ad.1 hk;exact⟨x,ho,hX⟩
 ·rename_i t ho;cases hk;trivial
 ·split at hk<;>cases hk<;>trivial
 ·rename_i t x ho;split at hk
  ·rename_i ht hx;cases hk;trivial
  ·cases hk
 ·rename_i x ho;split at hk
  ·rename_i hx;cases hk;trivial
  ·cases hk
 ·rename_i t x y ok ho;split at hk
  ·split at hk
   ·cases hk;trivial
   ·cases hk
  ·cases hk
 ·rename_i t m x y ho;split at hk
  ·split at hk
   ·cases hk;trivial
   ·cases hk
  ·cases hk
 ·rename_i t m x y ho;split at hk
  ·split at hk
   ·cases hk;trivial
   ·cases hk
  ·cases hk
 ·cases hk
theorem aBi{kk:K}(h:kk.makes=true):bH e σ kk=none:=by
 cases kk<;>simp[K.makes]at h<;>rfl
theorem TW(hO:zi P CR O)(ha:At CR base ann.ed g0 w0 n b g w B e σ a){o:Oper}(ho:ops[i]?=some o)(hw:Region.wanted o (yielded ops a.tmps)=true)
  {AI:Bool} {op:Op} (hop:SB P ann n cr ops AI i o=some op) (h:wg O op e σ=some (e',σ')):
  K9 P CR ann n ops base g0 w0 b g w a k cs i rest σ e' σ':=by
 unfold SB at hop;split at hop
 case h_2=>cases hop
 rename_i kk hk;split at hop
 case h_2=>cases hop
 rename_i gd hgd hdn;simp only[aC,af]at hop;obtain⟨⟨hown,hst⟩,hop⟩:=hop;cases hop;have hn:∀t,o.dst=some t→t<n:=by
  intro t ht;rw[ht]at hdn;simpa using hdn
 have hV:kk.makes=false→∀t,o.dst=some t→t ∉ ann.ed:=by
  intro hm t ht;rw[ht]at hown;simp[hm]at hown;simpa using hown
 have hd:=L8 hk;have hkeq:=aeI hk;unfold wg at h;dsimp only at h;split at h
 ·
  rename_i kp F Xs;split at h
  case h_2=>cases h
  rename_i d σ1 hc;split at h
  case isFalse=>cases h
  cases h;obtain⟨f,args,ts,h1,h2,h3⟩:=hkeq;exact OX hO ha ho hw hn (hV rfl) h1 h2 h3 hc
 ·
  rename_i nb z;obtain⟨el,v,h1,h2,h3,h4⟩:=hkeq;rw[h3]at h;cases hnb:lq nb z σ with
  |none=>simp[hnb]at h
  |some x =>
   obtain⟨cs',σ1⟩:=x;simp only[hnb,ae,ak]at h;obtain⟨rfl,rfl⟩:=h;obtain⟨i0,vz,hinfo,hzero,hrz,h1z⟩:=tV g h2;obtain⟨g1,i1,e1,r1⟩:=xE nb _ _ _ _ g _ hnb ha.inv hrz;exact ae8 (el:=el) ha ho hw hd h3 h4 (hn _ h3) (by simp[execOp,h1,Fx hinfo hzero]) i1 e1 (tI _ _ _ _ _ hnb) r1 h1z
 ·
  rename_i X;obtain⟨t,x,v,h1,h2,h3,h4⟩:=hkeq;rw[h3]at h;cases hcx:(bg e X).cells with
  |none=>simp[hcx]at h
  |some cs' =>
   simp only[hcx,ae,ak]at h;obtain⟨rfl,rfl⟩:=h;obtain⟨tmps,df⟩:=a;obtain⟨hr,h1z⟩:=(ha.fr.bg (df:=df) h2).cells hcx;exact ae8 (el:=t) ha ho hw hd h3 h4 (hn _ h3) (by simp[execOp,h1,Instr.box,newVar,newRow]) ha.inv (Ev.refl g w) (.refl σ) hr h1z
 ·
  rename_i v nb sz x X;obtain⟨t,y,h1,h2,h3⟩:=hkeq;have hdst:o.dst=none:=by simpa[K.awC]using hst
  split at h
  case h_2=>cases h
  rename_i s cv off p hin hp;split at h
  case isFalse=>cases h
  rename_i hlen;split at h
  case h_2=>cases h
  rename_i p' σ1 hnb;cases h;exact asB ha ho hw hn (hV rfl) h1 h2 h3 hin hp hlen hnb hdst
 ·
  rename_i k1 h1 h2 h3 h4;cases hs:bH e σ kk with
  |none=>simp[hs]at h
  |some x =>
   obtain⟨d,σ1⟩:=x;simp only[hs,aR,ae,ak]at h;obtain⟨rfl,rfl⟩:=h;have hm:kk.makes=false:=by
    cases hm:kk.makes
    ·rfl
    ·rw[aBi hm]at hs;cases hs
   obtain⟨tmps,df⟩:=a;obtain⟨x,c,g',w',hrun,hx,he,hi,hr⟩:=asu (df:=df) ha.fr ha.inv hk hs;exact Ak ha ho hn (hV hm) (.one (xP ho hw hd hrun hx)) he hi (afo hs) hr
inductive wL {α β:Type} (R:α→β→Prop):List α→List β→Prop
 |nil:wL R [] []
 |cons {x:α} {y:β} {xs:List α} {ys:List β}:R x y→wL R xs ys→wL R (x::xs) (y::ys)
def G1(P:Program)(ann:ub)(n cr:Nat)(ops:Array Oper)(i:Nat)(x:Op):Prop:=∃o AI,ops[i]?=some o∧SB P ann n cr ops AI i o=some x
theorem Km{AI:Bool}{o:Oper}{op:Op}(h:SB P ann n cr ops AI i o=some op):
  op.dst=o.dst∧(∀t,o.dst=some t→t<n)∧((o.guard=none∧op.Dm=none)∨∃j d bb,o.guard=some (j,bb)∧op.Dm=some (d,bb)∧(ops[j]?).bind (·.dst)=some d∧(∀t,o.dst=some t→t ∉ ann.ed)):=by
 unfold SB at h;split at h
 case h_2=>cases h
 rename_i kk hk;split at h
 case h_2=>cases h
 rename_i gd hgd hdn;simp only[aC,af]at h;obtain⟨⟨hown,hst⟩,h⟩:=h;cases h;refine⟨rfl,fun t ht=>by rw[ht]at hdn;simpa using hdn,?_⟩;cases hg:o.guard with
 |none=>rw[hg]at hgd;cases hgd;exact .inl ⟨rfl,rfl⟩
 |some x =>
  obtain⟨j,bb⟩:=x;rw[hg]at hgd;dsimp only at hgd;cases hj:(ops[j]?).bind (·.dst)with
  |none=>rw[hj]at hgd;cases hgd
  |some d =>
   rw[hj]at hgd;cases hgd;refine .inr ⟨j,d,bb,rfl,rfl,hj,fun t ht=>?_⟩;rw[ht,hg]at hown;simpa using hown
theorem B6(hO:zi P CR O){tl:List Nat}:∀(is:List Nat) (xs:List Op) (e:Env) (σ:SK) (g:G) (w:World) (B:Nat→Nat) (a:Act),wL (G1 P ann n cr ops) is xs →
  mT O xs e σ=some (e',σ')→At CR base ann.ed g0 w0 n b g w B e σ a →
  ∃g' w' B' a',Steps P (lone (b.atR a (.inRegion ops (is++tl)::k)) cs w) (lone (b.atR a' (.inRegion ops tl::k)) cs w')∧At CR base ann.ed g0 w0 n b g' w' B' e' σ' a'∧g.le g'∧gT σ σ'
 |[],xs,e,σ,g,w,B,a,hF,h,ha=>by
  cases hF;simp only[mT,ae,ak]at h;obtain⟨rfl,rfl⟩:=h;exact⟨g,w,B,a,.refl _ _,ha,g.le_refl,.refl σ⟩
 |i::is,xs,e,σ,g,w,B,a,hF,h,ha=>by
  cases hF with
  |cons hx hF =>
   rename_i x xs;obtain⟨o,AI,ho,hop⟩:=hx;obtain⟨hdst,hn,hgrd⟩:=Km hop;simp only[mT]at h;have hgo:∀{e1 σ1 g1 w1 B1 a1},Steps P (lone (b.atR a (.inRegion ops (i::is++tl)::k)) cs w) (lone (b.atR a1 (.inRegion ops (is++tl)::k)) cs w1) →
     At CR base ann.ed g0 w0 n b g1 w1 B1 e1 σ1 a1→g.le g1→gT σ σ1→mT O xs e1 σ1=some (e',σ') →
     ∃g' w' B' a',Steps P (lone (b.atR a (.inRegion ops (i::is++tl)::k)) cs w) (lone (b.atR a' (.inRegion ops tl::k)) cs w')∧At CR base ann.ed g0 w0 n b g' w' B' e' σ' a'∧g.le g'∧gT σ σ':=by
    intro e1 σ1 g1 w1 B1 a1 h1 h2 h3 h4 h5;obtain⟨g2,w2,B2,a2,k1,k2,k3,k4⟩:=B6 hO is xs _ _ _ _ _ _ hF h5 h2;exact⟨g2,w2,B2,a2,h1.trans k1,k2,h3.trans' k3,h4.trans k4⟩
   rcases hgrd with⟨hg1,hg2⟩ | ⟨j,d,bb,hg1,hg2,hj,hV⟩
   ·rw[hg2]at h;simp only[ah,Prod.exists]at h;obtain⟨e1,σ1,h1,h2⟩:=h;obtain⟨g1,w1,B1,a1,k1,k2,k3,k4⟩:=TW (k:=k) (cs:=cs) (rest:=is++tl) hO ha ho (by simp[Region.wanted,hg1]) hop h1;exact hgo k1 k2 k3 k4 h2
   ·rw[hg2]at h;dsimp only at h;split at h
    case h_2=>cases h
    rename_i bv hbv;have hy:yielded ops a.tmps j=bv:=by
     have hrel:=ha.fr.rel d;unfold yielded;rw[hj];simp only[Option.bind_some];cases hg:get e d with
     |bool b =>
      rw[hg]at hrel hbv;have hrel':bF g (.bool b) (a.tmps.getD d Go.undef):=hrel;have hval:=hrel'.pP;simp only[D.bit,ae]at hbv;subst hbv;rw[cf]at hval;cases hd:a.tmps[d]? with
      |none=>rw[hd]at hval;simp[Go.undef]at hval
      |some y=>rw[hd]at hval;simp at hval;subst hval;rfl
     |dV ds =>
      cases ds with
      |nil =>
       rw[hg]at hrel hbv;have hrel':bF g (.dV []) (a.tmps.getD d Go.undef):=hrel;have hval:a.tmps.getD d Go.undef=.tuple #[]:=by
        generalize a.tmps.getD d Go.undef=z at hrel';cases hrel' with | dV _ cs hl =>
         cases cs with | mk cs=>cases cs with
          |nil=>rfl
          |cons c cs=>cases hl
       simp only[D.bit,ae]at hbv;subst hbv;rw[cf]at hval;cases hd:a.tmps[d]? with
       |none=>rfl
       |some y=>rw[hd]at hval;simp at hval;subst hval;rfl
      |cons x xs=>rw[hg]at hbv;simp[D.bit]at hbv
     |_=>rw[hg]at hbv;simp[D.bit]at hbv
    split at h
    ·rename_i hb;simp only[ah,Prod.exists]at h;obtain⟨e1,σ1,h1,h2⟩:=h;obtain⟨g1,w1,B1,a1,k1,k2,k3,k4⟩:=TW (k:=k) (cs:=cs) (rest:=is++tl) hO ha ho (by simp[Region.wanted,hg1,hy,hb]) hop h1;exact hgo k1 k2 k3 k4 h2
    ·rename_i hb;have hstep:=stepR_op_skip (P:=P) (b:=b) (a:=a) (k:=k) (cs:=cs) (w:=w) (ops:=ops) (i:=i) (rest:=is++tl) (by simp[ho,Region.wanted,hg1,hy,hb]);rw[show(ops[i]?).bind (·.dst)=o.dst from by rw[ho];rfl]at hstep;obtain⟨g1,w1,B1,a1,k1,k2,k3,k4⟩:=Ak (d:=.dV []) ha ho hn hV (.one hstep) (Ev.refl g w) ha.inv (.refl σ) (cK.of (.dV [] #[] .nil));rw[hdst]at h;exact hgo k1 k2 k3 k4 h
theorem N2(hO:zi P CR O)(is:List Nat)(xs:List Op)(e:Env)(σ:SK)(g:G)(w:World)(B:Nat→Nat)(a:Act)(hF:wL (G1 P ann n cr ops) is xs)
  (h:mT O xs e σ=some (e',σ')) (ha:At CR base ann.ed g0 w0 n b g w B e σ a):
  ∃g' w' B' a',Steps P (lone (b.atR a (.inRegion ops is::k)) cs w) (lone (b.atR a' (.inRegion ops []::k)) cs w')∧At CR base ann.ed g0 w0 n b g' w' B' e' σ' a'∧g.le g'∧gT σ σ':=by
 have:=B6 (k:=k) (cs:=cs) (tl:=[]) hO is xs e σ g w B a hF h ha;simpa using this
theorem RU{O:bM}{fv:D}{args:List D}{r:R}(h:AE O fv args σ=some r):∃f first cap,fv=.fn f first cap∧O (.call false f (first++args++cap) σ)=some r:=by
 unfold AE at h;split at h
 ·exact⟨_,_,_,rfl,h⟩
 ·cases h
theorem amI{AI:Bool}{o:Oper}{op:Op}(h:SB P ann n cr ops AI i o=some op):kC P ann ops (cr*1000+i) o=some op.k∧(op.k.makes=false→∀t,o.dst=some t→t ∉ ann.ed):=by
 unfold SB at h;split at h
 case h_2=>cases h
 rename_i kk hk;split at h
 case h_2=>cases h
 simp only[aC,af]at h;obtain⟨⟨hown,hst⟩,h⟩:=h;cases h;refine⟨hk,fun hm t ht=>?_⟩;dsimp only at hm;rw[ht]at hown;simp[hm]at hown;simpa using hown
theorem Oh{o:Oper}{v:Value}{w':World}{is:List Nat}(ho:ops[i]?=some o)(hw:Region.wanted o (yielded ops a.tmps)=true)(hd:∀c,o.op ≠ .defer c)
  (hr:(execOp a.eval o).run P w=.halt (.panic v) w'):
  step P (lone (b.atR a (.inRegion ops (i::is)::k)) cs w)=.next (lone {b.atR a (.inRegion ops (i::is)::k)with mode:=.panicking [{v,recovered:=false }] } cs w'):=by
 have hg:=stepGR_op (P:=P) (b:=b) (k:=k) (cs:=cs) (w:=w) (rest:=is) ho hw;rw[Oper.semAt_eq _ _ _ hd]at hg;exact step_lone_go (by rw[hg,← Frame.raise_atR];simp[stepG.apply,hr])
end
def kn(ts:List Nat)(e e':Env):Prop:=∀t∈ts,get e' t=get e t
theorem kn.mono{ts us:List Nat}{e e':Env}(h:kn us e e')(hs:∀t∈ts,t∈us):kn ts e e':=fun t ht=>h t (hs t ht)
theorem kn.app{ts us:List Nat}{e e':Env}:kn (ts++us) e e'↔kn ts e e'∧kn us e e' :=
 ⟨fun h=>⟨fun t ht=>h t (by simp[ht]),fun t ht=>h t (by simp[ht])⟩,fun h t ht=>(ba.1 ht).elim (h.1 t) (h.2 t)⟩
theorem kn.cons{t:Nat}{us:List Nat}{e e':Env}:kn (t::us) e e'↔get e' t=get e t∧kn us e e' :=
 ⟨fun h=>⟨h t (by simp),fun u hu=>h u (by simp[hu])⟩,fun h u hu=>(bd.1 hu).elim (fun x=>x ▸ h.1) (h.2 u)⟩
variable {e e':Env} {σ σ':SK}
theorem aU{x:bG}(h:kn x.tmps e e'):bg e' x=bg e x:=by
 cases x with
 |t n=>simp only[bg];rw[h n (by simp[bG.tmps])]
 |c d=>rfl
theorem vo{xs:List bG}(h:kn (xs.flatMap bG.tmps) e e'):xs.map (bg e')=xs.map (bg e):=by
 induction xs with
 |nil=>rfl
 |cons x xs ih =>
  simp only[aS,kn.app]at h;simp only[aL,aU h.1,ih h.2]
theorem ym:∀{ps:List (Nat×Nat×bG)} {cs:List D},kn (ps.flatMap fun p=>p.2.2.tmps) e e'→sy e' ps cs=sy e ps cs
 |[],cs,h=>rfl
 |(off,sz,x)::ps,cs,h=>by
  simp only[aS,kn.app]at h;simp only[sy,aU h.1];split
  ·split
   ·exact ym h.2
   ·rfl
  ·rfl
theorem E1{m:Nat}{dfl:Option Nat}{x:Option bG}(h:kn ((x.map bG.tmps).getD []) e e'):BV e' m dfl x=BV e m dfl x:=by
 cases x with
 |none=>rfl
 |some x=>simp only[BV];rw[aU (by simpa using h)]
theorem DZ{n:Nat}{lo hi mx:Option bG}(h1:kn ((lo.map bG.tmps).getD []) e e')(h2:kn ((hi.map bG.tmps).getD []) e e')(h3:kn ((mx.map bG.tmps).getD []) e e'):
  bounds n e' lo hi mx=bounds n e lo hi mx:=by
 simp only[bounds,E1 h1,E1 h2,E1 h3]
theorem By{v a:Nat}(h1:get e' v=get e v)(h2:get e' a=get e a):sA e' v a=sA e v a:=by
 simp only[sA,h1,h2]
theorem SJ{k:K}(h:kn k.tmps e e'):bH e' σ k=bH e σ k:=by
 cases k<;>simp only[K.tmps,kn.app,kn.cons]at h
 case mv x=>simp only[bH,aU h]
 case qh=>rfl
 case pick c a b=>simp only[bH,aU h.1.1,aU h.1.2,aU h.2]
 case Hg=>rfl
 case mki=>simp only[bH,aU h]
 case tas=>simp only[bH,aU h]
 case isi=>simp only[bH,aU h]
 case MZ=>rfl
 case M0=>rfl
 case fm=>rfl
 case Ir x=>simp only[bH,aU h]
 case Is x=>simp only[bH,aU h]
 case bxn nb x=>simp only[bH,aU h]
 case E2=>rfl
 case l9=>simp only[bH,ym h]
 case uU=>simp only[bH,ym h]
 case MX=>simp only[bH,ym h]
 case ld=>simp only[bH,aU h]
 case SZ=>simp only[bH,aU h]
 case SY=>simp only[bH,aU h]
 case SX=>simp only[bH,aU h]
 case mW=>simp only[bH,aU h]
 case st=>simp only[bH,aU h.1,aU h.2]
 case MJ os sz a x =>
  have hall:∀l i,(os.all fun t=>D.off l i (get e' t))=os.all fun t=>D.off l i (get e t):=by
   intro l i;have h2:=h.2;clear h;induction os with
   |nil=>rfl
   |cons o os ih=>simp only[jV,h2 o (by simp),ih (h2.mono fun t ht=>by simp[ht])]
  simp only[bH,aU h.1.1,aU h.1.2,hall]
 case S0=>simp only[bH,By h.1 h.2.1]
 case Gt=>rfl
 case bin=>simp only[bH,aU h.1,aU h.2]
 case eqv=>simp only[bH,aU h.1,aU h.2]
 case un=>simp only[bH,aU h]
 case J6=>simp only[bH,aU h]
 case xW=>simp only[bH,vo h.1,vo h.2]
 case mks=>simp only[bH,aU h.1,aU h.2]
 case IF=>simp only[bH,aU h.1.1.1,DZ h.1.1.2 h.1.2 h.2]
 case Od=>simp only[bH,aU h.1.1,DZ (mx:=none) h.1.2 h.2 (fun t ht=>by simp at ht)]
 case Iu off x =>
  cases x with
  |t n=>simp only[bH,h n (by simp[bG.tmps])]
  |c d=>rfl
 case fld=>simp only[bH,aU h]
 case Bw len w x i =>
  cases x with
  |t n =>
   have h1:=h.1 n (by simp[bG.tmps]);simp only[bH,aU h.2];cases Ef (bg e i)<;>simp only[h1]
  |c d=>simp only[bH]
 case fM=>simp only[bH,aU h.1,aU h.2]
 case Kf=>simp only[bH,aU h.1,aU h.2]
 case Iy=>simp only[bH,aU h]
 case NT=>rfl
 case mn=>simp only[bH,aU h.1,aU h.2]
 case mx=>simp only[bH,aU h.1,aU h.2]
 case app=>simp only[bH,aU h.1,aU h.2]
 case RN os w b s x =>
  have hall:∀l i,(os.all fun t=>D.off l i (get e' t))=os.all fun t=>D.off l i (get e t):=by
   intro l i;have h2:=h.2;clear h;induction os with
   |nil=>rfl
   |cons o os ih=>simp only[jV,h2 o (by simp),ih (h2.mono fun t ht=>by simp[ht])]
  simp only[bH,JZ,aU h.1.1,aU h.1.2,hall]
 case apz=>simp only[bH,JZ,aU h.1,aU h.2]
 case T4=>simp only[bH,aU h]
 case cvz=>simp only[bH,aU h]
 case bse=>rfl
 case ape w b v x=>simp only[bH,h.1,aU h.2]
 case ext=>simp only[bH,aU h]
 case zf=>simp only[bH,vo h]
 case mp=>simp only[bH,vo h]
 case me=>simp only[bH,vo h]
 case call=>rfl
noncomputable def uM(O:bM)(op:Op)(e:Env)(σ:SK):Option (Env×SK) :=
 match op.Dm with
 |none=>wg O op e σ
 |some (g,want) =>
  match(get e g).bit with
  |some y=>if y=some want then wg O op e σ else some (put op.dst (.dV []) e,σ)
  |none=>none
theorem kq{O:bM}{op:Op}{r:List Op}:mT O (op::r) e σ=(uM O op e σ).bind fun x=>mT O r x.1 x.2:=by
 simp only[mT,uM];cases op.Dm with
 |none=>rfl
 |some x =>
  obtain⟨g,want⟩:=x;dsimp only;cases(get e g).bit<;>try rfl
  dsimp only;split<;>rfl
theorem Kr{dst:Option Nat}{d:D}:put dst d e=(dst.toList.map fun t=>(t,d))++e:=by
 cases dst<;>rfl
theorem IY{O:bM}{op:Op}{e1:Env}{σ1:SK}(h:wg O op e σ=some (e1,σ1)):
  ∃l:List (Nat×D),(∀p∈l,p.1∈op.defs)∧∀e',kn (op.EE++op.defs) e e'→wg O op e' σ=some (l++e',σ1):=by
 obtain⟨dst,Dm,AI,k⟩:=op;have hk:∀e',kn (Op.EE ⟨dst,Dm,AI,k⟩++Op.defs ⟨dst,Dm,AI,k⟩) e e'→kn k.tmps e e':=fun e' ha=>ha.mono fun t ht=>by simp[Op.EE,ht]
 have hdst:∀d:D,∀p∈dst.toList.map (fun t=>(t,d)),p.1∈Op.defs ⟨dst,Dm,AI,k⟩:=by
  intro d p hp;simp only[bR]at hp;obtain⟨t,ht,rfl⟩:=hp;simp only[Op.defs,ba];exact .inl ht
 have hplain:(∀e0,wg O ⟨dst,Dm,AI,k⟩ e0 σ=(bH e0 σ k).map fun x=>(put dst x.1 e0,x.2)) →
   ∃l:List (Nat×D),(∀p∈l,p.1∈Op.defs ⟨dst,Dm,AI,k⟩)∧∀e',kn (Op.EE ⟨dst,Dm,AI,k⟩++Op.defs ⟨dst,Dm,AI,k⟩) e e'→wg O ⟨dst,Dm,AI,k⟩ e' σ=some (l++e',σ1):=by
  intro hall;rw[hall]at h;simp only[ad,Prod.exists,ak]at h;obtain⟨d,σ2,hs,rfl,rfl⟩:=h;refine⟨dst.toList.map fun t=>(t,d),hdst d,fun e' ha=>?_⟩;rw[hall,SJ (hk e' ha),hs];simp only[aR,Kr]
 cases k
 case call kp f args =>
  simp only[wg]at h ⊢;split at h
  case h_2=>cases h
  rename_i d σ2 hc;split at h
  case isFalse=>cases h
  rename_i hn;cases h;refine⟨dst.toList.map fun t=>(t,d),hdst d,fun e' ha=>?_⟩;have h1:=hk e' ha;simp only[K.tmps,kn.app]at h1;rw[aU h1.1,vo h1.2,hc];simp only[if_pos hn,Kr]
 case fm nb cs =>
  simp only[wg]at h ⊢;split at h
  case h_2=>cases h
  rename_i v cs' σ2 hnb;cases h;refine⟨[(v,.own (uP e v) cs')],by simp[Op.defs],fun e' ha=>?_⟩;rw[show uP e' v=uP e v from by simp only[uP];rw[ha v (by simp[Op.defs])]];rfl
 case E2 x =>
  simp only[wg]at h ⊢;split at h
  case h_2=>cases h
  rename_i v cs' hc;cases h;refine⟨[(v,.own (uP e v) cs')],by simp[Op.defs],fun e' ha=>?_⟩;have h1:=hk e' ha;simp only[K.tmps]at h1;rw[aU h1,hc];simp only[show uP e' v=uP e v from by simp only[uP];rw[ha v (by simp[Op.defs])]];rfl
 case Gt v nb sz a x =>
  simp only[wg]at h ⊢;split at h
  case h_2=>cases h
  rename_i s cs off p hin hp;split at h
  case isFalse=>cases h
  rename_i hc;split at h
  case h_2=>cases h
  rename_i p' σ2 hnb;cases h;refine⟨[(v,.own s (cs.take off++p'++cs.drop (off+sz)))],by simp[Op.defs],fun e' ha=>?_⟩;have h1:=hk e' ha;simp only[K.tmps,kn.app,kn.cons]at h1;rw[By h1.1.1 h1.1.2.1,aU h1.2,hin,hp];simp only[if_pos hc,hnb];rfl
 all_goals exact hplain fun e0=>rfl
theorem Dx{O:bM}{op:Op}{e1:Env}{σ1:SK}(h:uM O op e σ=some (e1,σ1)):
  ∃l:List (Nat×D),(∀p∈l,p.1∈op.defs)∧∀e',kn (op.EE++op.defs) e e'→uM O op e' σ=some (l++e',σ1):=by
 unfold uM at h ⊢;cases hg:op.Dm with
 |none=>rw[hg]at h;simp only at h ⊢;exact IY h
 |some x =>
  obtain⟨t,want⟩:=x;rw[hg]at h;simp only at h ⊢;split at h
  case h_2=>cases h
  rename_i b hb;have hgt:∀e',kn (op.EE++op.defs) e e'→(get e' t).bit=some b:=fun e' ha=>by rw[ha t (by simp[Op.EE,hg]),hb]
  split at h
  ·rename_i hw;obtain⟨l,h1,h2⟩:=IY h;refine⟨l,h1,fun e' ha=>?_⟩;rw[hgt e' ha];simp only[if_pos hw];exact h2 e' ha
  ·rename_i hw;cases h;refine⟨op.dst.toList.map fun t=>(t,.dV []),fun p hp=>?_,fun e' ha=>?_⟩
   ·simp only[bR]at hp;obtain⟨t,ht,rfl⟩:=hp;simp only[Op.defs,ba];exact .inl ht
   ·rw[hgt e' ha];simp only[if_neg hw,Kr]
theorem Jr{cs cs':List D}(h:lq [] cs σ=some (cs',σ')):σ'=σ:=by
 simp only[lq,ae,ak]at h;exact h.2.symm
theorem JA{d:D}{k:K}(h:bH e σ k=some (d,σ'))(hk:k.calm=true):σ'=σ:=MF h hk
theorem IZ{O:bM}{op:Op}{e1:Env}{σ1:SK}(h:wg O op e σ=some (e1,σ1))(hs:op.still=true):σ1=σ:=by
 obtain⟨dst,Dm,AI,k⟩:=op;simp only[Op.still,af]at hs;obtain⟨hk,hn⟩:=hs;have hplain:(wg O ⟨dst,Dm,AI,k⟩ e σ=(bH e σ k).map fun x=>(put dst x.1 e,x.2))→σ1=σ:=by
  intro hall;rw[hall]at h;simp only[ad,Prod.exists,ak]at h;obtain⟨d,σ2,hs,rfl,rfl⟩:=h;exact JA hs hk
 cases k
 case call kp f args =>
  simp only[wg]at h;split at h
  case h_2=>cases h
  split at h
  case isFalse=>cases h
  rename_i hx;cases h;exact hx hn
 case fm nb cs =>
  simp only[wg]at h;split at h
  case h_2=>cases h
  rename_i v cs' σ2 hnb;cases h;simp only[K.calm,List.isEmpty_iff]at hk;subst hk;exact Jr hnb
 case E2 x =>
  simp only[wg]at h;split at h
  case h_2=>cases h
  cases h;rfl
 case Gt v nb sz a x =>
  simp only[wg]at h;split at h
  case h_2=>cases h
  split at h
  case isFalse=>cases h
  split at h
  case h_2=>cases h
  rename_i hnb;cases h;simp only[K.calm,List.isEmpty_iff]at hk;subst hk;exact Jr hnb
 all_goals exact hplain rfl
theorem Dy{O:bM}{op:Op}{e1:Env}{σ1:SK}(h:uM O op e σ=some (e1,σ1))(hs:op.still=true):σ1=σ:=by
 unfold uM at h;split at h
 ·exact IZ h hs
 ·split at h
  case h_2=>cases h
  split at h
  ·exact IZ h hs
  ·cases h;rfl
def FJ(e e':Env):Prop:=∀t,get e' t=get e t
theorem FJ.refl(e:Env):FJ e e:=fun _=>rfl
theorem FJ.trans{a b c:Env}(h:FJ a b)(h':FJ b c):FJ a c:=fun t=>(h' t).trans (h t)
theorem FJ.agree(h:FJ e e')(ts:List Nat):kn ts e e':=fun t _=>h t
theorem GH{l:List (Nat×D)}{t:Nat}:get (l++e) t=if t∈l.map (·.1)then get l t else get e t:=by
 induction l with
 |nil=>simp
 |cons p l ih =>
  obtain⟨k,v⟩:=p;simp only[fP,get];by_cases hk:k=t
  ·simp[hk]
  ·rw[if_neg hk,ih];simp only[aL,bd];by_cases ht:t∈l.map (·.1)
   ·rw[if_pos ht,if_pos (.inr ht)];rw[if_neg hk]
   ·rw[if_neg ht,if_neg (by intro h;rcases h with h | h;exact hk h.symm;exact ht h)]
theorem FJ.app(h:FJ e e')(l:List (Nat×D)):FJ (l++e) (l++e'):=fun t=>by
 simp only[GH,h t]
theorem Hj{O:bM}:∀{xs:List Op} {e e' e1:Env} {σ σ1:SK},mT O xs e σ=some (e1,σ1)→FJ e e'→∃e1',mT O xs e' σ=some (e1',σ1)∧FJ e1 e1'
 |[],e,e',e1,σ,σ1,h,he=>by
  simp only[mT,ae,ak]at h;obtain⟨rfl,rfl⟩:=h;exact⟨e',rfl,he⟩
 |x::xs,e,e',e1,σ,σ1,h,he=>by
  rw[kq]at h;simp only[ah,Prod.exists]at h;obtain⟨e2,σ2,h1,h2⟩:=h;obtain⟨l,_,hl⟩:=Dx h1;have h3:=hl e (FJ.agree (.refl e) _);rw[h1]at h3;cases h3;obtain⟨e3,h4,h5⟩:=Hj h2 (he.app l);exact⟨e3,by rw[kq,hl e' (he.agree _)];exact h4,h5⟩
theorem afp{d:D}{k:K}(h:bH e σ k=some (d,σ'))(hk:k.pure=true)(τ:SK):bH e τ k=some (d,τ):=by
 cases k<;>simp only[K.pure,K.calm,av]at hk<;>simp only[bH,aP,reduceCtorEq]at h ⊢ <;> (repeat' split at h)<;>
  simp only[ad,ah,ae,ak,Prod.exists,reduceCtorEq,exists_eq_left,and_false,exists_false]at h<;>(try split at h)<;>
  simp_all<;>(try (obtain⟨_,_,h⟩:=h;simp_all))<;>(try grind)
theorem Li{O:bM}{op:Op}{e1:Env}{σ1:SK}(h:wg O op e σ=some (e1,σ1))(hs:op.k.pure=true)(τ:SK):wg O op e τ=some (e1,τ):=by
 obtain⟨dst,Dm,AI,k⟩:=op;have hplain:(∀τ,wg O ⟨dst,Dm,AI,k⟩ e τ=(bH e τ k).map fun x=>(put dst x.1 e,x.2))→wg O ⟨dst,Dm,AI,k⟩ e τ=some (e1,τ):=by
  intro hall;rw[hall]at h ⊢;simp only[ad,Prod.exists,ak]at h;obtain⟨d,σ2,hs',rfl,rfl⟩:=h;rw[afp hs' hs τ];rfl
 cases k
 case call kp f args=>simp[K.pure]at hs
 case fm nb cs =>
  simp only[K.pure,K.calm,List.isEmpty_iff]at hs;subst hs;simp only[wg]at h ⊢;cases dst with
  |none=>cases h
  |some v=>simp only[lq,ae,ak]at h ⊢;exact⟨h.1,trivial⟩
 case E2 x =>
  simp only[wg]at h ⊢;cases dst with
  |none=>cases h
  |some v =>
   cases hx:(bg e x).cells with
   |none=>rw[hx]at h;cases h
   |some cs=>rw[hx]at h;simp only[ae,ak]at h ⊢;exact⟨h.1,trivial⟩
 case Gt v nb sz a x =>
  simp only[K.pure,K.calm,List.isEmpty_iff]at hs;subst hs;simp only[wg]at h ⊢;cases hin:sA e v a<;>rw[hin]at h<;>try (cases h;done)
  cases hx:(bg e x).cells<;>rw[hx]at h<;>try (cases h;done)
  simp only[lq]at h ⊢;split at h
  ·rename_i hc;rw[if_pos hc];simp only[ae,ak]at h ⊢;exact⟨h.1,trivial⟩
  ·cases h
 all_goals exact hplain fun τ=>rfl
theorem Cc{O:bM}{op:Op}{e1:Env}{σ1:SK}(h:uM O op e σ=some (e1,σ1))(hs:op.k.pure=true):∀τ,uM O op e τ=some (e1,τ):=by
 intro τ;unfold uM at h ⊢;cases hg:op.Dm with
 |none=>rw[hg]at h;exact Li h hs τ
 |some y =>
  obtain⟨g,want⟩:=y;rw[hg]at h;dsimp only at h ⊢;cases hb:(get e g).bit with
  |none=>rw[hb]at h;cases h
  |some b =>
   rw[hb]at h;dsimp only at h ⊢;split at h
   ·rename_i hw;rw[if_pos hw];exact Li h hs τ
   ·rename_i hw;rw[if_neg hw];cases h;rfl
theorem Av{a:List aE}{σ:SK}{l:Nat}{s:List aE}(h:σ.length=l):iX (a::σ) l s=s::σ:=by simp only[iX];rw[if_pos h]
theorem o5{a:List aE}{σ:SK}{l:Nat}{s:List aE}(h:¬σ.length=l):iX (a::σ) l s=a::iX σ l s:=by simp only[iX];rw[if_neg h]
theorem ME{σ:SK}{l l':Nat}{s s':List aE}(h:l≠l'):iX (iX σ l s) l' s'=iX (iX σ l' s') l s:=by
 induction σ with
 |nil=>rfl
 |cons a σ ih =>
  by_cases h1:σ.length=l
  ·have h2:¬σ.length=l':=by omega
   rw[Av h1,o5 h2,o5 h2,Av (by rw[gM];exact h1)]
  ·by_cases h2:σ.length=l'
   ·rw[o5 h1,Av h2,Av (by rw[gM];exact h2),o5 h1]
   ·rw[o5 h1,o5 h2,o5 (by rw[gM];exact h2),o5 (by rw[gM];exact h1),ih]
theorem uO{σ:SK}{l l':Nat}{s:List aE}(h:l≠l'):gB (iX σ l s) l'=gB σ l':=by
 induction σ with
 |nil=>rfl
 |cons a σ ih =>
  simp only[iX];by_cases h1:σ.length=l
  ·rw[if_pos h1];simp only[gB];rw[if_neg (by omega),if_neg (by omega)]
  ·rw[if_neg h1];simp only[gB,gM,ih]
theorem KF{σ:SK}{l:Nat}{s s':List aE}:iX (iX σ l s) l s'=iX σ l s':=by
 induction σ with
 |nil=>rfl
 |cons a σ ih =>
  simp only[iX];by_cases h1:σ.length=l
  ·rw[if_pos h1,if_pos h1];simp only[iX];rw[if_pos h1]
  ·rw[if_neg h1,if_neg h1];simp only[iX,gM];rw[if_neg h1,ih]
theorem MC{σ:SK}{l i l' i':Nat}{b b':aE}(h:¬(l'=l∧i'=i)):aV (aV σ l i b) l' i' b'=aV (aV σ l' i' b') l i b:=by
 by_cases hl:l=l'
 ·subst hl;have hi:i≠i':=fun e=>h ⟨rfl,e.symm⟩
  unfold aV;cases hs:gB σ l with
  |none=>simp[hs]
  |some s =>
   simp only[tS (As hs),KF];rw[List.set_comm _ _ hi]
 ·unfold aV;cases hs:gB σ l with
  |none =>
   cases hs':gB σ l' with
   |none=>simp[hs,hs']
   |some s'=>simp only[uO (Ne.symm hl),hs]
  |some s =>
   cases hs':gB σ l' with
   |none=>simp only[uO hl,hs',hs]
   |some s' =>
    simp only[uO hl,uO (Ne.symm hl),hs,hs'];exact ME hl
theorem zZ{σ:SK}{l i l' i' v:Nat}{b:aE}(h:¬(l'=l∧i'=i)):cells? (aV σ l i b) l' i' v=cells? σ l' i' v:=by
 unfold cells?;rw[fa h]
theorem Ks{σ:SK}{l i:Nat}{b:aE}{d:D}(h:D.off l i d=true):Fq (aV σ l i b) d.strip=Fq σ d.strip:=by
 cases d<;>try rfl
 simp only[D.off,au]at h;simp only[D.strip,Fq,zZ h]
theorem Cb{O:bM}{dst:Option Nat}{n ag:Bool}{sz m:Nat}{e1:Env}{σ1:SK}(h:uM O ⟨dst,none,n,.ld ag sz (.t m)⟩ e σ=some (e1,σ1)):
  σ1=σ∧∀τ,Fq τ (get e m).strip=Fq σ (get e m).strip→uM O ⟨dst,none,n,.ld ag sz (.t m)⟩ e τ=some (e1,τ):=by
 have hs:=Dy h;simp only[uM,wg,bH,bg]at h ⊢;refine⟨?_,fun τ hτ=>?_⟩
 ·simp only[ad,Prod.exists,ak]at h;obtain⟨d,σ2,h,_,rfl⟩:=h;exact JA (k:=.ld ag sz (.t m)) (e:=e) (d:=d) (by simpa only[bH,bg]using h) rfl
 ·rw[hτ];cases hr:Fq σ (get e m).strip with
  |none=>rw[hr]at h;cases h
  |some cs =>
   rw[hr]at h;dsimp only at h ⊢;split at h
   ·rename_i hsz;rw[if_pos hsz];cases ag with
    |true=>simp at h ⊢;exact h.1
    |false =>
     simp only[av,if_false]at h ⊢;cases cs with
     |nil=>cases h
     |cons d ds=>simp at h ⊢;exact h.1
   ·cases h
theorem Et{O:bM}{dst:Option Nat}{n:Bool}{os:List Nat}{sz:Nat}{a x:bG}{e1:Env}{σ1:SK}(h:uM O ⟨dst,none,n,.MJ os sz a x⟩ e σ=some (e1,σ1)):
  ∃l i v off b,bg e a=.ref l i v off∧(∀m∈os,D.off l i (get e m)=true)∧σ1=aV σ l i b ∧
   ∀τ,τ.length=σ.length→cells? τ l i v=cells? σ l i v→uM O ⟨dst,none,n,.MJ os sz a x⟩ e τ=some (e1,aV τ l i b):=by
 simp only[uM,wg,bH]at h ⊢;cases ha:bg e a<;>rw[ha]at h<;>try (cases h;done)
 rename_i l i v off;dsimp only at h ⊢;split at h
 case isFalse=>cases h
 rename_i hall;cases hc:cells? σ l i v with
 |none=>rw[hc]at h;cases h
 |some cs =>
 rw[hc]at h;dsimp only at h;cases hp:(bg e x).cells with
 |none=>rw[hp]at h;cases h
 |some p =>
 rw[hp]at h;dsimp only at h;split at h
 case isFalse=>cases h
 rename_i hq;simp only[aR,ae,ak]at h;refine⟨l,i,v,off,.cells v (cs.take off++p++cs.drop (off+sz)),rfl,fun m hm=>lU.1 hall m hm,h.2.symm,fun τ hlen hτ=>?_⟩;simp only[hall,if_true,hτ,hc,hlen,if_pos hq,aR,h.1]
theorem My{O:bM}{dst:Option Nat}{n:Bool}{os:List Nat}{w b:Nat}{a x:bG}{e1:Env}{σ1:SK}(h:uM O ⟨dst,none,n,.RN os w b a x⟩ e σ=some (e1,σ1)):
  ∃l i v cs,(∀m∈os,D.off l i (get e m)=true)∧σ1=aV σ l i (.cells (v+1) cs):=by
 simp only[uM,wg,ad,Prod.exists,ak]at h;obtain⟨d,σ2,h,_,rfl⟩:=h;simp only[bH]at h;split at h
 case h_2=>cases h
 rename_i l i v off n' w' ha;split at h
 case isFalse=>cases h
 rename_i hall;simp only[ah]at h;obtain⟨⟨m,xs⟩,he,h⟩:=h;dsimp only at h;split at h
 case isFalse=>cases h
 rename_i hcl;simp only[JZ,aP,he,Option.bind_some,ha]at h;split at h
 case h_2=>cases h
 split at h
 case isFalse=>cases h
 refine⟨l,i,?_⟩;split at h
 ·cases h;exact⟨_,_,fun m hm=>lU.1 hall m hm,rfl⟩
 ·rw[show deep=15+1 from rfl,Fc hcl]at h;cases h;exact⟨_,_,fun m hm=>lU.1 hall m hm,rfl⟩
theorem ahn{σ:SK}{l i v:Nat}{cs:List D}{d:D}{c:List D}(h:S3 (aV σ l i (.cells (v+1) cs)) d=some c):S3 σ d=some c:=by
 unfold S3 at h ⊢;split at h
 case h_2=>cases h
 rename_i l2 i2 off;simp only[Fq,ad]at h ⊢;obtain⟨a,h1,h2⟩:=h;refine⟨a,?_,h2⟩;by_cases hh:l2=l∧i2=i
 ·obtain⟨rfl,rfl⟩:=hh;unfold cells? at h1;cases hb:ef σ l2 i2 with
  |some b0=>rw[oY hb]at h1;simp at h1
  |none =>
   have hn:ef (aV σ l2 i2 (.cells (v+1) cs)) l2 i2=none:=by
    unfold ef at hb ⊢;unfold aV;cases hs:gB σ l2 with
    |none=>simp only[hs];rfl
    |some s =>
     simp only[hs,Option.bind_some]at hb;simp only[tS (As hs),Option.bind_some];rw[List.getElem?_eq_none_iff]at hb ⊢;simpa using hb
   rw[hn]at h1;cases h1
 ·rwa[zZ hh]at h1
theorem afh{O:bM}{dst:Option Nat}{n ag:Bool}{sz m:Nat}{e1:Env}{σ1:SK}(h:uM O ⟨dst,none,n,.SY ag sz (.t m)⟩ e σ=some (e1,σ1)):
  σ1=σ∧∃c,S3 σ (get e m).strip=some c∧∀τ,S3 τ (get e m).strip=some c→uM O ⟨dst,none,n,.SY ag sz (.t m)⟩ e τ=some (e1,τ):=by
 simp only[uM,wg,bH,bg]at h ⊢;cases hr:S3 σ (get e m).strip with
 |none=>rw[hr]at h;cases h
 |some cs =>
  rw[hr]at h;dsimp only at h ⊢;have hs:σ1=σ:=by
   split at h
   ·cases ag with
    |true=>simp at h;exact h.2.symm
    |false=>cases cs<;>simp at h;exact h.2.symm
   ·cases h
  refine⟨hs,cs,rfl,fun τ hτ=>?_⟩;rw[hτ];dsimp only;split at h
  ·rename_i hsz;rw[if_pos hsz];cases ag with
   |true=>simp at h ⊢;exact h.1
   |false =>
    simp only[av,if_false]at h ⊢;cases cs with
    |nil=>cases h
    |cons d ds=>simp at h ⊢;exact h.1
  ·cases h
theorem Sx{σ σ':SK}{b:aE}{l i:Nat}(h:iC σ b=some (l,i,σ')){d:D}{cs:List D}(hd:Fq σ d=some cs):Fq σ' d=some cs:=by
 cases d<;>try exact hd
 rename_i l' i' v off;simp only[Fq,ad]at hd ⊢;obtain⟨c,h1,h2⟩:=hd;refine⟨c,?_,h2⟩;unfold cells? at h1 ⊢;have hb:∃b0,ef σ l' i'=some b0:=by
  cases hb:ef σ l' i' with
  |none=>rw[hb]at h1;cases h1
  |some b0=>exact⟨b0,rfl⟩
 obtain⟨b0,hb⟩:=hb;have hne:¬(l'=l∧i'=i):=fun hh=>by
  have:=(kl h).1;rw[hh.1,hh.2,this]at hb;cases hb
 rw[(kl h).2.2.1 l' i' hne];exact h1
theorem anN{O:bM}{x y:Op}{e2:Env}{σ2:SK}{r:List Op}(hf:x.adr y=true)
  (h:mT O (x::y::r) e σ=some (e2,σ2)):∃e2',mT O (y::x::r) e σ=some (e2',σ2)∧FJ e2 e2':=by
 unfold Op.adr at hf;split at hf
 case h_2=>cases hf
 rename_i n v sz a X d n' off m;simp only[au]at hf;obtain⟨rfl,hdv,hda,hdX⟩:=hf;rw[kq]at h;simp only[ah,Prod.exists]at h;obtain⟨ex,σx,h1,h2⟩:=h;rw[kq]at h2;simp only[ah,Prod.exists]at h2;obtain⟨ey,σy,h2,h3⟩:=h2;simp only[uM,wg]at h1;cases hin:sA e m a with
 |none=>rw[hin]at h1;cases h1
 |some z =>
 obtain⟨s,cs,o⟩:=z;rw[hin]at h1;cases hX:(bg e X).cells with
 |none=>rw[hX]at h1;cases h1
 |some p =>
 rw[hX]at h1;dsimp only at h1;split at h1
 case isFalse=>cases h1
 rename_i hq;simp only[lq,ae,ak]at h1;obtain⟨rfl,rfl⟩:=h1;have hgv:∃cs',get e m=.own s cs':=by
  unfold sA at hin;cases hg:get e m<;>rw[hg]at hin<;>try (cases hin;done)
  rename_i s' cs';dsimp only at hin;split at hin
  ·cases hin;exact⟨_,rfl⟩
  ·split at hin
   ·split at hin
    ·cases hin;exact⟨_,rfl⟩
    ·cases hin
   ·cases hin
 obtain⟨cs',hgv⟩:=hgv;simp only[uM,wg,bH,get,if_true,aR,ae,ak]at h2;obtain⟨rfl,rfl⟩:=h2;have hne:get ((d,D.vr m s off)::e) m=get e m:=by simp[get,hdv]
 have hna:get ((d,D.vr m s off)::e) a=get e a:=by simp[get,hda]
 have hin':sA ((d,D.vr m s off)::e) m a=some (s,cs,o):=by rw[By hne hna,hin]
 have hX':bg ((d,D.vr m s off)::e) X=bg e X:=aU fun t ht=>by
  have:d≠t:=fun he=>hdX (he ▸ ht)
  simp[get,this]
 have heq:FJ (put (some d) (D.vr m s off) ((m,.own s (cs.take o++p++cs.drop (o+sz)))::e)) ((m,.own s (cs.take o++p++cs.drop (o+sz)))::(d,D.vr m s off)::e):=by
  intro t;simp only[put,get];by_cases h1:d=t
  ·have:¬m=t:=fun e=>hdv (h1.trans e.symm)
   simp[h1,this]
  ·simp[h1]
 obtain⟨e3,k1,k2⟩:=Hj h3 heq;refine⟨e3,?_,k2⟩;rw[kq];simp only[uM,wg,bH,hgv,aR,Option.bind_some];rw[kq];simp only[uM,wg,put,hin',hX',hX,hq,and_self,if_true,lq,Option.bind_some];exact k1
theorem ahM{O:bM}{x y:Op}{e2:Env}{σ2:SK}{r:List Op}(hf:x.free y=true)
  (h:mT O (x::y::r) e σ=some (e2,σ2)):∃e2',mT O (y::x::r) e σ=some (e2',σ2)∧FJ e2 e2':=by
 unfold Op.free at hf;rw[ck]at hf;rcases hf with hf | hf
 ·exact anN hf h
 simp only[af,dW]at hf;obtain⟨hc,hf⟩:=hf;simp only[Op.ah5,Bool.or_eq_false_iff,List.any_eq_false,List.contains_iff_mem,ck,not_or]at hc;obtain⟨c1,c2⟩:=hc;rw[kq]at h;simp only[ah,Prod.exists]at h;obtain⟨ex,σx,h1,h2⟩:=h;rw[kq]at h2;simp only[ah,Prod.exists]at h2;obtain⟨ey,σy,h2,h3⟩:=h2;obtain⟨lx,d1,hl1⟩:=Dx h1;obtain⟨ly,d2,hl2⟩:=Dx h2;have k1:=hl1 e (FJ.agree (.refl e) _);rw[h1]at k1;cases k1;have k2:=hl2 _ (FJ.agree (.refl _) _);rw[h2]at k2;cases k2;have ay:kn (y.EE++y.defs) (lx++e) e:=fun t ht=>by
  rw[GH,if_neg];intro hm;obtain⟨p,hp,rfl⟩:=bR.1 hm;have:=c1 _ (d1 p hp);simp only[ba]at ht;rcases ht with ht | ht
  ·exact this.2 (by simpa using ht)
  ·exact this.1 (by simpa using ht)
 have ax:kn (x.EE++x.defs) e (ly++e):=fun t ht=>by
  rw[GH,if_neg];intro hm;obtain⟨p,hp,rfl⟩:=bR.1 hm;have hp':=d2 p hp;simp only[ba]at ht;rcases ht with ht | ht
  ·exact c2 _ ht (by simpa using hp')
  ·exact(c1 _ ht).1 (by simpa using hp')
 have hy0:=hl2 e ay;have hx0:=hl1 (ly++e) ax;obtain⟨σm,hy1,hx1⟩:∃σm,uM O y e σ=some (ly++e,σm)∧uM O x (ly++e) σm=some (lx++(ly++e),σy):=by
  simp only[ck,af]at hf;rcases hf with((⟨hx,hy⟩ | hx) | hy) | hfar
  ·obtain rfl:=Dy h1 hx;obtain rfl:=Dy h2 hy;exact⟨_,hy0,hx0⟩
  ·have e1:=Cc h1 hx σ;rw[h1]at e1;cases e1;exact⟨σy,hy0,Cc hx0 hx σy⟩
  ·have e2:=Cc h2 hy σx;rw[h2]at e2;cases e2;exact⟨σ,Cc hy0 hy σ,hx0⟩
  ·unfold Op.far at hfar;obtain⟨dx,gx,nx,kx⟩:=x;obtain⟨dy,gy,ny,ky⟩:=y;simp only[af,Option.isNone_iff_eq_none]at hfar;obtain⟨⟨rfl,rfl⟩,hfar⟩:=hfar;split at hfar
   ·rename_i os sz a X ag sz' m;have hm:m∈os:=by simpa using hfar
    obtain⟨l,i,v,off,b,_,hoff,rfl,_⟩:=Et h1;obtain⟨rfl,hall⟩:=Cb hy0;exact⟨σ,hall σ (Ks (hoff m hm)).symm,hx0⟩
   ·rename_i ag sz' m os sz a X;have hm:m∈os:=by simpa using hfar
    obtain⟨rfl,_⟩:=Cb h1;obtain⟨l,i,v,off,b,_,hoff,rfl,_⟩:=Et hy0;obtain⟨_,hall⟩:=Cb hx0;refine⟨_,hy0,hall _ ?_⟩;have hg:get (ly++e) m=get e m:=ax m (by simp[Op.EE,K.tmps,bG.tmps]);rw[hg];exact Ks (hoff m hm)
   ·rename_i os sz a X os' sz' m X';have hm:m∈os:=by simpa using hfar
    obtain⟨l,i,v,off,b,_,hoff,rfl,hall⟩:=Et hx0;obtain⟨l',i',v',off',b',hr,hoff',rfl,hall'⟩:=Et hy0;have hg:get (ly++e) m=get e m:=ax m (by simp[Op.EE,K.tmps,hm]);have h4:=hoff m hm;rw[hg]at h4;have h5:get e m=.ref l' i' v' off':=by
     simp only[bg]at hr;cases hgm:get e m<;>rw[hgm]at hr<;>simp only[D.strip,reduceCtorEq]at hr;exact hr
    rw[h5]at h4;simp only[D.off,au]at h4;refine⟨aV σ l' i' b',hall' σ dG.symm (zZ h4).symm,?_⟩;rw[MC h4];exact hall _ dG (zZ fun hh=>h4 ⟨hh.1.symm,hh.2.symm⟩)
   ·rename_i os wd bt a X ag sz' m;have hm:m∈os:=by simpa using hfar
    obtain⟨l,i,b,bc,hoff,rfl⟩:=My h1;obtain⟨rfl,hall⟩:=Cb hy0;exact⟨σ,hall σ (Ks (hoff m hm)).symm,hx0⟩
   ·rename_i ag sz' m cs;obtain⟨rfl,_⟩:=Cb h1;obtain⟨_,hall⟩:=Cb hx0;refine⟨_,hy0,hall _ ?_⟩;have hg:get (ly++e) m=get e m:=ax m (by simp[Op.EE,K.tmps,bG.tmps]);rw[hg];have hrd:∃c,Fq σx (get e m).strip=some c:=by
     simp only[uM,wg,bH,bg]at h1;cases hr:Fq σx (get e m).strip with
     |none=>rw[hr]at h1;simp at h1
     |some c=>exact⟨c,rfl⟩
    obtain⟨c,hrd⟩:=hrd;have hn:∃l i,iC σx (.cells 0 cs)=some (l,i,σy):=by
     simp only[uM,wg,bH,lq,aP,Option.bind_some,ad,ah,Prod.exists,ak]at hy0;obtain⟨d0,σ0,⟨l,i,σ3,h1,h2⟩,_,h3⟩:=hy0;cases h2;cases h3;exact⟨l,i,h1⟩
    obtain⟨l,i,hn⟩:=hn;rw[hrd,Sx hn hrd]
   ·rename_i os wd bt a X ag sz' m;obtain⟨l,i,b,bc,hoff,rfl⟩:=My h1;obtain⟨rfl,c,hc,hall⟩:=afh hy0;exact⟨σ,hall σ (ahn hc),hx0⟩
   ·cases hfar
 have heq:FJ (ly++(lx++e)) (lx++(ly++e)):=fun t=>by
  simp only[GH];by_cases m1:t∈lx.map (·.1)
  ·by_cases m2:t∈ly.map (·.1)
   ·obtain⟨p,hp,rfl⟩:=bR.1 m1;obtain⟨q,hq,he⟩:=bR.1 m2;have:=(c1 _ (d1 p hp)).1;have hq':=d2 q hq;rw[he]at hq';exact absurd hq' (by simpa using this)
   ·rw[if_pos m1,if_neg m2,if_pos m1]
  ·by_cases m2:t∈ly.map (·.1)
   ·rw[if_neg m1,if_pos m2,if_pos m2]
   ·rw[if_neg m1,if_neg m2,if_neg m2,if_neg m1]
 obtain⟨e3,k3,k4⟩:=Hj h3 heq;refine⟨e3,?_,k4⟩;rw[kq,hy1];simp only[Option.bind_some];rw[kq,hx1];exact k3
theorem LO{O:bM}{y:Op}{r:List Op}:∀{pre:List Op} {e e2:Env} {σ σ2:SK},(∀x∈pre,x.free y=true) →
  mT O (pre++y::r) e σ=some (e2,σ2)→∃e2',mT O (y::(pre++r)) e σ=some (e2',σ2)∧FJ e2 e2'
 |[],e,e2,σ,σ2,hp,h=>⟨e2,h,.refl _⟩
 |x::pre,e,e2,σ,σ2,hp,h=>by
  simp only[fP]at h;rw[kq]at h;simp only[ah,Prod.exists]at h;obtain⟨e1,σ1,h1,h2⟩:=h;obtain⟨e3,h3,h4⟩:=LO (fun z hz=>hp z (by simp[hz])) h2;have h5:mT O (x::y::(pre++r)) e σ=some (e3,σ2):=by rw[kq,h1];exact h3
  obtain⟨e4,h6,h7⟩:=ahM (hp x (by simp)) h5;exact⟨e4,h6,h4.trans h7⟩
theorem Kw{live:List Nat}(h:FJ e e'):restrict live e'=restrict live e:=by
 simp only[restrict];exact List.map_congr_left fun t _=>by rw[h t]
end Go.Abs
