import Derived.Test.YtfgljaglidhjiaaGreatDoorBase9
import Derived.Recover
set_option linter.all false
namespace Go.Abs
open Go
def vF(P:Program)(CR:fS)(f:Nat)(args:List D)(σ:SK)(d:D)(σ':SK):Prop :=
 (∃F c,P.funcs[f]?=some F∧F.name ≠ "runtime.NumGoroutine" ∧ F.body=some c) ∧
 ∀base g w vs,Inv CR base g σ w→rQ σ→0<σ.length→bC g args vs.toList →
  gH σ σ'∧Calls P f vs w (fun e w'=>∃v g',e=.returned v∧Ev g w g' w'∧Inv CR base g' σ' w'∧bI g' d v)
def afu(P:Program)(CR:fS)(f:Nat)(args:List D)(σ:SK)(d:D)(σ':SK):Prop :=
 d.clean=true∧(∃F c,P.funcs[f]?=some F∧F.name ≠ "runtime.NumGoroutine" ∧ F.body=some c) ∧
 ∀base g w vs,Inv CR base g σ w→rQ σ→0<σ.length→bC g args vs.toList →
  gH σ σ'∧Calls P f vs w (fun e w'=>∃v g',e=.panicked [{v,recovered:=false }]∧Ev g w g' w'∧Inv CR base g' σ' w'∧bI g' d v)
def Nu(g:G):Option D→FrameMode→Prop
 |none,u=>u=.returning
 |some d,u=>∃v,bI g d v∧u=.panicking [{v,recovered:=false }]
def afo(P:Program)(CR:fS)(f:Nat)(args:List D)(th:Option D)(σ σ':SK):Prop :=
 (∃F c,P.funcs[f]?=some F∧F.name ≠ "runtime.NumGoroutine" ∧ F.body=some c) ∧
 ∀base g w vs u,Inv CR base g σ w→rQ σ→0<σ.length→bC g args vs.toList→Nu g th u →
  gH σ σ'∧CallsD P f vs u w (fun e u' w'=>∃v g',e=.returned v∧settle u'=.returning∧Ev g w g' w'∧Inv CR base g' σ' w')
def NI(P:Program)(CR:fS)(l i:Nat)(args:List D)(σ:SK)(d:D)(σ':SK):Prop :=
 (∃lp,ei σ l i=some (.loop lp))∧∀base g w vs b,Inv CR base g σ w→rQ σ→0<σ.length→bC g args vs.toList→bI g (.mq l i) (.func (.yield b) #[] #[]) →
  gH σ σ'∧∃f tmps zu body,(Instr.yield b vs).run P w=.ok (.round b f tmps zu body) w ∧
   ∀c cs,∃v g' w',Steps P (lone (Frame.round b f tmps zu body .normal) (c::cs) w) (lone (c.finish v) cs w')∧Ev g w g' w'∧Inv CR base g' σ' w'∧bI g' d v
def Ag(k:List Item):Exit→List Item→Prop
 |.normal,t=>t=k
 |.exit id,t=>∃k',t=.code (.exit id)::k'∧exitTo id k'=exitTo id k
 |.ret,t=>∃k',t=.code .ret::k'
 |.fQ _,_=>True
def yf(S:Frame→Prop)(g:G)(b:Frame)(a:Act)(todo:List Item):Exit→Prop
 |.fQ d=>d.clean=true∧∃v,bI g d v∧S {b.atR a todo with mode:=.panicking [{v,recovered:=false }] }
 |_=>S (b.atR a todo)
theorem yf.imp{S S':Frame→Prop}{g:G}{b:Frame}{a:Act}{todo:List Item}{x:Exit}(h:yf S g b a todo x)(hs:∀fr,S fr→S' fr):yf S' g b a todo x:=by
 cases x with
 |fQ d=>obtain⟨h0,v,h1,h2⟩:=h;exact⟨h0,v,h1,hs _ h2⟩
 |_=>exact hs _ h
def amx(P:Program)(CR:fS)(c:cH)(e:Env)(σ:SK)(x:Exit)(e':Env)(σ':SK):Prop :=
 x ≠ .normal∧∀(ann:uh) bO code n,bW P ann n bO code=some c→∀base g0 w0 b a k cs g w B,At CR base ann.eA g0 w0 n b g w B e σ a →
  ∃g' w' B' a' todo,yf (fun fr=>Steps P (lone (b.atR a (.code code::.inLoop code::k)) cs w) (lone fr cs w')) g' b a' todo x ∧
   At CR base ann.eA g0 w0 n b g' w' B' e' σ' a'∧g.le g'∧Ag k x todo∧gH σ σ'
def SL(P:Program)(ann:uh)(n bO:Nat)(rest:cH):Option Code→Prop
 |none=>rest=.dQ
 |some q=>bW P ann n bO q=some rest
def afq(P:Program)(CR:fS)(live:List Nat)(it:bL)(nx ok bid:Nat)(c rest:cH)(e:Env)(σ:SK)(x:Exit)(e':Env)(σ':SK):Prop :=
 ∀(ann:uh) bO rid ops p n it0 (qs:Option Code),it=.t it0→MP ann n (.loop (.seq (.region rid ops false) p))=some (it0,nx,ok)→bW P ann n bid p=some c→SL P ann n bO rest qs →
  ∀base g0 w0 b a k cs g w B,At CR base ann.eA g0 w0 n b g w B e σ a →
  ∃g' w' B' a' todo,yf (fun fr=>Steps P (lone (b.atR a (.code (.seq (.region rid ops false) p)::.inLoop (.seq (.region rid ops false) p)::.inBlock bid::(qs.toList.map Item.code++k))) cs w) (lone fr cs w')) g' b a' todo x ∧
   At CR base ann.eA g0 w0 n b g' w' B' e' σ' a'∧g.le g'∧Ag k x todo∧gH σ σ'
def E7(P:Program)(CR:fS):Q→R→Prop
 |.call _ f args σ,.val d σ'=>vF P CR f args σ d σ'
 |.round l i args σ,.val d σ'=>NI P CR l i args σ d σ'
 |.loop _ _ c e σ,.Cv x e' σ'=>amx P CR c e σ x e' σ'
 |.call _ f args σ,.fQ d σ'=>afu P CR f args σ d σ'
 |.iS live it nx ok bid c rest e σ,.Cv x e' σ'=>afq P CR live it nx ok bid c rest e σ x e' σ'
 |.xE f args th σ,.val _ σ'=>afo P CR f args th σ σ'
 |_,_=>True
def yI(P:Program)(CR:fS)(O:bN):Prop:=∀q r,O q=some r→E7 P CR q r
theorem E4{r:Option R}{d:D}{σ:SK}(h:R.bh r=some (d,σ)):r=some (.val d σ):=by
 unfold R.bh at h;split at h
 ·cases h;rfl
 ·cases h
theorem Io{r:Option R}{x:Exit}{e:Env}{σ:SK}(h:R.QM r=some (x,e,σ)):r=some (.Cv x e σ):=by
 unfold R.QM at h;split at h
 ·cases h;rfl
 ·cases h
section
variable {P:Program} {CR:fS} {O:bN} {ann:uh} {n cg:Nat} {ops:Array Oper} {base:Nat} {g0 g:G} {w0 w:World} {b:Frame} {B:Nat→Nat} {e e':Env} {σ σ':SK} {a:Act}
 {k:List Item} {cs:List Frame} {i:Nat} {rest:List Nat}
def Kn(P:Program)(CR:fS)(ann:uh)(n:Nat)(ops:Array Oper)(base:Nat)(g0:G)(w0:World)(b:Frame)(g:G)(w:World)(a:Act)(k:List Item)(cs:List Frame)(i:Nat)(rest:List Nat)(σ:SK)(e':Env)(σ':SK):Prop :=
 ∃g' w' B' a',Steps P (lone (b.atR a (.inRegion ops (i::rest)::k)) cs w) (lone (b.atR a' (.inRegion ops rest::k)) cs w') ∧
  At CR base ann.eA g0 w0 n b g' w' B' e' σ' a'∧g.le g'∧gH σ σ'
theorem At.go{V:List Nat}(ha:At CR base V g0 w0 n b g w B e σ a){g':G}{w':World}{B':Nat→Nat}{tm:Act}(he:Ev g w g' w')(hi:Inv CR base g' σ' w')(hg:gH σ σ')
  (hf:Fr w0.heap.size V g' w' B' e' tm.tmps) (hs:tm.tmps.size=a.tmps.size) (hd:tm.defers=a.defers):At CR base V g0 w0 n b g' w' B' e' σ' tm where
 fr:=hf
 ev:=ha.ev.trans he
 inv:=hi
 low:=hg.low ha.low
 pos:=by rw[hg.len];exact ha.pos
 size:=by rw[hs];exact ha.size
 marks:=let ⟨rs,h⟩:=ha.marks;⟨rs,by rw[hd];exact h.ev he⟩
 round:=zZ ha.round he.le
theorem Bp{dst:Option Nat}{c:Value}:(a.put dst c).tmps.size=a.tmps.size:=by cases dst<;>simp[Act.put]
theorem put_defers{dst:Option Nat}{c:Value}:(a.put dst c).defers=a.defers:=by cases dst<;>simp[Act.put]
theorem Ld{ann:uh}{key:Nat}{o:Oper}{kk:K}(h:kC P ann ops key o=some kk):∀c,o.op ≠ .defer c:=by
 intro c hc;unfold kC at h;rw[hc]at h;cases h
theorem zS(ha:At CR base ann.eA g0 w0 n b g w B e σ a){o:Oper}(ho:ops[i]?=some o)(hn:∀t,o.dst=some t→t<n)(hV:∀t,o.dst=some t→t ∉ ann.eA)
  {g':G} {w':World} {d:D} {c:Value} (hsteps:Steps P (lone (b.atR a (.inRegion ops (i::rest)::k)) cs w) (lone (b.atR (a.put o.dst c) (.inRegion ops rest::k)) cs w'))
  (he:Ev g w g' w') (hi:Inv CR base g' σ' w') (hg:gH σ σ') (hr:cF g' B e d c):
  Kn P CR ann n ops base g0 w0 b g w a k cs i rest σ (put o.dst d e) σ':=by
 refine⟨g',w',B,a.put o.dst c,hsteps,ha.go he hi hg ?_ Bp put_defers,he.le,hg⟩;exact(ha.fr.ev he).put hr hV fun t ht=>by rw[ha.size];exact hn t ht
theorem kq{ρ:Operand→Value}{f:Operand}{args:Array Operand}{ts:Array TypeId}{ty:TypeId}{fn:Go.Fn}{first cap:Array Value}(hf:ρ f=.func fn first cap)(w:World):
  (resolve ρ {callee:=.value f,args,argTypes:=ts } ty).run P w=.ok {target:=.fn fn cap,args:=first++args.map ρ } w:=by
 simp[resolve,Deferred.ofValue,hf]
theorem wv{f:FuncId}{args:Array Value}{F:Func}(h1:P.funcs[f]?=some F)(h2:F.name ≠ "runtime.NumGoroutine"){c:Code}(h3:F.body=some c)(w:World):
  (callFunc f args).run P w=.ok (.enter f args) w:=by
 simp[callFunc,program,Sem.run,h1,h2,h3]
theorem D3{xs:Array Operand}{Xs:List bL}{fb:Nat}{V:List Nat}{tmps:Array Value}{df:List Deferred}(hf:Fr fb V g w B e tmps)(hx:vU xs.toList=some Xs):
  bC g (Xs.map (Abs.bf e)) (xs.map (Act.mk tmps df).eval).toList:=by
 have:=hf.aqM (df:=df) hx;simpa using this
theorem NP(hO:yI P CR O)(ha:At CR base ann.eA g0 w0 n b g w B e σ a){o:Oper}(ho:ops[i]?=some o)(hw:Region.wanted o (yielded ops a.tmps)=true)
  (hn:∀t,o.dst=some t→t<n) (hV:∀t,o.dst=some t→t ∉ ann.eA) {f:Operand} {args:Array Operand} {ts:Array TypeId} (hop:o.op=.call {callee:=.value f,args,argTypes:=ts })
  {F:bL} {Xs:List bL} (hF:bD f=some F) (hX:vU args.toList=some Xs) {kp:Bool} {d:D} (h:o9 O kp (bf e F) (Xs.map (bf e)) σ=some (d,σ')):
  Kn P CR ann n ops base g0 w0 b g w a k cs i rest σ (put o.dst d e) σ':=by
 obtain⟨tmps,df⟩:=a;have hd:∀c,o.op ≠ .defer c:=by intro c hc;rw[hop]at hc;cases hc
 have hfv:=ha.fr.bf (df:=df) hF;have hxs:=D3 (df:=df) ha.fr hX;unfold o9 at h;split at h
 ·rename_i fi first cap hfe
  rw[hfe]at hfv;have hans:=hO _ _ (E4 h);obtain⟨⟨Fn,cd,hfn1,hfn2,hfn3⟩,hcall⟩:=hans;generalize hev:(Act.mk tmps df).eval f=fv at hfv;cases hfv with
  |fn _ _ _ first' cap' r1 r2 =>
   have hrun:(execOp (Act.mk tmps df).eval o).run P w=.ok (.enter fi (first'++args.map (Act.mk tmps df).eval++cap')) w:=by
    simp only[execOp,hop,Sem.run_bind,kq hev,Result.andThen_ok,invoke,wv hfn1 hfn2 hfn3]
   have hargs:bC g (first++Xs.map (bf e)++cap) (first'++args.map (Act.mk tmps df).eval++cap').toList:=by
    simpa using(r1.append hxs).append r2
   obtain⟨hgo,hcalls⟩:=hcall base g w _ ha.inv ha.low ha.pos hargs;obtain⟨en,w',fr,⟨v,g',rfl,he,hi,hr⟩,hcomes,hfr,hleave⟩:=hcalls (b.atR ⟨tmps,df⟩ (.inRegion ops (i::rest)::k)::cs);refine zS ha ho hn hV (Steps.head (Ht ho hw hd hrun) (Steps.trans hcomes (Steps.one ?_))) he hi hgo (cF.of hr);rw[step_leave_returned hleave,BF ho]
 ·rename_i l j hfe;rw[hfe]at hfv;have hans:=hO _ _ (E4 h);generalize hev:(Act.mk tmps df).eval f=fv at hfv;have hfv0:=hfv;cases hfv with
  |PK _ _ bb r1 =>
   obtain⟨⟨lp,hlp⟩,_⟩:=hans;obtain⟨b0,hb0,hrel⟩:=ha.inv.wz _ _ _ r1;rw[hlp]at hb0;cases hb0;exact hrel.elim
  |itv _ _ bb L r1 r2 =>
   obtain⟨⟨lp,hlp⟩,_⟩:=hans;obtain⟨b0,hb0,hrel⟩:=ha.inv.wz _ _ _ r1;rw[hlp]at hb0;cases hb0;rcases r2 with rfl | rfl<;>exact hrel.elim
  |QF _ _ bb L r1 r2 =>
   obtain⟨⟨lp,hlp⟩,_⟩:=hans;obtain⟨b0,hb0,hrel⟩:=ha.inv.wz _ _ _ r1;rw[hlp]at hb0;cases hb0;rcases r2 with⟨c,rfl⟩ | rfl<;>exact hrel.elim
  |mq _ _ bb r1 =>
   obtain⟨hgo,f0,tm0,zu,body,hy,hround⟩:=hans.2 base g w (args.map (Act.mk tmps df).eval) bb ha.inv ha.low ha.pos (by simpa using hxs) hfv0;have hrun:(execOp (Act.mk tmps df).eval o).run P w=.ok (.round bb f0 tm0 zu body) w:=by
    simp only[execOp,hop,Sem.run_bind,kq hev,Result.andThen_ok,invoke];simpa using hy
   obtain⟨v,g',w',hsteps,he,hi,hr⟩:=hround (b.atR ⟨tmps,df⟩ (.inRegion ops (i::rest)::k)) cs;refine zS ha ho hn hV (Steps.head (Na ho hw hd hrun) ?_) he hi hgo (cF.of hr);rw[BF ho]at hsteps;exact hsteps
 ·cases h
end
section
variable {P:Program} {CR:fS} {O:bN} {ann:uh} {n cg:Nat} {ops:Array Oper} {base:Nat} {g0 g:G} {w0 w:World} {b:Frame} {B:Nat→Nat} {e e':Env} {σ σ':SK} {a:Act}
 {k:List Item} {cs:List Frame} {i:Nat} {rest:List Nat}
theorem ad8(ha:At CR base ann.eA g0 w0 n b g w B e σ a){o:Oper}(ho:ops[i]?=some o)(hw:Region.wanted o (yielded ops a.tmps)=true)(hd:∀c,o.op ≠ .defer c)
  {v:Nat} (hdst:o.dst=some v) (hV:v∈ann.eA) (hn:v<n) {g1:G} {ds:List D} {ca:Array Value} {el:TypeId}
  (hrun:(execOp a.eval o).run P w=.ok (.value (.pointer (some ⟨w.heap.size,0,none⟩))) (w.alloc (.cells ca el)))
  (i1:Inv CR base g1 σ' w) (e1:Ev g w g1 w) (hg:gH σ σ') (hr:bC g1 ds ca.toList) (h1:∀x∈ca.toList,x.oneCell'=true):
  Kn P CR ann n ops base g0 w0 b g w a k cs i rest σ ((v,.own (ue e v) ds)::e) σ':=by
 obtain⟨tmps,df⟩:=a;have i2:=i1.alloc (.cells ca el);have e2:=e1.trans (Ev.alloc g1 w (.cells ca el));have hsteps:=xl (P:=P) (b:=b) (a:=⟨tmps,df⟩) (k:=k) (cs:=cs) (rest:=rest) ho hw hd hrun rfl;rw[hdst]at hsteps;have hsz:v<tmps.size:=by have:=ha.size;simp only at this;omega
 refine⟨g1,_,_,_,.one hsteps,ha.go e2 i2 hg ((ha.fr.ev e2).aqQ hV hsz ⟨ha.ev.size,fun hb=>?_,fun o=>?_,ca,el,sX,hr,h1⟩ fun t s cs' ht=>?_) Bp put_defers,e2.le,hg⟩
 ·exact Nat.lt_irrefl _ (i1.adu hb)
 ·cases hh:g1.qq w.heap.size o with
  |none=>rfl
  |some x=>exact absurd (i1.jy hh) (Nat.lt_irrefl _)
 ·have:=(ha.fr.own t s cs' ht).2.2.lt;omega
theorem arK(ha:At CR base ann.eA g0 w0 n b g w B e σ a){o:Oper}(ho:ops[i]?=some o)(hw:Region.wanted o (yielded ops a.tmps)=true)
  (hn:∀t,o.dst=some t→t<n) (hV:∀t,o.dst=some t→t ∉ ann.eA) {t:TypeId} {x v:Nat} {y:Operand} {Y:bL} (hop:o.op=.store t (.tmp x) y) (hy:bD y=some Y) {sz:Nat} (hsz:dq P t=some sz)
  {s off:Nat} {cv p p':List D} {nb:List (Nat×Nat)} (hin:rM e v x=some (s,cv,off)) (hp:(bf e Y).cells=some p) (hlen:p.length=sz∧off+sz≤cv.length)
  (hnb:kP nb p σ=some (p',σ')) (hdst:o.dst=none):
  Kn P CR ann n ops base g0 w0 b g w a k cs i rest σ ((v,.own s (cv.take off++p'++cv.drop (off+sz)))::e) σ':=by
 obtain⟨tmps,df⟩:=a;have hd:∀c,o.op ≠ .defer c:=by intro c hc;rw[hop]at hc;cases hc
 obtain⟨hgv,hpx⟩:=ha.fr.rM hin;obtain⟨hvV,hptr,hob⟩:=ha.fr.own v s cv hgv;obtain⟨ca,el,hheap,hrl,h1c⟩:=hob.bO;obtain⟨hrp,h1p⟩:=(ha.fr.bf (df:=df) hy).cells hp;obtain⟨g1,i1,e1,r1⟩:=xb nb _ _ _ _ g _ hnb ha.inv hrp;obtain⟨_,hp'len,_⟩:=zT nb _ _ _ _ hnb;have hpl:((Act.mk tmps df).eval y).cells.toList.length=sz:=by rw[← r1.length,hp'len];exact hlen.1
 have hpl':((Act.mk tmps df).eval y).cells.size=sz:=by simpa using hpl
 have hcl:ca.size=cv.length:=by have:=hrl.length;simpa using this.symm
 obtain⟨w',c',hrun,hb',hs',hc',hother,hsize,ho1,ho2,ho3⟩:=D6 (P:=P) (t:=t) (w:=w) (b:=B v) (o:=off) (v:=(Act.mk tmps df).eval y) hsz (by simpa using hpl) h1p hheap (by omega);have hob1:=hob.ev e1;have hcv:(Act.mk tmps df).eval (.tmp x)=.pointer (some ⟨B v,off,none⟩):=hpx;have hrunO:(execOp (Act.mk tmps df).eval o).run P w=.ok .skip w':=by
  simp[execOp,hop,Instr.storeAt,hcv,Instr.sureAddr,hrun]
 have hoth:∀b',b'≠B v→w'.heap[b']?=w.heap[b']?:=hother;have i2:Inv CR base g1 σ' w':=i1.F4 (fun b' hb'' hk=>hoth b' fun hh=>by
  subst hh;rcases hk with hk | ⟨o2,v2,hk⟩
  ·exact hob1.free hk
  ·rw[hob1.vA]at hk;cases hk) (by omega)
 have hwrite:bC g1 (cv.take off++p'++cv.drop (off+sz)) c'.toList∧∀z∈c'.toList,z.oneCell'=true:=by
  have hrow:=EY (c:=ca) (c':=c') (bo:=0) (off:=off) (vs:=ca.toList) (ps:=((Act.mk tmps df).eval y).cells.toList) (fun j z hz=>⟨by simpa using hz,h1c z (ai hz)⟩) h1p (by simp;omega)
   (by rw[hpl];simpa using hc')
  rw[hpl]at hrow;have hrel:=(((hrl.mono e1.le).take off).append r1).append ((hrl.mono e1.le).drop (off+sz));have heq:c'.toList=ca.toList.take off++((Act.mk tmps df).eval y).cells.toList++ca.toList.drop (off+sz):=by
   have hll:(ca.toList.take off++((Act.mk tmps df).eval y).cells.toList++ca.toList.drop (off+sz)).length=c'.toList.length:=by
    simp only[bx,hpl,lA,List.length_drop,Array.length_toList,hs'];omega
   apply eS;intro j;by_cases hj:j<c'.toList.length
   ·have hj2:=hj;rw[← hll]at hj2;have:=(hrow j _ (aI hj2)).1;rw[aI hj2];simpa using this
   ·rw[eO (by omega),eO (by omega)]
  rw[heq];refine⟨hrel,fun z hz=>?_⟩;simp only[bu]at hz;rcases hz with(hz | hz) | hz
  ·exact h1c z (dh hz)
  ·exact h1p z hz
  ·exact h1c z (dW hz)
 have hob2:Hz w0.heap.size g1 w' (B v) (cv.take off++p'++cv.drop (off+sz)):=⟨hob1.lo,hob1.free,hob1.vA,c',el,hb',hwrite.1,hwrite.2⟩;have hsteps:=xl (P:=P) (b:=b) (a:=⟨tmps,df⟩) (k:=k) (cs:=cs) (rest:=rest) ho hw hd hrunO rfl;rw[hdst]at hsteps;have hgo:=sU _ _ _ _ _ hnb;refine⟨g1,w',B,⟨tmps,df⟩,.one hsteps,⟨?_,?_,i2,hgo.low ha.low,by rw[hgo.len];exact ha.pos,ha.size,?_,zZ ha.round e1.le⟩,e1.le,hgo⟩
 ·exact(ha.fr.ev e1).M3 hgv hob2 fun b' _ hne=>hoth b' hne
 ·have h0:=ha.ev.trans e1;refine⟨h0.le,ho1.trans h0.os,ho2.trans h0.tape,ho3.trans h0.output,by have:=h0.size;omega,fun b' hb'' hnb'=>?_,h0.img,h0.Ju⟩;rw[hoth b' (by have:=hob.lo;omega)];exact h0.kept b' hb'' hnb'
 ·obtain⟨rs,hm⟩:=ha.marks;have hm1:=hm.ev e1;refine⟨rs,hm1.eq,hm1.nodup,fun r hr=>?_⟩;have hmr:=hm1.all r hr;refine⟨hmr.lo,hmr.free,hmr.vA,?_⟩;rw[hoth r,hmr.bO];intro hh;subst hh;have:=hmr.bO;rw[hheap]at this;cases this
def KEq(P:Program)(ann:uh)(o:Oper)(kk:K):Prop :=
  match kk with
  |.call _ F Xs=>∃f args ts,o.op=.call {callee:=.value f,args,argTypes:=ts }∧bD f=some F∧vU args.toList=some Xs
  |.dY _ z=>∃el v,o.op=.alloc el∧rP P el=some z∧o.dst=some v∧v∈ann.eA
  |.Ey X=>∃t x v,o.op=.box t x∧bD x=some X∧o.dst=some v∧v∈ann.eA
  |.FV _ _ sz x Y=>∃t y,o.op=.store t (.tmp x) y∧bD y=some Y∧dq P t=some sz
  |.LW X=>∃y,o.op=.panic y∧bD y=some X
  |.LX=>∃args ts,o.op=.call {callee:=.builtin .recover,args,argTypes:=ts }
  |_=>True
theorem ML{X Y:bL}{t:TypeId}{bo:BinOp}{kk:K}{o:Oper}(hk:eqC P bo t X Y=some kk):KEq P ann o kk:=by
 unfold eqC at hk;split at hk
 case h_2=>cases hk
 split at hk
 ·cases hk
 split at hk
 ·obtain⟨ag,hag,rfl⟩:=ad.1 hk;trivial
 ·obtain⟨ag,hag,rfl⟩:=ad.1 hk;trivial
 ·cases hk
theorem adI{kk:K}{key:Nat}{o:Oper}(hk:kC P ann ops key o=some kk):KEq P ann o kk:=by
 unfold kC at hk;split at hk
 ·rename_i x ho;obtain⟨X,hX,rfl⟩:=ad.1 hk;trivial
 ·rename_i x ho;split at hk
  ·rename_i hnil _ _;split at hk
   ·obtain⟨X,hX,rfl⟩:=ad.1 hk;trivial
   ·obtain⟨X,hX,rfl⟩:=ad.1 hk;trivial
  ·obtain⟨X,hX,rfl⟩:=ad.1 hk;trivial
 ·rename_i c x y ho;split at hk
  ·rename_i c' x' y' h1 h2 h3;cases hk;trivial
  ·cases hk
 ·rename_i el ho;split at hk
  ·rename_i z d0 hz hd0;split at hk
   ·split at hk
    case h_2=>cases hk
    split at hk
    case h_2=>cases hk
    split at hk
    case h_2=>cases hk
    cases hk;trivial
   cases hk;split
   ·rename_i hc;exact⟨el,d0,ho,hz,hd0,by simpa using hc⟩
   ·trivial
  ·cases hk
 ·rename_i t x ho;split at hk
  ·rename_i x' d0 hx hd0;cases hk;by_cases hc:ann.eA.contains d0=true
   ·simp only[hc,if_true];exact⟨t,x,d0,ho,hx,hd0,by simpa using hc⟩
   ·rw[if_neg hc];split
    ·split<;>trivial
    ·trivial
  ·cases hk
 ·rename_i t ps ho;split at hk
  ·rename_i fs z ht hz;split at hk
   ·rename_i hall;obtain⟨parts,hp,rfl⟩:=ad.1 hk;trivial
   ·cases hk
  ·rename_i n el z ht hz;split at hk
   ·rename_i wd hw;obtain⟨parts,hp,rfl⟩:=ad.1 hk;trivial
   ·cases hk
  ·cases hk
 ·rename_i t n ps ho;split at hk
  ·rename_i el ht;split at hk
   ·rename_i wd z d0 hw hz _;split at hk
    ·rename_i hc;obtain⟨parts,hp,rfl⟩:=ad.1 hk;dsimp only;split
     ·trivial
     split<;>trivial
    ·cases hk
   ·cases hk
  ·cases hk
 ·rename_i t x ho;split at hk
  ·rename_i ag sz n hag hsz hx;split at hk
   ·rename_i hc;simp only[af,au]at hc;cases hk;have hxe:x=.tmp n:=by
     cases x<;>simp only[bD,ae,bL.t.injEq,reduceCtorEq,ad,and_false,exists_false]at hx;rw[hx]
    split
    ·trivial
    ·split
     ·trivial
     ·split<;>trivial
   ·cases hk
  ·cases hk
 ·rename_i t x y ho;split at hk
  ·rename_i sz n y' hsz hx hy;cases hk;have hxe:x=.tmp n:=by
    cases x<;>simp only[bD,ae,bL.t.injEq,reduceCtorEq,ad,and_false,exists_false]at hx;rw[hx]
   by_cases hc:ann.eA.contains (Fx ops 8 n)=true
   ·simp only[hc,if_true];exact⟨t,y,by rw[ho,hxe],hy,hsz⟩
   ·rw[if_neg hc];split<;>trivial
  ·cases hk
 ·rename_i b t x y u ho;split at hk
  ·rename_i hx hy;cases hk;trivial
  ·rename_i hx hy;exact ML hk
  ·rename_i hx hy;exact ML hk
  ·rename_i hx hy;exact ML hk
  ·rename_i ht hx hy;split at hk<;>cases hk<;>trivial
  ·rename_i ht hx hy;unfold isC at hk;split at hk<;>cases hk<;>trivial
  ·rename_i ht hx hy;split at hk
   ·split at hk<;>cases hk<;>trivial
   ·cases hk
  ·rename_i ht hx hy;unfold isC at hk;split at hk<;>cases hk<;>trivial
  ·rename_i ht hx hy;split at hk<;>cases hk<;>trivial
  ·cases hk
 ·rename_i x ho;obtain⟨X,hX,rfl⟩:=ad.1 hk;trivial
 ·rename_i b t x ho;obtain⟨X,hX,rfl⟩:=ad.1 hk;trivial
 ·rename_i s t x ho;split at hk
  ·rename_i hs ht hx;cases hk;trivial
  ·split at hk<;>cases hk<;>trivial
  ·split at hk<;>cases hk<;>trivial
  ·split at hk
   ·split at hk<;>cases hk<;>trivial
   ·cases hk
  ·cases hk
 ·rename_i t x ho;split at hk
  ·obtain⟨X,hX,rfl⟩:=ad.1 hk;trivial
  ·cases hk
 ·rename_i f xs ys ho;split at hk
  ·rename_i hx hy;cases hk;trivial
  ·cases hk
 ·rename_i t x y ho;split at hk
  ·rename_i el ht;split at hk
   ·rename_i hw hb hz hx hy;split at hk
    ·rename_i hc;cases hk;trivial
    ·cases hk
   ·cases hk
  ·cases hk
 ·rename_i t x lo hh mx ho;split at hk
  ·rename_i ht hx hlo hhi hmx;obtain⟨wd,hw,rfl⟩:=ad.1 hk;trivial
  ·rename_i ht hx hlo hhi hmx;obtain⟨wd,hw,rfl⟩:=ad.1 hk;have hm:mx=none:=by
    cases mx with
    |none=>rfl
    |some m=>simp[xe,ad]at hmx
   subst hm;trivial
  ·rename_i ht hx hlo hhi hmx;cases hk;trivial
  ·cases hk
 ·rename_i s x i ho;split at hk
  ·rename_i fs x' hs hx;split at hk
   ·rename_i off sz hfc;split at hk
    ·rename_i hpos;cases hk;trivial
    ·cases hk
   ·cases hk
  ·cases hk
 ·rename_i s x i ho;split at hk
  ·rename_i fs x' hs hx;split at hk
   ·rename_i f hfi;split at hk
    ·rename_i hag hsz;split at hk
     ·cases hk;trivial
     ·cases hk
    ·cases hk
   ·cases hk
  ·cases hk
 ·rename_i t x y ho;split at hk
  ·rename_i ht hx hy;obtain⟨wd,hw,rfl⟩:=ad.1 hk;trivial
  ·rename_i ht hx hy;obtain⟨wd,hw,rfl⟩:=ad.1 hk;trivial
  ·cases hk
 ·rename_i t x y ho;split at hk
  ·rename_i ht hx hy;split at hk
   ·rename_i hag hsz;split at hk
    ·cases hk;trivial
    ·cases hk
   ·cases hk
  ·rename_i ht hx hy;cases hk;trivial
  ·cases hk
 ·rename_i x i ho;obtain⟨X,hX,rfl⟩:=ad.1 hk;trivial
 ·rename_i c ho;obtain⟨callee,args,ts⟩:=c;dsimp only at hk;split at hk
  ·rename_i f;split at hk
   ·rename_i hf hx;cases hk;exact⟨f,args,ts,ho,hf,hx⟩
   ·cases hk
  ·split at hk
   ·rename_i t tr x r hts ha;split at hk
    ·rename_i ht hx;cases hk;trivial
    ·rename_i ht hx;cases hk;trivial
    ·rename_i ht hx;cases hk;trivial
    ·rename_i ht;cases hk;trivial
    ·rename_i ht;split at hk
     ·rename_i hr;cases hk;trivial
     ·cases hk
    ·cases hk
   ·cases hk
  ·cases hk;exact⟨_,_,ho⟩
  ·split at hk
   ·rename_i ha;split at hk
    ·rename_i hx hy;cases hk;trivial
    ·cases hk
   ·cases hk
  ·split at hk
   ·rename_i ha;split at hk
    ·rename_i hx hy;cases hk;trivial
    ·cases hk
   ·cases hk
  ·split at hk
   ·rename_i t u x y hts ha;split at hk
    ·rename_i ht hu hx hy;split at hk
     case isFalse=>cases hk
     split at hk
     ·rename_i hw hb hz;split at hk
      ·rename_i hc;cases hk;split
       ·trivial
       ·split
        ·trivial
        ·split
         ·trivial
         ·split<;>trivial
      ·cases hk
     ·cases hk
    ·cases hk
   ·cases hk
  ·cases hk
 ·rename_i t x ho;split at hk
  ·obtain⟨X,hX,rfl⟩:=ad.1 hk;trivial
  ·cases hk
 ·rename_i x xt t ok ho;split at hk
  ·cases hk
  ·split at hk
   ·obtain⟨z,hz,rfl⟩:=ad.1 hk;trivial
   ·cases hk;trivial
  ·cases hk
 ·rename_i x ho;obtain⟨X,hX,rfl⟩:=ad.1 hk;exact⟨x,ho,hX⟩
 ·rename_i t ho;cases hk;trivial
 ·split at hk<;>cases hk<;>trivial
 ·rename_i t x ho;split at hk
  ·rename_i ht hx;cases hk;trivial
  ·cases hk
 ·rename_i x ho;split at hk
  ·rename_i hx;cases hk;trivial
  ·cases hk
 ·rename_i t x y ok ho;split at hk
  ·split at hk
   ·cases hk;trivial
   ·cases hk
  ·cases hk
 ·rename_i t m x y ho;split at hk
  ·split at hk
   ·cases hk;trivial
   ·cases hk
  ·cases hk
 ·rename_i t m x y ho;split at hk
  ·split at hk
   ·cases hk;trivial
   ·cases hk
  ·cases hk
 ·cases hk
theorem RD{kk:K}(h:kk.makes=true):bM e σ kk=none:=by
 cases kk<;>simp[K.makes]at h<;>rfl
theorem SQ(hO:yI P CR O)(ha:At CR base ann.eA g0 w0 n b g w B e σ a){o:Oper}(ho:ops[i]?=some o)(hw:Region.wanted o (yielded ops a.tmps)=true)
  {Am:Bool} {op:Op} (hop:Rq P ann n cg ops Am i o=some op) (h:vG O op e σ=some (e',σ')):
  Kn P CR ann n ops base g0 w0 b g w a k cs i rest σ e' σ':=by
 unfold Rq at hop;split at hop
 case h_2=>cases hop
 rename_i kk hk;split at hop
 case h_2=>cases hop
 rename_i gd hgd hdn;simp only[aB,af]at hop;obtain⟨⟨hown,hst⟩,hop⟩:=hop;cases hop;have hn:∀t,o.dst=some t→t<n:=by
  intro t ht;rw[ht]at hdn;simpa using hdn
 have hV:kk.makes=false→∀t,o.dst=some t→t ∉ ann.eA:=by
  intro hm t ht;rw[ht]at hown;simp[hm]at hown;simpa using hown
 have hd:=Ld hk;have hkeq:=adI hk;unfold vG at h;dsimp only at h;split at h
 ·
  rename_i kp F Xs;split at h
  case h_2=>cases h
  rename_i d σ1 hc;split at h
  case isFalse=>cases h
  cases h;obtain⟨f,args,ts,h1,h2,h3⟩:=hkeq;exact NP hO ha ho hw hn (hV rfl) h1 h2 h3 hc
 ·
  rename_i nb z;obtain⟨el,v,h1,h2,h3,h4⟩:=hkeq;rw[h3]at h;cases hnb:kP nb z σ with
  |none=>simp[hnb]at h
  |some x =>
   obtain⟨cs',σ1⟩:=x;simp only[hnb,ae,ak]at h;obtain⟨rfl,rfl⟩:=h;obtain⟨i0,vz,hinfo,hzero,hrz,h1z⟩:=tn g h2;obtain⟨g1,i1,e1,r1⟩:=xb nb _ _ _ _ g _ hnb ha.inv hrz;exact ad8 (el:=el) ha ho hw hd h3 h4 (hn _ h3) (by simp[execOp,h1,EZ hinfo hzero]) i1 e1 (sU _ _ _ _ _ hnb) r1 h1z
 ·
  rename_i X;obtain⟨t,x,v,h1,h2,h3,h4⟩:=hkeq;rw[h3]at h;cases hcx:(bf e X).cells with
  |none=>simp[hcx]at h
  |some cs' =>
   simp only[hcx,ae,ak]at h;obtain⟨rfl,rfl⟩:=h;obtain⟨tmps,df⟩:=a;obtain⟨hr,h1z⟩:=(ha.fr.bf (df:=df) h2).cells hcx;exact ad8 (el:=t) ha ho hw hd h3 h4 (hn _ h3) (by simp[execOp,h1,Instr.box,newVar,newRow]) ha.inv (Ev.refl g w) (.refl σ) hr h1z
 ·
  rename_i v nb sz x X;obtain⟨t,y,h1,h2,h3⟩:=hkeq;have hdst:o.dst=none:=by simpa[K.avY]using hst
  split at h
  case h_2=>cases h
  rename_i s cv off p hin hp;split at h
  case isFalse=>cases h
  rename_i hlen;split at h
  case h_2=>cases h
  rename_i p' σ1 hnb;cases h;exact arK ha ho hw hn (hV rfl) h1 h2 h3 hin hp hlen hnb hdst
 ·
  rename_i k1 h1 h2 h3 h4;cases hs:bM e σ kk with
  |none=>simp[hs]at h
  |some x =>
   obtain⟨d,σ1⟩:=x;simp only[hs,aS,ae,ak]at h;obtain⟨rfl,rfl⟩:=h;have hm:kk.makes=false:=by
    cases hm:kk.makes
    ·rfl
    ·rw[RD hm]at hs;cases hs
   obtain⟨tmps,df⟩:=a;obtain⟨x,c,g',w',hrun,hx,he,hi,hr⟩:=arD (df:=df) ha.fr ha.inv hk hs;exact zS ha ho hn (hV hm) (.one (xl ho hw hd hrun hx)) he hi (aeq hs) hr
inductive vY {α β:Type} (R:α→β→Prop):List α→List β→Prop
 |nil:vY R [] []
 |cons {x:α} {y:β} {xs:List α} {ys:List β}:R x y→vY R xs ys→vY R (x::xs) (y::ys)
def Gm(P:Program)(ann:uh)(n cg:Nat)(ops:Array Oper)(i:Nat)(x:Op):Prop:=∃o Am,ops[i]?=some o∧Rq P ann n cg ops Am i o=some x
theorem JB{Am:Bool}{o:Oper}{op:Op}(h:Rq P ann n cg ops Am i o=some op):
  op.dst=o.dst∧(∀t,o.dst=some t→t<n)∧((o.guard=none∧op.C8=none)∨∃j d bb,o.guard=some (j,bb)∧op.C8=some (d,bb)∧(ops[j]?).bind (·.dst)=some d∧(∀t,o.dst=some t→t ∉ ann.eA)):=by
 unfold Rq at h;split at h
 case h_2=>cases h
 rename_i kk hk;split at h
 case h_2=>cases h
 rename_i gd hgd hdn;simp only[aB,af]at h;obtain⟨⟨hown,hst⟩,h⟩:=h;cases h;refine⟨rfl,fun t ht=>by rw[ht]at hdn;simpa using hdn,?_⟩;cases hg:o.guard with
 |none=>rw[hg]at hgd;cases hgd;exact .inl ⟨rfl,rfl⟩
 |some x =>
  obtain⟨j,bb⟩:=x;rw[hg]at hgd;dsimp only at hgd;cases hj:(ops[j]?).bind (·.dst)with
  |none=>rw[hj]at hgd;cases hgd
  |some d =>
   rw[hj]at hgd;cases hgd;refine .inr ⟨j,d,bb,rfl,rfl,hj,fun t ht=>?_⟩;rw[ht,hg]at hown;simpa using hown
theorem BL(hO:yI P CR O){tl:List Nat}:∀(is:List Nat) (xs:List Op) (e:Env) (σ:SK) (g:G) (w:World) (B:Nat→Nat) (a:Act),vY (Gm P ann n cg ops) is xs →
  mm O xs e σ=some (e',σ')→At CR base ann.eA g0 w0 n b g w B e σ a →
  ∃g' w' B' a',Steps P (lone (b.atR a (.inRegion ops (is++tl)::k)) cs w) (lone (b.atR a' (.inRegion ops tl::k)) cs w')∧At CR base ann.eA g0 w0 n b g' w' B' e' σ' a'∧g.le g'∧gH σ σ'
 |[],xs,e,σ,g,w,B,a,hF,h,ha=>by
  cases hF;simp only[mm,ae,ak]at h;obtain⟨rfl,rfl⟩:=h;exact⟨g,w,B,a,.refl _ _,ha,g.le_refl,.refl σ⟩
 |i::is,xs,e,σ,g,w,B,a,hF,h,ha=>by
  cases hF with
  |cons hx hF =>
   rename_i x xs;obtain⟨o,Am,ho,hop⟩:=hx;obtain⟨hdst,hn,hgrd⟩:=JB hop;simp only[mm]at h;have hgo:∀{e1 σ1 g1 w1 B1 a1},Steps P (lone (b.atR a (.inRegion ops (i::is++tl)::k)) cs w) (lone (b.atR a1 (.inRegion ops (is++tl)::k)) cs w1) →
     At CR base ann.eA g0 w0 n b g1 w1 B1 e1 σ1 a1→g.le g1→gH σ σ1→mm O xs e1 σ1=some (e',σ') →
     ∃g' w' B' a',Steps P (lone (b.atR a (.inRegion ops (i::is++tl)::k)) cs w) (lone (b.atR a' (.inRegion ops tl::k)) cs w')∧At CR base ann.eA g0 w0 n b g' w' B' e' σ' a'∧g.le g'∧gH σ σ':=by
    intro e1 σ1 g1 w1 B1 a1 h1 h2 h3 h4 h5;obtain⟨g2,w2,B2,a2,k1,k2,k3,k4⟩:=BL hO is xs _ _ _ _ _ _ hF h5 h2;exact⟨g2,w2,B2,a2,h1.trans k1,k2,h3.trans' k3,h4.trans k4⟩
   rcases hgrd with⟨hg1,hg2⟩ | ⟨j,d,bb,hg1,hg2,hj,hV⟩
   ·rw[hg2]at h;simp only[ah,Prod.exists]at h;obtain⟨e1,σ1,h1,h2⟩:=h;obtain⟨g1,w1,B1,a1,k1,k2,k3,k4⟩:=SQ (k:=k) (cs:=cs) (rest:=is++tl) hO ha ho (by simp[Region.wanted,hg1]) hop h1;exact hgo k1 k2 k3 k4 h2
   ·rw[hg2]at h;dsimp only at h;split at h
    case h_2=>cases h
    rename_i bv hbv;have hy:yielded ops a.tmps j=bv:=by
     have hrel:=ha.fr.rel d;unfold yielded;rw[hj];simp only[Option.bind_some];cases hg:get e d with
     |bool b =>
      rw[hg]at hrel hbv;have hrel':bI g (.bool b) (a.tmps.getD d Go.undef):=hrel;have hval:=hrel'.o8;simp only[D.bit,ae]at hbv;subst hbv;rw[ch]at hval;cases hd:a.tmps[d]? with
      |none=>rw[hd]at hval;simp[Go.undef]at hval
      |some y=>rw[hd]at hval;simp at hval;subst hval;rfl
     |dG ds =>
      cases ds with
      |nil =>
       rw[hg]at hrel hbv;have hrel':bI g (.dG []) (a.tmps.getD d Go.undef):=hrel;have hval:a.tmps.getD d Go.undef=.tuple #[]:=by
        generalize a.tmps.getD d Go.undef=z at hrel';cases hrel' with | dG _ cs hl =>
         cases cs with | mk cs=>cases cs with
          |nil=>rfl
          |cons c cs=>cases hl
       simp only[D.bit,ae]at hbv;subst hbv;rw[ch]at hval;cases hd:a.tmps[d]? with
       |none=>rfl
       |some y=>rw[hd]at hval;simp at hval;subst hval;rfl
      |cons x xs=>rw[hg]at hbv;simp[D.bit]at hbv
     |_=>rw[hg]at hbv;simp[D.bit]at hbv
    split at h
    ·rename_i hb;simp only[ah,Prod.exists]at h;obtain⟨e1,σ1,h1,h2⟩:=h;obtain⟨g1,w1,B1,a1,k1,k2,k3,k4⟩:=SQ (k:=k) (cs:=cs) (rest:=is++tl) hO ha ho (by simp[Region.wanted,hg1,hy,hb]) hop h1;exact hgo k1 k2 k3 k4 h2
    ·rename_i hb;have hstep:=stepR_op_skip (P:=P) (b:=b) (a:=a) (k:=k) (cs:=cs) (w:=w) (ops:=ops) (i:=i) (rest:=is++tl) (by simp[ho,Region.wanted,hg1,hy,hb]);rw[show(ops[i]?).bind (·.dst)=o.dst from by rw[ho];rfl]at hstep;obtain⟨g1,w1,B1,a1,k1,k2,k3,k4⟩:=zS (d:=.dG []) ha ho hn hV (.one hstep) (Ev.refl g w) ha.inv (.refl σ) (cF.of (.dG [] #[] .nil));rw[hdst]at h;exact hgo k1 k2 k3 k4 h
theorem MU(hO:yI P CR O)(is:List Nat)(xs:List Op)(e:Env)(σ:SK)(g:G)(w:World)(B:Nat→Nat)(a:Act)(hF:vY (Gm P ann n cg ops) is xs)
  (h:mm O xs e σ=some (e',σ')) (ha:At CR base ann.eA g0 w0 n b g w B e σ a):
  ∃g' w' B' a',Steps P (lone (b.atR a (.inRegion ops is::k)) cs w) (lone (b.atR a' (.inRegion ops []::k)) cs w')∧At CR base ann.eA g0 w0 n b g' w' B' e' σ' a'∧g.le g'∧gH σ σ':=by
 have:=BL (k:=k) (cs:=cs) (tl:=[]) hO is xs e σ g w B a hF h ha;simpa using this
theorem QI{O:bN}{fv:D}{args:List D}{r:R}(h:Ah O fv args σ=some r):∃f first cap,fv=.fn f first cap∧O (.call false f (first++args++cap) σ)=some r:=by
 unfold Ah at h;split at h
 ·exact⟨_,_,_,rfl,h⟩
 ·cases h
theorem alE{Am:Bool}{o:Oper}{op:Op}(h:Rq P ann n cg ops Am i o=some op):kC P ann ops (cg*1000+i) o=some op.k∧(op.k.makes=false→∀t,o.dst=some t→t ∉ ann.eA):=by
 unfold Rq at h;split at h
 case h_2=>cases h
 rename_i kk hk;split at h
 case h_2=>cases h
 simp only[aB,af]at h;obtain⟨⟨hown,hst⟩,h⟩:=h;cases h;refine⟨hk,fun hm t ht=>?_⟩;dsimp only at hm;rw[ht]at hown;simp[hm]at hown;simpa using hown
theorem M9{o:Oper}{v:Value}{w':World}{is:List Nat}(ho:ops[i]?=some o)(hw:Region.wanted o (yielded ops a.tmps)=true)(hd:∀c,o.op ≠ .defer c)
  (hr:(execOp a.eval o).run P w=.halt (.panic v) w'):
  step P (lone (b.atR a (.inRegion ops (i::is)::k)) cs w)=.next (lone {b.atR a (.inRegion ops (i::is)::k)with mode:=.panicking [{v,recovered:=false }] } cs w'):=by
 have hg:=stepGR_op (P:=P) (b:=b) (k:=k) (cs:=cs) (w:=w) (rest:=is) ho hw;rw[Oper.semAt_eq _ _ _ hd]at hg;exact step_lone_go (by rw[hg,← Frame.raise_atR];simp[stepG.apply,hr])
end
def j3(ts:List Nat)(e e':Env):Prop:=∀t∈ts,get e' t=get e t
theorem j3.mono{ts us:List Nat}{e e':Env}(h:j3 us e e')(hs:∀t∈ts,t∈us):j3 ts e e':=fun t ht=>h t (hs t ht)
theorem j3.app{ts us:List Nat}{e e':Env}:j3 (ts++us) e e'↔j3 ts e e'∧j3 us e e' :=
 ⟨fun h=>⟨fun t ht=>h t (by simp[ht]),fun t ht=>h t (by simp[ht])⟩,fun h t ht=>(bu.1 ht).elim (h.1 t) (h.2 t)⟩
theorem j3.cons{t:Nat}{us:List Nat}{e e':Env}:j3 (t::us) e e'↔get e' t=get e t∧j3 us e e' :=
 ⟨fun h=>⟨h t (by simp),fun u hu=>h u (by simp[hu])⟩,fun h u hu=>(aW.1 hu).elim (fun x=>x ▸ h.1) (h.2 u)⟩
variable {e e':Env} {σ σ':SK}
theorem aU{x:bL}(h:j3 x.tmps e e'):bf e' x=bf e x:=by
 cases x with
 |t n=>simp only[bf];rw[h n (by simp[bL.tmps])]
 |c d=>rfl
theorem uR{xs:List bL}(h:j3 (xs.flatMap bL.tmps) e e'):xs.map (bf e')=xs.map (bf e):=by
 induction xs with
 |nil=>rfl
 |cons x xs ih =>
  simp only[aZ,j3.app]at h;simp only[aP,aU h.1,ih h.2]
theorem xM:∀{ps:List (Nat×Nat×bL)} {cs:List D},j3 (ps.flatMap fun p=>p.2.2.tmps) e e'→rL e' ps cs=rL e ps cs
 |[],cs,h=>rfl
 |(off,sz,x)::ps,cs,h=>by
  simp only[aZ,j3.app]at h;simp only[rL,aU h.1];split
  ·split
   ·exact xM h.2
   ·rfl
  ·rfl
theorem Ex{m:Nat}{dfl:Option Nat}{x:Option bL}(h:j3 ((x.map bL.tmps).getD []) e e'):BC e' m dfl x=BC e m dfl x:=by
 cases x with
 |none=>rfl
 |some x=>simp only[BC];rw[aU (by simpa using h)]
theorem DF{n:Nat}{lo hi mx:Option bL}(h1:j3 ((lo.map bL.tmps).getD []) e e')(h2:j3 ((hi.map bL.tmps).getD []) e e')(h3:j3 ((mx.map bL.tmps).getD []) e e'):
  bounds n e' lo hi mx=bounds n e lo hi mx:=by
 simp only[bounds,Ex h1,Ex h2,Ex h3]
theorem Be{v a:Nat}(h1:get e' v=get e v)(h2:get e' a=get e a):rM e' v a=rM e v a:=by
 simp only[rM,h1,h2]
theorem RC{k:K}(h:j3 k.tmps e e'):bM e' σ k=bM e σ k:=by
 cases k<;>simp only[K.tmps,j3.app,j3.cons]at h
 case mv x=>simp only[bM,aU h]
 case pq=>rfl
 case pick c a b=>simp only[bM,aU h.1.1,aU h.1.2,aU h.2]
 case HM=>rfl
 case mki=>simp only[bM,aU h]
 case tas=>simp only[bM,aU h]
 case isi=>simp only[bM,aU h]
 case LW=>rfl
 case LX=>rfl
 case dY=>rfl
 case HN x=>simp only[bM,aU h]
 case HO x=>simp only[bM,aU h]
 case bxn nb x=>simp only[bM,aU h]
 case Ey=>rfl
 case lq=>simp only[bM,xM h]
 case ur=>simp only[bM,xM h]
 case Kw=>simp only[bM,xM h]
 case ld=>simp only[bM,aU h]
 case RS=>simp only[bM,aU h]
 case RR=>simp only[bM,aU h]
 case RQ=>simp only[bM,aU h]
 case mo=>simp only[bM,aU h]
 case st=>simp only[bM,aU h.1,aU h.2]
 case RG os sz a x =>
  have hall:∀l i,(os.all fun t=>D.off l i (get e' t))=os.all fun t=>D.off l i (get e t):=by
   intro l i;have h2:=h.2;clear h;induction os with
   |nil=>rfl
   |cons o os ih=>simp only[jD,h2 o (by simp),ih (h2.mono fun t ht=>by simp[ht])]
  simp only[bM,aU h.1.1,aU h.1.2,hall]
 case RT=>simp only[bM,Be h.1 h.2.1]
 case FV=>rfl
 case bin=>simp only[bM,aU h.1,aU h.2]
 case eqv=>simp only[bM,aU h.1,aU h.2]
 case un=>simp only[bM,aU h]
 case KF=>simp only[bM,aU h]
 case xT=>simp only[bM,uR h.1,uR h.2]
 case mks=>simp only[bM,aU h.1,aU h.2]
 case JV=>simp only[bM,aU h.1.1.1,DF h.1.1.2 h.1.2 h.2]
 case M5=>simp only[bM,aU h.1.1,DF (mx:=none) h.1.2 h.2 (fun t ht=>by simp at ht)]
 case HQ off x =>
  cases x with
  |t n=>simp only[bM,h n (by simp[bL.tmps])]
  |c d=>rfl
 case fld=>simp only[bM,aU h]
 case Bc len w x i =>
  cases x with
  |t n =>
   have h1:=h.1 n (by simp[bL.tmps]);simp only[bM,aU h.2];cases DT (bf e i)<;>simp only[h1]
  |c d=>simp only[bM]
 case dP=>simp only[bM,aU h.1,aU h.2]
 case Jt=>simp only[bM,aU h.1,aU h.2]
 case HU=>simp only[bM,aU h]
 case MM=>rfl
 case mn=>simp only[bM,aU h.1,aU h.2]
 case mx=>simp only[bM,aU h.1,aU h.2]
 case app=>simp only[bM,aU h.1,aU h.2]
 case QC os w b s x =>
  have hall:∀l i,(os.all fun t=>D.off l i (get e' t))=os.all fun t=>D.off l i (get e t):=by
   intro l i;have h2:=h.2;clear h;induction os with
   |nil=>rfl
   |cons o os ih=>simp only[jD,h2 o (by simp),ih (h2.mono fun t ht=>by simp[ht])]
  simp only[bM,Je,aU h.1.1,aU h.1.2,hall]
 case apz=>simp only[bM,Je,aU h.1,aU h.2]
 case cpi=>simp only[bM,aU h]
 case cvz=>simp only[bM,aU h]
 case bse=>rfl
 case ape w b v x=>simp only[bM,h.1,aU h.2]
 case ext=>simp only[bM,aU h]
 case ri=>simp only[bM,uR h]
 case mp=>simp only[bM,uR h]
 case me=>simp only[bM,uR h]
 case call=>rfl
noncomputable def ua(O:bN)(op:Op)(e:Env)(σ:SK):Option (Env×SK) :=
 match op.C8 with
 |none=>vG O op e σ
 |some (g,want) =>
  match(get e g).bit with
  |some y=>if y=some want then vG O op e σ else some (put op.dst (.dG []) e,σ)
  |none=>none
theorem j6{O:bN}{op:Op}{r:List Op}:mm O (op::r) e σ=(ua O op e σ).bind fun x=>mm O r x.1 x.2:=by
 simp only[mm,ua];cases op.C8 with
 |none=>rfl
 |some x =>
  obtain⟨g,want⟩:=x;dsimp only;cases(get e g).bit<;>try rfl
  dsimp only;split<;>rfl
theorem JG{dst:Option Nat}{d:D}:put dst d e=(dst.toList.map fun t=>(t,d))++e:=by
 cases dst<;>rfl
theorem Ih{O:bN}{op:Op}{e1:Env}{σ1:SK}(h:vG O op e σ=some (e1,σ1)):
  ∃l:List (Nat×D),(∀p∈l,p.1∈op.defs)∧∀e',j3 (op.Ed++op.defs) e e'→vG O op e' σ=some (l++e',σ1):=by
 obtain⟨dst,C8,Am,k⟩:=op;have hk:∀e',j3 (Op.Ed ⟨dst,C8,Am,k⟩++Op.defs ⟨dst,C8,Am,k⟩) e e'→j3 k.tmps e e':=fun e' ha=>ha.mono fun t ht=>by simp[Op.Ed,ht]
 have hdst:∀d:D,∀p∈dst.toList.map (fun t=>(t,d)),p.1∈Op.defs ⟨dst,C8,Am,k⟩:=by
  intro d p hp;simp only[bK]at hp;obtain⟨t,ht,rfl⟩:=hp;simp only[Op.defs,bu];exact .inl ht
 have hplain:(∀e0,vG O ⟨dst,C8,Am,k⟩ e0 σ=(bM e0 σ k).map fun x=>(put dst x.1 e0,x.2)) →
   ∃l:List (Nat×D),(∀p∈l,p.1∈Op.defs ⟨dst,C8,Am,k⟩)∧∀e',j3 (Op.Ed ⟨dst,C8,Am,k⟩++Op.defs ⟨dst,C8,Am,k⟩) e e'→vG O ⟨dst,C8,Am,k⟩ e' σ=some (l++e',σ1):=by
  intro hall;rw[hall]at h;simp only[ad,Prod.exists,ak]at h;obtain⟨d,σ2,hs,rfl,rfl⟩:=h;refine⟨dst.toList.map fun t=>(t,d),hdst d,fun e' ha=>?_⟩;rw[hall,RC (hk e' ha),hs];simp only[aS,JG]
 cases k
 case call kp f args =>
  simp only[vG]at h ⊢;split at h
  case h_2=>cases h
  rename_i d σ2 hc;split at h
  case isFalse=>cases h
  rename_i hn;cases h;refine⟨dst.toList.map fun t=>(t,d),hdst d,fun e' ha=>?_⟩;have h1:=hk e' ha;simp only[K.tmps,j3.app]at h1;rw[aU h1.1,uR h1.2,hc];simp only[if_pos hn,JG]
 case dY nb cs =>
  simp only[vG]at h ⊢;split at h
  case h_2=>cases h
  rename_i v cs' σ2 hnb;cases h;refine⟨[(v,.own (ue e v) cs')],by simp[Op.defs],fun e' ha=>?_⟩;rw[show ue e' v=ue e v from by simp only[ue];rw[ha v (by simp[Op.defs])]];rfl
 case Ey x =>
  simp only[vG]at h ⊢;split at h
  case h_2=>cases h
  rename_i v cs' hc;cases h;refine⟨[(v,.own (ue e v) cs')],by simp[Op.defs],fun e' ha=>?_⟩;have h1:=hk e' ha;simp only[K.tmps]at h1;rw[aU h1,hc];simp only[show ue e' v=ue e v from by simp only[ue];rw[ha v (by simp[Op.defs])]];rfl
 case FV v nb sz a x =>
  simp only[vG]at h ⊢;split at h
  case h_2=>cases h
  rename_i s cs off p hin hp;split at h
  case isFalse=>cases h
  rename_i hc;split at h
  case h_2=>cases h
  rename_i p' σ2 hnb;cases h;refine⟨[(v,.own s (cs.take off++p'++cs.drop (off+sz)))],by simp[Op.defs],fun e' ha=>?_⟩;have h1:=hk e' ha;simp only[K.tmps,j3.app,j3.cons]at h1;rw[Be h1.1.1 h1.1.2.1,aU h1.2,hin,hp];simp only[if_pos hc,hnb];rfl
 all_goals exact hplain fun e0=>rfl
theorem Dg{O:bN}{op:Op}{e1:Env}{σ1:SK}(h:ua O op e σ=some (e1,σ1)):
  ∃l:List (Nat×D),(∀p∈l,p.1∈op.defs)∧∀e',j3 (op.Ed++op.defs) e e'→ua O op e' σ=some (l++e',σ1):=by
 unfold ua at h ⊢;cases hg:op.C8 with
 |none=>rw[hg]at h;simp only at h ⊢;exact Ih h
 |some x =>
  obtain⟨t,want⟩:=x;rw[hg]at h;simp only at h ⊢;split at h
  case h_2=>cases h
  rename_i b hb;have hgt:∀e',j3 (op.Ed++op.defs) e e'→(get e' t).bit=some b:=fun e' ha=>by rw[ha t (by simp[Op.Ed,hg]),hb]
  split at h
  ·rename_i hw;obtain⟨l,h1,h2⟩:=Ih h;refine⟨l,h1,fun e' ha=>?_⟩;rw[hgt e' ha];simp only[if_pos hw];exact h2 e' ha
  ·rename_i hw;cases h;refine⟨op.dst.toList.map fun t=>(t,.dG []),fun p hp=>?_,fun e' ha=>?_⟩
   ·simp only[bK]at hp;obtain⟨t,ht,rfl⟩:=hp;simp only[Op.defs,bu];exact .inl ht
   ·rw[hgt e' ha];simp only[if_neg hw,JG]
theorem II{cs cs':List D}(h:kP [] cs σ=some (cs',σ')):σ'=σ:=by
 simp only[kP,ae,ak]at h;exact h.2.symm
theorem IT{d:D}{k:K}(h:bM e σ k=some (d,σ'))(hk:k.calm=true):σ'=σ:=LF h hk
theorem Ii{O:bN}{op:Op}{e1:Env}{σ1:SK}(h:vG O op e σ=some (e1,σ1))(hs:op.still=true):σ1=σ:=by
 obtain⟨dst,C8,Am,k⟩:=op;simp only[Op.still,af]at hs;obtain⟨hk,hn⟩:=hs;have hplain:(vG O ⟨dst,C8,Am,k⟩ e σ=(bM e σ k).map fun x=>(put dst x.1 e,x.2))→σ1=σ:=by
  intro hall;rw[hall]at h;simp only[ad,Prod.exists,ak]at h;obtain⟨d,σ2,hs,rfl,rfl⟩:=h;exact IT hs hk
 cases k
 case call kp f args =>
  simp only[vG]at h;split at h
  case h_2=>cases h
  split at h
  case isFalse=>cases h
  rename_i hx;cases h;exact hx hn
 case dY nb cs =>
  simp only[vG]at h;split at h
  case h_2=>cases h
  rename_i v cs' σ2 hnb;cases h;simp only[K.calm,List.isEmpty_iff]at hk;subst hk;exact II hnb
 case Ey x =>
  simp only[vG]at h;split at h
  case h_2=>cases h
  cases h;rfl
 case FV v nb sz a x =>
  simp only[vG]at h;split at h
  case h_2=>cases h
  split at h
  case isFalse=>cases h
  split at h
  case h_2=>cases h
  rename_i hnb;cases h;simp only[K.calm,List.isEmpty_iff]at hk;subst hk;exact II hnb
 all_goals exact hplain rfl
theorem Dh{O:bN}{op:Op}{e1:Env}{σ1:SK}(h:ua O op e σ=some (e1,σ1))(hs:op.still=true):σ1=σ:=by
 unfold ua at h;split at h
 ·exact Ii h hs
 ·split at h
  case h_2=>cases h
  split at h
  ·exact Ii h hs
  ·cases h;rfl
def Fb(e e':Env):Prop:=∀t,get e' t=get e t
theorem Fb.refl(e:Env):Fb e e:=fun _=>rfl
theorem Fb.trans{a b c:Env}(h:Fb a b)(h':Fb b c):Fb a c:=fun t=>(h' t).trans (h t)
theorem Fb.agree(h:Fb e e')(ts:List Nat):j3 ts e e':=fun t _=>h t
theorem F7{l:List (Nat×D)}{t:Nat}:get (l++e) t=if t∈l.map (·.1)then get l t else get e t:=by
 induction l with
 |nil=>simp
 |cons p l ih =>
  obtain⟨k,v⟩:=p;simp only[fF,get];by_cases hk:k=t
  ·simp[hk]
  ·rw[if_neg hk,ih];simp only[aP,aW];by_cases ht:t∈l.map (·.1)
   ·rw[if_pos ht,if_pos (.inr ht)];rw[if_neg hk]
   ·rw[if_neg ht,if_neg (by intro h;rcases h with h | h;exact hk h.symm;exact ht h)]
theorem Fb.app(h:Fb e e')(l:List (Nat×D)):Fb (l++e) (l++e'):=fun t=>by
 simp only[F7,h t]
theorem GC{O:bN}:∀{xs:List Op} {e e' e1:Env} {σ σ1:SK},mm O xs e σ=some (e1,σ1)→Fb e e'→∃e1',mm O xs e' σ=some (e1',σ1)∧Fb e1 e1'
 |[],e,e',e1,σ,σ1,h,he=>by
  simp only[mm,ae,ak]at h;obtain⟨rfl,rfl⟩:=h;exact⟨e',rfl,he⟩
 |x::xs,e,e',e1,σ,σ1,h,he=>by
  rw[j6]at h;simp only[ah,Prod.exists]at h;obtain⟨e2,σ2,h1,h2⟩:=h;obtain⟨l,_,hl⟩:=Dg h1;have h3:=hl e (Fb.agree (.refl e) _);rw[h1]at h3;cases h3;obtain⟨e3,h4,h5⟩:=GC h2 (he.app l);exact⟨e3,by rw[j6,hl e' (he.agree _)];exact h4,h5⟩
theorem aer{d:D}{k:K}(h:bM e σ k=some (d,σ'))(hk:k.pure=true)(τ:SK):bM e τ k=some (d,τ):=by
 cases k<;>simp only[K.pure,K.calm,aw]at hk<;>simp only[bM,aQ,reduceCtorEq]at h ⊢ <;> (repeat' split at h)<;>
  simp only[ad,ah,ae,ak,Prod.exists,reduceCtorEq,exists_eq_left,and_false,exists_false]at h<;>(try split at h)<;>
  simp_all<;>(try (obtain⟨_,_,h⟩:=h;simp_all))<;>(try grind)
theorem Kt{O:bN}{op:Op}{e1:Env}{σ1:SK}(h:vG O op e σ=some (e1,σ1))(hs:op.k.pure=true)(τ:SK):vG O op e τ=some (e1,τ):=by
 obtain⟨dst,C8,Am,k⟩:=op;have hplain:(∀τ,vG O ⟨dst,C8,Am,k⟩ e τ=(bM e τ k).map fun x=>(put dst x.1 e,x.2))→vG O ⟨dst,C8,Am,k⟩ e τ=some (e1,τ):=by
  intro hall;rw[hall]at h ⊢;simp only[ad,Prod.exists,ak]at h;obtain⟨d,σ2,hs',rfl,rfl⟩:=h;rw[aer hs' hs τ];rfl
 cases k
 case call kp f args=>simp[K.pure]at hs
 case dY nb cs =>
  simp only[K.pure,K.calm,List.isEmpty_iff]at hs;subst hs;simp only[vG]at h ⊢;cases dst with
  |none=>cases h
  |some v=>simp only[kP,ae,ak]at h ⊢;exact⟨h.1,trivial⟩
 case Ey x =>
  simp only[vG]at h ⊢;cases dst with
  |none=>cases h
  |some v =>
   cases hx:(bf e x).cells with
   |none=>rw[hx]at h;cases h
   |some cs=>rw[hx]at h;simp only[ae,ak]at h ⊢;exact⟨h.1,trivial⟩
 case FV v nb sz a x =>
  simp only[K.pure,K.calm,List.isEmpty_iff]at hs;subst hs;simp only[vG]at h ⊢;cases hin:rM e v a<;>rw[hin]at h<;>try (cases h;done)
  cases hx:(bf e x).cells<;>rw[hx]at h<;>try (cases h;done)
  simp only[kP]at h ⊢;split at h
  ·rename_i hc;rw[if_pos hc];simp only[ae,ak]at h ⊢;exact⟨h.1,trivial⟩
  ·cases h
 all_goals exact hplain fun τ=>rfl
theorem BR{O:bN}{op:Op}{e1:Env}{σ1:SK}(h:ua O op e σ=some (e1,σ1))(hs:op.k.pure=true):∀τ,ua O op e τ=some (e1,τ):=by
 intro τ;unfold ua at h ⊢;cases hg:op.C8 with
 |none=>rw[hg]at h;exact Kt h hs τ
 |some y =>
  obtain⟨g,want⟩:=y;rw[hg]at h;dsimp only at h ⊢;cases hb:(get e g).bit with
  |none=>rw[hb]at h;cases h
  |some b =>
   rw[hb]at h;dsimp only at h ⊢;split at h
   ·rename_i hw;rw[if_pos hw];exact Kt h hs τ
   ·rename_i hw;rw[if_neg hw];cases h;rfl
theorem z7{a:List aE}{σ:SK}{l:Nat}{s:List aE}(h:σ.length=l):iF (a::σ) l s=s::σ:=by simp only[iF];rw[if_pos h]
theorem oA{a:List aE}{σ:SK}{l:Nat}{s:List aE}(h:¬σ.length=l):iF (a::σ) l s=a::iF σ l s:=by simp only[iF];rw[if_neg h]
theorem LD{σ:SK}{l l':Nat}{s s':List aE}(h:l≠l'):iF (iF σ l s) l' s'=iF (iF σ l' s') l s:=by
 induction σ with
 |nil=>rfl
 |cons a σ ih =>
  by_cases h1:σ.length=l
  ·have h2:¬σ.length=l':=by omega
   rw[z7 h1,oA h2,oA h2,z7 (by rw[gv];exact h1)]
  ·by_cases h2:σ.length=l'
   ·rw[oA h1,z7 h2,z7 (by rw[gv];exact h2),oA h1]
   ·rw[oA h1,oA h2,oA (by rw[gv];exact h2),oA (by rw[gv];exact h1),ih]
theorem ud{σ:SK}{l l':Nat}{s:List aE}(h:l≠l'):gh (iF σ l s) l'=gh σ l':=by
 induction σ with
 |nil=>rfl
 |cons a σ ih =>
  simp only[iF];by_cases h1:σ.length=l
  ·rw[if_pos h1];simp only[gh];rw[if_neg (by omega),if_neg (by omega)]
  ·rw[if_neg h1];simp only[gh,gv,ih]
theorem JU{σ:SK}{l:Nat}{s s':List aE}:iF (iF σ l s) l s'=iF σ l s':=by
 induction σ with
 |nil=>rfl
 |cons a σ ih =>
  simp only[iF];by_cases h1:σ.length=l
  ·rw[if_pos h1,if_pos h1];simp only[iF];rw[if_pos h1]
  ·rw[if_neg h1,if_neg h1];simp only[iF,gv];rw[if_neg h1,ih]
theorem LB{σ:SK}{l i l' i':Nat}{b b':aE}(h:¬(l'=l∧i'=i)):aV (aV σ l i b) l' i' b'=aV (aV σ l' i' b') l i b:=by
 by_cases hl:l=l'
 ·subst hl;have hi:i≠i':=fun e=>h ⟨rfl,e.symm⟩
  unfold aV;cases hs:gh σ l with
  |none=>simp[hs]
  |some s =>
   simp only[ti (z6 hs),JU];rw[List.set_comm _ _ hi]
 ·unfold aV;cases hs:gh σ l with
  |none =>
   cases hs':gh σ l' with
   |none=>simp[hs,hs']
   |some s'=>simp only[ud (Ne.symm hl),hs]
  |some s =>
   cases hs':gh σ l' with
   |none=>simp only[ud hl,hs',hs]
   |some s' =>
    simp only[ud hl,ud (Ne.symm hl),hs,hs'];exact LD hl
theorem zy{σ:SK}{l i l' i' v:Nat}{b:aE}(h:¬(l'=l∧i'=i)):cells? (aV σ l i b) l' i' v=cells? σ l' i' v:=by
 unfold cells?;rw[eU h]
theorem JI{σ:SK}{l i:Nat}{b:aE}{d:D}(h:D.off l i d=true):EV (aV σ l i b) d.strip=EV σ d.strip:=by
 cases d<;>try rfl
 simp only[D.off,au]at h;simp only[D.strip,EV,zy h]
theorem BQ{O:bN}{dst:Option Nat}{n ag:Bool}{sz m:Nat}{e1:Env}{σ1:SK}(h:ua O ⟨dst,none,n,.ld ag sz (.t m)⟩ e σ=some (e1,σ1)):
  σ1=σ∧∀τ,EV τ (get e m).strip=EV σ (get e m).strip→ua O ⟨dst,none,n,.ld ag sz (.t m)⟩ e τ=some (e1,τ):=by
 have hs:=Dh h;simp only[ua,vG,bM,bf]at h ⊢;refine⟨?_,fun τ hτ=>?_⟩
 ·simp only[ad,Prod.exists,ak]at h;obtain⟨d,σ2,h,_,rfl⟩:=h;exact IT (k:=.ld ag sz (.t m)) (e:=e) (d:=d) (by simpa only[bM,bf]using h) rfl
 ·rw[hτ];cases hr:EV σ (get e m).strip with
  |none=>rw[hr]at h;cases h
  |some cs =>
   rw[hr]at h;dsimp only at h ⊢;split at h
   ·rename_i hsz;rw[if_pos hsz];cases ag with
    |true=>simp at h ⊢;exact h.1
    |false =>
     simp only[aw,if_false]at h ⊢;cases cs with
     |nil=>cases h
     |cons d ds=>simp at h ⊢;exact h.1
   ·cases h
theorem D5{O:bN}{dst:Option Nat}{n:Bool}{os:List Nat}{sz:Nat}{a x:bL}{e1:Env}{σ1:SK}(h:ua O ⟨dst,none,n,.RG os sz a x⟩ e σ=some (e1,σ1)):
  ∃l i v off b,bf e a=.ref l i v off∧(∀m∈os,D.off l i (get e m)=true)∧σ1=aV σ l i b ∧
   ∀τ,τ.length=σ.length→cells? τ l i v=cells? σ l i v→ua O ⟨dst,none,n,.RG os sz a x⟩ e τ=some (e1,aV τ l i b):=by
 simp only[ua,vG,bM]at h ⊢;cases ha:bf e a<;>rw[ha]at h<;>try (cases h;done)
 rename_i l i v off;dsimp only at h ⊢;split at h
 case isFalse=>cases h
 rename_i hall;cases hc:cells? σ l i v with
 |none=>rw[hc]at h;cases h
 |some cs =>
 rw[hc]at h;dsimp only at h;cases hp:(bf e x).cells with
 |none=>rw[hp]at h;cases h
 |some p =>
 rw[hp]at h;dsimp only at h;split at h
 case isFalse=>cases h
 rename_i hq;simp only[aS,ae,ak]at h;refine⟨l,i,v,off,.cells v (cs.take off++p++cs.drop (off+sz)),rfl,fun m hm=>lu.1 hall m hm,h.2.symm,fun τ hlen hτ=>?_⟩;simp only[hall,if_true,hτ,hc,hlen,if_pos hq,aS,h.1]
theorem Lx{O:bN}{dst:Option Nat}{n:Bool}{os:List Nat}{w b:Nat}{a x:bL}{e1:Env}{σ1:SK}(h:ua O ⟨dst,none,n,.QC os w b a x⟩ e σ=some (e1,σ1)):
  ∃l i v cs,(∀m∈os,D.off l i (get e m)=true)∧σ1=aV σ l i (.cells (v+1) cs):=by
 simp only[ua,vG,ad,Prod.exists,ak]at h;obtain⟨d,σ2,h,_,rfl⟩:=h;simp only[bM]at h;split at h
 case h_2=>cases h
 rename_i l i v off n' w' ha;split at h
 case isFalse=>cases h
 rename_i hall;simp only[ah]at h;obtain⟨⟨m,xs⟩,he,h⟩:=h;dsimp only at h;split at h
 case isFalse=>cases h
 rename_i hcl;simp only[Je,aQ,he,Option.bind_some,ha]at h;split at h
 case h_2=>cases h
 split at h
 case isFalse=>cases h
 refine⟨l,i,?_⟩;split at h
 ·cases h;exact⟨_,_,fun m hm=>lu.1 hall m hm,rfl⟩
 ·rw[show deep=15+1 from rfl,EI hcl]at h;cases h;exact⟨_,_,fun m hm=>lu.1 hall m hm,rfl⟩
theorem agc{σ:SK}{l i v:Nat}{cs:List D}{d:D}{c:List D}(h:RV (aV σ l i (.cells (v+1) cs)) d=some c):RV σ d=some c:=by
 unfold RV at h ⊢;split at h
 case h_2=>cases h
 rename_i l2 i2 off;simp only[EV,ad]at h ⊢;obtain⟨a,h1,h2⟩:=h;refine⟨a,?_,h2⟩;by_cases hh:l2=l∧i2=i
 ·obtain⟨rfl,rfl⟩:=hh;unfold cells? at h1;cases hb:ei σ l2 i2 with
  |some b0=>rw[ou hb]at h1;simp at h1
  |none =>
   have hn:ei (aV σ l2 i2 (.cells (v+1) cs)) l2 i2=none:=by
    unfold ei at hb ⊢;unfold aV;cases hs:gh σ l2 with
    |none=>simp only[hs];rfl
    |some s =>
     simp only[hs,Option.bind_some]at hb;simp only[ti (z6 hs),Option.bind_some];rw[List.getElem?_eq_none_iff]at hb ⊢;simpa using hb
   rw[hn]at h1;cases h1
 ·rwa[zy hh]at h1
theorem aei{O:bN}{dst:Option Nat}{n ag:Bool}{sz m:Nat}{e1:Env}{σ1:SK}(h:ua O ⟨dst,none,n,.RR ag sz (.t m)⟩ e σ=some (e1,σ1)):
  σ1=σ∧∃c,RV σ (get e m).strip=some c∧∀τ,RV τ (get e m).strip=some c→ua O ⟨dst,none,n,.RR ag sz (.t m)⟩ e τ=some (e1,τ):=by
 simp only[ua,vG,bM,bf]at h ⊢;cases hr:RV σ (get e m).strip with
 |none=>rw[hr]at h;cases h
 |some cs =>
  rw[hr]at h;dsimp only at h ⊢;have hs:σ1=σ:=by
   split at h
   ·cases ag with
    |true=>simp at h;exact h.2.symm
    |false=>cases cs<;>simp at h;exact h.2.symm
   ·cases h
  refine⟨hs,cs,rfl,fun τ hτ=>?_⟩;rw[hτ];dsimp only;split at h
  ·rename_i hsz;rw[if_pos hsz];cases ag with
   |true=>simp at h ⊢;exact h.1
   |false =>
    simp only[aw,if_false]at h ⊢;cases cs with
    |nil=>cases h
    |cons d ds=>simp at h ⊢;exact h.1
  ·cases h
theorem Rm{σ σ':SK}{b:aE}{l i:Nat}(h:hJ σ b=some (l,i,σ')){d:D}{cs:List D}(hd:EV σ d=some cs):EV σ' d=some cs:=by
 cases d<;>try exact hd
 rename_i l' i' v off;simp only[EV,ad]at hd ⊢;obtain⟨c,h1,h2⟩:=hd;refine⟨c,?_,h2⟩;unfold cells? at h1 ⊢;have hb:∃b0,ei σ l' i'=some b0:=by
  cases hb:ei σ l' i' with
  |none=>rw[hb]at h1;cases h1
  |some b0=>exact⟨b0,rfl⟩
 obtain⟨b0,hb⟩:=hb;have hne:¬(l'=l∧i'=i):=fun hh=>by
  have:=(j2 h).1;rw[hh.1,hh.2,this]at hb;cases hb
 rw[(j2 h).2.2.1 l' i' hne];exact h1
theorem amE{O:bN}{x y:Op}{e2:Env}{σ2:SK}{r:List Op}(hf:x.adr y=true)
  (h:mm O (x::y::r) e σ=some (e2,σ2)):∃e2',mm O (y::x::r) e σ=some (e2',σ2)∧Fb e2 e2':=by
 unfold Op.adr at hf;split at hf
 case h_2=>cases hf
 rename_i n v sz a X d n' off m;simp only[au]at hf;obtain⟨rfl,hdv,hda,hdX⟩:=hf;rw[j6]at h;simp only[ah,Prod.exists]at h;obtain⟨ex,σx,h1,h2⟩:=h;rw[j6]at h2;simp only[ah,Prod.exists]at h2;obtain⟨ey,σy,h2,h3⟩:=h2;simp only[ua,vG]at h1;cases hin:rM e m a with
 |none=>rw[hin]at h1;cases h1
 |some z =>
 obtain⟨s,cs,o⟩:=z;rw[hin]at h1;cases hX:(bf e X).cells with
 |none=>rw[hX]at h1;cases h1
 |some p =>
 rw[hX]at h1;dsimp only at h1;split at h1
 case isFalse=>cases h1
 rename_i hq;simp only[kP,ae,ak]at h1;obtain⟨rfl,rfl⟩:=h1;have hgv:∃cs',get e m=.own s cs':=by
  unfold rM at hin;cases hg:get e m<;>rw[hg]at hin<;>try (cases hin;done)
  rename_i s' cs';dsimp only at hin;split at hin
  ·cases hin;exact⟨_,rfl⟩
  ·split at hin
   ·split at hin
    ·cases hin;exact⟨_,rfl⟩
    ·cases hin
   ·cases hin
 obtain⟨cs',hgv⟩:=hgv;simp only[ua,vG,bM,get,if_true,aS,ae,ak]at h2;obtain⟨rfl,rfl⟩:=h2;have hne:get ((d,D.vr m s off)::e) m=get e m:=by simp[get,hdv]
 have hna:get ((d,D.vr m s off)::e) a=get e a:=by simp[get,hda]
 have hin':rM ((d,D.vr m s off)::e) m a=some (s,cs,o):=by rw[Be hne hna,hin]
 have hX':bf ((d,D.vr m s off)::e) X=bf e X:=aU fun t ht=>by
  have:d≠t:=fun he=>hdX (he ▸ ht)
  simp[get,this]
 have heq:Fb (put (some d) (D.vr m s off) ((m,.own s (cs.take o++p++cs.drop (o+sz)))::e)) ((m,.own s (cs.take o++p++cs.drop (o+sz)))::(d,D.vr m s off)::e):=by
  intro t;simp only[put,get];by_cases h1:d=t
  ·have:¬m=t:=fun e=>hdv (h1.trans e.symm)
   simp[h1,this]
  ·simp[h1]
 obtain⟨e3,k1,k2⟩:=GC h3 heq;refine⟨e3,?_,k2⟩;rw[j6];simp only[ua,vG,bM,hgv,aS,Option.bind_some];rw[j6];simp only[ua,vG,put,hin',hX',hX,hq,and_self,if_true,kP,Option.bind_some];exact k1
theorem agB{O:bN}{x y:Op}{e2:Env}{σ2:SK}{r:List Op}(hf:x.free y=true)
  (h:mm O (x::y::r) e σ=some (e2,σ2)):∃e2',mm O (y::x::r) e σ=some (e2',σ2)∧Fb e2 e2':=by
 unfold Op.free at hf;rw[bX]at hf;rcases hf with hf | hf
 ·exact amE hf h
 simp only[af,dR]at hf;obtain⟨hc,hf⟩:=hf;simp only[Op.agS,Bool.or_eq_false_iff,List.any_eq_false,List.contains_iff_mem,bX,not_or]at hc;obtain⟨c1,c2⟩:=hc;rw[j6]at h;simp only[ah,Prod.exists]at h;obtain⟨ex,σx,h1,h2⟩:=h;rw[j6]at h2;simp only[ah,Prod.exists]at h2;obtain⟨ey,σy,h2,h3⟩:=h2;obtain⟨lx,d1,hl1⟩:=Dg h1;obtain⟨ly,d2,hl2⟩:=Dg h2;have k1:=hl1 e (Fb.agree (.refl e) _);rw[h1]at k1;cases k1;have k2:=hl2 _ (Fb.agree (.refl _) _);rw[h2]at k2;cases k2;have ay:j3 (y.Ed++y.defs) (lx++e) e:=fun t ht=>by
  rw[F7,if_neg];intro hm;obtain⟨p,hp,rfl⟩:=bK.1 hm;have:=c1 _ (d1 p hp);simp only[bu]at ht;rcases ht with ht | ht
  ·exact this.2 (by simpa using ht)
  ·exact this.1 (by simpa using ht)
 have ax:j3 (x.Ed++x.defs) e (ly++e):=fun t ht=>by
  rw[F7,if_neg];intro hm;obtain⟨p,hp,rfl⟩:=bK.1 hm;have hp':=d2 p hp;simp only[bu]at ht;rcases ht with ht | ht
  ·exact c2 _ ht (by simpa using hp')
  ·exact(c1 _ ht).1 (by simpa using hp')
 have hy0:=hl2 e ay;have hx0:=hl1 (ly++e) ax;obtain⟨σm,hy1,hx1⟩:∃σm,ua O y e σ=some (ly++e,σm)∧ua O x (ly++e) σm=some (lx++(ly++e),σy):=by
  simp only[bX,af]at hf;rcases hf with((⟨hx,hy⟩ | hx) | hy) | hfar
  ·obtain rfl:=Dh h1 hx;obtain rfl:=Dh h2 hy;exact⟨_,hy0,hx0⟩
  ·have e1:=BR h1 hx σ;rw[h1]at e1;cases e1;exact⟨σy,hy0,BR hx0 hx σy⟩
  ·have e2:=BR h2 hy σx;rw[h2]at e2;cases e2;exact⟨σ,BR hy0 hy σ,hx0⟩
  ·unfold Op.far at hfar;obtain⟨dx,gx,nx,kx⟩:=x;obtain⟨dy,gy,ny,ky⟩:=y;simp only[af,Option.isNone_iff_eq_none]at hfar;obtain⟨⟨rfl,rfl⟩,hfar⟩:=hfar;split at hfar
   ·rename_i os sz a X ag sz' m;have hm:m∈os:=by simpa using hfar
    obtain⟨l,i,v,off,b,_,hoff,rfl,_⟩:=D5 h1;obtain⟨rfl,hall⟩:=BQ hy0;exact⟨σ,hall σ (JI (hoff m hm)).symm,hx0⟩
   ·rename_i ag sz' m os sz a X;have hm:m∈os:=by simpa using hfar
    obtain⟨rfl,_⟩:=BQ h1;obtain⟨l,i,v,off,b,_,hoff,rfl,_⟩:=D5 hy0;obtain⟨_,hall⟩:=BQ hx0;refine⟨_,hy0,hall _ ?_⟩;have hg:get (ly++e) m=get e m:=ax m (by simp[Op.Ed,K.tmps,bL.tmps]);rw[hg];exact JI (hoff m hm)
   ·rename_i os sz a X os' sz' m X';have hm:m∈os:=by simpa using hfar
    obtain⟨l,i,v,off,b,_,hoff,rfl,hall⟩:=D5 hx0;obtain⟨l',i',v',off',b',hr,hoff',rfl,hall'⟩:=D5 hy0;have hg:get (ly++e) m=get e m:=ax m (by simp[Op.Ed,K.tmps,hm]);have h4:=hoff m hm;rw[hg]at h4;have h5:get e m=.ref l' i' v' off':=by
     simp only[bf]at hr;cases hgm:get e m<;>rw[hgm]at hr<;>simp only[D.strip,reduceCtorEq]at hr;exact hr
    rw[h5]at h4;simp only[D.off,au]at h4;refine⟨aV σ l' i' b',hall' σ dz.symm (zy h4).symm,?_⟩;rw[LB h4];exact hall _ dz (zy fun hh=>h4 ⟨hh.1.symm,hh.2.symm⟩)
   ·rename_i os wd bt a X ag sz' m;have hm:m∈os:=by simpa using hfar
    obtain⟨l,i,b,bc,hoff,rfl⟩:=Lx h1;obtain⟨rfl,hall⟩:=BQ hy0;exact⟨σ,hall σ (JI (hoff m hm)).symm,hx0⟩
   ·rename_i ag sz' m cs;obtain⟨rfl,_⟩:=BQ h1;obtain⟨_,hall⟩:=BQ hx0;refine⟨_,hy0,hall _ ?_⟩;have hg:get (ly++e) m=get e m:=ax m (by simp[Op.Ed,K.tmps,bL.tmps]);rw[hg];have hrd:∃c,EV σx (get e m).strip=some c:=by
     simp only[ua,vG,bM,bf]at h1;cases hr:EV σx (get e m).strip with
     |none=>rw[hr]at h1;simp at h1
     |some c=>exact⟨c,rfl⟩
    obtain⟨c,hrd⟩:=hrd;have hn:∃l i,hJ σx (.cells 0 cs)=some (l,i,σy):=by
     simp only[ua,vG,bM,kP,aQ,Option.bind_some,ad,ah,Prod.exists,ak]at hy0;obtain⟨d0,σ0,⟨l,i,σ3,h1,h2⟩,_,h3⟩:=hy0;cases h2;cases h3;exact⟨l,i,h1⟩
    obtain⟨l,i,hn⟩:=hn;rw[hrd,Rm hn hrd]
   ·rename_i os wd bt a X ag sz' m;obtain⟨l,i,b,bc,hoff,rfl⟩:=Lx h1;obtain⟨rfl,c,hc,hall⟩:=aei hy0;exact⟨σ,hall σ (agc hc),hx0⟩
   ·cases hfar
 have heq:Fb (ly++(lx++e)) (lx++(ly++e)):=fun t=>by
  simp only[F7];by_cases m1:t∈lx.map (·.1)
  ·by_cases m2:t∈ly.map (·.1)
   ·obtain⟨p,hp,rfl⟩:=bK.1 m1;obtain⟨q,hq,he⟩:=bK.1 m2;have:=(c1 _ (d1 p hp)).1;have hq':=d2 q hq;rw[he]at hq';exact absurd hq' (by simpa using this)
   ·rw[if_pos m1,if_neg m2,if_pos m1]
  ·by_cases m2:t∈ly.map (·.1)
   ·rw[if_neg m1,if_pos m2,if_pos m2]
   ·rw[if_neg m1,if_neg m2,if_neg m2,if_neg m1]
 obtain⟨e3,k3,k4⟩:=GC h3 heq;refine⟨e3,?_,k4⟩;rw[j6,hy1];simp only[Option.bind_some];rw[j6,hx1];exact k3
theorem KZ{O:bN}{y:Op}{r:List Op}:∀{pre:List Op} {e e2:Env} {σ σ2:SK},(∀x∈pre,x.free y=true) →
  mm O (pre++y::r) e σ=some (e2,σ2)→∃e2',mm O (y::(pre++r)) e σ=some (e2',σ2)∧Fb e2 e2'
 |[],e,e2,σ,σ2,hp,h=>⟨e2,h,.refl _⟩
 |x::pre,e,e2,σ,σ2,hp,h=>by
  simp only[fF]at h;rw[j6]at h;simp only[ah,Prod.exists]at h;obtain⟨e1,σ1,h1,h2⟩:=h;obtain⟨e3,h3,h4⟩:=KZ (fun z hz=>hp z (by simp[hz])) h2;have h5:mm O (x::y::(pre++r)) e σ=some (e3,σ2):=by rw[j6,h1];exact h3
  obtain⟨e4,h6,h7⟩:=agB (hp x (by simp)) h5;exact⟨e4,h6,h4.trans h7⟩
theorem JM{live:List Nat}(h:Fb e e'):restrict live e'=restrict live e:=by
 simp only[restrict];exact List.map_congr_left fun t _=>by rw[h t]
end Go.Abs
