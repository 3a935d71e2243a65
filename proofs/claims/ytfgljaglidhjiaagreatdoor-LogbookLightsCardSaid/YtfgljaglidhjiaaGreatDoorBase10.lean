import Derived.Test.YtfgljaglidhjiaaGreatDoorBase9
import Derived.Recover
set_option linter.all false
namespace Go.Abs
open Go
def vY(P:Program)(CR:gC)(f:Nat)(args:List D)(σ:SK)(d:D)(σ':SK):Prop :=
 (∃F c,P.funcs[f]?=some F∧F.name ≠ "runtime.NumGoroutine" ∧ F.body=some c) ∧
 ∀base g w vs,Inv CR base g σ w→rU σ→0<σ.length→bF g args vs.toList →
  gN σ σ'∧Calls P f vs w (fun e w'=>∃v g',e=.returned v∧Ev g w g' w'∧Inv CR base g' σ' w'∧bK g' d v)
def aiS(P:Program)(CR:gC)(f:Nat)(args:List D)(σ:SK)(d:D)(σ':SK):Prop :=
 d.clean=true∧(∃F c,P.funcs[f]?=some F∧F.name ≠ "runtime.NumGoroutine" ∧ F.body=some c) ∧
 ∀base g w vs,Inv CR base g σ w→rU σ→0<σ.length→bF g args vs.toList →
  gN σ σ'∧Calls P f vs w (fun e w'=>∃v g',e=.panicked [{v,recovered:=false }]∧Ev g w g' w'∧Inv CR base g' σ' w'∧bK g' d v)
def Q9(g:G):Option D→FrameMode→Prop
 |none,u=>u=.returning
 |some d,u=>∃v,bK g d v∧u=.panicking [{v,recovered:=false }]
def aiM(P:Program)(CR:gC)(f:Nat)(args:List D)(th:Option D)(σ σ':SK):Prop :=
 (∃F c,P.funcs[f]?=some F∧F.name ≠ "runtime.NumGoroutine" ∧ F.body=some c) ∧
 ∀base g w vs u,Inv CR base g σ w→rU σ→0<σ.length→bF g args vs.toList→Q9 g th u →
  gN σ σ'∧CallsD P f vs u w (fun e u' w'=>∃v g',e=.returned v∧settle u'=.returning∧Ev g w g' w'∧Inv CR base g' σ' w')
def Rn(P:Program)(CR:gC)(l i:Nat)(args:List D)(σ:SK)(d:D)(σ':SK):Prop :=
 (∃lp,ej σ l i=some (.loop lp))∧∀base g w vs b,Inv CR base g σ w→rU σ→0<σ.length→bF g args vs.toList→bK g (.mB l i) (.func (.yield b) #[] #[]) →
  gN σ σ'∧∃f tmps Ay body,(Instr.yield b vs).run P w=.ok (.round b f tmps Ay body) w ∧
   ∀c cs,∃v g' w',Steps P (lone (Frame.round b f tmps Ay body .normal) (c::cs) w) (lone (c.finish v) cs w')∧Ev g w g' w'∧Inv CR base g' σ' w'∧bK g' d v
def A9(k:List Item):Exit→List Item→Prop
 |.normal,t=>t=k
 |.exit id,t=>∃k',t=.code (.exit id)::k'∧exitTo id k'=exitTo id k
 |.ret,t=>∃k',t=.code .ret::k'
 |.fX _,_=>True
def yQ(S:Frame→Prop)(g:G)(b:Frame)(a:Act)(todo:List Item):Exit→Prop
 |.fX d=>d.clean=true∧∃v,bK g d v∧S {b.atR a todo with mode:=.panicking [{v,recovered:=false }] }
 |_=>S (b.atR a todo)
theorem yQ.imp{S S':Frame→Prop}{g:G}{b:Frame}{a:Act}{todo:List Item}{x:Exit}(h:yQ S g b a todo x)(hs:∀fr,S fr→S' fr):yQ S' g b a todo x:=by
 cases x with
 |fX d=>obtain⟨h0,v,h1,h2⟩:=h;exact⟨h0,v,h1,hs _ h2⟩
 |_=>exact hs _ h
def apV(P:Program)(CR:gC)(c:cX)(e:Env)(σ:SK)(x:Exit)(e':Env)(σ':SK):Prop :=
 x ≠ .normal∧∀(ann:bP) bD code n,bZ P ann n bD code=some c→∀base g0 w0 b a k cs g w B,At CR base ann.eB g0 w0 n b g w B e σ a →
  ∃g' w' B' a' todo,yQ (fun fr=>Steps P (lone (b.atR a (.code code::.inLoop code::k)) cs w) (lone fr cs w')) g' b a' todo x ∧
   At CR base ann.eB g0 w0 n b g' w' B' e' σ' a'∧g.le g'∧A9 k x todo∧gN σ σ'
def Wc(P:Program)(ann:bP)(n bD:Nat)(rest:cX):Option Code→Prop
 |none=>rest=.cI
 |some q=>bZ P ann n bD q=some rest
def aiO(P:Program)(CR:gC)(live:List Nat)(it:bM)(nx ok bid:Nat)(c rest:cX)(e:Env)(σ:SK)(x:Exit)(e':Env)(σ':SK):Prop :=
 ∀(ann:bP) bD rid ops p n it0 (qs:Option Code),it=.t it0→Qu ann n (.loop (.seq (.region rid ops false) p))=some (it0,nx,ok)→bZ P ann n bid p=some c→Wc P ann n bD rest qs →
  ∀base g0 w0 b a k cs g w B,At CR base ann.eB g0 w0 n b g w B e σ a →
  ∃g' w' B' a' todo,yQ (fun fr=>Steps P (lone (b.atR a (.code (.seq (.region rid ops false) p)::.inLoop (.seq (.region rid ops false) p)::.inBlock bid::(qs.toList.map Item.code++k))) cs w) (lone fr cs w')) g' b a' todo x ∧
   At CR base ann.eB g0 w0 n b g' w' B' e' σ' a'∧g.le g'∧A9 k x todo∧gN σ σ'
def HT(P:Program)(CR:gC):Q→R→Prop
 |.call _ f args σ,.val d σ'=>vY P CR f args σ d σ'
 |.round l i args σ,.val d σ'=>Rn P CR l i args σ d σ'
 |.loop _ _ c e σ,.Eb x e' σ'=>apV P CR c e σ x e' σ'
 |.call _ f args σ,.fX d σ'=>aiS P CR f args σ d σ'
 |.jJ live it nx ok bid c rest e σ,.Eb x e' σ'=>aiO P CR live it nx ok bid c rest e σ x e' σ'
 |.yh f args th σ,.val _ σ'=>aiM P CR f args th σ σ'
 |_,_=>True
def zz(P:Program)(CR:gC)(O:bQ):Prop:=∀q r,O q=some r→HT P CR q r
theorem HQ{r:Option R}{d:D}{σ:SK}(h:R.bu r=some (d,σ)):r=some (.val d σ):=by
 unfold R.bu at h;split at h
 ·cases h;rfl
 ·cases h
theorem LC{r:Option R}{x:Exit}{e:Env}{σ:SK}(h:R.Ur r=some (x,e,σ)):r=some (.Eb x e σ):=by
 unfold R.Ur at h;split at h
 ·cases h;rfl
 ·cases h
section
variable {P:Program} {CR:gC} {O:bQ} {ann:bP} {n ai:Nat} {ops:Array Oper} {base:Nat} {g0 g:G} {w0 w:World} {b:Frame} {B:Nat→Nat} {e e':Env} {σ σ':SK} {a:Act}
 {k:List Item} {cs:List Frame} {i:Nat} {rest:List Nat}
def NV(P:Program)(CR:gC)(ann:bP)(n:Nat)(ops:Array Oper)(base:Nat)(g0:G)(w0:World)(b:Frame)(g:G)(w:World)(a:Act)(k:List Item)(cs:List Frame)(i:Nat)(rest:List Nat)(σ:SK)(e':Env)(σ':SK):Prop :=
 ∃g' w' B' a',Steps P (lone (b.atR a (.inRegion ops (i::rest)::k)) cs w) (lone (b.atR a' (.inRegion ops rest::k)) cs w') ∧
  At CR base ann.eB g0 w0 n b g' w' B' e' σ' a'∧g.le g'∧gN σ σ'
theorem At.go{V:List Nat}(ha:At CR base V g0 w0 n b g w B e σ a){g':G}{w':World}{B':Nat→Nat}{tm:Act}(he:Ev g w g' w')(hi:Inv CR base g' σ' w')(hg:gN σ σ')
  (hf:Fr w0.heap.size V g' w' B' e' tm.tmps) (hs:tm.tmps.size=a.tmps.size) (hd:tm.defers=a.defers):At CR base V g0 w0 n b g' w' B' e' σ' tm where
 fr:=hf
 ev:=ha.ev.trans he
 inv:=hi
 low:=hg.low ha.low
 pos:=by rw[hg.len];exact ha.pos
 size:=by rw[hs];exact ha.size
 marks:=let ⟨rs,h⟩:=ha.marks;⟨rs,by rw[hd];exact h.ev he⟩
 round:=AW ha.round he.le
theorem CO{dst:Option Nat}{c:Value}:(a.put dst c).tmps.size=a.tmps.size:=by cases dst<;>simp[Act.put]
theorem put_defers{dst:Option Nat}{c:Value}:(a.put dst c).defers=a.defers:=by cases dst<;>simp[Act.put]
theorem OU{ann:bP}{key:Nat}{o:Oper}{kk:K}(h:kC P ann ops key o=some kk):∀c,o.op ≠ .defer c:=by
 intro c hc;unfold kC at h;rw[hc]at h;cases h
theorem AO(ha:At CR base ann.eB g0 w0 n b g w B e σ a){o:Oper}(ho:ops[i]?=some o)(hn:∀t,o.dst=some t→t<n)(hV:∀t,o.dst=some t→t ∉ ann.eB)
  {g':G} {w':World} {d:D} {c:Value} (hsteps:Steps P (lone (b.atR a (.inRegion ops (i::rest)::k)) cs w) (lone (b.atR (a.put o.dst c) (.inRegion ops rest::k)) cs w'))
  (he:Ev g w g' w') (hi:Inv CR base g' σ' w') (hg:gN σ σ') (hr:cK g' B e d c):
  NV P CR ann n ops base g0 w0 b g w a k cs i rest σ (put o.dst d e) σ':=by
 refine⟨g',w',B,a.put o.dst c,hsteps,ha.go he hi hg ?_ CO put_defers,he.le,hg⟩;exact(ha.fr.ev he).put hr hV fun t ht=>by rw[ha.size];exact hn t ht
theorem kB{ρ:Operand→Value}{f:Operand}{args:Array Operand}{ts:Array TypeId}{ty:TypeId}{fn:Go.Fn}{first cap:Array Value}(hf:ρ f=.func fn first cap)(w:World):
  (resolve ρ {callee:=.value f,args,argTypes:=ts } ty).run P w=.ok {target:=.fn fn cap,args:=first++args.map ρ } w:=by
 simp[resolve,Deferred.ofValue,hf]
theorem wV{f:FuncId}{args:Array Value}{F:Func}(h1:P.funcs[f]?=some F)(h2:F.name ≠ "runtime.NumGoroutine"){c:Code}(h3:F.body=some c)(w:World):
  (callFunc f args).run P w=.ok (.enter f args) w:=by
 simp[callFunc,program,Sem.run,h1,h2,h3]
theorem Gt{xs:Array Operand}{Xs:List bM}{fb:Nat}{V:List Nat}{tmps:Array Value}{df:List Deferred}(hf:Fr fb V g w B e tmps)(hx:wD xs.toList=some Xs):
  bF g (Xs.map (Abs.bj e)) (xs.map (Act.mk tmps df).eval).toList:=by
 have:=hf.at7 (df:=df) hx;simpa using this
theorem Rx(hO:zz P CR O)(ha:At CR base ann.eB g0 w0 n b g w B e σ a){o:Oper}(ho:ops[i]?=some o)(hw:Region.wanted o (yielded ops a.tmps)=true)
  (hn:∀t,o.dst=some t→t<n) (hV:∀t,o.dst=some t→t ∉ ann.eB) {f:Operand} {args:Array Operand} {ts:Array TypeId} (hop:o.op=.call {callee:=.value f,args,argTypes:=ts })
  {F:bM} {Xs:List bM} (hF:bH f=some F) (hX:wD args.toList=some Xs) {kp:Bool} {d:D} (h:pn O kp (bj e F) (Xs.map (bj e)) σ=some (d,σ')):
  NV P CR ann n ops base g0 w0 b g w a k cs i rest σ (put o.dst d e) σ':=by
 obtain⟨tmps,df⟩:=a;have hd:∀c,o.op ≠ .defer c:=by intro c hc;rw[hop]at hc;cases hc
 have hfv:=ha.fr.bj (df:=df) hF;have hxs:=Gt (df:=df) ha.fr hX;unfold pn at h;split at h
 ·rename_i fi first cap hfe
  rw[hfe]at hfv;have hans:=hO _ _ (HQ h);obtain⟨⟨Fn,cd,hfn1,hfn2,hfn3⟩,hcall⟩:=hans;generalize hev:(Act.mk tmps df).eval f=fv at hfv;cases hfv with
  |fn _ _ _ first' cap' r1 r2 =>
   have hrun:(execOp (Act.mk tmps df).eval o).run P w=.ok (.enter fi (first'++args.map (Act.mk tmps df).eval++cap')) w:=by
    simp only[execOp,hop,Sem.run_bind,kB hev,Result.andThen_ok,invoke,wV hfn1 hfn2 hfn3]
   have hargs:bF g (first++Xs.map (bj e)++cap) (first'++args.map (Act.mk tmps df).eval++cap').toList:=by
    simpa using(r1.append hxs).append r2
   obtain⟨hgo,hcalls⟩:=hcall base g w _ ha.inv ha.low ha.pos hargs;obtain⟨en,w',fr,⟨v,g',rfl,he,hi,hr⟩,hcomes,hfr,hleave⟩:=hcalls (b.atR ⟨tmps,df⟩ (.inRegion ops (i::rest)::k)::cs);refine AO ha ho hn hV (Steps.head (Kt ho hw hd hrun) (Steps.trans hcomes (Steps.one ?_))) he hi hgo (cK.of hr);rw[step_leave_returned hleave,C7 ho]
 ·rename_i l j hfe;rw[hfe]at hfv;have hans:=hO _ _ (HQ h);generalize hev:(Act.mk tmps df).eval f=fv at hfv;have hfv0:=hfv;cases hfv with
  |Tw _ _ bb r1 =>
   obtain⟨⟨lp,hlp⟩,_⟩:=hans;obtain⟨b0,hb0,hrel⟩:=ha.inv.xU _ _ _ r1;rw[hlp]at hb0;cases hb0;exact hrel.elim
  |itv _ _ bb L r1 r2 =>
   obtain⟨⟨lp,hlp⟩,_⟩:=hans;obtain⟨b0,hb0,hrel⟩:=ha.inv.xU _ _ _ r1;rw[hlp]at hb0;cases hb0;rcases r2 with rfl | rfl<;>exact hrel.elim
  |Um _ _ bb L r1 r2 =>
   obtain⟨⟨lp,hlp⟩,_⟩:=hans;obtain⟨b0,hb0,hrel⟩:=ha.inv.xU _ _ _ r1;rw[hlp]at hb0;cases hb0;rcases r2 with⟨c,rfl⟩ | rfl<;>exact hrel.elim
  |mB _ _ bb r1 =>
   obtain⟨hgo,f0,tm0,Ay,body,hy,hround⟩:=hans.2 base g w (args.map (Act.mk tmps df).eval) bb ha.inv ha.low ha.pos (by simpa using hxs) hfv0;have hrun:(execOp (Act.mk tmps df).eval o).run P w=.ok (.round bb f0 tm0 Ay body) w:=by
    simp only[execOp,hop,Sem.run_bind,kB hev,Result.andThen_ok,invoke];simpa using hy
   obtain⟨v,g',w',hsteps,he,hi,hr⟩:=hround (b.atR ⟨tmps,df⟩ (.inRegion ops (i::rest)::k)) cs;refine AO ha ho hn hV (Steps.head (QR ho hw hd hrun) ?_) he hi hgo (cK.of hr);rw[C7 ho]at hsteps;exact hsteps
 ·cases h
end
section
variable {P:Program} {CR:gC} {O:bQ} {ann:bP} {n ai:Nat} {ops:Array Oper} {base:Nat} {g0 g:G} {w0 w:World} {b:Frame} {B:Nat→Nat} {e e':Env} {σ σ':SK} {a:Act}
 {k:List Item} {cs:List Frame} {i:Nat} {rest:List Nat}
theorem aht(ha:At CR base ann.eB g0 w0 n b g w B e σ a){o:Oper}(ho:ops[i]?=some o)(hw:Region.wanted o (yielded ops a.tmps)=true)(hd:∀c,o.op ≠ .defer c)
  {v:Nat} (hdst:o.dst=some v) (hV:v∈ann.eB) (hn:v<n) {g1:G} {ds:List D} {ca:Array Value} {el:TypeId}
  (hrun:(execOp a.eval o).run P w=.ok (.value (.pointer (some ⟨w.heap.size,0,none⟩))) (w.alloc (.cells ca el)))
  (i1:Inv CR base g1 σ' w) (e1:Ev g w g1 w) (hg:gN σ σ') (hr:bF g1 ds ca.toList) (h1:∀x∈ca.toList,x.oneCell'=true):
  NV P CR ann n ops base g0 w0 b g w a k cs i rest σ ((v,.own (uq e v) ds)::e) σ':=by
 obtain⟨tmps,df⟩:=a;have i2:=i1.alloc (.cells ca el);have e2:=e1.trans (Ev.alloc g1 w (.cells ca el));have hsteps:=xO (P:=P) (b:=b) (a:=⟨tmps,df⟩) (k:=k) (cs:=cs) (rest:=rest) ho hw hd hrun rfl;rw[hdst]at hsteps;have hsz:v<tmps.size:=by have:=ha.size;simp only at this;omega
 refine⟨g1,_,_,_,.one hsteps,ha.go e2 i2 hg ((ha.fr.ev e2).aud hV hsz ⟨ha.ev.size,fun hb=>?_,fun o=>?_,ca,el,sY,hr,h1⟩ fun t s cs' ht=>?_) CO put_defers,e2.le,hg⟩
 ·exact Nat.lt_irrefl _ (i1.agQ hb)
 ·cases hh:g1.rk w.heap.size o with
  |none=>rfl
  |some x=>exact absurd (i1.jG hh) (Nat.lt_irrefl _)
 ·have:=(ha.fr.own t s cs' ht).2.2.lt;omega
theorem au5(ha:At CR base ann.eB g0 w0 n b g w B e σ a){o:Oper}(ho:ops[i]?=some o)(hw:Region.wanted o (yielded ops a.tmps)=true)
  (hn:∀t,o.dst=some t→t<n) (hV:∀t,o.dst=some t→t ∉ ann.eB) {t:TypeId} {x v:Nat} {y:Operand} {Y:bM} (hop:o.op=.store t (.tmp x) y) (hy:bH y=some Y) {sz:Nat} (hsz:dz P t=some sz)
  {s off:Nat} {cv p p':List D} {nb:List (Nat×Nat)} (hin:rR e v x=some (s,cv,off)) (hp:(bj e Y).cells=some p) (hlen:p.length=sz∧off+sz≤cv.length)
  (hnb:kV nb p σ=some (p',σ')) (hdst:o.dst=none):
  NV P CR ann n ops base g0 w0 b g w a k cs i rest σ ((v,.own s (cv.take off++p'++cv.drop (off+sz)))::e) σ':=by
 obtain⟨tmps,df⟩:=a;have hd:∀c,o.op ≠ .defer c:=by intro c hc;rw[hop]at hc;cases hc
 obtain⟨hgv,hpx⟩:=ha.fr.rR hin;obtain⟨hvV,hptr,hob⟩:=ha.fr.own v s cv hgv;obtain⟨ca,el,hheap,hrl,h1c⟩:=hob.bD;obtain⟨hrp,h1p⟩:=(ha.fr.bj (df:=df) hy).cells hp;obtain⟨g1,i1,e1,r1⟩:=xG nb _ _ _ _ g _ hnb ha.inv hrp;obtain⟨_,hp'len,_⟩:=AP nb _ _ _ _ hnb;have hpl:((Act.mk tmps df).eval y).cells.toList.length=sz:=by rw[← r1.length,hp'len];exact hlen.1
 have hpl':((Act.mk tmps df).eval y).cells.size=sz:=by simpa using hpl
 have hcl:ca.size=cv.length:=by have:=hrl.length;simpa using this.symm
 obtain⟨w',c',hrun,hb',hs',hc',hother,hsize,ho1,ho2,ho3⟩:=Gx (P:=P) (t:=t) (w:=w) (b:=B v) (o:=off) (v:=(Act.mk tmps df).eval y) hsz (by simpa using hpl) h1p hheap (by omega);have hob1:=hob.ev e1;have hcv:(Act.mk tmps df).eval (.tmp x)=.pointer (some ⟨B v,off,none⟩):=hpx;have hrunO:(execOp (Act.mk tmps df).eval o).run P w=.ok .skip w':=by
  simp[execOp,hop,Instr.storeAt,hcv,Instr.sureAddr,hrun]
 have hoth:∀b',b'≠B v→w'.heap[b']?=w.heap[b']?:=hother;have i2:Inv CR base g1 σ' w':=i1.IY (fun b' hb'' hk=>hoth b' fun hh=>by
  subst hh;rcases hk with hk | ⟨o2,v2,hk⟩
  ·exact hob1.free hk
  ·rw[hob1.vT]at hk;cases hk) (by omega)
 have hwrite:bF g1 (cv.take off++p'++cv.drop (off+sz)) c'.toList∧∀z∈c'.toList,z.oneCell'=true:=by
  have hrow:=HK (c:=ca) (c':=c') (bo:=0) (off:=off) (vs:=ca.toList) (ps:=((Act.mk tmps df).eval y).cells.toList) (fun j z hz=>⟨by simpa using hz,h1c z (aj hz)⟩) h1p (by simp;omega)
   (by rw[hpl];simpa using hc')
  rw[hpl]at hrow;have hrel:=(((hrl.mono e1.le).take off).append r1).append ((hrl.mono e1.le).drop (off+sz));have heq:c'.toList=ca.toList.take off++((Act.mk tmps df).eval y).cells.toList++ca.toList.drop (off+sz):=by
   have hll:(ca.toList.take off++((Act.mk tmps df).eval y).cells.toList++ca.toList.drop (off+sz)).length=c'.toList.length:=by
    simp only[bB,hpl,lF,List.length_drop,Array.length_toList,hs'];omega
   apply eS;intro j;by_cases hj:j<c'.toList.length
   ·have hj2:=hj;rw[← hll]at hj2;have:=(hrow j _ (aJ hj2)).1;rw[aJ hj2];simpa using this
   ·rw[eO (by omega),eO (by omega)]
  rw[heq];refine⟨hrel,fun z hz=>?_⟩;simp only[bg]at hz;rcases hz with(hz | hz) | hz
  ·exact h1c z (cV hz)
  ·exact h1p z hz
  ·exact h1c z (ea hz)
 have hob2:KC w0.heap.size g1 w' (B v) (cv.take off++p'++cv.drop (off+sz)):=⟨hob1.lo,hob1.free,hob1.vT,c',el,hb',hwrite.1,hwrite.2⟩;have hsteps:=xO (P:=P) (b:=b) (a:=⟨tmps,df⟩) (k:=k) (cs:=cs) (rest:=rest) ho hw hd hrunO rfl;rw[hdst]at hsteps;have hgo:=sW _ _ _ _ _ hnb;refine⟨g1,w',B,⟨tmps,df⟩,.one hsteps,⟨?_,?_,i2,hgo.low ha.low,by rw[hgo.len];exact ha.pos,ha.size,?_,AW ha.round e1.le⟩,e1.le,hgo⟩
 ·exact(ha.fr.ev e1).QJ hgv hob2 fun b' _ hne=>hoth b' hne
 ·have h0:=ha.ev.trans e1;refine⟨h0.le,ho1.trans h0.os,ho2.trans h0.tape,ho3.trans h0.output,by have:=h0.size;omega,fun b' hb'' hnb'=>?_,h0.img,h0.M0⟩;rw[hoth b' (by have:=hob.lo;omega)];exact h0.kept b' hb'' hnb'
 ·obtain⟨rs,hm⟩:=ha.marks;have hm1:=hm.ev e1;refine⟨rs,hm1.eq,hm1.nodup,fun r hr=>?_⟩;have hmr:=hm1.all r hr;refine⟨hmr.lo,hmr.free,hmr.vT,?_⟩;rw[hoth r,hmr.bD];intro hh;subst hh;have:=hmr.bD;rw[hheap]at this;cases this
def KEq(P:Program)(ann:bP)(o:Oper)(kk:K):Prop :=
  match kk with
  |.call _ F Xs=>∃f args ts,o.op=.call {callee:=.value f,args,argTypes:=ts }∧bH f=some F∧wD args.toList=some Xs
  |.eJ _ z=>∃el v,o.op=.alloc el∧rT P el=some z∧o.dst=some v∧v∈ann.eB
  |.Hj X=>∃t x v,o.op=.box t x∧bH x=some X∧o.dst=some v∧v∈ann.eB
  |.IN _ _ sz x Y=>∃t y,o.op=.store t (.tmp x) y∧bH y=some Y∧dz P t=some sz
  |.PC X=>∃y,o.op=.panic y∧bH y=some X
  |.PD=>∃args ts,o.op=.call {callee:=.builtin .recover,args,argTypes:=ts }
  |_=>True
theorem Qo{X Y:bM}{t:TypeId}{bo:BinOp}{kk:K}{o:Oper}(hk:eqC P bo t X Y=some kk):KEq P ann o kk:=by
 unfold eqC at hk;split at hk
 case h_2=>cases hk
 split at hk
 ·cases hk
 split at hk
 ·obtain⟨ag,hag,rfl⟩:=ad.1 hk;trivial
 ·obtain⟨ag,hag,rfl⟩:=ad.1 hk;trivial
 ·cases hk
theorem ag4{kk:K}{key:Nat}{o:Oper}(hk:kC P ann ops key o=some kk):KEq P ann o kk:=by
 unfold kC at hk;split at hk
 ·rename_i x ho;obtain⟨X,hX,rfl⟩:=ad.1 hk;trivial
 ·rename_i x ho;split at hk
  ·rename_i hnil _ _;split at hk
   ·obtain⟨X,hX,rfl⟩:=ad.1 hk;trivial
   ·obtain⟨X,hX,rfl⟩:=ad.1 hk;trivial
  ·obtain⟨X,hX,rfl⟩:=ad.1 hk;trivial
 ·rename_i c x y ho;split at hk
  ·rename_i c' x' y' h1 h2 h3;cases hk;trivial
  ·cases hk
 ·rename_i el ho;split at hk
  ·rename_i z d0 hz hd0;split at hk
   ·split at hk
    case h_2=>cases hk
    split at hk
    case h_2=>cases hk
    split at hk
    case h_2=>cases hk
    cases hk;trivial
   cases hk;split
   ·rename_i hc;exact⟨el,d0,ho,hz,hd0,by simpa using hc⟩
   ·trivial
  ·cases hk
 ·rename_i t x ho;split at hk
  ·rename_i x' d0 hx hd0;cases hk;by_cases hc:ann.eB.contains d0=true
   ·simp only[hc,if_true];exact⟨t,x,d0,ho,hx,hd0,by simpa using hc⟩
   ·rw[if_neg hc];split
    ·split<;>trivial
    ·trivial
  ·cases hk
 ·rename_i t ps ho;split at hk
  ·rename_i fs z ht hz;split at hk
   ·rename_i hall;obtain⟨parts,hp,rfl⟩:=ad.1 hk;trivial
   ·cases hk
  ·rename_i n el z ht hz;split at hk
   ·rename_i wd hw;obtain⟨parts,hp,rfl⟩:=ad.1 hk;trivial
   ·cases hk
  ·cases hk
 ·rename_i t n ps ho;split at hk
  ·rename_i el ht;split at hk
   ·rename_i wd z d0 hw hz _;split at hk
    ·rename_i hc;obtain⟨parts,hp,rfl⟩:=ad.1 hk;dsimp only;split
     ·trivial
     split<;>trivial
    ·cases hk
   ·cases hk
  ·cases hk
 ·rename_i t x ho;split at hk
  ·rename_i ag sz n hag hsz hx;split at hk
   ·rename_i hc;simp only[af,au]at hc;cases hk;have hxe:x=.tmp n:=by
     cases x<;>simp only[bH,ae,bM.t.injEq,reduceCtorEq,ad,and_false,exists_false]at hx;rw[hx]
    split
    ·trivial
    ·split
     ·trivial
     ·split<;>trivial
   ·cases hk
  ·cases hk
 ·rename_i t x y ho;split at hk
  ·rename_i sz n y' hsz hx hy;cases hk;have hxe:x=.tmp n:=by
    cases x<;>simp only[bH,ae,bM.t.injEq,reduceCtorEq,ad,and_false,exists_false]at hx;rw[hx]
   by_cases hc:ann.eB.contains (Ii ops 8 n)=true
   ·simp only[hc,if_true];exact⟨t,y,by rw[ho,hxe],hy,hsz⟩
   ·rw[if_neg hc];split<;>trivial
  ·cases hk
 ·rename_i b t x y u ho;split at hk
  ·rename_i hx hy;cases hk;trivial
  ·rename_i hx hy;exact Qo hk
  ·rename_i hx hy;exact Qo hk
  ·rename_i hx hy;exact Qo hk
  ·rename_i ht hx hy;split at hk<;>cases hk<;>trivial
  ·rename_i ht hx hy;unfold isC at hk;split at hk<;>cases hk<;>trivial
  ·rename_i ht hx hy;split at hk
   ·split at hk<;>cases hk<;>trivial
   ·cases hk
  ·rename_i ht hx hy;unfold isC at hk;split at hk<;>cases hk<;>trivial
  ·rename_i ht hx hy;split at hk<;>cases hk<;>trivial
  ·cases hk
 ·rename_i x ho;obtain⟨X,hX,rfl⟩:=ad.1 hk;trivial
 ·rename_i b t x ho;obtain⟨X,hX,rfl⟩:=ad.1 hk;trivial
 ·rename_i s t x ho;split at hk
  ·rename_i hs ht hx;cases hk;trivial
  ·split at hk<;>cases hk<;>trivial
  ·split at hk<;>cases hk<;>trivial
  ·cases hk
 ·rename_i t x ho;split at hk
  ·obtain⟨X,hX,rfl⟩:=ad.1 hk;trivial
  ·cases hk
 ·rename_i f xs ys ho;split at hk
  ·rename_i hx hy;cases hk;trivial
  ·cases hk
 ·rename_i t x y ho;split at hk
  ·rename_i el ht;split at hk
   ·rename_i hw hb hz hx hy;split at hk
    ·rename_i hc;cases hk;trivial
    ·cases hk
   ·cases hk
  ·cases hk
 ·rename_i t x lo hh mx ho;split at hk
  ·rename_i ht hx hlo hhi hmx;obtain⟨wd,hw,rfl⟩:=ad.1 hk;trivial
  ·rename_i ht hx hlo hhi hmx;obtain⟨wd,hw,rfl⟩:=ad.1 hk;have hm:mx=none:=by
    cases mx with
    |none=>rfl
    |some m=>simp[xJ,ad]at hmx
   subst hm;trivial
  ·rename_i ht hx hlo hhi hmx;cases hk;trivial
  ·cases hk
 ·rename_i s x i ho;split at hk
  ·rename_i fs x' hs hx;split at hk
   ·rename_i off sz hfc;split at hk
    ·rename_i hpos;cases hk;trivial
    ·cases hk
   ·cases hk
  ·cases hk
 ·rename_i s x i ho;split at hk
  ·rename_i fs x' hs hx;split at hk
   ·rename_i f hfi;split at hk
    ·rename_i hag hsz;split at hk
     ·cases hk;trivial
     ·cases hk
    ·cases hk
   ·cases hk
  ·cases hk
 ·rename_i t x y ho;split at hk
  ·rename_i ht hx hy;obtain⟨wd,hw,rfl⟩:=ad.1 hk;trivial
  ·rename_i ht hx hy;obtain⟨wd,hw,rfl⟩:=ad.1 hk;trivial
  ·cases hk
 ·rename_i t x y ho;split at hk
  ·rename_i ht hx hy;split at hk
   ·rename_i hag hsz;split at hk
    ·cases hk;trivial
    ·cases hk
   ·cases hk
  ·rename_i ht hx hy;cases hk;trivial
  ·cases hk
 ·rename_i x i ho;obtain⟨X,hX,rfl⟩:=ad.1 hk;trivial
 ·rename_i c ho;obtain⟨callee,args,ts⟩:=c;dsimp only at hk;split at hk
  ·rename_i f;split at hk
   ·rename_i hf hx;cases hk;exact⟨f,args,ts,ho,hf,hx⟩
   ·cases hk
  ·split at hk
   ·rename_i t tr x r hts ha;split at hk
    ·rename_i ht hx;cases hk;trivial
    ·rename_i ht hx;cases hk;trivial
    ·rename_i ht hx;cases hk;trivial
    ·rename_i ht;cases hk;trivial
    ·rename_i ht;split at hk
     ·rename_i hr;cases hk;trivial
     ·cases hk
    ·cases hk
   ·cases hk
  ·cases hk;exact⟨_,_,ho⟩
  ·split at hk
   ·rename_i ha;split at hk
    ·rename_i hx hy;cases hk;trivial
    ·cases hk
   ·cases hk
  ·split at hk
   ·rename_i ha;split at hk
    ·rename_i hx hy;cases hk;trivial
    ·cases hk
   ·cases hk
  ·split at hk
   ·rename_i t u x y hts ha;split at hk
    ·rename_i ht hu hx hy;split at hk
     case isFalse=>cases hk
     split at hk
     ·rename_i hw hb hz;split at hk
      ·rename_i hc;cases hk;split
       ·trivial
       ·split
        ·trivial
        ·split
         ·trivial
         ·split<;>trivial
      ·cases hk
     ·cases hk
    ·cases hk
   ·cases hk
  ·cases hk
 ·rename_i t x ho;split at hk
  ·obtain⟨X,hX,rfl⟩:=ad.1 hk;trivial
  ·cases hk
 ·rename_i x xt t ok ho;split at hk
  ·cases hk
  ·split at hk
   ·obtain⟨z,hz,rfl⟩:=ad.1 hk;trivial
   ·cases hk;trivial
  ·cases hk
 ·rename_i x ho;obtain⟨X,hX,rfl⟩:=ad.1 hk;exact⟨x,ho,hX⟩
 ·rename_i t ho;cases hk;trivial
 ·split at hk<;>cases hk<;>trivial
 ·rename_i t x ho;split at hk
  ·rename_i ht hx;cases hk;trivial
  ·cases hk
 ·rename_i x ho;split at hk
  ·rename_i hx;cases hk;trivial
  ·cases hk
 ·rename_i t x y ok ho;split at hk
  ·split at hk
   ·cases hk;trivial
   ·cases hk
  ·cases hk
 ·rename_i t m x y ho;split at hk
  ·split at hk
   ·cases hk;trivial
   ·cases hk
  ·cases hk
 ·rename_i t m x y ho;split at hk
  ·split at hk
   ·cases hk;trivial
   ·cases hk
  ·cases hk
 ·cases hk
theorem Vc{kk:K}(h:kk.makes=true):bN e σ kk=none:=by
 cases kk<;>simp[K.makes]at h<;>rfl
theorem Wj(hO:zz P CR O)(ha:At CR base ann.eB g0 w0 n b g w B e σ a){o:Oper}(ho:ops[i]?=some o)(hw:Region.wanted o (yielded ops a.tmps)=true)
  {Bg:Bool} {op:Op} (hop:U1 P ann n ai ops Bg i o=some op) (h:wc O op e σ=some (e',σ')):
  NV P CR ann n ops base g0 w0 b g w a k cs i rest σ e' σ':=by
 unfold U1 at hop;split at hop
 case h_2=>cases hop
 rename_i kk hk;split at hop
 case h_2=>cases hop
 rename_i gd hgd hdn;simp only[aC,af]at hop;obtain⟨⟨hown,hst⟩,hop⟩:=hop;cases hop;have hn:∀t,o.dst=some t→t<n:=by
  intro t ht;rw[ht]at hdn;simpa using hdn
 have hV:kk.makes=false→∀t,o.dst=some t→t ∉ ann.eB:=by
  intro hm t ht;rw[ht]at hown;simp[hm]at hown;simpa using hown
 have hd:=OU hk;have hkeq:=ag4 hk;unfold wc at h;dsimp only at h;split at h
 ·
  rename_i kp F Xs;split at h
  case h_2=>cases h
  rename_i d σ1 hc;split at h
  case isFalse=>cases h
  cases h;obtain⟨f,args,ts,h1,h2,h3⟩:=hkeq;exact Rx hO ha ho hw hn (hV rfl) h1 h2 h3 hc
 ·
  rename_i nb z;obtain⟨el,v,h1,h2,h3,h4⟩:=hkeq;rw[h3]at h;cases hnb:kV nb z σ with
  |none=>simp[hnb]at h
  |some x =>
   obtain⟨cs',σ1⟩:=x;simp only[hnb,ae,an]at h;obtain⟨rfl,rfl⟩:=h;obtain⟨i0,vz,hinfo,hzero,hrz,h1z⟩:=tn g h2;obtain⟨g1,i1,e1,r1⟩:=xG nb _ _ _ _ g _ hnb ha.inv hrz;exact aht (el:=el) ha ho hw hd h3 h4 (hn _ h3) (by simp[execOp,h1,HL hinfo hzero]) i1 e1 (sW _ _ _ _ _ hnb) r1 h1z
 ·
  rename_i X;obtain⟨t,x,v,h1,h2,h3,h4⟩:=hkeq;rw[h3]at h;cases hcx:(bj e X).cells with
  |none=>simp[hcx]at h
  |some cs' =>
   simp only[hcx,ae,an]at h;obtain⟨rfl,rfl⟩:=h;obtain⟨tmps,df⟩:=a;obtain⟨hr,h1z⟩:=(ha.fr.bj (df:=df) h2).cells hcx;exact aht (el:=t) ha ho hw hd h3 h4 (hn _ h3) (by simp[execOp,h1,Instr.box,newVar,newRow]) ha.inv (Ev.refl g w) (.refl σ) hr h1z
 ·
  rename_i v nb sz x X;obtain⟨t,y,h1,h2,h3⟩:=hkeq;have hdst:o.dst=none:=by simpa[K.azh]using hst
  split at h
  case h_2=>cases h
  rename_i s cv off p hin hp;split at h
  case isFalse=>cases h
  rename_i hlen;split at h
  case h_2=>cases h
  rename_i p' σ1 hnb;cases h;exact au5 ha ho hw hn (hV rfl) h1 h2 h3 hin hp hlen hnb hdst
 ·
  rename_i k1 h1 h2 h3 h4;cases hs:bN e σ kk with
  |none=>simp[hs]at h
  |some x =>
   obtain⟨d,σ1⟩:=x;simp only[hs,aU,ae,an]at h;obtain⟨rfl,rfl⟩:=h;have hm:kk.makes=false:=by
    cases hm:kk.makes
    ·rfl
    ·rw[Vc hm]at hs;cases hs
   obtain⟨tmps,df⟩:=a;obtain⟨x,c,g',w',hrun,hx,he,hi,hr⟩:=auY (df:=df) ha.fr ha.inv hk hs;exact AO ha ho hn (hV hm) (.one (xO ho hw hd hrun hx)) he hi (ahN hs) hr
inductive wG {α β:Type} (R:α→β→Prop):List α→List β→Prop
 |nil:wG R [] []
 |cons {x:α} {y:β} {xs:List α} {ys:List β}:R x y→wG R xs ys→wG R (x::xs) (y::ys)
def Ji(P:Program)(ann:bP)(n ai:Nat)(ops:Array Oper)(i:Nat)(x:Op):Prop:=∃o Bg,ops[i]?=some o∧U1 P ann n ai ops Bg i o=some x
theorem M7{Bg:Bool}{o:Oper}{op:Op}(h:U1 P ann n ai ops Bg i o=some op):
  op.dst=o.dst∧(∀t,o.dst=some t→t<n)∧((o.guard=none∧op.E8=none)∨∃j d bb,o.guard=some (j,bb)∧op.E8=some (d,bb)∧(ops[j]?).bind (·.dst)=some d∧(∀t,o.dst=some t→t ∉ ann.eB)):=by
 unfold U1 at h;split at h
 case h_2=>cases h
 rename_i kk hk;split at h
 case h_2=>cases h
 rename_i gd hgd hdn;simp only[aC,af]at h;obtain⟨⟨hown,hst⟩,h⟩:=h;cases h;refine⟨rfl,fun t ht=>by rw[ht]at hdn;simpa using hdn,?_⟩;cases hg:o.guard with
 |none=>rw[hg]at hgd;cases hgd;exact .inl ⟨rfl,rfl⟩
 |some x =>
  obtain⟨j,bb⟩:=x;rw[hg]at hgd;dsimp only at hgd;cases hj:(ops[j]?).bind (·.dst)with
  |none=>rw[hj]at hgd;cases hgd
  |some d =>
   rw[hj]at hgd;cases hgd;refine .inr ⟨j,d,bb,rfl,rfl,hj,fun t ht=>?_⟩;rw[ht,hg]at hown;simpa using hown
theorem Dd(hO:zz P CR O){tl:List Nat}:∀(is:List Nat) (xs:List Op) (e:Env) (σ:SK) (g:G) (w:World) (B:Nat→Nat) (a:Act),wG (Ji P ann n ai ops) is xs →
  mz O xs e σ=some (e',σ')→At CR base ann.eB g0 w0 n b g w B e σ a →
  ∃g' w' B' a',Steps P (lone (b.atR a (.inRegion ops (is++tl)::k)) cs w) (lone (b.atR a' (.inRegion ops tl::k)) cs w')∧At CR base ann.eB g0 w0 n b g' w' B' e' σ' a'∧g.le g'∧gN σ σ'
 |[],xs,e,σ,g,w,B,a,hF,h,ha=>by
  cases hF;simp only[mz,ae,an]at h;obtain⟨rfl,rfl⟩:=h;exact⟨g,w,B,a,.refl _ _,ha,g.le_refl,.refl σ⟩
 |i::is,xs,e,σ,g,w,B,a,hF,h,ha=>by
  cases hF with
  |cons hx hF =>
   rename_i x xs;obtain⟨o,Bg,ho,hop⟩:=hx;obtain⟨hdst,hn,hgrd⟩:=M7 hop;simp only[mz]at h;have hgo:∀{e1 σ1 g1 w1 B1 a1},Steps P (lone (b.atR a (.inRegion ops (i::is++tl)::k)) cs w) (lone (b.atR a1 (.inRegion ops (is++tl)::k)) cs w1) →
     At CR base ann.eB g0 w0 n b g1 w1 B1 e1 σ1 a1→g.le g1→gN σ σ1→mz O xs e1 σ1=some (e',σ') →
     ∃g' w' B' a',Steps P (lone (b.atR a (.inRegion ops (i::is++tl)::k)) cs w) (lone (b.atR a' (.inRegion ops tl::k)) cs w')∧At CR base ann.eB g0 w0 n b g' w' B' e' σ' a'∧g.le g'∧gN σ σ':=by
    intro e1 σ1 g1 w1 B1 a1 h1 h2 h3 h4 h5;obtain⟨g2,w2,B2,a2,k1,k2,k3,k4⟩:=Dd hO is xs _ _ _ _ _ _ hF h5 h2;exact⟨g2,w2,B2,a2,h1.trans k1,k2,h3.trans' k3,h4.trans k4⟩
   rcases hgrd with⟨hg1,hg2⟩ | ⟨j,d,bb,hg1,hg2,hj,hV⟩
   ·rw[hg2]at h;simp only[ah,Prod.exists]at h;obtain⟨e1,σ1,h1,h2⟩:=h;obtain⟨g1,w1,B1,a1,k1,k2,k3,k4⟩:=Wj (k:=k) (cs:=cs) (rest:=is++tl) hO ha ho (by simp[Region.wanted,hg1]) hop h1;exact hgo k1 k2 k3 k4 h2
   ·rw[hg2]at h;dsimp only at h;split at h
    case h_2=>cases h
    rename_i bv hbv;have hy:yielded ops a.tmps j=bv:=by
     have hrel:=ha.fr.rel d;unfold yielded;rw[hj];simp only[Option.bind_some];cases hg:get e d with
     |bool b =>
      rw[hg]at hrel hbv;have hrel':bK g (.bool b) (a.tmps.getD d Go.undef):=hrel;have hval:=hrel'.pk;simp only[D.bit,ae]at hbv;subst hbv;rw[cj]at hval;cases hd:a.tmps[d]? with
      |none=>rw[hd]at hval;simp[Go.undef]at hval
      |some y=>rw[hd]at hval;simp at hval;subst hval;rfl
     |dM ds =>
      cases ds with
      |nil =>
       rw[hg]at hrel hbv;have hrel':bK g (.dM []) (a.tmps.getD d Go.undef):=hrel;have hval:a.tmps.getD d Go.undef=.tuple #[]:=by
        generalize a.tmps.getD d Go.undef=z at hrel';cases hrel' with | dM _ cs hl =>
         cases cs with | mk cs=>cases cs with
          |nil=>rfl
          |cons c cs=>cases hl
       simp only[D.bit,ae]at hbv;subst hbv;rw[cj]at hval;cases hd:a.tmps[d]? with
       |none=>rfl
       |some y=>rw[hd]at hval;simp at hval;subst hval;rfl
      |cons x xs=>rw[hg]at hbv;simp[D.bit]at hbv
     |_=>rw[hg]at hbv;simp[D.bit]at hbv
    split at h
    ·rename_i hb;simp only[ah,Prod.exists]at h;obtain⟨e1,σ1,h1,h2⟩:=h;obtain⟨g1,w1,B1,a1,k1,k2,k3,k4⟩:=Wj (k:=k) (cs:=cs) (rest:=is++tl) hO ha ho (by simp[Region.wanted,hg1,hy,hb]) hop h1;exact hgo k1 k2 k3 k4 h2
    ·rename_i hb;have hstep:=stepR_op_skip (P:=P) (b:=b) (a:=a) (k:=k) (cs:=cs) (w:=w) (ops:=ops) (i:=i) (rest:=is++tl) (by simp[ho,Region.wanted,hg1,hy,hb]);rw[show(ops[i]?).bind (·.dst)=o.dst from by rw[ho];rfl]at hstep;obtain⟨g1,w1,B1,a1,k1,k2,k3,k4⟩:=AO (d:=.dM []) ha ho hn hV (.one hstep) (Ev.refl g w) ha.inv (.refl σ) (cK.of (.dM [] #[] .nil));rw[hdst]at h;exact hgo k1 k2 k3 k4 h
theorem Qz(hO:zz P CR O)(is:List Nat)(xs:List Op)(e:Env)(σ:SK)(g:G)(w:World)(B:Nat→Nat)(a:Act)(hF:wG (Ji P ann n ai ops) is xs)
  (h:mz O xs e σ=some (e',σ')) (ha:At CR base ann.eB g0 w0 n b g w B e σ a):
  ∃g' w' B' a',Steps P (lone (b.atR a (.inRegion ops is::k)) cs w) (lone (b.atR a' (.inRegion ops []::k)) cs w')∧At CR base ann.eB g0 w0 n b g' w' B' e' σ' a'∧g.le g'∧gN σ σ':=by
 have:=Dd (k:=k) (cs:=cs) (tl:=[]) hO is xs e σ g w B a hF h ha;simpa using this
theorem Up{O:bQ}{fv:D}{args:List D}{r:R}(h:Ba O fv args σ=some r):∃f first cap,fv=.fn f first cap∧O (.call false f (first++args++cap) σ)=some r:=by
 unfold Ba at h;split at h
 ·exact⟨_,_,_,rfl,h⟩
 ·cases h
theorem aoZ{Bg:Bool}{o:Oper}{op:Op}(h:U1 P ann n ai ops Bg i o=some op):kC P ann ops (ai*1000+i) o=some op.k∧(op.k.makes=false→∀t,o.dst=some t→t ∉ ann.eB):=by
 unfold U1 at h;split at h
 case h_2=>cases h
 rename_i kk hk;split at h
 case h_2=>cases h
 simp only[aC,af]at h;obtain⟨⟨hown,hst⟩,h⟩:=h;cases h;refine⟨hk,fun hm t ht=>?_⟩;dsimp only at hm;rw[ht]at hown;simp[hm]at hown;simpa using hown
theorem QQ{o:Oper}{v:Value}{w':World}{is:List Nat}(ho:ops[i]?=some o)(hw:Region.wanted o (yielded ops a.tmps)=true)(hd:∀c,o.op ≠ .defer c)
  (hr:(execOp a.eval o).run P w=.halt (.panic v) w'):
  step P (lone (b.atR a (.inRegion ops (i::is)::k)) cs w)=.next (lone {b.atR a (.inRegion ops (i::is)::k)with mode:=.panicking [{v,recovered:=false }] } cs w'):=by
 have hg:=stepGR_op (P:=P) (b:=b) (k:=k) (cs:=cs) (w:=w) (rest:=is) ho hw;rw[Oper.semAt_eq _ _ _ hd]at hg;exact step_lone_go (by rw[hg,← Frame.raise_atR];simp[stepG.apply,hr])
end
def j8(ts:List Nat)(e e':Env):Prop:=∀t∈ts,get e' t=get e t
theorem j8.mono{ts us:List Nat}{e e':Env}(h:j8 us e e')(hs:∀t∈ts,t∈us):j8 ts e e':=fun t ht=>h t (hs t ht)
theorem j8.app{ts us:List Nat}{e e':Env}:j8 (ts++us) e e'↔j8 ts e e'∧j8 us e e' :=
 ⟨fun h=>⟨fun t ht=>h t (by simp[ht]),fun t ht=>h t (by simp[ht])⟩,fun h t ht=>(bg.1 ht).elim (h.1 t) (h.2 t)⟩
theorem j8.cons{t:Nat}{us:List Nat}{e e':Env}:j8 (t::us) e e'↔get e' t=get e t∧j8 us e e' :=
 ⟨fun h=>⟨h t (by simp),fun u hu=>h u (by simp[hu])⟩,fun h u hu=>(bf.1 hu).elim (fun x=>x ▸ h.1) (h.2 u)⟩
variable {e e':Env} {σ σ':SK}
theorem aV{x:bM}(h:j8 x.tmps e e'):bj e' x=bj e x:=by
 cases x with
 |t n=>simp only[bj];rw[h n (by simp[bM.tmps])]
 |c d=>rfl
theorem vf{xs:List bM}(h:j8 (xs.flatMap bM.tmps) e e'):xs.map (bj e')=xs.map (bj e):=by
 induction xs with
 |nil=>rfl
 |cons x xs ih =>
  simp only[aZ,j8.app]at h;simp only[aQ,aV h.1,ih h.2]
theorem yw:∀{ps:List (Nat×Nat×bM)} {cs:List D},j8 (ps.flatMap fun p=>p.2.2.tmps) e e'→rQ e' ps cs=rQ e ps cs
 |[],cs,h=>rfl
 |(off,sz,x)::ps,cs,h=>by
  simp only[aZ,j8.app]at h;simp only[rQ,aV h.1];split
  ·split
   ·exact yw h.2
   ·rfl
  ·rfl
theorem Hh{m:Nat}{dfl:Option Nat}{x:Option bM}(h:j8 ((x.map bM.tmps).getD []) e e'):C4 e' m dfl x=C4 e m dfl x:=by
 cases x with
 |none=>rfl
 |some x=>simp only[C4];rw[aV (by simpa using h)]
theorem F4{n:Nat}{lo hi mx:Option bM}(h1:j8 ((lo.map bM.tmps).getD []) e e')(h2:j8 ((hi.map bM.tmps).getD []) e e')(h3:j8 ((mx.map bM.tmps).getD []) e e'):
  bounds n e' lo hi mx=bounds n e lo hi mx:=by
 simp only[bounds,Hh h1,Hh h2,Hh h3]
theorem CD{v a:Nat}(h1:get e' v=get e v)(h2:get e' a=get e a):rR e' v a=rR e v a:=by
 simp only[rR,h1,h2]
theorem Vb{k:K}(h:j8 k.tmps e e'):bN e' σ k=bN e σ k:=by
 cases k<;>simp only[K.tmps,j8.app,j8.cons]at h
 case mv x=>simp only[bN,aV h]
 case pB=>rfl
 case pick c a b=>simp only[bN,aV h.1.1,aV h.1.2,aV h.2]
 case K5=>rfl
 case mki=>simp only[bN,aV h]
 case tas=>simp only[bN,aV h]
 case isi=>simp only[bN,aV h]
 case PC=>rfl
 case PD=>rfl
 case eJ=>rfl
 case K6 x=>simp only[bN,aV h]
 case K7 x=>simp only[bN,aV h]
 case bxn nb x=>simp only[bN,aV h]
 case Hj=>rfl
 case lK=>simp only[bN,yw h]
 case uH=>simp only[bN,yw h]
 case Oa=>simp only[bN,yw h]
 case ld=>simp only[bN,aV h]
 case Vp=>simp only[bN,aV h]
 case Vo=>simp only[bN,aV h]
 case Vn=>simp only[bN,aV h]
 case mA=>simp only[bN,aV h]
 case st=>simp only[bN,aV h.1,aV h.2]
 case QP os sz a x =>
  have hall:∀l i,(os.all fun t=>D.off l i (get e' t))=os.all fun t=>D.off l i (get e t):=by
   intro l i;have h2:=h.2;clear h;induction os with
   |nil=>rfl
   |cons o os ih=>simp only[jL,h2 o (by simp),ih (h2.mono fun t ht=>by simp[ht])]
  simp only[bN,aV h.1.1,aV h.1.2,hall]
 case Vq=>simp only[bN,CD h.1 h.2.1]
 case IN=>rfl
 case bin=>simp only[bN,aV h.1,aV h.2]
 case eqv=>simp only[bN,aV h.1,aV h.2]
 case un=>simp only[bN,aV h]
 case Oj=>simp only[bN,aV h]
 case yF=>simp only[bN,vf h.1,vf h.2]
 case mks=>simp only[bN,aV h.1,aV h.2]
 case Md=>simp only[bN,aV h.1.1.1,F4 h.1.1.2 h.1.2 h.2]
 case QL=>simp only[bN,aV h.1.1,F4 (mx:=none) h.1.2 h.2 (fun t ht=>by simp at ht)]
 case K9 off x =>
  cases x with
  |t n=>simp only[bN,h n (by simp[bM.tmps])]
  |c d=>rfl
 case fld=>simp only[bN,aV h]
 case BM len w x i =>
  cases x with
  |t n =>
   have h1:=h.1 n (by simp[bM.tmps]);simp only[bN,aV h.2];cases Gi (bj e i)<;>simp only[h1]
  |c d=>simp only[bN]
 case fh=>simp only[bN,aV h.1,aV h.2]
 case MZ=>simp only[bN,aV h.1,aV h.2]
 case Ld=>simp only[bN,aV h]
 case Qp=>rfl
 case mn=>simp only[bN,aV h.1,aV h.2]
 case mx=>simp only[bN,aV h.1,aV h.2]
 case app=>simp only[bN,aV h.1,aV h.2]
 case Uj os w b s x =>
  have hall:∀l i,(os.all fun t=>D.off l i (get e' t))=os.all fun t=>D.off l i (get e t):=by
   intro l i;have h2:=h.2;clear h;induction os with
   |nil=>rfl
   |cons o os ih=>simp only[jL,h2 o (by simp),ih (h2.mono fun t ht=>by simp[ht])]
  simp only[bN,MI,aV h.1.1,aV h.1.2,hall]
 case apz=>simp only[bN,MI,aV h.1,aV h.2]
 case cpi=>simp only[bN,aV h]
 case bse=>rfl
 case ape w b v x=>simp only[bN,h.1,aV h.2]
 case ext=>simp only[bN,aV h]
 case rl=>simp only[bN,vf h]
 case mp=>simp only[bN,vf h]
 case me=>simp only[bN,vf h]
 case call=>rfl
noncomputable def uk(O:bQ)(op:Op)(e:Env)(σ:SK):Option (Env×SK) :=
 match op.E8 with
 |none=>wc O op e σ
 |some (g,want) =>
  match(get e g).bit with
  |some y=>if y=some want then wc O op e σ else some (put op.dst (.dM []) e,σ)
  |none=>none
theorem kb{O:bQ}{op:Op}{r:List Op}:mz O (op::r) e σ=(uk O op e σ).bind fun x=>mz O r x.1 x.2:=by
 simp only[mz,uk];cases op.E8 with
 |none=>rfl
 |some x =>
  obtain⟨g,want⟩:=x;dsimp only;cases(get e g).bit<;>try rfl
  dsimp only;split<;>rfl
theorem Nc{dst:Option Nat}{d:D}:put dst d e=(dst.toList.map fun t=>(t,d))++e:=by
 cases dst<;>rfl
theorem Lx{O:bQ}{op:Op}{e1:Env}{σ1:SK}(h:wc O op e σ=some (e1,σ1)):
  ∃l:List (Nat×D),(∀p∈l,p.1∈op.defs)∧∀e',j8 (op.GD++op.defs) e e'→wc O op e' σ=some (l++e',σ1):=by
 obtain⟨dst,E8,Bg,k⟩:=op;have hk:∀e',j8 (Op.GD ⟨dst,E8,Bg,k⟩++Op.defs ⟨dst,E8,Bg,k⟩) e e'→j8 k.tmps e e':=fun e' ha=>ha.mono fun t ht=>by simp[Op.GD,ht]
 have hdst:∀d:D,∀p∈dst.toList.map (fun t=>(t,d)),p.1∈Op.defs ⟨dst,E8,Bg,k⟩:=by
  intro d p hp;simp only[bW]at hp;obtain⟨t,ht,rfl⟩:=hp;simp only[Op.defs,bg];exact .inl ht
 have hplain:(∀e0,wc O ⟨dst,E8,Bg,k⟩ e0 σ=(bN e0 σ k).map fun x=>(put dst x.1 e0,x.2)) →
   ∃l:List (Nat×D),(∀p∈l,p.1∈Op.defs ⟨dst,E8,Bg,k⟩)∧∀e',j8 (Op.GD ⟨dst,E8,Bg,k⟩++Op.defs ⟨dst,E8,Bg,k⟩) e e'→wc O ⟨dst,E8,Bg,k⟩ e' σ=some (l++e',σ1):=by
  intro hall;rw[hall]at h;simp only[ad,Prod.exists,an]at h;obtain⟨d,σ2,hs,rfl,rfl⟩:=h;refine⟨dst.toList.map fun t=>(t,d),hdst d,fun e' ha=>?_⟩;rw[hall,Vb (hk e' ha),hs];simp only[aU,Nc]
 cases k
 case call kp f args =>
  simp only[wc]at h ⊢;split at h
  case h_2=>cases h
  rename_i d σ2 hc;split at h
  case isFalse=>cases h
  rename_i hn;cases h;refine⟨dst.toList.map fun t=>(t,d),hdst d,fun e' ha=>?_⟩;have h1:=hk e' ha;simp only[K.tmps,j8.app]at h1;rw[aV h1.1,vf h1.2,hc];simp only[if_pos hn,Nc]
 case eJ nb cs =>
  simp only[wc]at h ⊢;split at h
  case h_2=>cases h
  rename_i v cs' σ2 hnb;cases h;refine⟨[(v,.own (uq e v) cs')],by simp[Op.defs],fun e' ha=>?_⟩;rw[show uq e' v=uq e v from by simp only[uq];rw[ha v (by simp[Op.defs])]];rfl
 case Hj x =>
  simp only[wc]at h ⊢;split at h
  case h_2=>cases h
  rename_i v cs' hc;cases h;refine⟨[(v,.own (uq e v) cs')],by simp[Op.defs],fun e' ha=>?_⟩;have h1:=hk e' ha;simp only[K.tmps]at h1;rw[aV h1,hc];simp only[show uq e' v=uq e v from by simp only[uq];rw[ha v (by simp[Op.defs])]];rfl
 case IN v nb sz a x =>
  simp only[wc]at h ⊢;split at h
  case h_2=>cases h
  rename_i s cs off p hin hp;split at h
  case isFalse=>cases h
  rename_i hc;split at h
  case h_2=>cases h
  rename_i p' σ2 hnb;cases h;refine⟨[(v,.own s (cs.take off++p'++cs.drop (off+sz)))],by simp[Op.defs],fun e' ha=>?_⟩;have h1:=hk e' ha;simp only[K.tmps,j8.app,j8.cons]at h1;rw[CD h1.1.1 h1.1.2.1,aV h1.2,hin,hp];simp only[if_pos hc,hnb];rfl
 all_goals exact hplain fun e0=>rfl
theorem Fi{O:bQ}{op:Op}{e1:Env}{σ1:SK}(h:uk O op e σ=some (e1,σ1)):
  ∃l:List (Nat×D),(∀p∈l,p.1∈op.defs)∧∀e',j8 (op.GD++op.defs) e e'→uk O op e' σ=some (l++e',σ1):=by
 unfold uk at h ⊢;cases hg:op.E8 with
 |none=>rw[hg]at h;simp only at h ⊢;exact Lx h
 |some x =>
  obtain⟨t,want⟩:=x;rw[hg]at h;simp only at h ⊢;split at h
  case h_2=>cases h
  rename_i b hb;have hgt:∀e',j8 (op.GD++op.defs) e e'→(get e' t).bit=some b:=fun e' ha=>by rw[ha t (by simp[Op.GD,hg]),hb]
  split at h
  ·rename_i hw;obtain⟨l,h1,h2⟩:=Lx h;refine⟨l,h1,fun e' ha=>?_⟩;rw[hgt e' ha];simp only[if_pos hw];exact h2 e' ha
  ·rename_i hw;cases h;refine⟨op.dst.toList.map fun t=>(t,.dM []),fun p hp=>?_,fun e' ha=>?_⟩
   ·simp only[bW]at hp;obtain⟨t,ht,rfl⟩:=hp;simp only[Op.defs,bg];exact .inl ht
   ·rw[hgt e' ha];simp only[if_neg hw,Nc]
theorem LZ{cs cs':List D}(h:kV [] cs σ=some (cs',σ')):σ'=σ:=by
 simp only[kV,ae,an]at h;exact h.2.symm
theorem Mf{d:D}{k:K}(h:bN e σ k=some (d,σ'))(hk:k.calm=true):σ'=σ:=Pl h hk
theorem Ly{O:bQ}{op:Op}{e1:Env}{σ1:SK}(h:wc O op e σ=some (e1,σ1))(hs:op.still=true):σ1=σ:=by
 obtain⟨dst,E8,Bg,k⟩:=op;simp only[Op.still,af]at hs;obtain⟨hk,hn⟩:=hs;have hplain:(wc O ⟨dst,E8,Bg,k⟩ e σ=(bN e σ k).map fun x=>(put dst x.1 e,x.2))→σ1=σ:=by
  intro hall;rw[hall]at h;simp only[ad,Prod.exists,an]at h;obtain⟨d,σ2,hs,rfl,rfl⟩:=h;exact Mf hs hk
 cases k
 case call kp f args =>
  simp only[wc]at h;split at h
  case h_2=>cases h
  split at h
  case isFalse=>cases h
  rename_i hx;cases h;exact hx hn
 case eJ nb cs =>
  simp only[wc]at h;split at h
  case h_2=>cases h
  rename_i v cs' σ2 hnb;cases h;simp only[K.calm,List.isEmpty_iff]at hk;subst hk;exact LZ hnb
 case Hj x =>
  simp only[wc]at h;split at h
  case h_2=>cases h
  cases h;rfl
 case IN v nb sz a x =>
  simp only[wc]at h;split at h
  case h_2=>cases h
  split at h
  case isFalse=>cases h
  split at h
  case h_2=>cases h
  rename_i hnb;cases h;simp only[K.calm,List.isEmpty_iff]at hk;subst hk;exact LZ hnb
 all_goals exact hplain rfl
theorem Fj{O:bQ}{op:Op}{e1:Env}{σ1:SK}(h:uk O op e σ=some (e1,σ1))(hs:op.still=true):σ1=σ:=by
 unfold uk at h;split at h
 ·exact Ly h hs
 ·split at h
  case h_2=>cases h
  split at h
  ·exact Ly h hs
  ·cases h;rfl
def HX(e e':Env):Prop:=∀t,get e' t=get e t
theorem HX.refl(e:Env):HX e e:=fun _=>rfl
theorem HX.trans{a b c:Env}(h:HX a b)(h':HX b c):HX a c:=fun t=>(h' t).trans (h t)
theorem HX.agree(h:HX e e')(ts:List Nat):j8 ts e e':=fun t _=>h t
theorem I1{l:List (Nat×D)}{t:Nat}:get (l++e) t=if t∈l.map (·.1)then get l t else get e t:=by
 induction l with
 |nil=>simp
 |cons p l ih =>
  obtain⟨k,v⟩:=p;simp only[fK,get];by_cases hk:k=t
  ·simp[hk]
  ·rw[if_neg hk,ih];simp only[aQ,bf];by_cases ht:t∈l.map (·.1)
   ·rw[if_pos ht,if_pos (.inr ht)];rw[if_neg hk]
   ·rw[if_neg ht,if_neg (by intro h;rcases h with h | h;exact hk h.symm;exact ht h)]
theorem HX.app(h:HX e e')(l:List (Nat×D)):HX (l++e) (l++e'):=fun t=>by
 simp only[I1,h t]
theorem JI{O:bQ}:∀{xs:List Op} {e e' e1:Env} {σ σ1:SK},mz O xs e σ=some (e1,σ1)→HX e e'→∃e1',mz O xs e' σ=some (e1',σ1)∧HX e1 e1'
 |[],e,e',e1,σ,σ1,h,he=>by
  simp only[mz,ae,an]at h;obtain⟨rfl,rfl⟩:=h;exact⟨e',rfl,he⟩
 |x::xs,e,e',e1,σ,σ1,h,he=>by
  rw[kb]at h;simp only[ah,Prod.exists]at h;obtain⟨e2,σ2,h1,h2⟩:=h;obtain⟨l,_,hl⟩:=Fi h1;have h3:=hl e (HX.agree (.refl e) _);rw[h1]at h3;cases h3;obtain⟨e3,h4,h5⟩:=JI h2 (he.app l);exact⟨e3,by rw[kb,hl e' (he.agree _)];exact h4,h5⟩
theorem ahO{d:D}{k:K}(h:bN e σ k=some (d,σ'))(hk:k.pure=true)(τ:SK):bN e τ k=some (d,τ):=by
 cases k<;>simp only[K.pure,K.calm,az]at hk<;>simp only[bN,aR,reduceCtorEq]at h ⊢ <;> (repeat' split at h)<;>
  simp only[ad,ah,ae,an,Prod.exists,reduceCtorEq,exists_eq_left,and_false,exists_false]at h<;>(try split at h)<;>
  simp_all<;>(try (obtain⟨_,_,h⟩:=h;simp_all))<;>(try grind)
theorem N8{O:bQ}{op:Op}{e1:Env}{σ1:SK}(h:wc O op e σ=some (e1,σ1))(hs:op.k.pure=true)(τ:SK):wc O op e τ=some (e1,τ):=by
 obtain⟨dst,E8,Bg,k⟩:=op;have hplain:(∀τ,wc O ⟨dst,E8,Bg,k⟩ e τ=(bN e τ k).map fun x=>(put dst x.1 e,x.2))→wc O ⟨dst,E8,Bg,k⟩ e τ=some (e1,τ):=by
  intro hall;rw[hall]at h ⊢;simp only[ad,Prod.exists,an]at h;obtain⟨d,σ2,hs',rfl,rfl⟩:=h;rw[ahO hs' hs τ];rfl
 cases k
 case call kp f args=>simp[K.pure]at hs
 case eJ nb cs =>
  simp only[K.pure,K.calm,List.isEmpty_iff]at hs;subst hs;simp only[wc]at h ⊢;cases dst with
  |none=>cases h
  |some v=>simp only[kV,ae,an]at h ⊢;exact⟨h.1,trivial⟩
 case Hj x =>
  simp only[wc]at h ⊢;cases dst with
  |none=>cases h
  |some v =>
   cases hx:(bj e x).cells with
   |none=>rw[hx]at h;cases h
   |some cs=>rw[hx]at h;simp only[ae,an]at h ⊢;exact⟨h.1,trivial⟩
 case IN v nb sz a x =>
  simp only[K.pure,K.calm,List.isEmpty_iff]at hs;subst hs;simp only[wc]at h ⊢;cases hin:rR e v a<;>rw[hin]at h<;>try (cases h;done)
  cases hx:(bj e x).cells<;>rw[hx]at h<;>try (cases h;done)
  simp only[kV]at h ⊢;split at h
  ·rename_i hc;rw[if_pos hc];simp only[ae,an]at h ⊢;exact⟨h.1,trivial⟩
  ·cases h
 all_goals exact hplain fun τ=>rfl
theorem Dj{O:bQ}{op:Op}{e1:Env}{σ1:SK}(h:uk O op e σ=some (e1,σ1))(hs:op.k.pure=true):∀τ,uk O op e τ=some (e1,τ):=by
 intro τ;unfold uk at h ⊢;cases hg:op.E8 with
 |none=>rw[hg]at h;exact N8 h hs τ
 |some y =>
  obtain⟨g,want⟩:=y;rw[hg]at h;dsimp only at h ⊢;cases hb:(get e g).bit with
  |none=>rw[hb]at h;cases h
  |some b =>
   rw[hb]at h;dsimp only at h ⊢;split at h
   ·rename_i hw;rw[if_pos hw];exact N8 h hs τ
   ·rename_i hw;rw[if_neg hw];cases h;rfl
theorem AY{a:List aF}{σ:SK}{l:Nat}{s:List aF}(h:σ.length=l):iI (a::σ) l s=s::σ:=by simp only[iI];rw[if_pos h]
theorem oF{a:List aF}{σ:SK}{l:Nat}{s:List aF}(h:¬σ.length=l):iI (a::σ) l s=a::iI σ l s:=by simp only[iI];rw[if_neg h]
theorem Pk{σ:SK}{l l':Nat}{s s':List aF}(h:l≠l'):iI (iI σ l s) l' s'=iI (iI σ l' s') l s:=by
 induction σ with
 |nil=>rfl
 |cons a σ ih =>
  by_cases h1:σ.length=l
  ·have h2:¬σ.length=l':=by omega
   rw[AY h1,oF h2,oF h2,AY (by rw[gG];exact h1)]
  ·by_cases h2:σ.length=l'
   ·rw[oF h1,AY h2,AY (by rw[gG];exact h2),oF h1]
   ·rw[oF h1,oF h2,oF (by rw[gG];exact h2),oF (by rw[gG];exact h1),ih]
theorem uo{σ:SK}{l l':Nat}{s:List aF}(h:l≠l'):gr (iI σ l s) l'=gr σ l':=by
 induction σ with
 |nil=>rfl
 |cons a σ ih =>
  simp only[iI];by_cases h1:σ.length=l
  ·rw[if_pos h1];simp only[gr];rw[if_neg (by omega),if_neg (by omega)]
  ·rw[if_neg h1];simp only[gr,gG,ih]
theorem Ns{σ:SK}{l:Nat}{s s':List aF}:iI (iI σ l s) l s'=iI σ l s':=by
 induction σ with
 |nil=>rfl
 |cons a σ ih =>
  simp only[iI];by_cases h1:σ.length=l
  ·rw[if_pos h1,if_pos h1];simp only[iI];rw[if_pos h1]
  ·rw[if_neg h1,if_neg h1];simp only[iI,gG];rw[if_neg h1,ih]
theorem Ph{σ:SK}{l i l' i':Nat}{b b':aF}(h:¬(l'=l∧i'=i)):aW (aW σ l i b) l' i' b'=aW (aW σ l' i' b') l i b:=by
 by_cases hl:l=l'
 ·subst hl;have hi:i≠i':=fun e=>h ⟨rfl,e.symm⟩
  unfold aW;cases hs:gr σ l with
  |none=>simp[hs]
  |some s =>
   simp only[ti (AX hs),Ns];rw[List.set_comm _ _ hi]
 ·unfold aW;cases hs:gr σ l with
  |none =>
   cases hs':gr σ l' with
   |none=>simp[hs,hs']
   |some s'=>simp only[uo (Ne.symm hl),hs]
  |some s =>
   cases hs':gr σ l' with
   |none=>simp only[uo hl,hs',hs]
   |some s' =>
    simp only[uo hl,uo (Ne.symm hl),hs,hs'];exact Pk hl
theorem AB{σ:SK}{l i l' i' v:Nat}{b:aF}(h:¬(l'=l∧i'=i)):cells? (aW σ l i b) l' i' v=cells? σ l' i' v:=by
 unfold cells?;rw[gl h]
theorem Nf{σ:SK}{l i:Nat}{b:aF}{d:D}(h:D.off l i d=true):HH (aW σ l i b) d.strip=HH σ d.strip:=by
 cases d<;>try rfl
 simp only[D.off,au]at h;simp only[D.strip,HH,AB h]
theorem Di{O:bQ}{dst:Option Nat}{n ag:Bool}{sz m:Nat}{e1:Env}{σ1:SK}(h:uk O ⟨dst,none,n,.ld ag sz (.t m)⟩ e σ=some (e1,σ1)):
  σ1=σ∧∀τ,HH τ (get e m).strip=HH σ (get e m).strip→uk O ⟨dst,none,n,.ld ag sz (.t m)⟩ e τ=some (e1,τ):=by
 have hs:=Fj h;simp only[uk,wc,bN,bj]at h ⊢;refine⟨?_,fun τ hτ=>?_⟩
 ·simp only[ad,Prod.exists,an]at h;obtain⟨d,σ2,h,_,rfl⟩:=h;exact Mf (k:=.ld ag sz (.t m)) (e:=e) (d:=d) (by simpa only[bN,bj]using h) rfl
 ·rw[hτ];cases hr:HH σ (get e m).strip with
  |none=>rw[hr]at h;cases h
  |some cs =>
   rw[hr]at h;dsimp only at h ⊢;split at h
   ·rename_i hsz;rw[if_pos hsz];cases ag with
    |true=>simp at h ⊢;exact h.1
    |false =>
     simp only[az,if_false]at h ⊢;cases cs with
     |nil=>cases h
     |cons d ds=>simp at h ⊢;exact h.1
   ·cases h
theorem Gw{O:bQ}{dst:Option Nat}{n:Bool}{os:List Nat}{sz:Nat}{a x:bM}{e1:Env}{σ1:SK}(h:uk O ⟨dst,none,n,.QP os sz a x⟩ e σ=some (e1,σ1)):
  ∃l i v off b,bj e a=.ref l i v off∧(∀m∈os,D.off l i (get e m)=true)∧σ1=aW σ l i b ∧
   ∀τ,τ.length=σ.length→cells? τ l i v=cells? σ l i v→uk O ⟨dst,none,n,.QP os sz a x⟩ e τ=some (e1,aW τ l i b):=by
 simp only[uk,wc,bN]at h ⊢;cases ha:bj e a<;>rw[ha]at h<;>try (cases h;done)
 rename_i l i v off;dsimp only at h ⊢;split at h
 case isFalse=>cases h
 rename_i hall;cases hc:cells? σ l i v with
 |none=>rw[hc]at h;cases h
 |some cs =>
 rw[hc]at h;dsimp only at h;cases hp:(bj e x).cells with
 |none=>rw[hp]at h;cases h
 |some p =>
 rw[hp]at h;dsimp only at h;split at h
 case isFalse=>cases h
 rename_i hq;simp only[aU,ae,an]at h;refine⟨l,i,v,off,.cells v (cs.take off++p++cs.drop (off+sz)),rfl,fun m hm=>lE.1 hall m hm,h.2.symm,fun τ hlen hτ=>?_⟩;simp only[hall,if_true,hτ,hc,hlen,if_pos hq,aU,h.1]
theorem Pe{O:bQ}{dst:Option Nat}{n:Bool}{os:List Nat}{w b:Nat}{a x:bM}{e1:Env}{σ1:SK}(h:uk O ⟨dst,none,n,.Uj os w b a x⟩ e σ=some (e1,σ1)):
  ∃l i v cs,(∀m∈os,D.off l i (get e m)=true)∧σ1=aW σ l i (.cells (v+1) cs):=by
 simp only[uk,wc,ad,Prod.exists,an]at h;obtain⟨d,σ2,h,_,rfl⟩:=h;simp only[bN]at h;split at h
 case h_2=>cases h
 rename_i l i v off n' w' ha;split at h
 case isFalse=>cases h
 rename_i hall;simp only[ah]at h;obtain⟨⟨m,xs⟩,he,h⟩:=h;dsimp only at h;split at h
 case isFalse=>cases h
 rename_i hcl;simp only[MI,aR,he,Option.bind_some,ha]at h;split at h
 case h_2=>cases h
 split at h
 case isFalse=>cases h
 refine⟨l,i,?_⟩;split at h
 ·cases h;exact⟨_,_,fun m hm=>lE.1 hall m hm,rfl⟩
 ·rw[show deep=15+1 from rfl,Hu hcl]at h;cases h;exact⟨_,_,fun m hm=>lE.1 hall m hm,rfl⟩
theorem ajB{σ:SK}{l i v:Nat}{cs:List D}{d:D}{c:List D}(h:Vr (aW σ l i (.cells (v+1) cs)) d=some c):Vr σ d=some c:=by
 unfold Vr at h ⊢;split at h
 case h_2=>cases h
 rename_i l2 i2 off;simp only[HH,ad]at h ⊢;obtain⟨a,h1,h2⟩:=h;refine⟨a,?_,h2⟩;by_cases hh:l2=l∧i2=i
 ·obtain⟨rfl,rfl⟩:=hh;unfold cells? at h1;cases hb:ej σ l2 i2 with
  |some b0=>rw[qT hb]at h1;simp at h1
  |none =>
   have hn:ej (aW σ l2 i2 (.cells (v+1) cs)) l2 i2=none:=by
    unfold ej at hb ⊢;unfold aW;cases hs:gr σ l2 with
    |none=>simp only[hs];rfl
    |some s =>
     simp only[hs,Option.bind_some]at hb;simp only[ti (AX hs),Option.bind_some];rw[List.getElem?_eq_none_iff]at hb ⊢;simpa using hb
   rw[hn]at h1;cases h1
 ·rwa[AB hh]at h1
theorem ahE{O:bQ}{dst:Option Nat}{n ag:Bool}{sz m:Nat}{e1:Env}{σ1:SK}(h:uk O ⟨dst,none,n,.Vo ag sz (.t m)⟩ e σ=some (e1,σ1)):
  σ1=σ∧∃c,Vr σ (get e m).strip=some c∧∀τ,Vr τ (get e m).strip=some c→uk O ⟨dst,none,n,.Vo ag sz (.t m)⟩ e τ=some (e1,τ):=by
 simp only[uk,wc,bN,bj]at h ⊢;cases hr:Vr σ (get e m).strip with
 |none=>rw[hr]at h;cases h
 |some cs =>
  rw[hr]at h;dsimp only at h ⊢;have hs:σ1=σ:=by
   split at h
   ·cases ag with
    |true=>simp at h;exact h.2.symm
    |false=>cases cs<;>simp at h;exact h.2.symm
   ·cases h
  refine⟨hs,cs,rfl,fun τ hτ=>?_⟩;rw[hτ];dsimp only;split at h
  ·rename_i hsz;rw[if_pos hsz];cases ag with
   |true=>simp at h ⊢;exact h.1
   |false =>
    simp only[az,if_false]at h ⊢;cases cs with
    |nil=>cases h
    |cons d ds=>simp at h ⊢;exact h.1
  ·cases h
theorem UX{σ σ':SK}{b:aF}{l i:Nat}(h:ij σ b=some (l,i,σ')){d:D}{cs:List D}(hd:HH σ d=some cs):HH σ' d=some cs:=by
 cases d<;>try exact hd
 rename_i l' i' v off;simp only[HH,ad]at hd ⊢;obtain⟨c,h1,h2⟩:=hd;refine⟨c,?_,h2⟩;unfold cells? at h1 ⊢;have hb:∃b0,ej σ l' i'=some b0:=by
  cases hb:ej σ l' i' with
  |none=>rw[hb]at h1;cases h1
  |some b0=>exact⟨b0,rfl⟩
 obtain⟨b0,hb⟩:=hb;have hne:¬(l'=l∧i'=i):=fun hh=>by
  have:=(j7 h).1;rw[hh.1,hh.2,this]at hb;cases hb
 rw[(j7 h).2.2.1 l' i' hne];exact h1
theorem ap2{O:bQ}{x y:Op}{e2:Env}{σ2:SK}{r:List Op}(hf:x.adr y=true)
  (h:mz O (x::y::r) e σ=some (e2,σ2)):∃e2',mz O (y::x::r) e σ=some (e2',σ2)∧HX e2 e2':=by
 unfold Op.adr at hf;split at hf
 case h_2=>cases hf
 rename_i n v sz a X d n' off m;simp only[au]at hf;obtain⟨rfl,hdv,hda,hdX⟩:=hf;rw[kb]at h;simp only[ah,Prod.exists]at h;obtain⟨ex,σx,h1,h2⟩:=h;rw[kb]at h2;simp only[ah,Prod.exists]at h2;obtain⟨ey,σy,h2,h3⟩:=h2;simp only[uk,wc]at h1;cases hin:rR e m a with
 |none=>rw[hin]at h1;cases h1
 |some z =>
 obtain⟨s,cs,o⟩:=z;rw[hin]at h1;cases hX:(bj e X).cells with
 |none=>rw[hX]at h1;cases h1
 |some p =>
 rw[hX]at h1;dsimp only at h1;split at h1
 case isFalse=>cases h1
 rename_i hq;simp only[kV,ae,an]at h1;obtain⟨rfl,rfl⟩:=h1;have hgv:∃cs',get e m=.own s cs':=by
  unfold rR at hin;cases hg:get e m<;>rw[hg]at hin<;>try (cases hin;done)
  rename_i s' cs';dsimp only at hin;split at hin
  ·cases hin;exact⟨_,rfl⟩
  ·split at hin
   ·split at hin
    ·cases hin;exact⟨_,rfl⟩
    ·cases hin
   ·cases hin
 obtain⟨cs',hgv⟩:=hgv;simp only[uk,wc,bN,get,if_true,aU,ae,an]at h2;obtain⟨rfl,rfl⟩:=h2;have hne:get ((d,D.vr m s off)::e) m=get e m:=by simp[get,hdv]
 have hna:get ((d,D.vr m s off)::e) a=get e a:=by simp[get,hda]
 have hin':rR ((d,D.vr m s off)::e) m a=some (s,cs,o):=by rw[CD hne hna,hin]
 have hX':bj ((d,D.vr m s off)::e) X=bj e X:=aV fun t ht=>by
  have:d≠t:=fun he=>hdX (he ▸ ht)
  simp[get,this]
 have heq:HX (put (some d) (D.vr m s off) ((m,.own s (cs.take o++p++cs.drop (o+sz)))::e)) ((m,.own s (cs.take o++p++cs.drop (o+sz)))::(d,D.vr m s off)::e):=by
  intro t;simp only[put,get];by_cases h1:d=t
  ·have:¬m=t:=fun e=>hdv (h1.trans e.symm)
   simp[h1,this]
  ·simp[h1]
 obtain⟨e3,k1,k2⟩:=JI h3 heq;refine⟨e3,?_,k2⟩;rw[kb];simp only[uk,wc,bN,hgv,aU,Option.bind_some];rw[kb];simp only[uk,wc,put,hin',hX',hX,hq,and_self,if_true,kV,Option.bind_some];exact k1
theorem ajZ{O:bQ}{x y:Op}{e2:Env}{σ2:SK}{r:List Op}(hf:x.free y=true)
  (h:mz O (x::y::r) e σ=some (e2,σ2)):∃e2',mz O (y::x::r) e σ=some (e2',σ2)∧HX e2 e2':=by
 unfold Op.free at hf;rw[cb]at hf;rcases hf with hf | hf
 ·exact ap2 hf h
 simp only[af,dX]at hf;obtain⟨hc,hf⟩:=hf;simp only[Op.akf,Bool.or_eq_false_iff,List.any_eq_false,List.contains_iff_mem,cb,not_or]at hc;obtain⟨c1,c2⟩:=hc;rw[kb]at h;simp only[ah,Prod.exists]at h;obtain⟨ex,σx,h1,h2⟩:=h;rw[kb]at h2;simp only[ah,Prod.exists]at h2;obtain⟨ey,σy,h2,h3⟩:=h2;obtain⟨lx,d1,hl1⟩:=Fi h1;obtain⟨ly,d2,hl2⟩:=Fi h2;have k1:=hl1 e (HX.agree (.refl e) _);rw[h1]at k1;cases k1;have k2:=hl2 _ (HX.agree (.refl _) _);rw[h2]at k2;cases k2;have ay:j8 (y.GD++y.defs) (lx++e) e:=fun t ht=>by
  rw[I1,if_neg];intro hm;obtain⟨p,hp,rfl⟩:=bW.1 hm;have:=c1 _ (d1 p hp);simp only[bg]at ht;rcases ht with ht | ht
  ·exact this.2 (by simpa using ht)
  ·exact this.1 (by simpa using ht)
 have ax:j8 (x.GD++x.defs) e (ly++e):=fun t ht=>by
  rw[I1,if_neg];intro hm;obtain⟨p,hp,rfl⟩:=bW.1 hm;have hp':=d2 p hp;simp only[bg]at ht;rcases ht with ht | ht
  ·exact c2 _ ht (by simpa using hp')
  ·exact(c1 _ ht).1 (by simpa using hp')
 have hy0:=hl2 e ay;have hx0:=hl1 (ly++e) ax;obtain⟨σm,hy1,hx1⟩:∃σm,uk O y e σ=some (ly++e,σm)∧uk O x (ly++e) σm=some (lx++(ly++e),σy):=by
  simp only[cb,af]at hf;rcases hf with((⟨hx,hy⟩ | hx) | hy) | hfar
  ·obtain rfl:=Fj h1 hx;obtain rfl:=Fj h2 hy;exact⟨_,hy0,hx0⟩
  ·have e1:=Dj h1 hx σ;rw[h1]at e1;cases e1;exact⟨σy,hy0,Dj hx0 hx σy⟩
  ·have e2:=Dj h2 hy σx;rw[h2]at e2;cases e2;exact⟨σ,Dj hy0 hy σ,hx0⟩
  ·unfold Op.far at hfar;obtain⟨dx,gx,nx,kx⟩:=x;obtain⟨dy,gy,ny,ky⟩:=y;simp only[af,Option.isNone_iff_eq_none]at hfar;obtain⟨⟨rfl,rfl⟩,hfar⟩:=hfar;split at hfar
   ·rename_i os sz a X ag sz' m;have hm:m∈os:=by simpa using hfar
    obtain⟨l,i,v,off,b,_,hoff,rfl,_⟩:=Gw h1;obtain⟨rfl,hall⟩:=Di hy0;exact⟨σ,hall σ (Nf (hoff m hm)).symm,hx0⟩
   ·rename_i ag sz' m os sz a X;have hm:m∈os:=by simpa using hfar
    obtain⟨rfl,_⟩:=Di h1;obtain⟨l,i,v,off,b,_,hoff,rfl,_⟩:=Gw hy0;obtain⟨_,hall⟩:=Di hx0;refine⟨_,hy0,hall _ ?_⟩;have hg:get (ly++e) m=get e m:=ax m (by simp[Op.GD,K.tmps,bM.tmps]);rw[hg];exact Nf (hoff m hm)
   ·rename_i os sz a X os' sz' m X';have hm:m∈os:=by simpa using hfar
    obtain⟨l,i,v,off,b,_,hoff,rfl,hall⟩:=Gw hx0;obtain⟨l',i',v',off',b',hr,hoff',rfl,hall'⟩:=Gw hy0;have hg:get (ly++e) m=get e m:=ax m (by simp[Op.GD,K.tmps,hm]);have h4:=hoff m hm;rw[hg]at h4;have h5:get e m=.ref l' i' v' off':=by
     simp only[bj]at hr;cases hgm:get e m<;>rw[hgm]at hr<;>simp only[D.strip,reduceCtorEq]at hr;exact hr
    rw[h5]at h4;simp only[D.off,au]at h4;refine⟨aW σ l' i' b',hall' σ dF.symm (AB h4).symm,?_⟩;rw[Ph h4];exact hall _ dF (AB fun hh=>h4 ⟨hh.1.symm,hh.2.symm⟩)
   ·rename_i os wd bt a X ag sz' m;have hm:m∈os:=by simpa using hfar
    obtain⟨l,i,b,bc,hoff,rfl⟩:=Pe h1;obtain⟨rfl,hall⟩:=Di hy0;exact⟨σ,hall σ (Nf (hoff m hm)).symm,hx0⟩
   ·rename_i ag sz' m cs;obtain⟨rfl,_⟩:=Di h1;obtain⟨_,hall⟩:=Di hx0;refine⟨_,hy0,hall _ ?_⟩;have hg:get (ly++e) m=get e m:=ax m (by simp[Op.GD,K.tmps,bM.tmps]);rw[hg];have hrd:∃c,HH σx (get e m).strip=some c:=by
     simp only[uk,wc,bN,bj]at h1;cases hr:HH σx (get e m).strip with
     |none=>rw[hr]at h1;simp at h1
     |some c=>exact⟨c,rfl⟩
    obtain⟨c,hrd⟩:=hrd;have hn:∃l i,ij σx (.cells 0 cs)=some (l,i,σy):=by
     simp only[uk,wc,bN,kV,aR,Option.bind_some,ad,ah,Prod.exists,an]at hy0;obtain⟨d0,σ0,⟨l,i,σ3,h1,h2⟩,_,h3⟩:=hy0;cases h2;cases h3;exact⟨l,i,h1⟩
    obtain⟨l,i,hn⟩:=hn;rw[hrd,UX hn hrd]
   ·rename_i os wd bt a X ag sz' m;obtain⟨l,i,b,bc,hoff,rfl⟩:=Pe h1;obtain⟨rfl,c,hc,hall⟩:=ahE hy0;exact⟨σ,hall σ (ajB hc),hx0⟩
   ·cases hfar
 have heq:HX (ly++(lx++e)) (lx++(ly++e)):=fun t=>by
  simp only[I1];by_cases m1:t∈lx.map (·.1)
  ·by_cases m2:t∈ly.map (·.1)
   ·obtain⟨p,hp,rfl⟩:=bW.1 m1;obtain⟨q,hq,he⟩:=bW.1 m2;have:=(c1 _ (d1 p hp)).1;have hq':=d2 q hq;rw[he]at hq';exact absurd hq' (by simpa using this)
   ·rw[if_pos m1,if_neg m2,if_pos m1]
  ·by_cases m2:t∈ly.map (·.1)
   ·rw[if_neg m1,if_pos m2,if_pos m2]
   ·rw[if_neg m1,if_neg m2,if_neg m2,if_neg m1]
 obtain⟨e3,k3,k4⟩:=JI h3 heq;refine⟨e3,?_,k4⟩;rw[kb,hy1];simp only[Option.bind_some];rw[kb,hx1];exact k3
theorem OF{O:bQ}{y:Op}{r:List Op}:∀{pre:List Op} {e e2:Env} {σ σ2:SK},(∀x∈pre,x.free y=true) →
  mz O (pre++y::r) e σ=some (e2,σ2)→∃e2',mz O (y::(pre++r)) e σ=some (e2',σ2)∧HX e2 e2'
 |[],e,e2,σ,σ2,hp,h=>⟨e2,h,.refl _⟩
 |x::pre,e,e2,σ,σ2,hp,h=>by
  simp only[fK]at h;rw[kb]at h;simp only[ah,Prod.exists]at h;obtain⟨e1,σ1,h1,h2⟩:=h;obtain⟨e3,h3,h4⟩:=OF (fun z hz=>hp z (by simp[hz])) h2;have h5:mz O (x::y::(pre++r)) e σ=some (e3,σ2):=by rw[kb,h1];exact h3
  obtain⟨e4,h6,h7⟩:=ajZ (hp x (by simp)) h5;exact⟨e4,h6,h4.trans h7⟩
theorem Nj{live:List Nat}(h:HX e e'):restrict live e'=restrict live e:=by
 simp only[restrict];exact List.map_congr_left fun t _=>by rw[h t]
end Go.Abs
