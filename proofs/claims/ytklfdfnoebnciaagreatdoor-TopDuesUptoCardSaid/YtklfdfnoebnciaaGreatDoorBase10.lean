import Derived.Test.YtklfdfnoebnciaaGreatDoorBase9
import Derived.Recover
set_option linter.all false
namespace Go.Abs
open Go
def wi(P:Program)(CR:gb)(f:Nat)(args:List D)(σ:SK)(d:D)(σ':SK):Prop :=
 (∃F c,P.funcs[f]?=some F∧F.name ≠ "runtime.NumGoroutine" ∧ F.body=some c) ∧
 ∀base g w vs,Inv CR base g σ w→rF σ→0<σ.length→bz g args vs.toList →
  gp σ σ'∧Calls P f vs w (fun e w'=>∃v g',e=.returned v∧Ev g w g' w'∧Inv CR base g' σ' w'∧bC g' d v)
def aca(P:Program)(CR:gb)(f:Nat)(args:List D)(σ:SK)(d:D)(σ':SK):Prop :=
 d.clean=true∧(∃F c,P.funcs[f]?=some F∧F.name ≠ "runtime.NumGoroutine" ∧ F.body=some c) ∧
 ∀base g w vs,Inv CR base g σ w→rF σ→0<σ.length→bz g args vs.toList →
  gp σ σ'∧Calls P f vs w (fun e w'=>∃v g',e=.panicked [{v,recovered:=false }]∧Ev g w g' w'∧Inv CR base g' σ' w'∧bC g' d v)
def MH(g:G):Option D→FrameMode→Prop
 |none,u=>u=.returning
 |some d,u=>∃v,bC g d v∧u=.panicking [{v,recovered:=false }]
def ab4(P:Program)(CR:gb)(f:Nat)(args:List D)(th:Option D)(σ σ':SK):Prop :=
 (∃F c,P.funcs[f]?=some F∧F.name ≠ "runtime.NumGoroutine" ∧ F.body=some c) ∧
 ∀base g w vs u,Inv CR base g σ w→rF σ→0<σ.length→bz g args vs.toList→MH g th u →
  gp σ σ'∧CallsD P f vs u w (fun e u' w'=>∃v g',e=.returned v∧settle u'=.returning∧Ev g w g' w'∧Inv CR base g' σ' w')
def MT(P:Program)(CR:gb)(l i:Nat)(args:List D)(σ:SK)(d:D)(σ':SK):Prop :=
 (∃lp,ez σ l i=some (.loop lp))∧∀base g w vs b,Inv CR base g σ w→rF σ→0<σ.length→bz g args vs.toList→bC g (.mf l i) (.func (.yield b) #[] #[]) →
  gp σ σ'∧∃f tmps zf body,(Instr.yield b vs).run P w=.ok (.round b f tmps zf body) w ∧
   ∀c cs,∃v g' w',Steps P (lone (Frame.round b f tmps zf body .normal) (c::cs) w) (lone (c.finish v) cs w')∧Ev g w g' w'∧Inv CR base g' σ' w'∧bC g' d v
def zN(k:List Item):Exit→List Item→Prop
 |.normal,t=>t=k
 |.exit id,t=>∃k',t=.code (.exit id)::k'∧exitTo id k'=exitTo id k
 |.ret,t=>∃k',t=.code .ret::k'
 |.fx _,_=>True
def xT(S:Frame→Prop)(g:G)(b:Frame)(a:Act)(todo:List Item):Exit→Prop
 |.fx d=>d.clean=true∧∃v,bC g d v∧S {b.atR a todo with mode:=.panicking [{v,recovered:=false }] }
 |_=>S (b.atR a todo)
theorem xT.imp{S S':Frame→Prop}{g:G}{b:Frame}{a:Act}{todo:List Item}{x:Exit}(h:xT S g b a todo x)(hs:∀fr,S fr→S' fr):xT S' g b a todo x:=by
 cases x with
 |fx d=>obtain⟨h0,v,h1,h2⟩:=h;exact⟨h0,v,h1,hs _ h2⟩
 |_=>exact hs _ h
def akn(P:Program)(CR:gb)(c:cA)(e:Env)(σ:SK)(x:Exit)(e':Env)(σ':SK):Prop :=
 x ≠ .normal∧∀(ann:uc) bL code n,bQ P ann n bL code=some c→∀base g0 w0 b a k cs g w B,At CR base ann.dR g0 w0 n b g w B e σ a →
  ∃g' w' B' a' todo,xT (fun fr=>Steps P (lone (b.atR a (.code code::.inLoop code::k)) cs w) (lone fr cs w')) g' b a' todo x ∧
   At CR base ann.dR g0 w0 n b g' w' B' e' σ' a'∧g.le g'∧zN k x todo∧gp σ σ'
def QQ(P:Program)(ann:uc)(n bL:Nat)(rest:cA):Option Code→Prop
 |none=>rest=.ep
 |some q=>bQ P ann n bL q=some rest
def ab6(P:Program)(CR:gb)(live:List Nat)(it:bE)(nx ok bid:Nat)(c rest:cA)(e:Env)(σ:SK)(x:Exit)(e':Env)(σ':SK):Prop :=
 ∀(ann:uc) bL rid ops p n it0 (qs:Option Code),it=.t it0→LW ann n (.loop (.seq (.region rid ops false) p))=some (it0,nx,ok)→bQ P ann n bid p=some c→QQ P ann n bL rest qs →
  ∀base g0 w0 b a k cs g w B,At CR base ann.dR g0 w0 n b g w B e σ a →
  ∃g' w' B' a' todo,xT (fun fr=>Steps P (lone (b.atR a (.code (.seq (.region rid ops false) p)::.inLoop (.seq (.region rid ops false) p)::.inBlock bid::(qs.toList.map Item.code++k))) cs w) (lone fr cs w')) g' b a' todo x ∧
   At CR base ann.dR g0 w0 n b g' w' B' e' σ' a'∧g.le g'∧zN k x todo∧gp σ σ'
def Ew(P:Program)(CR:gb):Q→R→Prop
 |.call _ f args σ,.val d σ'=>wi P CR f args σ d σ'
 |.round l i args σ,.val d σ'=>MT P CR l i args σ d σ'
 |.loop _ _ c e σ,.BZ x e' σ'=>akn P CR c e σ x e' σ'
 |.call _ f args σ,.fx d σ'=>aca P CR f args σ d σ'
 |.iA live it nx ok bid c rest e σ,.BZ x e' σ'=>ab6 P CR live it nx ok bid c rest e σ x e' σ'
 |.xj f args th σ,.val _ σ'=>ab4 P CR f args th σ σ'
 |_,_=>True
def yy(P:Program)(CR:gb)(O:bH):Prop:=∀q r,O q=some r→Ew P CR q r
theorem Es{r:Option R}{d:D}{σ:SK}(h:R.bf r=some (d,σ)):r=some (.val d σ):=by
 unfold R.bf at h;split at h
 ·cases h;rfl
 ·cases h
theorem HH{r:Option R}{x:Exit}{e:Env}{σ:SK}(h:R.OX r=some (x,e,σ)):r=some (.BZ x e σ):=by
 unfold R.OX at h;split at h
 ·cases h;rfl
 ·cases h
section
variable {P:Program} {CR:gb} {O:bH} {ann:uc} {n cm:Nat} {ops:Array Oper} {base:Nat} {g0 g:G} {w0 w:World} {b:Frame} {B:Nat→Nat} {e e':Env} {σ σ':SK} {a:Act}
 {k:List Item} {cs:List Frame} {i:Nat} {rest:List Nat}
def JL(P:Program)(CR:gb)(ann:uc)(n:Nat)(ops:Array Oper)(base:Nat)(g0:G)(w0:World)(b:Frame)(g:G)(w:World)(a:Act)(k:List Item)(cs:List Frame)(i:Nat)(rest:List Nat)(σ:SK)(e':Env)(σ':SK):Prop :=
 ∃g' w' B' a',Steps P (lone (b.atR a (.inRegion ops (i::rest)::k)) cs w) (lone (b.atR a' (.inRegion ops rest::k)) cs w') ∧
  At CR base ann.dR g0 w0 n b g' w' B' e' σ' a'∧g.le g'∧gp σ σ'
theorem At.go{V:List Nat}(ha:At CR base V g0 w0 n b g w B e σ a){g':G}{w':World}{B':Nat→Nat}{tm:Act}(he:Ev g w g' w')(hi:Inv CR base g' σ' w')(hg:gp σ σ')
  (hf:Fr w0.heap.size V g' w' B' e' tm.tmps) (hs:tm.tmps.size=a.tmps.size) (hd:tm.defers=a.defers):At CR base V g0 w0 n b g' w' B' e' σ' tm where
 fr:=hf
 ev:=ha.ev.trans he
 inv:=hi
 low:=hg.low ha.low
 pos:=by rw[hg.len];exact ha.pos
 size:=by rw[hs];exact ha.size
 marks:=let ⟨rs,h⟩:=ha.marks;⟨rs,by rw[hd];exact h.ev he⟩
 round:=zE ha.round he.le
theorem AS{dst:Option Nat}{c:Value}:(a.put dst c).tmps.size=a.tmps.size:=by cases dst<;>simp[Act.put]
theorem put_defers{dst:Option Nat}{c:Value}:(a.put dst c).defers=a.defers:=by cases dst<;>simp[Act.put]
theorem Ks{ann:uc}{key:Nat}{o:Oper}{kk:K}(h:kC P ann ops key o=some kk):∀c,o.op ≠ .defer c:=by
 intro c hc;unfold kC at h;rw[hc]at h;cases h
theorem zw(ha:At CR base ann.dR g0 w0 n b g w B e σ a){o:Oper}(ho:ops[i]?=some o)(hn:∀t,o.dst=some t→t<n)(hV:∀t,o.dst=some t→t ∉ ann.dR)
  {g':G} {w':World} {d:D} {c:Value} (hsteps:Steps P (lone (b.atR a (.inRegion ops (i::rest)::k)) cs w) (lone (b.atR (a.put o.dst c) (.inRegion ops rest::k)) cs w'))
  (he:Ev g w g' w') (hi:Inv CR base g' σ' w') (hg:gp σ σ') (hr:cn g' B e d c):
  JL P CR ann n ops base g0 w0 b g w a k cs i rest σ (put o.dst d e) σ':=by
 refine⟨g',w',B,a.put o.dst c,hsteps,ha.go he hi hg ?_ AS put_defers,he.le,hg⟩;exact(ha.fr.ev he).put hr hV fun t ht=>by rw[ha.size];exact hn t ht
theorem jY{ρ:Operand→Value}{f:Operand}{args:Array Operand}{ts:Array TypeId}{ty:TypeId}{fn:Go.Fn}{first cap:Array Value}(hf:ρ f=.func fn first cap)(w:World):
  (resolve ρ {callee:=.value f,args,argTypes:=ts } ty).run P w=.ok {target:=.fn fn cap,args:=first++args.map ρ } w:=by
 simp[resolve,Deferred.ofValue,hf]
theorem vZ{f:FuncId}{args:Array Value}{F:Func}(h1:P.funcs[f]?=some F)(h2:F.name ≠ "runtime.NumGoroutine"){c:Code}(h3:F.body=some c)(w:World):
  (callFunc f args).run P w=.ok (.enter f args) w:=by
 simp[callFunc,program,Sem.run,h1,h2,h3]
theorem Dx{xs:Array Operand}{Xs:List bE}{fb:Nat}{V:List Nat}{tmps:Array Value}{df:List Deferred}(hf:Fr fb V g w B e tmps)(hx:vJ xs.toList=some Xs):
  bz g (Xs.map (Abs.aZ e)) (xs.map (Act.mk tmps df).eval).toList:=by
 have:=hf.anN (df:=df) hx;simpa using this
theorem M0(hO:yy P CR O)(ha:At CR base ann.dR g0 w0 n b g w B e σ a){o:Oper}(ho:ops[i]?=some o)(hw:Region.wanted o (yielded ops a.tmps)=true)
  (hn:∀t,o.dst=some t→t<n) (hV:∀t,o.dst=some t→t ∉ ann.dR) {f:Operand} {args:Array Operand} {ts:Array TypeId} (hop:o.op=.call {callee:=.value f,args,argTypes:=ts })
  {F:bE} {Xs:List bE} (hF:bA f=some F) (hX:vJ args.toList=some Xs) {kp:Bool} {d:D} (h:oU O kp (aZ e F) (Xs.map (aZ e)) σ=some (d,σ')):
  JL P CR ann n ops base g0 w0 b g w a k cs i rest σ (put o.dst d e) σ':=by
 obtain⟨tmps,df⟩:=a;have hd:∀c,o.op ≠ .defer c:=by intro c hc;rw[hop]at hc;cases hc
 have hfv:=ha.fr.aZ (df:=df) hF;have hxs:=Dx (df:=df) ha.fr hX;unfold oU at h;split at h
 ·rename_i fi first cap hfe
  rw[hfe]at hfv;have hans:=hO _ _ (Es h);obtain⟨⟨Fn,cd,hfn1,hfn2,hfn3⟩,hcall⟩:=hans;generalize hev:(Act.mk tmps df).eval f=fv at hfv;cases hfv with
  |fn _ _ _ first' cap' r1 r2 =>
   have hrun:(execOp (Act.mk tmps df).eval o).run P w=.ok (.enter fi (first'++args.map (Act.mk tmps df).eval++cap')) w:=by
    simp only[execOp,hop,Sem.run_bind,jY hev,Result.andThen_ok,invoke,vZ hfn1 hfn2 hfn3]
   have hargs:bz g (first++Xs.map (aZ e)++cap) (first'++args.map (Act.mk tmps df).eval++cap').toList:=by
    simpa using(r1.append hxs).append r2
   obtain⟨hgo,hcalls⟩:=hcall base g w _ ha.inv ha.low ha.pos hargs;obtain⟨en,w',fr,⟨v,g',rfl,he,hi,hr⟩,hcomes,hfr,hleave⟩:=hcalls (b.atR ⟨tmps,df⟩ (.inRegion ops (i::rest)::k)::cs);refine zw ha ho hn hV (Steps.head (GO ho hw hd hrun) (Steps.trans hcomes (Steps.one ?_))) he hi hgo (cn.of hr);rw[step_leave_returned hleave,Bf ho]
 ·rename_i l j hfe;rw[hfe]at hfv;have hans:=hO _ _ (Es h);generalize hev:(Act.mk tmps df).eval f=fv at hfv;have hfv0:=hfv;cases hfv with
  |Pv _ _ bb r1 =>
   obtain⟨⟨lp,hlp⟩,_⟩:=hans;obtain⟨b0,hb0,hrel⟩:=ha.inv.xc _ _ _ r1;rw[hlp]at hb0;cases hb0;exact hrel.elim
  |itv _ _ bb L r1 r2 =>
   obtain⟨⟨lp,hlp⟩,_⟩:=hans;obtain⟨b0,hb0,hrel⟩:=ha.inv.xc _ _ _ r1;rw[hlp]at hb0;cases hb0;rcases r2 with rfl | rfl<;>exact hrel.elim
  |PU _ _ bb L r1 r2 =>
   obtain⟨⟨lp,hlp⟩,_⟩:=hans;obtain⟨b0,hb0,hrel⟩:=ha.inv.xc _ _ _ r1;rw[hlp]at hb0;cases hb0;rcases r2 with⟨c,rfl⟩ | rfl<;>exact hrel.elim
  |mf _ _ bb r1 =>
   obtain⟨hgo,f0,tm0,zf,body,hy,hround⟩:=hans.2 base g w (args.map (Act.mk tmps df).eval) bb ha.inv ha.low ha.pos (by simpa using hxs) hfv0;have hrun:(execOp (Act.mk tmps df).eval o).run P w=.ok (.round bb f0 tm0 zf body) w:=by
    simp only[execOp,hop,Sem.run_bind,jY hev,Result.andThen_ok,invoke];simpa using hy
   obtain⟨v,g',w',hsteps,he,hi,hr⟩:=hround (b.atR ⟨tmps,df⟩ (.inRegion ops (i::rest)::k)) cs;refine zw ha ho hn hV (Steps.head (Mm ho hw hd hrun) ?_) he hi hgo (cn.of hr);rw[Bf ho]at hsteps;exact hsteps
 ·cases h
end
section
variable {P:Program} {CR:gb} {O:bH} {ann:uc} {n cm:Nat} {ops:Array Oper} {base:Nat} {g0 g:G} {w0 w:World} {b:Frame} {B:Nat→Nat} {e e':Env} {σ σ':SK} {a:Act}
 {k:List Item} {cs:List Frame} {i:Nat} {rest:List Nat}
theorem aaK(ha:At CR base ann.dR g0 w0 n b g w B e σ a){o:Oper}(ho:ops[i]?=some o)(hw:Region.wanted o (yielded ops a.tmps)=true)(hd:∀c,o.op ≠ .defer c)
  {v:Nat} (hdst:o.dst=some v) (hV:v∈ann.dR) (hn:v<n) {g1:G} {ds:List D} {ca:Array Value} {el:TypeId}
  (hrun:(execOp a.eval o).run P w=.ok (.value (.pointer (some ⟨w.heap.size,0,none⟩))) (w.alloc (.cells ca el)))
  (i1:Inv CR base g1 σ' w) (e1:Ev g w g1 w) (hg:gp σ σ') (hr:bz g1 ds ca.toList) (h1:∀x∈ca.toList,x.oneCell'=true):
  JL P CR ann n ops base g0 w0 b g w a k cs i rest σ ((v,.own (tZ e v) ds)::e) σ':=by
 obtain⟨tmps,df⟩:=a;have i2:=i1.alloc (.cells ca el);have e2:=e1.trans (Ev.alloc g1 w (.cells ca el));have hsteps:=wX (P:=P) (b:=b) (a:=⟨tmps,df⟩) (k:=k) (cs:=cs) (rest:=rest) ho hw hd hrun rfl;rw[hdst]at hsteps;have hsz:v<tmps.size:=by have:=ha.size;simp only at this;omega
 refine⟨g1,_,_,_,.one hsteps,ha.go e2 i2 hg ((ha.fr.ev e2).anR hV hsz ⟨ha.ev.size,fun hb=>?_,fun o=>?_,ca,el,sN,hr,h1⟩ fun t s cs' ht=>?_) AS put_defers,e2.le,hg⟩
 ·exact Nat.lt_irrefl _ (i1.Z7 hb)
 ·cases hh:g1.pT w.heap.size o with
  |none=>rfl
  |some x=>exact absurd (i1.jf hh) (Nat.lt_irrefl _)
 ·have:=(ha.fr.own t s cs' ht).2.2.lt;omega
theorem aoO(ha:At CR base ann.dR g0 w0 n b g w B e σ a){o:Oper}(ho:ops[i]?=some o)(hw:Region.wanted o (yielded ops a.tmps)=true)
  (hn:∀t,o.dst=some t→t<n) (hV:∀t,o.dst=some t→t ∉ ann.dR) {t:TypeId} {x v:Nat} {y:Operand} {Y:bE} (hop:o.op=.store t (.tmp x) y) (hy:bA y=some Y) {sz:Nat} (hsz:c8 P t=some sz)
  {s off:Nat} {cv p p':List D} {nb:List (Nat×Nat)} (hin:rC e v x=some (s,cv,off)) (hp:(aZ e Y).cells=some p) (hlen:p.length=sz∧off+sz≤cv.length)
  (hnb:kq nb p σ=some (p',σ')) (hdst:o.dst=none):
  JL P CR ann n ops base g0 w0 b g w a k cs i rest σ ((v,.own s (cv.take off++p'++cv.drop (off+sz)))::e) σ':=by
 obtain⟨tmps,df⟩:=a;have hd:∀c,o.op ≠ .defer c:=by intro c hc;rw[hop]at hc;cases hc
 obtain⟨hgv,hpx⟩:=ha.fr.rC hin;obtain⟨hvV,hptr,hob⟩:=ha.fr.own v s cv hgv;obtain⟨ca,el,hheap,hrl,h1c⟩:=hob.bL;obtain⟨hrp,h1p⟩:=(ha.fr.aZ (df:=df) hy).cells hp;obtain⟨g1,i1,e1,r1⟩:=wN nb _ _ _ _ g _ hnb ha.inv hrp;obtain⟨_,hp'len,_⟩:=zx nb _ _ _ _ hnb;have hpl:((Act.mk tmps df).eval y).cells.toList.length=sz:=by rw[← r1.length,hp'len];exact hlen.1
 have hpl':((Act.mk tmps df).eval y).cells.size=sz:=by simpa using hpl
 have hcl:ca.size=cv.length:=by have:=hrl.length;simpa using this.symm
 obtain⟨w',c',hrun,hb',hs',hc',hother,hsize,ho1,ho2,ho3⟩:=DA (P:=P) (t:=t) (w:=w) (b:=B v) (o:=off) (v:=(Act.mk tmps df).eval y) hsz (by simpa using hpl) h1p hheap (by omega);have hob1:=hob.ev e1;have hcv:(Act.mk tmps df).eval (.tmp x)=.pointer (some ⟨B v,off,none⟩):=hpx;have hrunO:(execOp (Act.mk tmps df).eval o).run P w=.ok .skip w':=by
  simp[execOp,hop,Instr.storeAt,hcv,Instr.sureAddr,hrun]
 have hoth:∀b',b'≠B v→w'.heap[b']?=w.heap[b']?:=hother;have i2:Inv CR base g1 σ' w':=i1.Fh (fun b' hb'' hk=>hoth b' fun hh=>by
  subst hh;rcases hk with hk | ⟨o2,v2,hk⟩
  ·exact hob1.free hk
  ·rw[hob1.vj]at hk;cases hk) (by omega)
 have hwrite:bz g1 (cv.take off++p'++cv.drop (off+sz)) c'.toList∧∀z∈c'.toList,z.oneCell'=true:=by
  have hrow:=Ia (c:=ca) (c':=c') (bo:=0) (off:=off) (vs:=ca.toList) (ps:=((Act.mk tmps df).eval y).cells.toList) (fun j z hz=>⟨by simpa using hz,h1c z (ai hz)⟩) h1p (by simp;omega)
   (by rw[hpl];simpa using hc')
  rw[hpl]at hrow;have hrel:=(((hrl.mono e1.le).take off).append r1).append ((hrl.mono e1.le).drop (off+sz));have heq:c'.toList=ca.toList.take off++((Act.mk tmps df).eval y).cells.toList++ca.toList.drop (off+sz):=by
   have hll:(ca.toList.take off++((Act.mk tmps df).eval y).cells.toList++ca.toList.drop (off+sz)).length=c'.toList.length:=by
    simp only[bI,hpl,kT,List.length_drop,Array.length_toList,hs'];omega
   apply eu;intro j;by_cases hj:j<c'.toList.length
   ·have hj2:=hj;rw[← hll]at hj2;have:=(hrow j _ (aK hj2)).1;rw[aK hj2];simpa using this
   ·rw[ej (by omega),ej (by omega)]
  rw[heq];refine⟨hrel,fun z hz=>?_⟩;simp only[aY]at hz;rcases hz with(hz | hz) | hz
  ·exact h1c z (dD hz)
  ·exact h1p z hz
  ·exact h1c z (dC hz)
 have hob2:GU w0.heap.size g1 w' (B v) (cv.take off++p'++cv.drop (off+sz)):=⟨hob1.lo,hob1.free,hob1.vj,c',el,hb',hwrite.1,hwrite.2⟩;have hsteps:=wX (P:=P) (b:=b) (a:=⟨tmps,df⟩) (k:=k) (cs:=cs) (rest:=rest) ho hw hd hrunO rfl;rw[hdst]at hsteps;have hgo:=sJ _ _ _ _ _ hnb;refine⟨g1,w',B,⟨tmps,df⟩,.one hsteps,⟨?_,?_,i2,hgo.low ha.low,by rw[hgo.len];exact ha.pos,ha.size,?_,zE ha.round e1.le⟩,e1.le,hgo⟩
 ·exact(ha.fr.ev e1).Md hgv hob2 fun b' _ hne=>hoth b' hne
 ·have h0:=ha.ev.trans e1;refine⟨h0.le,ho1.trans h0.os,ho2.trans h0.tape,ho3.trans h0.output,by have:=h0.size;omega,fun b' hb'' hnb'=>?_,h0.Z9,h0.IX⟩;rw[hoth b' (by have:=hob.lo;omega)];exact h0.kept b' hb'' hnb'
 ·obtain⟨rs,hm⟩:=ha.marks;have hm1:=hm.ev e1;refine⟨rs,hm1.eq,hm1.nodup,fun r hr=>?_⟩;have hmr:=hm1.all r hr;refine⟨hmr.lo,hmr.free,hmr.vj,?_⟩;rw[hoth r,hmr.bL];intro hh;subst hh;have:=hmr.bL;rw[hheap]at this;cases this
def KEq(P:Program)(ann:uc)(o:Oper)(kk:K):Prop :=
  match kk with
  |.call _ F Xs=>∃f args ts,o.op=.call {callee:=.value f,args,argTypes:=ts }∧bA f=some F∧vJ args.toList=some Xs
  |.dT _ z=>∃el v,o.op=.alloc el∧rE P el=some z∧o.dst=some v∧v∈ann.dR
  |.D1 X=>∃t x v,o.op=.box t x∧bA x=some X∧o.dst=some v∧v∈ann.dR
  |.Er _ _ sz x Y=>∃t y,o.op=.store t (.tmp x) y∧bA y=some Y∧c8 P t=some sz
  |.K6 X=>∃y,o.op=.panic y∧bA y=some X
  |.K7=>∃args ts,o.op=.call {callee:=.builtin .recover,args,argTypes:=ts }
  |_=>True
theorem LR{X Y:bE}{t:TypeId}{bo:BinOp}{kk:K}{o:Oper}(hk:eqC P bo t X Y=some kk):KEq P ann o kk:=by
 unfold eqC at hk;split at hk
 case h_2=>cases hk
 split at hk
 ·cases hk
 split at hk
 ·obtain⟨ag,hag,rfl⟩:=ab.1 hk;trivial
 ·obtain⟨ag,hag,rfl⟩:=ab.1 hk;trivial
 ·cases hk
theorem aam{kk:K}{key:Nat}{o:Oper}(hk:kC P ann ops key o=some kk):KEq P ann o kk:=by
 unfold kC at hk;split at hk
 ·rename_i x ho;obtain⟨X,hX,rfl⟩:=ab.1 hk;trivial
 ·rename_i x ho;split at hk
  ·rename_i hnil _ _;split at hk
   ·obtain⟨X,hX,rfl⟩:=ab.1 hk;trivial
   ·obtain⟨X,hX,rfl⟩:=ab.1 hk;trivial
  ·obtain⟨X,hX,rfl⟩:=ab.1 hk;trivial
 ·rename_i c x y ho;split at hk
  ·rename_i c' x' y' h1 h2 h3;cases hk;trivial
  ·cases hk
 ·rename_i el ho;split at hk
  ·rename_i z d0 hz hd0;split at hk
   ·split at hk
    case h_2=>cases hk
    split at hk
    case h_2=>cases hk
    split at hk
    case h_2=>cases hk
    cases hk;trivial
   cases hk;split
   ·rename_i hc;exact⟨el,d0,ho,hz,hd0,by simpa using hc⟩
   ·trivial
  ·cases hk
 ·rename_i t x ho;split at hk
  ·rename_i x' d0 hx hd0;cases hk;by_cases hc:ann.dR.contains d0=true
   ·simp only[hc,if_true];exact⟨t,x,d0,ho,hx,hd0,by simpa using hc⟩
   ·rw[if_neg hc];split
    ·split<;>trivial
    ·trivial
  ·cases hk
 ·rename_i t ps ho;split at hk
  ·rename_i fs z ht hz;split at hk
   ·rename_i hall;obtain⟨parts,hp,rfl⟩:=ab.1 hk;trivial
   ·cases hk
  ·rename_i n el z ht hz;split at hk
   ·rename_i wd hw;obtain⟨parts,hp,rfl⟩:=ab.1 hk;trivial
   ·cases hk
  ·cases hk
 ·rename_i t n ps ho;split at hk
  ·rename_i el ht;split at hk
   ·rename_i wd z d0 hw hz _;split at hk
    ·rename_i hc;obtain⟨parts,hp,rfl⟩:=ab.1 hk;dsimp only;split
     ·trivial
     split<;>trivial
    ·cases hk
   ·cases hk
  ·cases hk
 ·rename_i t x ho;split at hk
  ·rename_i ag sz n hag hsz hx;split at hk
   ·rename_i hc;simp only[ae,ao]at hc;cases hk;have hxe:x=.tmp n:=by
     cases x<;>simp only[bA,ad,bE.t.injEq,reduceCtorEq,ab,and_false,exists_false]at hx;rw[hx]
    split
    ·trivial
    ·split
     ·trivial
     ·split<;>trivial
   ·cases hk
  ·cases hk
 ·rename_i t x y ho;split at hk
  ·rename_i sz n y' hsz hx hy;cases hk;have hxe:x=.tmp n:=by
    cases x<;>simp only[bA,ad,bE.t.injEq,reduceCtorEq,ab,and_false,exists_false]at hx;rw[hx]
   by_cases hc:ann.dR.contains (EU ops 8 n)=true
   ·simp only[hc,if_true];exact⟨t,y,by rw[ho,hxe],hy,hsz⟩
   ·rw[if_neg hc];split<;>trivial
  ·cases hk
 ·rename_i b t x y u ho;split at hk
  ·rename_i hx hy;cases hk;trivial
  ·rename_i hx hy;exact LR hk
  ·rename_i hx hy;exact LR hk
  ·rename_i hx hy;exact LR hk
  ·rename_i ht hx hy;split at hk<;>cases hk<;>trivial
  ·rename_i ht hx hy;unfold isC at hk;split at hk<;>cases hk<;>trivial
  ·rename_i ht hx hy;split at hk
   ·split at hk<;>cases hk<;>trivial
   ·cases hk
  ·rename_i ht hx hy;unfold isC at hk;split at hk<;>cases hk<;>trivial
  ·rename_i ht hx hy;split at hk<;>cases hk<;>trivial
  ·cases hk
 ·rename_i x ho;obtain⟨X,hX,rfl⟩:=ab.1 hk;trivial
 ·rename_i b t x ho;obtain⟨X,hX,rfl⟩:=ab.1 hk;trivial
 ·rename_i s t x ho;split at hk
  ·rename_i hs ht hx;cases hk;trivial
  ·split at hk<;>cases hk<;>trivial
  ·split at hk<;>cases hk<;>trivial
  ·split at hk
   ·split at hk<;>cases hk<;>trivial
   ·cases hk
  ·cases hk
 ·rename_i t x ho;split at hk
  ·obtain⟨X,hX,rfl⟩:=ab.1 hk;trivial
  ·cases hk
 ·rename_i f xs ys ho;split at hk
  ·rename_i hx hy;cases hk;trivial
  ·cases hk
 ·rename_i t x y ho;split at hk
  ·rename_i el ht;split at hk
   ·rename_i hw hb hz hx hy;split at hk
    ·rename_i hc;cases hk;trivial
    ·cases hk
   ·cases hk
  ·cases hk
 ·rename_i t x lo hh mx ho;split at hk
  ·rename_i ht hx hlo hhi hmx;obtain⟨wd,hw,rfl⟩:=ab.1 hk;trivial
  ·rename_i ht hx hlo hhi hmx;obtain⟨wd,hw,rfl⟩:=ab.1 hk;have hm:mx=none:=by
    cases mx with
    |none=>rfl
    |some m=>simp[wQ,ab]at hmx
   subst hm;trivial
  ·rename_i ht hx hlo hhi hmx;cases hk;trivial
  ·cases hk
 ·rename_i s x i ho;split at hk
  ·rename_i fs x' hs hx;split at hk
   ·rename_i off sz hfc;split at hk
    ·rename_i hpos;cases hk;trivial
    ·cases hk
   ·cases hk
  ·cases hk
 ·rename_i s x i ho;split at hk
  ·rename_i fs x' hs hx;split at hk
   ·rename_i f hfi;split at hk
    ·rename_i hag hsz;split at hk
     ·cases hk;trivial
     ·cases hk
    ·cases hk
   ·cases hk
  ·cases hk
 ·rename_i t x y ho;split at hk
  ·rename_i ht hx hy;obtain⟨wd,hw,rfl⟩:=ab.1 hk;trivial
  ·rename_i ht hx hy;obtain⟨wd,hw,rfl⟩:=ab.1 hk;trivial
  ·cases hk
 ·rename_i t x y ho;split at hk
  ·rename_i ht hx hy;split at hk
   ·rename_i hag hsz;split at hk
    ·cases hk;trivial
    ·cases hk
   ·cases hk
  ·rename_i ht hx hy;cases hk;trivial
  ·cases hk
 ·rename_i x i ho;obtain⟨X,hX,rfl⟩:=ab.1 hk;trivial
 ·rename_i c ho;obtain⟨callee,args,ts⟩:=c;dsimp only at hk;split at hk
  ·rename_i f;split at hk
   ·rename_i hf hx;cases hk;exact⟨f,args,ts,ho,hf,hx⟩
   ·cases hk
  ·split at hk
   ·rename_i t tr x r hts ha;split at hk
    ·rename_i ht hx;cases hk;trivial
    ·rename_i ht hx;cases hk;trivial
    ·rename_i ht hx;cases hk;trivial
    ·rename_i ht;cases hk;trivial
    ·rename_i ht;split at hk
     ·rename_i hr;cases hk;trivial
     ·cases hk
    ·cases hk
   ·cases hk
  ·cases hk;exact⟨_,_,ho⟩
  ·split at hk
   ·rename_i ha;split at hk
    ·rename_i hx hy;cases hk;trivial
    ·cases hk
   ·cases hk
  ·split at hk
   ·rename_i ha;split at hk
    ·rename_i hx hy;cases hk;trivial
    ·cases hk
   ·cases hk
  ·split at hk
   ·rename_i t u x y hts ha;split at hk
    ·rename_i ht hu hx hy;split at hk
     case isFalse=>cases hk
     split at hk
     ·rename_i hw hb hz;split at hk
      ·rename_i hc;cases hk;split
       ·trivial
       ·split
        ·trivial
        ·split
         ·trivial
         ·split<;>trivial
      ·cases hk
     ·cases hk
    ·cases hk
   ·cases hk
  ·cases hk
 ·rename_i t x ho;split at hk
  ·obtain⟨X,hX,rfl⟩:=ab.1 hk;trivial
  ·cases hk
 ·rename_i x xt t ok ho;split at hk
  ·cases hk
  ·split at hk
   ·obtain⟨z,hz,rfl⟩:=ab.1 hk;trivial
   ·cases hk;trivial
  ·cases hk
 ·rename_i x ho;obtain⟨X,hX,rfl⟩:=ab.1 hk;exact⟨x,ho,hX⟩
 ·rename_i t ho;cases hk;trivial
 ·split at hk<;>cases hk<;>trivial
 ·rename_i t x ho;split at hk
  ·rename_i ht hx;cases hk;trivial
  ·cases hk
 ·rename_i x ho;split at hk
  ·rename_i hx;cases hk;trivial
  ·cases hk
 ·rename_i t x y ok ho;split at hk
  ·split at hk
   ·cases hk;trivial
   ·cases hk
  ·cases hk
 ·rename_i t m x y ho;split at hk
  ·split at hk
   ·cases hk;trivial
   ·cases hk
  ·cases hk
 ·rename_i t m x y ho;split at hk
  ·split at hk
   ·cases hk;trivial
   ·cases hk
  ·cases hk
 ·cases hk
theorem PH{kk:K}(h:kk.makes=true):bF e σ kk=none:=by
 cases kk<;>simp[K.makes]at h<;>rfl
theorem QV(hO:yy P CR O)(ha:At CR base ann.dR g0 w0 n b g w B e σ a){o:Oper}(ho:ops[i]?=some o)(hw:Region.wanted o (yielded ops a.tmps)=true)
  {zW:Bool} {op:Op} (hop:PA P ann n cm ops zW i o=some op) (h:vq O op e σ=some (e',σ')):
  JL P CR ann n ops base g0 w0 b g w a k cs i rest σ e' σ':=by
 unfold PA at hop;split at hop
 case h_2=>cases hop
 rename_i kk hk;split at hop
 case h_2=>cases hop
 rename_i gd hgd hdn;simp only[aB,ae]at hop;obtain⟨⟨hown,hst⟩,hop⟩:=hop;cases hop;have hn:∀t,o.dst=some t→t<n:=by
  intro t ht;rw[ht]at hdn;simpa using hdn
 have hV:kk.makes=false→∀t,o.dst=some t→t ∉ ann.dR:=by
  intro hm t ht;rw[ht]at hown;simp[hm]at hown;simpa using hown
 have hd:=Ks hk;have hkeq:=aam hk;unfold vq at h;dsimp only at h;split at h
 ·
  rename_i kp F Xs;split at h
  case h_2=>cases h
  rename_i d σ1 hc;split at h
  case isFalse=>cases h
  cases h;obtain⟨f,args,ts,h1,h2,h3⟩:=hkeq;exact M0 hO ha ho hw hn (hV rfl) h1 h2 h3 hc
 ·
  rename_i nb z;obtain⟨el,v,h1,h2,h3,h4⟩:=hkeq;rw[h3]at h;cases hnb:kq nb z σ with
  |none=>simp[hnb]at h
  |some x =>
   obtain⟨cs',σ1⟩:=x;simp only[hnb,ad,aj]at h;obtain⟨rfl,rfl⟩:=h;obtain⟨i0,vz,hinfo,hzero,hrz,h1z⟩:=sZ g h2;obtain⟨g1,i1,e1,r1⟩:=wN nb _ _ _ _ g _ hnb ha.inv hrz;exact aaK (el:=el) ha ho hw hd h3 h4 (hn _ h3) (by simp[execOp,h1,El hinfo hzero]) i1 e1 (sJ _ _ _ _ _ hnb) r1 h1z
 ·
  rename_i X;obtain⟨t,x,v,h1,h2,h3,h4⟩:=hkeq;rw[h3]at h;cases hcx:(aZ e X).cells with
  |none=>simp[hcx]at h
  |some cs' =>
   simp only[hcx,ad,aj]at h;obtain⟨rfl,rfl⟩:=h;obtain⟨tmps,df⟩:=a;obtain⟨hr,h1z⟩:=(ha.fr.aZ (df:=df) h2).cells hcx;exact aaK (el:=t) ha ho hw hd h3 h4 (hn _ h3) (by simp[execOp,h1,Instr.box,newVar,newRow]) ha.inv (Ev.refl g w) (.refl σ) hr h1z
 ·
  rename_i v nb sz x X;obtain⟨t,y,h1,h2,h3⟩:=hkeq;have hdst:o.dst=none:=by simpa[K.atF]using hst
  split at h
  case h_2=>cases h
  rename_i s cv off p hin hp;split at h
  case isFalse=>cases h
  rename_i hlen;split at h
  case h_2=>cases h
  rename_i p' σ1 hnb;cases h;exact aoO ha ho hw hn (hV rfl) h1 h2 h3 hin hp hlen hnb hdst
 ·
  rename_i k1 h1 h2 h3 h4;cases hs:bF e σ kk with
  |none=>simp[hs]at h
  |some x =>
   obtain⟨d,σ1⟩:=x;simp only[hs,aS,ad,aj]at h;obtain⟨rfl,rfl⟩:=h;have hm:kk.makes=false:=by
    cases hm:kk.makes
    ·rfl
    ·rw[PH hm]at hs;cases hs
   obtain⟨tmps,df⟩:=a;obtain⟨x,c,g',w',hrun,hx,he,hi,hr⟩:=aoH (df:=df) ha.fr ha.inv hk hs;exact zw ha ho hn (hV hm) (.one (wX ho hw hd hrun hx)) he hi (aa5 hs) hr
inductive vN {α β:Type} (R:α→β→Prop):List α→List β→Prop
 |nil:vN R [] []
 |cons {x:α} {y:β} {xs:List α} {ys:List β}:R x y→vN R xs ys→vN R (x::xs) (y::ys)
def FG(P:Program)(ann:uc)(n cm:Nat)(ops:Array Oper)(i:Nat)(x:Op):Prop:=∃o zW,ops[i]?=some o∧PA P ann n cm ops zW i o=some x
theorem I3{zW:Bool}{o:Oper}{op:Op}(h:PA P ann n cm ops zW i o=some op):
  op.dst=o.dst∧(∀t,o.dst=some t→t<n)∧((o.guard=none∧op.Cz=none)∨∃j d bb,o.guard=some (j,bb)∧op.Cz=some (d,bb)∧(ops[j]?).bind (·.dst)=some d∧(∀t,o.dst=some t→t ∉ ann.dR)):=by
 unfold PA at h;split at h
 case h_2=>cases h
 rename_i kk hk;split at h
 case h_2=>cases h
 rename_i gd hgd hdn;simp only[aB,ae]at h;obtain⟨⟨hown,hst⟩,h⟩:=h;cases h;refine⟨rfl,fun t ht=>by rw[ht]at hdn;simpa using hdn,?_⟩;cases hg:o.guard with
 |none=>rw[hg]at hgd;cases hgd;exact .inl ⟨rfl,rfl⟩
 |some x =>
  obtain⟨j,bb⟩:=x;rw[hg]at hgd;dsimp only at hgd;cases hj:(ops[j]?).bind (·.dst)with
  |none=>rw[hj]at hgd;cases hgd
  |some d =>
   rw[hj]at hgd;cases hgd;refine .inr ⟨j,d,bb,rfl,rfl,hj,fun t ht=>?_⟩;rw[ht,hg]at hown;simpa using hown
theorem Bm(hO:yy P CR O){tl:List Nat}:∀(is:List Nat) (xs:List Op) (e:Env) (σ:SK) (g:G) (w:World) (B:Nat→Nat) (a:Act),vN (FG P ann n cm ops) is xs →
  lZ O xs e σ=some (e',σ')→At CR base ann.dR g0 w0 n b g w B e σ a →
  ∃g' w' B' a',Steps P (lone (b.atR a (.inRegion ops (is++tl)::k)) cs w) (lone (b.atR a' (.inRegion ops tl::k)) cs w')∧At CR base ann.dR g0 w0 n b g' w' B' e' σ' a'∧g.le g'∧gp σ σ'
 |[],xs,e,σ,g,w,B,a,hF,h,ha=>by
  cases hF;simp only[lZ,ad,aj]at h;obtain⟨rfl,rfl⟩:=h;exact⟨g,w,B,a,.refl _ _,ha,g.le_refl,.refl σ⟩
 |i::is,xs,e,σ,g,w,B,a,hF,h,ha=>by
  cases hF with
  |cons hx hF =>
   rename_i x xs;obtain⟨o,zW,ho,hop⟩:=hx;obtain⟨hdst,hn,hgrd⟩:=I3 hop;simp only[lZ]at h;have hgo:∀{e1 σ1 g1 w1 B1 a1},Steps P (lone (b.atR a (.inRegion ops (i::is++tl)::k)) cs w) (lone (b.atR a1 (.inRegion ops (is++tl)::k)) cs w1) →
     At CR base ann.dR g0 w0 n b g1 w1 B1 e1 σ1 a1→g.le g1→gp σ σ1→lZ O xs e1 σ1=some (e',σ') →
     ∃g' w' B' a',Steps P (lone (b.atR a (.inRegion ops (i::is++tl)::k)) cs w) (lone (b.atR a' (.inRegion ops tl::k)) cs w')∧At CR base ann.dR g0 w0 n b g' w' B' e' σ' a'∧g.le g'∧gp σ σ':=by
    intro e1 σ1 g1 w1 B1 a1 h1 h2 h3 h4 h5;obtain⟨g2,w2,B2,a2,k1,k2,k3,k4⟩:=Bm hO is xs _ _ _ _ _ _ hF h5 h2;exact⟨g2,w2,B2,a2,h1.trans k1,k2,h3.trans' k3,h4.trans k4⟩
   rcases hgrd with⟨hg1,hg2⟩ | ⟨j,d,bb,hg1,hg2,hj,hV⟩
   ·rw[hg2]at h;simp only[af,Prod.exists]at h;obtain⟨e1,σ1,h1,h2⟩:=h;obtain⟨g1,w1,B1,a1,k1,k2,k3,k4⟩:=QV (k:=k) (cs:=cs) (rest:=is++tl) hO ha ho (by simp[Region.wanted,hg1]) hop h1;exact hgo k1 k2 k3 k4 h2
   ·rw[hg2]at h;dsimp only at h;split at h
    case h_2=>cases h
    rename_i bv hbv;have hy:yielded ops a.tmps j=bv:=by
     have hrel:=ha.fr.rel d;unfold yielded;rw[hj];simp only[Option.bind_some];cases hg:get e d with
     |bool b =>
      rw[hg]at hrel hbv;have hrel':bC g (.bool b) (a.tmps.getD d Go.undef):=hrel;have hval:=hrel'.oT;simp only[D.bit,ad]at hbv;subst hbv;rw[bU]at hval;cases hd:a.tmps[d]? with
      |none=>rw[hd]at hval;simp[Go.undef]at hval
      |some y=>rw[hd]at hval;simp at hval;subst hval;rfl
     |dQ ds =>
      cases ds with
      |nil =>
       rw[hg]at hrel hbv;have hrel':bC g (.dQ []) (a.tmps.getD d Go.undef):=hrel;have hval:a.tmps.getD d Go.undef=.tuple #[]:=by
        generalize a.tmps.getD d Go.undef=z at hrel';cases hrel' with | dQ _ cs hl =>
         cases cs with | mk cs=>cases cs with
          |nil=>rfl
          |cons c cs=>cases hl
       simp only[D.bit,ad]at hbv;subst hbv;rw[bU]at hval;cases hd:a.tmps[d]? with
       |none=>rfl
       |some y=>rw[hd]at hval;simp at hval;subst hval;rfl
      |cons x xs=>rw[hg]at hbv;simp[D.bit]at hbv
     |_=>rw[hg]at hbv;simp[D.bit]at hbv
    split at h
    ·rename_i hb;simp only[af,Prod.exists]at h;obtain⟨e1,σ1,h1,h2⟩:=h;obtain⟨g1,w1,B1,a1,k1,k2,k3,k4⟩:=QV (k:=k) (cs:=cs) (rest:=is++tl) hO ha ho (by simp[Region.wanted,hg1,hy,hb]) hop h1;exact hgo k1 k2 k3 k4 h2
    ·rename_i hb;have hstep:=stepR_op_skip (P:=P) (b:=b) (a:=a) (k:=k) (cs:=cs) (w:=w) (ops:=ops) (i:=i) (rest:=is++tl) (by simp[ho,Region.wanted,hg1,hy,hb]);rw[show(ops[i]?).bind (·.dst)=o.dst from by rw[ho];rfl]at hstep;obtain⟨g1,w1,B1,a1,k1,k2,k3,k4⟩:=zw (d:=.dQ []) ha ho hn hV (.one hstep) (Ev.refl g w) ha.inv (.refl σ) (cn.of (.dQ [] #[] .nil));rw[hdst]at h;exact hgo k1 k2 k3 k4 h
theorem L5(hO:yy P CR O)(is:List Nat)(xs:List Op)(e:Env)(σ:SK)(g:G)(w:World)(B:Nat→Nat)(a:Act)(hF:vN (FG P ann n cm ops) is xs)
  (h:lZ O xs e σ=some (e',σ')) (ha:At CR base ann.dR g0 w0 n b g w B e σ a):
  ∃g' w' B' a',Steps P (lone (b.atR a (.inRegion ops is::k)) cs w) (lone (b.atR a' (.inRegion ops []::k)) cs w')∧At CR base ann.dR g0 w0 n b g' w' B' e' σ' a'∧g.le g'∧gp σ σ':=by
 have:=Bm (k:=k) (cs:=cs) (tl:=[]) hO is xs e σ g w B a hF h ha;simpa using this
theorem OT{O:bH}{fv:D}{args:List D}{r:R}(h:zP O fv args σ=some r):∃f first cap,fv=.fn f first cap∧O (.call false f (first++args++cap) σ)=some r:=by
 unfold zP at h;split at h
 ·exact⟨_,_,_,rfl,h⟩
 ·cases h
theorem ajt{zW:Bool}{o:Oper}{op:Op}(h:PA P ann n cm ops zW i o=some op):kC P ann ops (cm*1000+i) o=some op.k∧(op.k.makes=false→∀t,o.dst=some t→t ∉ ann.dR):=by
 unfold PA at h;split at h
 case h_2=>cases h
 rename_i kk hk;split at h
 case h_2=>cases h
 simp only[aB,ae]at h;obtain⟨⟨hown,hst⟩,h⟩:=h;cases h;refine⟨hk,fun hm t ht=>?_⟩;dsimp only at hm;rw[ht]at hown;simp[hm]at hown;simpa using hown
theorem Ml{o:Oper}{v:Value}{w':World}{is:List Nat}(ho:ops[i]?=some o)(hw:Region.wanted o (yielded ops a.tmps)=true)(hd:∀c,o.op ≠ .defer c)
  (hr:(execOp a.eval o).run P w=.halt (.panic v) w'):
  step P (lone (b.atR a (.inRegion ops (i::is)::k)) cs w)=.next (lone {b.atR a (.inRegion ops (i::is)::k)with mode:=.panicking [{v,recovered:=false }] } cs w'):=by
 have hg:=stepGR_op (P:=P) (b:=b) (k:=k) (cs:=cs) (w:=w) (rest:=is) ho hw;rw[Oper.semAt_eq _ _ _ hd]at hg;exact step_lone_go (by rw[hg,← Frame.raise_atR];simp[stepG.apply,hr])
end
def jH(ts:List Nat)(e e':Env):Prop:=∀t∈ts,get e' t=get e t
theorem jH.mono{ts us:List Nat}{e e':Env}(h:jH us e e')(hs:∀t∈ts,t∈us):jH ts e e':=fun t ht=>h t (hs t ht)
theorem jH.app{ts us:List Nat}{e e':Env}:jH (ts++us) e e'↔jH ts e e'∧jH us e e' :=
 ⟨fun h=>⟨fun t ht=>h t (by simp[ht]),fun t ht=>h t (by simp[ht])⟩,fun h t ht=>(aY.1 ht).elim (h.1 t) (h.2 t)⟩
theorem jH.cons{t:Nat}{us:List Nat}{e e':Env}:jH (t::us) e e'↔get e' t=get e t∧jH us e e' :=
 ⟨fun h=>⟨h t (by simp),fun u hu=>h u (by simp[hu])⟩,fun h u hu=>(bq.1 hu).elim (fun x=>x ▸ h.1) (h.2 u)⟩
variable {e e':Env} {σ σ':SK}
theorem aP{x:bE}(h:jH x.tmps e e'):aZ e' x=aZ e x:=by
 cases x with
 |t n=>simp only[aZ];rw[h n (by simp[bE.tmps])]
 |c d=>rfl
theorem uF{xs:List bE}(h:jH (xs.flatMap bE.tmps) e e'):xs.map (aZ e')=xs.map (aZ e):=by
 induction xs with
 |nil=>rfl
 |cons x xs ih =>
  simp only[aQ,jH.app]at h;simp only[aM,aP h.1,ih h.2]
theorem xA:∀{ps:List (Nat×Nat×bE)} {cs:List D},jH (ps.flatMap fun p=>p.2.2.tmps) e e'→rB e' ps cs=rB e ps cs
 |[],cs,h=>rfl
 |(off,sz,x)::ps,cs,h=>by
  simp only[aQ,jH.app]at h;simp only[rB,aP h.1];split
  ·split
   ·exact xA h.2
   ·rfl
  ·rfl
theorem D0{m:Nat}{dfl:Option Nat}{x:Option bE}(h:jH ((x.map bE.tmps).getD []) e e'):Bc e' m dfl x=Bc e m dfl x:=by
 cases x with
 |none=>rfl
 |some x=>simp only[Bc];rw[aP (by simpa using h)]
theorem C8{n:Nat}{lo hi mx:Option bE}(h1:jH ((lo.map bE.tmps).getD []) e e')(h2:jH ((hi.map bE.tmps).getD []) e e')(h3:jH ((mx.map bE.tmps).getD []) e e'):
  bounds n e' lo hi mx=bounds n e lo hi mx:=by
 simp only[bounds,D0 h1,D0 h2,D0 h3]
theorem AJ{v a:Nat}(h1:get e' v=get e v)(h2:get e' a=get e a):rC e' v a=rC e v a:=by
 simp only[rC,h1,h2]
theorem PG{k:K}(h:jH k.tmps e e'):bF e' σ k=bF e σ k:=by
 cases k<;>simp only[K.tmps,jH.app,jH.cons]at h
 case mv x=>simp only[bF,aP h]
 case rq=>rfl
 case pick c a b=>simp only[bF,aP h.1.1,aP h.1.2,aP h.2]
 case G8=>rfl
 case mki=>simp only[bF,aP h]
 case tas=>simp only[bF,aP h]
 case isi=>simp only[bF,aP h]
 case K6=>rfl
 case K7=>rfl
 case dT=>rfl
 case G9 x=>simp only[bF,aP h]
 case Ha x=>simp only[bF,aP h]
 case bxn nb x=>simp only[bF,aP h]
 case D1=>rfl
 case lf=>simp only[bF,xA h]
 case uH=>simp only[bF,xA h]
 case K4=>simp only[bF,xA h]
 case ld=>simp only[bF,aP h]
 case PW=>simp only[bF,aP h]
 case PV=>simp only[bF,aP h]
 case isn=>simp only[bF,aP h]
 case ng=>simp only[bF,aP h]
 case st=>simp only[bF,aP h.1,aP h.2]
 case PK os sz a x =>
  have hall:∀l i,(os.all fun t=>D.off l i (get e' t))=os.all fun t=>D.off l i (get e t):=by
   intro l i;have h2:=h.2;clear h;induction os with
   |nil=>rfl
   |cons o os ih=>simp only[jk,h2 o (by simp),ih (h2.mono fun t ht=>by simp[ht])]
  simp only[bF,aP h.1.1,aP h.1.2,hall]
 case PX=>simp only[bF,AJ h.1 h.2.1]
 case Er=>rfl
 case bin=>simp only[bF,aP h.1,aP h.2]
 case eqv=>simp only[bF,aP h.1,aP h.2]
 case un=>simp only[bF,aP h]
 case Q5=>simp only[bF,aP h]
 case xf=>simp only[bF,uF h.1,uF h.2]
 case mks=>simp only[bF,aP h.1,aP h.2]
 case K8=>simp only[bF,aP h.1.1.1,C8 h.1.1.2 h.1.2 h.2]
 case Mg=>simp only[bF,aP h.1.1,C8 (mx:=none) h.1.2 h.2 (fun t ht=>by simp at ht)]
 case Hc off x =>
  cases x with
  |t n=>simp only[bF,h n (by simp[bE.tmps])]
  |c d=>rfl
 case fld=>simp only[bF,aP h]
 case AI len w x i =>
  cases x with
  |t n =>
   have h1:=h.1 n (by simp[bE.tmps]);simp only[bF,aP h.2];cases Dn (aZ e i)<;>simp only[h1]
  |c d=>simp only[bF]
 case eI=>simp only[bF,aP h.1,aP h.2]
 case IW=>simp only[bF,aP h.1,aP h.2]
 case Hh=>simp only[bF,aP h]
 case LS=>rfl
 case mn=>simp only[bF,aP h.1,aP h.2]
 case mx=>simp only[bF,aP h.1,aP h.2]
 case app=>simp only[bF,aP h.1,aP h.2]
 case OQ os w b s x =>
  have hall:∀l i,(os.all fun t=>D.off l i (get e' t))=os.all fun t=>D.off l i (get e t):=by
   intro l i;have h2:=h.2;clear h;induction os with
   |nil=>rfl
   |cons o os ih=>simp only[jk,h2 o (by simp),ih (h2.mono fun t ht=>by simp[ht])]
  simp only[bF,IG,aP h.1.1,aP h.1.2,hall]
 case PT=>simp only[bF,IG,aP h.1,aP h.2]
 case cpi=>simp only[bF,aP h]
 case cvz=>simp only[bF,aP h]
 case bse=>rfl
 case ape w b v x=>simp only[bF,h.1,aP h.2]
 case ext=>simp only[bF,aP h]
 case BR=>simp only[bF,uF h]
 case mp=>simp only[bF,uF h]
 case me=>simp only[bF,uF h]
 case call=>rfl
noncomputable def tW(O:bH)(op:Op)(e:Env)(σ:SK):Option (Env×SK) :=
 match op.Cz with
 |none=>vq O op e σ
 |some (g,want) =>
  match(get e g).bit with
  |some y=>if y=some want then vq O op e σ else some (put op.dst (.dQ []) e,σ)
  |none=>none
theorem jJ{O:bH}{op:Op}{r:List Op}:lZ O (op::r) e σ=(tW O op e σ).bind fun x=>lZ O r x.1 x.2:=by
 simp only[lZ,tW];cases op.Cz with
 |none=>rfl
 |some x =>
  obtain⟨g,want⟩:=x;dsimp only;cases(get e g).bit<;>try rfl
  dsimp only;split<;>rfl
theorem I8{dst:Option Nat}{d:D}:put dst d e=(dst.toList.map fun t=>(t,d))++e:=by
 cases dst<;>rfl
theorem HC{O:bH}{op:Op}{e1:Env}{σ1:SK}(h:vq O op e σ=some (e1,σ1)):
  ∃l:List (Nat×D),(∀p∈l,p.1∈op.defs)∧∀e',jH (op.DI++op.defs) e e'→vq O op e' σ=some (l++e',σ1):=by
 obtain⟨dst,Cz,zW,k⟩:=op;have hk:∀e',jH (Op.DI ⟨dst,Cz,zW,k⟩++Op.defs ⟨dst,Cz,zW,k⟩) e e'→jH k.tmps e e':=fun e' ha=>ha.mono fun t ht=>by simp[Op.DI,ht]
 have hdst:∀d:D,∀p∈dst.toList.map (fun t=>(t,d)),p.1∈Op.defs ⟨dst,Cz,zW,k⟩:=by
  intro d p hp;simp only[bN]at hp;obtain⟨t,ht,rfl⟩:=hp;simp only[Op.defs,aY];exact .inl ht
 have hplain:(∀e0,vq O ⟨dst,Cz,zW,k⟩ e0 σ=(bF e0 σ k).map fun x=>(put dst x.1 e0,x.2)) →
   ∃l:List (Nat×D),(∀p∈l,p.1∈Op.defs ⟨dst,Cz,zW,k⟩)∧∀e',jH (Op.DI ⟨dst,Cz,zW,k⟩++Op.defs ⟨dst,Cz,zW,k⟩) e e'→vq O ⟨dst,Cz,zW,k⟩ e' σ=some (l++e',σ1):=by
  intro hall;rw[hall]at h;simp only[ab,Prod.exists,aj]at h;obtain⟨d,σ2,hs,rfl,rfl⟩:=h;refine⟨dst.toList.map fun t=>(t,d),hdst d,fun e' ha=>?_⟩;rw[hall,PG (hk e' ha),hs];simp only[aS,I8]
 cases k
 case call kp f args =>
  simp only[vq]at h ⊢;split at h
  case h_2=>cases h
  rename_i d σ2 hc;split at h
  case isFalse=>cases h
  rename_i hn;cases h;refine⟨dst.toList.map fun t=>(t,d),hdst d,fun e' ha=>?_⟩;have h1:=hk e' ha;simp only[K.tmps,jH.app]at h1;rw[aP h1.1,uF h1.2,hc];simp only[if_pos hn,I8]
 case dT nb cs =>
  simp only[vq]at h ⊢;split at h
  case h_2=>cases h
  rename_i v cs' σ2 hnb;cases h;refine⟨[(v,.own (tZ e v) cs')],by simp[Op.defs],fun e' ha=>?_⟩;rw[show tZ e' v=tZ e v from by simp only[tZ];rw[ha v (by simp[Op.defs])]];rfl
 case D1 x =>
  simp only[vq]at h ⊢;split at h
  case h_2=>cases h
  rename_i v cs' hc;cases h;refine⟨[(v,.own (tZ e v) cs')],by simp[Op.defs],fun e' ha=>?_⟩;have h1:=hk e' ha;simp only[K.tmps]at h1;rw[aP h1,hc];simp only[show tZ e' v=tZ e v from by simp only[tZ];rw[ha v (by simp[Op.defs])]];rfl
 case Er v nb sz a x =>
  simp only[vq]at h ⊢;split at h
  case h_2=>cases h
  rename_i s cs off p hin hp;split at h
  case isFalse=>cases h
  rename_i hc;split at h
  case h_2=>cases h
  rename_i p' σ2 hnb;cases h;refine⟨[(v,.own s (cs.take off++p'++cs.drop (off+sz)))],by simp[Op.defs],fun e' ha=>?_⟩;have h1:=hk e' ha;simp only[K.tmps,jH.app,jH.cons]at h1;rw[AJ h1.1.1 h1.1.2.1,aP h1.2,hin,hp];simp only[if_pos hc,hnb];rfl
 all_goals exact hplain fun e0=>rfl
theorem CG{O:bH}{op:Op}{e1:Env}{σ1:SK}(h:tW O op e σ=some (e1,σ1)):
  ∃l:List (Nat×D),(∀p∈l,p.1∈op.defs)∧∀e',jH (op.DI++op.defs) e e'→tW O op e' σ=some (l++e',σ1):=by
 unfold tW at h ⊢;cases hg:op.Cz with
 |none=>rw[hg]at h;simp only at h ⊢;exact HC h
 |some x =>
  obtain⟨t,want⟩:=x;rw[hg]at h;simp only at h ⊢;split at h
  case h_2=>cases h
  rename_i b hb;have hgt:∀e',jH (op.DI++op.defs) e e'→(get e' t).bit=some b:=fun e' ha=>by rw[ha t (by simp[Op.DI,hg]),hb]
  split at h
  ·rename_i hw;obtain⟨l,h1,h2⟩:=HC h;refine⟨l,h1,fun e' ha=>?_⟩;rw[hgt e' ha];simp only[if_pos hw];exact h2 e' ha
  ·rename_i hw;cases h;refine⟨op.dst.toList.map fun t=>(t,.dQ []),fun p hp=>?_,fun e' ha=>?_⟩
   ·simp only[bN]at hp;obtain⟨t,ht,rfl⟩:=hp;simp only[Op.defs,aY];exact .inl ht
   ·rw[hgt e' ha];simp only[if_neg hw,I8]
theorem H5{cs cs':List D}(h:kq [] cs σ=some (cs',σ')):σ'=σ:=by
 simp only[kq,ad,aj]at h;exact h.2.symm
theorem Il{d:D}{k:K}(h:bF e σ k=some (d,σ'))(hk:k.calm=true):σ'=σ:=KP h hk
theorem HD{O:bH}{op:Op}{e1:Env}{σ1:SK}(h:vq O op e σ=some (e1,σ1))(hs:op.still=true):σ1=σ:=by
 obtain⟨dst,Cz,zW,k⟩:=op;simp only[Op.still,ae]at hs;obtain⟨hk,hn⟩:=hs;have hplain:(vq O ⟨dst,Cz,zW,k⟩ e σ=(bF e σ k).map fun x=>(put dst x.1 e,x.2))→σ1=σ:=by
  intro hall;rw[hall]at h;simp only[ab,Prod.exists,aj]at h;obtain⟨d,σ2,hs,rfl,rfl⟩:=h;exact Il hs hk
 cases k
 case call kp f args =>
  simp only[vq]at h;split at h
  case h_2=>cases h
  split at h
  case isFalse=>cases h
  rename_i hx;cases h;exact hx hn
 case dT nb cs =>
  simp only[vq]at h;split at h
  case h_2=>cases h
  rename_i v cs' σ2 hnb;cases h;simp only[K.calm,List.isEmpty_iff]at hk;subst hk;exact H5 hnb
 case D1 x =>
  simp only[vq]at h;split at h
  case h_2=>cases h
  cases h;rfl
 case Er v nb sz a x =>
  simp only[vq]at h;split at h
  case h_2=>cases h
  split at h
  case isFalse=>cases h
  split at h
  case h_2=>cases h
  rename_i hnb;cases h;simp only[K.calm,List.isEmpty_iff]at hk;subst hk;exact H5 hnb
 all_goals exact hplain rfl
theorem CH{O:bH}{op:Op}{e1:Env}{σ1:SK}(h:tW O op e σ=some (e1,σ1))(hs:op.still=true):σ1=σ:=by
 unfold tW at h;split at h
 ·exact HD h hs
 ·split at h
  case h_2=>cases h
  split at h
  ·exact HD h hs
  ·cases h;rfl
def EA(e e':Env):Prop:=∀t,get e' t=get e t
theorem EA.refl(e:Env):EA e e:=fun _=>rfl
theorem EA.trans{a b c:Env}(h:EA a b)(h':EA b c):EA a c:=fun t=>(h' t).trans (h t)
theorem EA.agree(h:EA e e')(ts:List Nat):jH ts e e':=fun t _=>h t
theorem Fk{l:List (Nat×D)}{t:Nat}:get (l++e) t=if t∈l.map (·.1)then get l t else get e t:=by
 induction l with
 |nil=>simp
 |cons p l ih =>
  obtain⟨k,v⟩:=p;simp only[gq,get];by_cases hk:k=t
  ·simp[hk]
  ·rw[if_neg hk,ih];simp only[aM,bq];by_cases ht:t∈l.map (·.1)
   ·rw[if_pos ht,if_pos (.inr ht)];rw[if_neg hk]
   ·rw[if_neg ht,if_neg (by intro h;rcases h with h | h;exact hk h.symm;exact ht h)]
theorem EA.app(h:EA e e')(l:List (Nat×D)):EA (l++e) (l++e'):=fun t=>by
 simp only[Fk,h t]
theorem FZ{O:bH}:∀{xs:List Op} {e e' e1:Env} {σ σ1:SK},lZ O xs e σ=some (e1,σ1)→EA e e'→∃e1',lZ O xs e' σ=some (e1',σ1)∧EA e1 e1'
 |[],e,e',e1,σ,σ1,h,he=>by
  simp only[lZ,ad,aj]at h;obtain⟨rfl,rfl⟩:=h;exact⟨e',rfl,he⟩
 |x::xs,e,e',e1,σ,σ1,h,he=>by
  rw[jJ]at h;simp only[af,Prod.exists]at h;obtain⟨e2,σ2,h1,h2⟩:=h;obtain⟨l,_,hl⟩:=CG h1;have h3:=hl e (EA.agree (.refl e) _);rw[h1]at h3;cases h3;obtain⟨e3,h4,h5⟩:=FZ h2 (he.app l);exact⟨e3,by rw[jJ,hl e' (he.agree _)];exact h4,h5⟩
theorem aa6{d:D}{k:K}(h:bF e σ k=some (d,σ'))(hk:k.pure=true)(τ:SK):bF e τ k=some (d,τ):=by
 cases k<;>simp only[K.pure,K.calm,ar]at hk<;>simp only[bF,aL,reduceCtorEq]at h ⊢ <;> (repeat' split at h)<;>
  simp only[ab,af,ad,aj,Prod.exists,reduceCtorEq,exists_eq_left,and_false,exists_false]at h<;>(try split at h)<;>
  simp_all<;>(try (obtain⟨_,_,h⟩:=h;simp_all))<;>(try grind)
theorem JU{O:bH}{op:Op}{e1:Env}{σ1:SK}(h:vq O op e σ=some (e1,σ1))(hs:op.k.pure=true)(τ:SK):vq O op e τ=some (e1,τ):=by
 obtain⟨dst,Cz,zW,k⟩:=op;have hplain:(∀τ,vq O ⟨dst,Cz,zW,k⟩ e τ=(bF e τ k).map fun x=>(put dst x.1 e,x.2))→vq O ⟨dst,Cz,zW,k⟩ e τ=some (e1,τ):=by
  intro hall;rw[hall]at h ⊢;simp only[ab,Prod.exists,aj]at h;obtain⟨d,σ2,hs',rfl,rfl⟩:=h;rw[aa6 hs' hs τ];rfl
 cases k
 case call kp f args=>simp[K.pure]at hs
 case dT nb cs =>
  simp only[K.pure,K.calm,List.isEmpty_iff]at hs;subst hs;simp only[vq]at h ⊢;cases dst with
  |none=>cases h
  |some v=>simp only[kq,ad,aj]at h ⊢;exact⟨h.1,trivial⟩
 case D1 x =>
  simp only[vq]at h ⊢;cases dst with
  |none=>cases h
  |some v =>
   cases hx:(aZ e x).cells with
   |none=>rw[hx]at h;cases h
   |some cs=>rw[hx]at h;simp only[ad,aj]at h ⊢;exact⟨h.1,trivial⟩
 case Er v nb sz a x =>
  simp only[K.pure,K.calm,List.isEmpty_iff]at hs;subst hs;simp only[vq]at h ⊢;cases hin:rC e v a<;>rw[hin]at h<;>try (cases h;done)
  cases hx:(aZ e x).cells<;>rw[hx]at h<;>try (cases h;done)
  simp only[kq]at h ⊢;split at h
  ·rename_i hc;rw[if_pos hc];simp only[ad,aj]at h ⊢;exact⟨h.1,trivial⟩
  ·cases h
 all_goals exact hplain fun τ=>rfl
theorem Br{O:bH}{op:Op}{e1:Env}{σ1:SK}(h:tW O op e σ=some (e1,σ1))(hs:op.k.pure=true):∀τ,tW O op e τ=some (e1,τ):=by
 intro τ;unfold tW at h ⊢;cases hg:op.Cz with
 |none=>rw[hg]at h;exact JU h hs τ
 |some y =>
  obtain⟨g,want⟩:=y;rw[hg]at h;dsimp only at h ⊢;cases hb:(get e g).bit with
  |none=>rw[hb]at h;cases h
  |some b =>
   rw[hb]at h;dsimp only at h ⊢;split at h
   ·rename_i hw;rw[if_pos hw];exact JU h hs τ
   ·rename_i hw;rw[if_neg hw];cases h;rfl
theorem zG{a:List aG}{σ:SK}{l:Nat}{s:List aG}(h:σ.length=l):jg (a::σ) l s=s::σ:=by simp only[jg];rw[if_pos h]
theorem oe{a:List aG}{σ:SK}{l:Nat}{s:List aG}(h:¬σ.length=l):jg (a::σ) l s=a::jg σ l s:=by simp only[jg];rw[if_neg h]
theorem KO{σ:SK}{l l':Nat}{s s':List aG}(h:l≠l'):jg (jg σ l s) l' s'=jg (jg σ l' s') l s:=by
 induction σ with
 |nil=>rfl
 |cons a σ ih =>
  by_cases h1:σ.length=l
  ·have h2:¬σ.length=l':=by omega
   rw[zG h1,oe h2,oe h2,zG (by rw[fT];exact h1)]
  ·by_cases h2:σ.length=l'
   ·rw[oe h1,zG h2,zG (by rw[fT];exact h2),oe h1]
   ·rw[oe h1,oe h2,oe (by rw[fT];exact h2),oe (by rw[fT];exact h1),ih]
theorem tY{σ:SK}{l l':Nat}{s:List aG}(h:l≠l'):gj (jg σ l s) l'=gj σ l':=by
 induction σ with
 |nil=>rfl
 |cons a σ ih =>
  simp only[jg];by_cases h1:σ.length=l
  ·rw[if_pos h1];simp only[gj];rw[if_neg (by omega),if_neg (by omega)]
  ·rw[if_neg h1];simp only[gj,fT,ih]
theorem Jl{σ:SK}{l:Nat}{s s':List aG}:jg (jg σ l s) l s'=jg σ l s':=by
 induction σ with
 |nil=>rfl
 |cons a σ ih =>
  simp only[jg];by_cases h1:σ.length=l
  ·rw[if_pos h1,if_pos h1];simp only[jg];rw[if_pos h1]
  ·rw[if_neg h1,if_neg h1];simp only[jg,fT];rw[if_neg h1,ih]
theorem KN{σ:SK}{l i l' i':Nat}{b b':aG}(h:¬(l'=l∧i'=i)):aT (aT σ l i b) l' i' b'=aT (aT σ l' i' b') l i b:=by
 by_cases hl:l=l'
 ·subst hl;have hi:i≠i':=fun e=>h ⟨rfl,e.symm⟩
  unfold aT;cases hs:gj σ l with
  |none=>simp[hs]
  |some s =>
   simp only[sW (zF hs),Jl];rw[List.set_comm _ _ hi]
 ·unfold aT;cases hs:gj σ l with
  |none =>
   cases hs':gj σ l' with
   |none=>simp[hs,hs']
   |some s'=>simp only[tY (Ne.symm hl),hs]
  |some s =>
   cases hs':gj σ l' with
   |none=>simp only[tY hl,hs',hs]
   |some s' =>
    simp only[tY hl,tY (Ne.symm hl),hs,hs'];exact KO hl
theorem zi{σ:SK}{l i l' i' v:Nat}{b:aG}(h:¬(l'=l∧i'=i)):cells? (aT σ l i b) l' i' v=cells? σ l' i' v:=by
 unfold cells?;rw[eA h]
theorem Ja{σ:SK}{l i:Nat}{b:aG}{d:D}(h:D.off l i d=true):Ei (aT σ l i b) d.strip=Ei σ d.strip:=by
 cases d<;>try rfl
 simp only[D.off,ao]at h;simp only[D.strip,Ei,zi h]
theorem Bq{O:bH}{dst:Option Nat}{n ag:Bool}{sz m:Nat}{e1:Env}{σ1:SK}(h:tW O ⟨dst,none,n,.ld ag sz (.t m)⟩ e σ=some (e1,σ1)):
  σ1=σ∧∀τ,Ei τ (get e m).strip=Ei σ (get e m).strip→tW O ⟨dst,none,n,.ld ag sz (.t m)⟩ e τ=some (e1,τ):=by
 have hs:=CH h;simp only[tW,vq,bF,aZ]at h ⊢;refine⟨?_,fun τ hτ=>?_⟩
 ·simp only[ab,Prod.exists,aj]at h;obtain⟨d,σ2,h,_,rfl⟩:=h;exact Il (k:=.ld ag sz (.t m)) (e:=e) (d:=d) (by simpa only[bF,aZ]using h) rfl
 ·rw[hτ];cases hr:Ei σ (get e m).strip with
  |none=>rw[hr]at h;cases h
  |some cs =>
   rw[hr]at h;dsimp only at h ⊢;split at h
   ·rename_i hsz;rw[if_pos hsz];cases ag with
    |true=>simp at h ⊢;exact h.1
    |false =>
     simp only[ar,if_false]at h ⊢;cases cs with
     |nil=>cases h
     |cons d ds=>simp at h ⊢;exact h.1
   ·cases h
theorem Dz{O:bH}{dst:Option Nat}{n:Bool}{os:List Nat}{sz:Nat}{a x:bE}{e1:Env}{σ1:SK}(h:tW O ⟨dst,none,n,.PK os sz a x⟩ e σ=some (e1,σ1)):
  ∃l i v off b,aZ e a=.ref l i v off∧(∀m∈os,D.off l i (get e m)=true)∧σ1=aT σ l i b ∧
   ∀τ,τ.length=σ.length→cells? τ l i v=cells? σ l i v→tW O ⟨dst,none,n,.PK os sz a x⟩ e τ=some (e1,aT τ l i b):=by
 simp only[tW,vq,bF]at h ⊢;cases ha:aZ e a<;>rw[ha]at h<;>try (cases h;done)
 rename_i l i v off;dsimp only at h ⊢;split at h
 case isFalse=>cases h
 rename_i hall;cases hc:cells? σ l i v with
 |none=>rw[hc]at h;cases h
 |some cs =>
 rw[hc]at h;dsimp only at h;cases hp:(aZ e x).cells with
 |none=>rw[hp]at h;cases h
 |some p =>
 rw[hp]at h;dsimp only at h;split at h
 case isFalse=>cases h
 rename_i hq;simp only[aS,ad,aj]at h;refine⟨l,i,v,off,.cells v (cs.take off++p++cs.drop (off+sz)),rfl,fun m hm=>kS.1 hall m hm,h.2.symm,fun τ hlen hτ=>?_⟩;simp only[hall,if_true,hτ,hc,hlen,if_pos hq,aS,h.1]
theorem KK{O:bH}{dst:Option Nat}{n:Bool}{os:List Nat}{w b:Nat}{a x:bE}{e1:Env}{σ1:SK}(h:tW O ⟨dst,none,n,.OQ os w b a x⟩ e σ=some (e1,σ1)):
  ∃l i v cs,(∀m∈os,D.off l i (get e m)=true)∧σ1=aT σ l i (.cells (v+1) cs):=by
 simp only[tW,vq,ab,Prod.exists,aj]at h;obtain⟨d,σ2,h,_,rfl⟩:=h;simp only[bF]at h;split at h
 case h_2=>cases h
 rename_i l i v off n' w' ha;split at h
 case isFalse=>cases h
 rename_i hall;simp only[af]at h;obtain⟨⟨m,xs⟩,he,h⟩:=h;dsimp only at h;split at h
 case isFalse=>cases h
 rename_i hcl;simp only[IG,aL,he,Option.bind_some,ha]at h;split at h
 case h_2=>cases h
 split at h
 case isFalse=>cases h
 refine⟨l,i,?_⟩;split at h
 ·cases h;exact⟨_,_,fun m hm=>kS.1 hall m hm,rfl⟩
 ·rw[show deep=15+1 from rfl,D9 hcl]at h;cases h;exact⟨_,_,fun m hm=>kS.1 hall m hm,rfl⟩
theorem acR{σ:SK}{l i v:Nat}{cs:List D}{d:D}{c:List D}(h:PZ (aT σ l i (.cells (v+1) cs)) d=some c):PZ σ d=some c:=by
 unfold PZ at h ⊢;split at h
 case h_2=>cases h
 rename_i l2 i2 off;simp only[Ei,ab]at h ⊢;obtain⟨a,h1,h2⟩:=h;refine⟨a,?_,h2⟩;by_cases hh:l2=l∧i2=i
 ·obtain⟨rfl,rfl⟩:=hh;unfold cells? at h1;cases hb:ez σ l2 i2 with
  |some b0=>rw[n9 hb]at h1;simp at h1
  |none =>
   have hn:ez (aT σ l2 i2 (.cells (v+1) cs)) l2 i2=none:=by
    unfold ez at hb ⊢;unfold aT;cases hs:gj σ l2 with
    |none=>simp only[hs];rfl
    |some s =>
     simp only[hs,Option.bind_some]at hb;simp only[sW (zF hs),Option.bind_some];rw[List.getElem?_eq_none_iff]at hb ⊢;simpa using hb
   rw[hn]at h1;cases h1
 ·rwa[zi hh]at h1
theorem aaW{O:bH}{dst:Option Nat}{n ag:Bool}{sz m:Nat}{e1:Env}{σ1:SK}(h:tW O ⟨dst,none,n,.PV ag sz (.t m)⟩ e σ=some (e1,σ1)):
  σ1=σ∧∃c,PZ σ (get e m).strip=some c∧∀τ,PZ τ (get e m).strip=some c→tW O ⟨dst,none,n,.PV ag sz (.t m)⟩ e τ=some (e1,τ):=by
 simp only[tW,vq,bF,aZ]at h ⊢;cases hr:PZ σ (get e m).strip with
 |none=>rw[hr]at h;cases h
 |some cs =>
  rw[hr]at h;dsimp only at h ⊢;have hs:σ1=σ:=by
   split at h
   ·cases ag with
    |true=>simp at h;exact h.2.symm
    |false=>cases cs<;>simp at h;exact h.2.symm
   ·cases h
  refine⟨hs,cs,rfl,fun τ hτ=>?_⟩;rw[hτ];dsimp only;split at h
  ·rename_i hsz;rw[if_pos hsz];cases ag with
   |true=>simp at h ⊢;exact h.1
   |false =>
    simp only[ar,if_false]at h ⊢;cases cs with
    |nil=>cases h
    |cons d ds=>simp at h ⊢;exact h.1
  ·cases h
theorem Px{σ σ':SK}{b:aG}{l i:Nat}(h:gH σ b=some (l,i,σ')){d:D}{cs:List D}(hd:Ei σ d=some cs):Ei σ' d=some cs:=by
 cases d<;>try exact hd
 rename_i l' i' v off;simp only[Ei,ab]at hd ⊢;obtain⟨c,h1,h2⟩:=hd;refine⟨c,?_,h2⟩;unfold cells? at h1 ⊢;have hb:∃b0,ez σ l' i'=some b0:=by
  cases hb:ez σ l' i' with
  |none=>rw[hb]at h1;cases h1
  |some b0=>exact⟨b0,rfl⟩
 obtain⟨b0,hb⟩:=hb;have hne:¬(l'=l∧i'=i):=fun hh=>by
  have:=(jG h).1;rw[hh.1,hh.2,this]at hb;cases hb
 rw[(jG h).2.2.1 l' i' hne];exact h1
theorem akv{O:bH}{x y:Op}{e2:Env}{σ2:SK}{r:List Op}(hf:x.adr y=true)
  (h:lZ O (x::y::r) e σ=some (e2,σ2)):∃e2',lZ O (y::x::r) e σ=some (e2',σ2)∧EA e2 e2':=by
 unfold Op.adr at hf;split at hf
 case h_2=>cases hf
 rename_i n v sz a X d n' off m;simp only[ao]at hf;obtain⟨rfl,hdv,hda,hdX⟩:=hf;rw[jJ]at h;simp only[af,Prod.exists]at h;obtain⟨ex,σx,h1,h2⟩:=h;rw[jJ]at h2;simp only[af,Prod.exists]at h2;obtain⟨ey,σy,h2,h3⟩:=h2;simp only[tW,vq]at h1;cases hin:rC e m a with
 |none=>rw[hin]at h1;cases h1
 |some z =>
 obtain⟨s,cs,o⟩:=z;rw[hin]at h1;cases hX:(aZ e X).cells with
 |none=>rw[hX]at h1;cases h1
 |some p =>
 rw[hX]at h1;dsimp only at h1;split at h1
 case isFalse=>cases h1
 rename_i hq;simp only[kq,ad,aj]at h1;obtain⟨rfl,rfl⟩:=h1;have hgv:∃cs',get e m=.own s cs':=by
  unfold rC at hin;cases hg:get e m<;>rw[hg]at hin<;>try (cases hin;done)
  rename_i s' cs';dsimp only at hin;split at hin
  ·cases hin;exact⟨_,rfl⟩
  ·split at hin
   ·split at hin
    ·cases hin;exact⟨_,rfl⟩
    ·cases hin
   ·cases hin
 obtain⟨cs',hgv⟩:=hgv;simp only[tW,vq,bF,get,if_true,aS,ad,aj]at h2;obtain⟨rfl,rfl⟩:=h2;have hne:get ((d,D.vr m s off)::e) m=get e m:=by simp[get,hdv]
 have hna:get ((d,D.vr m s off)::e) a=get e a:=by simp[get,hda]
 have hin':rC ((d,D.vr m s off)::e) m a=some (s,cs,o):=by rw[AJ hne hna,hin]
 have hX':aZ ((d,D.vr m s off)::e) X=aZ e X:=aP fun t ht=>by
  have:d≠t:=fun he=>hdX (he ▸ ht)
  simp[get,this]
 have heq:EA (put (some d) (D.vr m s off) ((m,.own s (cs.take o++p++cs.drop (o+sz)))::e)) ((m,.own s (cs.take o++p++cs.drop (o+sz)))::(d,D.vr m s off)::e):=by
  intro t;simp only[put,get];by_cases h1:d=t
  ·have:¬m=t:=fun e=>hdv (h1.trans e.symm)
   simp[h1,this]
  ·simp[h1]
 obtain⟨e3,k1,k2⟩:=FZ h3 heq;refine⟨e3,?_,k2⟩;rw[jJ];simp only[tW,vq,bF,hgv,aS,Option.bind_some];rw[jJ];simp only[tW,vq,put,hin',hX',hX,hq,and_self,if_true,kq,Option.bind_some];exact k1
theorem adg{O:bH}{x y:Op}{e2:Env}{σ2:SK}{r:List Op}(hf:x.free y=true)
  (h:lZ O (x::y::r) e σ=some (e2,σ2)):∃e2',lZ O (y::x::r) e σ=some (e2',σ2)∧EA e2 e2':=by
 unfold Op.free at hf;rw[bW]at hf;rcases hf with hf | hf
 ·exact akv hf h
 simp only[ae,cX]at hf;obtain⟨hc,hf⟩:=hf;simp only[Op.ady,Bool.or_eq_false_iff,List.any_eq_false,List.contains_iff_mem,bW,not_or]at hc;obtain⟨c1,c2⟩:=hc;rw[jJ]at h;simp only[af,Prod.exists]at h;obtain⟨ex,σx,h1,h2⟩:=h;rw[jJ]at h2;simp only[af,Prod.exists]at h2;obtain⟨ey,σy,h2,h3⟩:=h2;obtain⟨lx,d1,hl1⟩:=CG h1;obtain⟨ly,d2,hl2⟩:=CG h2;have k1:=hl1 e (EA.agree (.refl e) _);rw[h1]at k1;cases k1;have k2:=hl2 _ (EA.agree (.refl _) _);rw[h2]at k2;cases k2;have ay:jH (y.DI++y.defs) (lx++e) e:=fun t ht=>by
  rw[Fk,if_neg];intro hm;obtain⟨p,hp,rfl⟩:=bN.1 hm;have:=c1 _ (d1 p hp);simp only[aY]at ht;rcases ht with ht | ht
  ·exact this.2 (by simpa using ht)
  ·exact this.1 (by simpa using ht)
 have ax:jH (x.DI++x.defs) e (ly++e):=fun t ht=>by
  rw[Fk,if_neg];intro hm;obtain⟨p,hp,rfl⟩:=bN.1 hm;have hp':=d2 p hp;simp only[aY]at ht;rcases ht with ht | ht
  ·exact c2 _ ht (by simpa using hp')
  ·exact(c1 _ ht).1 (by simpa using hp')
 have hy0:=hl2 e ay;have hx0:=hl1 (ly++e) ax;obtain⟨σm,hy1,hx1⟩:∃σm,tW O y e σ=some (ly++e,σm)∧tW O x (ly++e) σm=some (lx++(ly++e),σy):=by
  simp only[bW,ae]at hf;rcases hf with((⟨hx,hy⟩ | hx) | hy) | hfar
  ·obtain rfl:=CH h1 hx;obtain rfl:=CH h2 hy;exact⟨_,hy0,hx0⟩
  ·have e1:=Br h1 hx σ;rw[h1]at e1;cases e1;exact⟨σy,hy0,Br hx0 hx σy⟩
  ·have e2:=Br h2 hy σx;rw[h2]at e2;cases e2;exact⟨σ,Br hy0 hy σ,hx0⟩
  ·unfold Op.far at hfar;obtain⟨dx,gx,nx,kx⟩:=x;obtain⟨dy,gy,ny,ky⟩:=y;simp only[ae,Option.isNone_iff_eq_none]at hfar;obtain⟨⟨rfl,rfl⟩,hfar⟩:=hfar;split at hfar
   ·rename_i os sz a X ag sz' m;have hm:m∈os:=by simpa using hfar
    obtain⟨l,i,v,off,b,_,hoff,rfl,_⟩:=Dz h1;obtain⟨rfl,hall⟩:=Bq hy0;exact⟨σ,hall σ (Ja (hoff m hm)).symm,hx0⟩
   ·rename_i ag sz' m os sz a X;have hm:m∈os:=by simpa using hfar
    obtain⟨rfl,_⟩:=Bq h1;obtain⟨l,i,v,off,b,_,hoff,rfl,_⟩:=Dz hy0;obtain⟨_,hall⟩:=Bq hx0;refine⟨_,hy0,hall _ ?_⟩;have hg:get (ly++e) m=get e m:=ax m (by simp[Op.DI,K.tmps,bE.tmps]);rw[hg];exact Ja (hoff m hm)
   ·rename_i os sz a X os' sz' m X';have hm:m∈os:=by simpa using hfar
    obtain⟨l,i,v,off,b,_,hoff,rfl,hall⟩:=Dz hx0;obtain⟨l',i',v',off',b',hr,hoff',rfl,hall'⟩:=Dz hy0;have hg:get (ly++e) m=get e m:=ax m (by simp[Op.DI,K.tmps,hm]);have h4:=hoff m hm;rw[hg]at h4;have h5:get e m=.ref l' i' v' off':=by
     simp only[aZ]at hr;cases hgm:get e m<;>rw[hgm]at hr<;>simp only[D.strip,reduceCtorEq]at hr;exact hr
    rw[h5]at h4;simp only[D.off,ao]at h4;refine⟨aT σ l' i' b',hall' σ eg.symm (zi h4).symm,?_⟩;rw[KN h4];exact hall _ eg (zi fun hh=>h4 ⟨hh.1.symm,hh.2.symm⟩)
   ·rename_i os wd bt a X ag sz' m;have hm:m∈os:=by simpa using hfar
    obtain⟨l,i,b,bc,hoff,rfl⟩:=KK h1;obtain⟨rfl,hall⟩:=Bq hy0;exact⟨σ,hall σ (Ja (hoff m hm)).symm,hx0⟩
   ·rename_i ag sz' m cs;obtain⟨rfl,_⟩:=Bq h1;obtain⟨_,hall⟩:=Bq hx0;refine⟨_,hy0,hall _ ?_⟩;have hg:get (ly++e) m=get e m:=ax m (by simp[Op.DI,K.tmps,bE.tmps]);rw[hg];have hrd:∃c,Ei σx (get e m).strip=some c:=by
     simp only[tW,vq,bF,aZ]at h1;cases hr:Ei σx (get e m).strip with
     |none=>rw[hr]at h1;simp at h1
     |some c=>exact⟨c,rfl⟩
    obtain⟨c,hrd⟩:=hrd;have hn:∃l i,gH σx (.cells 0 cs)=some (l,i,σy):=by
     simp only[tW,vq,bF,kq,aL,Option.bind_some,ab,af,Prod.exists,aj]at hy0;obtain⟨d0,σ0,⟨l,i,σ3,h1,h2⟩,_,h3⟩:=hy0;cases h2;cases h3;exact⟨l,i,h1⟩
    obtain⟨l,i,hn⟩:=hn;rw[hrd,Px hn hrd]
   ·rename_i os wd bt a X ag sz' m;obtain⟨l,i,b,bc,hoff,rfl⟩:=KK h1;obtain⟨rfl,c,hc,hall⟩:=aaW hy0;exact⟨σ,hall σ (acR hc),hx0⟩
   ·cases hfar
 have heq:EA (ly++(lx++e)) (lx++(ly++e)):=fun t=>by
  simp only[Fk];by_cases m1:t∈lx.map (·.1)
  ·by_cases m2:t∈ly.map (·.1)
   ·obtain⟨p,hp,rfl⟩:=bN.1 m1;obtain⟨q,hq,he⟩:=bN.1 m2;have:=(c1 _ (d1 p hp)).1;have hq':=d2 q hq;rw[he]at hq';exact absurd hq' (by simpa using this)
   ·rw[if_pos m1,if_neg m2,if_pos m1]
  ·by_cases m2:t∈ly.map (·.1)
   ·rw[if_neg m1,if_pos m2,if_pos m2]
   ·rw[if_neg m1,if_neg m2,if_neg m2,if_neg m1]
 obtain⟨e3,k3,k4⟩:=FZ h3 heq;refine⟨e3,?_,k4⟩;rw[jJ,hy1];simp only[Option.bind_some];rw[jJ,hx1];exact k3
theorem Kf{O:bH}{y:Op}{r:List Op}:∀{pre:List Op} {e e2:Env} {σ σ2:SK},(∀x∈pre,x.free y=true) →
  lZ O (pre++y::r) e σ=some (e2,σ2)→∃e2',lZ O (y::(pre++r)) e σ=some (e2',σ2)∧EA e2 e2'
 |[],e,e2,σ,σ2,hp,h=>⟨e2,h,.refl _⟩
 |x::pre,e,e2,σ,σ2,hp,h=>by
  simp only[gq]at h;rw[jJ]at h;simp only[af,Prod.exists]at h;obtain⟨e1,σ1,h1,h2⟩:=h;obtain⟨e3,h3,h4⟩:=Kf (fun z hz=>hp z (by simp[hz])) h2;have h5:lZ O (x::y::(pre++r)) e σ=some (e3,σ2):=by rw[jJ,h1];exact h3
  obtain⟨e4,h6,h7⟩:=adg (hp x (by simp)) h5;exact⟨e4,h6,h4.trans h7⟩
theorem Jc{live:List Nat}(h:EA e e'):restrict live e'=restrict live e:=by
 simp only[restrict];exact List.map_congr_left fun t _=>by rw[h t]
end Go.Abs
