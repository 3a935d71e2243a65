import Derived.Test.YtfgljaglidhjiaaGreatDoorBase9
import Derived.Recover
set_option linter.all false
namespace Go.Abs
open Go
def vT(P:Program)(CR:fZ)(f:Nat)(args:List D)(σ:SK)(d:D)(σ':SK):Prop :=
 (∃F c,P.funcs[f]?=some F∧F.name ≠ "runtime.NumGoroutine" ∧ F.body=some c) ∧
 ∀base g w vs,Inv CR base g σ w→sb σ→0<σ.length→bC g args vs.toList →
  gL σ σ'∧Calls P f vs w (fun e w'=>∃v g',e=.returned v∧Ev g w g' w'∧Inv CR base g' σ' w'∧bI g' d v)
def af1(P:Program)(CR:fZ)(f:Nat)(args:List D)(σ:SK)(d:D)(σ':SK):Prop :=
 d.clean=true∧(∃F c,P.funcs[f]?=some F∧F.name ≠ "runtime.NumGoroutine" ∧ F.body=some c) ∧
 ∀base g w vs,Inv CR base g σ w→sb σ→0<σ.length→bC g args vs.toList →
  gL σ σ'∧Calls P f vs w (fun e w'=>∃v g',e=.panicked [{v,recovered:=false }]∧Ev g w g' w'∧Inv CR base g' σ' w'∧bI g' d v)
def NX(g:G):Option D→FrameMode→Prop
 |none,u=>u=.returning
 |some d,u=>∃v,bI g d v∧u=.panicking [{v,recovered:=false }]
def afW(P:Program)(CR:fZ)(f:Nat)(args:List D)(th:Option D)(σ σ':SK):Prop :=
 (∃F c,P.funcs[f]?=some F∧F.name ≠ "runtime.NumGoroutine" ∧ F.body=some c) ∧
 ∀base g w vs u,Inv CR base g σ w→sb σ→0<σ.length→bC g args vs.toList→NX g th u →
  gL σ σ'∧CallsD P f vs u w (fun e u' w'=>∃v g',e=.returned v∧settle u'=.returning∧Ev g w g' w'∧Inv CR base g' σ' w')
def N9(P:Program)(CR:fZ)(l i:Nat)(args:List D)(σ:SK)(d:D)(σ':SK):Prop :=
 (∃lp,eo σ l i=some (.loop lp))∧∀base g w vs b,Inv CR base g σ w→sb σ→0<σ.length→bC g args vs.toList→bI g (.mH l i) (.func (.yield b) #[] #[]) →
  gL σ σ'∧∃f tmps zW body,(Instr.yield b vs).run P w=.ok (.round b f tmps zW body) w ∧
   ∀c cs,∃v g' w',Steps P (lone (Frame.round b f tmps zW body .normal) (c::cs) w) (lone (c.finish v) cs w')∧Ev g w g' w'∧Inv CR base g' σ' w'∧bI g' d v
def Ay(k:List Item):Exit→List Item→Prop
 |.normal,t=>t=k
 |.exit id,t=>∃k',t=.code (.exit id)::k'∧exitTo id k'=exitTo id k
 |.ret,t=>∃k',t=.code .ret::k'
 |.fY _,_=>True
def yE(S:Frame→Prop)(g:G)(b:Frame)(a:Act)(todo:List Item):Exit→Prop
 |.fY d=>d.clean=true∧∃v,bI g d v∧S {b.atR a todo with mode:=.panicking [{v,recovered:=false }] }
 |_=>S (b.atR a todo)
theorem yE.imp{S S':Frame→Prop}{g:G}{b:Frame}{a:Act}{todo:List Item}{x:Exit}(h:yE S g b a todo x)(hs:∀fr,S fr→S' fr):yE S' g b a todo x:=by
 cases x with
 |fY d=>obtain⟨h0,v,h1,h2⟩:=h;exact⟨h0,v,h1,hs _ h2⟩
 |_=>exact hs _ h
def anA(P:Program)(CR:fZ)(c:cH)(e:Env)(σ:SK)(x:Exit)(e':Env)(σ':SK):Prop :=
 x ≠ .normal∧∀(ann:uD) bO code n,bW P ann n bO code=some c→∀base g0 w0 b a k cs g w B,At CR base ann.eD g0 w0 n b g w B e σ a →
  ∃g' w' B' a' todo,yE (fun fr=>Steps P (lone (b.atR a (.code code::.inLoop code::k)) cs w) (lone fr cs w')) g' b a' todo x ∧
   At CR base ann.eD g0 w0 n b g' w' B' e' σ' a'∧g.le g'∧Ay k x todo∧gL σ σ'
def Te(P:Program)(ann:uD)(n bO:Nat)(rest:cH):Option Code→Prop
 |none=>rest=.dJ
 |some q=>bW P ann n bO q=some rest
def afY(P:Program)(CR:fZ)(live:List Nat)(it:bK)(nx ok bid:Nat)(c rest:cH)(e:Env)(σ:SK)(x:Exit)(e':Env)(σ':SK):Prop :=
 ∀(ann:uD) bO rid ops p n it0 (qs:Option Code),it=.t it0→Ni ann n (.loop (.seq (.region rid ops false) p))=some (it0,nx,ok)→bW P ann n bid p=some c→Te P ann n bO rest qs →
  ∀base g0 w0 b a k cs g w B,At CR base ann.eD g0 w0 n b g w B e σ a →
  ∃g' w' B' a' todo,yE (fun fr=>Steps P (lone (b.atR a (.code (.seq (.region rid ops false) p)::.inLoop (.seq (.region rid ops false) p)::.inBlock bid::(qs.toList.map Item.code++k))) cs w) (lone fr cs w')) g' b a' todo x ∧
   At CR base ann.eD g0 w0 n b g' w' B' e' σ' a'∧g.le g'∧Ay k x todo∧gL σ σ'
def Fk(P:Program)(CR:fZ):Q→R→Prop
 |.call _ f args σ,.val d σ'=>vT P CR f args σ d σ'
 |.round l i args σ,.val d σ'=>N9 P CR l i args σ d σ'
 |.loop _ _ c e σ,.CI x e' σ'=>anA P CR c e σ x e' σ'
 |.call _ f args σ,.fY d σ'=>af1 P CR f args σ d σ'
 |.ja live it nx ok bid c rest e σ,.CI x e' σ'=>afY P CR live it nx ok bid c rest e σ x e' σ'
 |.xU f args th σ,.val _ σ'=>afW P CR f args th σ σ'
 |_,_=>True
def zc(P:Program)(CR:fZ)(O:bN):Prop:=∀q r,O q=some r→Fk P CR q r
theorem Fh{r:Option R}{d:D}{σ:SK}(h:R.bh r=some (d,σ)):r=some (.val d σ):=by
 unfold R.bh at h;split at h
 ·cases h;rfl
 ·cases h
theorem IH{r:Option R}{x:Exit}{e:Env}{σ:SK}(h:R.Ra r=some (x,e,σ)):r=some (.CI x e σ):=by
 unfold R.Ra at h;split at h
 ·cases h;rfl
 ·cases h
section
variable {P:Program} {CR:fZ} {O:bN} {ann:uD} {n cc:Nat} {ops:Array Oper} {base:Nat} {g0 g:G} {w0 w:World} {b:Frame} {B:Nat→Nat} {e e':Env} {σ σ':SK} {a:Act}
 {k:List Item} {cs:List Frame} {i:Nat} {rest:List Nat}
def KP(P:Program)(CR:fZ)(ann:uD)(n:Nat)(ops:Array Oper)(base:Nat)(g0:G)(w0:World)(b:Frame)(g:G)(w:World)(a:Act)(k:List Item)(cs:List Frame)(i:Nat)(rest:List Nat)(σ:SK)(e':Env)(σ':SK):Prop :=
 ∃g' w' B' a',Steps P (lone (b.atR a (.inRegion ops (i::rest)::k)) cs w) (lone (b.atR a' (.inRegion ops rest::k)) cs w') ∧
  At CR base ann.eD g0 w0 n b g' w' B' e' σ' a'∧g.le g'∧gL σ σ'
theorem At.go{V:List Nat}(ha:At CR base V g0 w0 n b g w B e σ a){g':G}{w':World}{B':Nat→Nat}{tm:Act}(he:Ev g w g' w')(hi:Inv CR base g' σ' w')(hg:gL σ σ')
  (hf:Fr w0.heap.size V g' w' B' e' tm.tmps) (hs:tm.tmps.size=a.tmps.size) (hd:tm.defers=a.defers):At CR base V g0 w0 n b g' w' B' e' σ' tm where
 fr:=hf
 ev:=ha.ev.trans he
 inv:=hi
 low:=hg.low ha.low
 pos:=by rw[hg.len];exact ha.pos
 size:=by rw[hs];exact ha.size
 marks:=let ⟨rs,h⟩:=ha.marks;⟨rs,by rw[hd];exact h.ev he⟩
 round:=Ao ha.round he.le
theorem BH{dst:Option Nat}{c:Value}:(a.put dst c).tmps.size=a.tmps.size:=by cases dst<;>simp[Act.put]
theorem put_defers{dst:Option Nat}{c:Value}:(a.put dst c).defers=a.defers:=by cases dst<;>simp[Act.put]
theorem LD{ann:uD}{key:Nat}{o:Oper}{kk:K}(h:kC P ann ops key o=some kk):∀c,o.op ≠ .defer c:=by
 intro c hc;unfold kC at h;rw[hc]at h;cases h
theorem Ai(ha:At CR base ann.eD g0 w0 n b g w B e σ a){o:Oper}(ho:ops[i]?=some o)(hn:∀t,o.dst=some t→t<n)(hV:∀t,o.dst=some t→t ∉ ann.eD)
  {g':G} {w':World} {d:D} {c:Value} (hsteps:Steps P (lone (b.atR a (.inRegion ops (i::rest)::k)) cs w) (lone (b.atR (a.put o.dst c) (.inRegion ops rest::k)) cs w'))
  (he:Ev g w g' w') (hi:Inv CR base g' σ' w') (hg:gL σ σ') (hr:cJ g' B e d c):
  KP P CR ann n ops base g0 w0 b g w a k cs i rest σ (put o.dst d e) σ':=by
 refine⟨g',w',B,a.put o.dst c,hsteps,ha.go he hi hg ?_ BH put_defers,he.le,hg⟩;exact(ha.fr.ev he).put hr hV fun t ht=>by rw[ha.size];exact hn t ht
theorem kK{ρ:Operand→Value}{f:Operand}{args:Array Operand}{ts:Array TypeId}{ty:TypeId}{fn:Go.Fn}{first cap:Array Value}(hf:ρ f=.func fn first cap)(w:World):
  (resolve ρ {callee:=.value f,args,argTypes:=ts } ty).run P w=.ok {target:=.fn fn cap,args:=first++args.map ρ } w:=by
 simp[resolve,Deferred.ofValue,hf]
theorem wN{f:FuncId}{args:Array Value}{F:Func}(h1:P.funcs[f]?=some F)(h2:F.name ≠ "runtime.NumGoroutine"){c:Code}(h3:F.body=some c)(w:World):
  (callFunc f args).run P w=.ok (.enter f args) w:=by
 simp[callFunc,program,Sem.run,h1,h2,h3]
theorem Ed{xs:Array Operand}{Xs:List bK}{fb:Nat}{V:List Nat}{tmps:Array Value}{df:List Deferred}(hf:Fr fb V g w B e tmps)(hx:wv xs.toList=some Xs):
  bC g (Xs.map (Abs.bj e)) (xs.map (Act.mk tmps df).eval).toList:=by
 have:=hf.arP (df:=df) hx;simpa using this
theorem Og(hO:zc P CR O)(ha:At CR base ann.eD g0 w0 n b g w B e σ a){o:Oper}(ho:ops[i]?=some o)(hw:Region.wanted o (yielded ops a.tmps)=true)
  (hn:∀t,o.dst=some t→t<n) (hV:∀t,o.dst=some t→t ∉ ann.eD) {f:Operand} {args:Array Operand} {ts:Array TypeId} (hop:o.op=.call {callee:=.value f,args,argTypes:=ts })
  {F:bK} {Xs:List bK} (hF:bE f=some F) (hX:wv args.toList=some Xs) {kp:Bool} {d:D} (h:pw O kp (bj e F) (Xs.map (bj e)) σ=some (d,σ')):
  KP P CR ann n ops base g0 w0 b g w a k cs i rest σ (put o.dst d e) σ':=by
 obtain⟨tmps,df⟩:=a;have hd:∀c,o.op ≠ .defer c:=by intro c hc;rw[hop]at hc;cases hc
 have hfv:=ha.fr.bj (df:=df) hF;have hxs:=Ed (df:=df) ha.fr hX;unfold pw at h;split at h
 ·rename_i fi first cap hfe
  rw[hfe]at hfv;have hans:=hO _ _ (Fh h);obtain⟨⟨Fn,cd,hfn1,hfn2,hfn3⟩,hcall⟩:=hans;generalize hev:(Act.mk tmps df).eval f=fv at hfv;cases hfv with
  |fn _ _ _ first' cap' r1 r2 =>
   have hrun:(execOp (Act.mk tmps df).eval o).run P w=.ok (.enter fi (first'++args.map (Act.mk tmps df).eval++cap')) w:=by
    simp only[execOp,hop,Sem.run_bind,kK hev,Result.andThen_ok,invoke,wN hfn1 hfn2 hfn3]
   have hargs:bC g (first++Xs.map (bj e)++cap) (first'++args.map (Act.mk tmps df).eval++cap').toList:=by
    simpa using(r1.append hxs).append r2
   obtain⟨hgo,hcalls⟩:=hcall base g w _ ha.inv ha.low ha.pos hargs;obtain⟨en,w',fr,⟨v,g',rfl,he,hi,hr⟩,hcomes,hfr,hleave⟩:=hcalls (b.atR ⟨tmps,df⟩ (.inRegion ops (i::rest)::k)::cs);refine Ai ha ho hn hV (Steps.head (HJ ho hw hd hrun) (Steps.trans hcomes (Steps.one ?_))) he hi hgo (cJ.of hr);rw[step_leave_returned hleave,BY ho]
 ·rename_i l j hfe;rw[hfe]at hfv;have hans:=hO _ _ (Fh h);generalize hev:(Act.mk tmps df).eval f=fv at hfv;have hfv0:=hfv;cases hfv with
  |Qg _ _ bb r1 =>
   obtain⟨⟨lp,hlp⟩,_⟩:=hans;obtain⟨b0,hb0,hrel⟩:=ha.inv.wP _ _ _ r1;rw[hlp]at hb0;cases hb0;exact hrel.elim
  |itv _ _ bb L r1 r2 =>
   obtain⟨⟨lp,hlp⟩,_⟩:=hans;obtain⟨b0,hb0,hrel⟩:=ha.inv.wP _ _ _ r1;rw[hlp]at hb0;cases hb0;rcases r2 with rfl | rfl<;>exact hrel.elim
  |Q3 _ _ bb L r1 r2 =>
   obtain⟨⟨lp,hlp⟩,_⟩:=hans;obtain⟨b0,hb0,hrel⟩:=ha.inv.wP _ _ _ r1;rw[hlp]at hb0;cases hb0;rcases r2 with⟨c,rfl⟩ | rfl<;>exact hrel.elim
  |mH _ _ bb r1 =>
   obtain⟨hgo,f0,tm0,zW,body,hy,hround⟩:=hans.2 base g w (args.map (Act.mk tmps df).eval) bb ha.inv ha.low ha.pos (by simpa using hxs) hfv0;have hrun:(execOp (Act.mk tmps df).eval o).run P w=.ok (.round bb f0 tm0 zW body) w:=by
    simp only[execOp,hop,Sem.run_bind,kK hev,Result.andThen_ok,invoke];simpa using hy
   obtain⟨v,g',w',hsteps,he,hi,hr⟩:=hround (b.atR ⟨tmps,df⟩ (.inRegion ops (i::rest)::k)) cs;refine Ai ha ho hn hV (Steps.head (ND ho hw hd hrun) ?_) he hi hgo (cJ.of hr);rw[BY ho]at hsteps;exact hsteps
 ·cases h
end
section
variable {P:Program} {CR:fZ} {O:bN} {ann:uD} {n cc:Nat} {ops:Array Oper} {base:Nat} {g0 g:G} {w0 w:World} {b:Frame} {B:Nat→Nat} {e e':Env} {σ σ':SK} {a:Act}
 {k:List Item} {cs:List Frame} {i:Nat} {rest:List Nat}
theorem aeC(ha:At CR base ann.eD g0 w0 n b g w B e σ a){o:Oper}(ho:ops[i]?=some o)(hw:Region.wanted o (yielded ops a.tmps)=true)(hd:∀c,o.op ≠ .defer c)
  {v:Nat} (hdst:o.dst=some v) (hV:v∈ann.eD) (hn:v<n) {g1:G} {ds:List D} {ca:Array Value} {el:TypeId}
  (hrun:(execOp a.eval o).run P w=.ok (.value (.pointer (some ⟨w.heap.size,0,none⟩))) (w.alloc (.cells ca el)))
  (i1:Inv CR base g1 σ' w) (e1:Ev g w g1 w) (hg:gL σ σ') (hr:bC g1 ds ca.toList) (h1:∀x∈ca.toList,x.oneCell'=true):
  KP P CR ann n ops base g0 w0 b g w a k cs i rest σ ((v,.own (uA e v) ds)::e) σ':=by
 obtain⟨tmps,df⟩:=a;have i2:=i1.alloc (.cells ca el);have e2:=e1.trans (Ev.alloc g1 w (.cells ca el));have hsteps:=xH (P:=P) (b:=b) (a:=⟨tmps,df⟩) (k:=k) (cs:=cs) (rest:=rest) ho hw hd hrun rfl;rw[hdst]at hsteps;have hsz:v<tmps.size:=by have:=ha.size;simp only at this;omega
 refine⟨g1,_,_,_,.one hsteps,ha.go e2 i2 hg ((ha.fr.ev e2).arT hV hsz ⟨ha.ev.size,fun hb=>?_,fun o=>?_,ca,el,tn,hr,h1⟩ fun t s cs' ht=>?_) BH put_defers,e2.le,hg⟩
 ·exact Nat.lt_irrefl _ (i1.adZ hb)
 ·cases hh:g1.re w.heap.size o with
  |none=>rfl
  |some x=>exact absurd (i1.jK hh) (Nat.lt_irrefl _)
 ·have:=(ha.fr.own t s cs' ht).2.2.lt;omega
theorem asN(ha:At CR base ann.eD g0 w0 n b g w B e σ a){o:Oper}(ho:ops[i]?=some o)(hw:Region.wanted o (yielded ops a.tmps)=true)
  (hn:∀t,o.dst=some t→t<n) (hV:∀t,o.dst=some t→t ∉ ann.eD) {t:TypeId} {x v:Nat} {y:Operand} {Y:bK} (hop:o.op=.store t (.tmp x) y) (hy:bE y=some Y) {sz:Nat} (hsz:dt P t=some sz)
  {s off:Nat} {cv p p':List D} {nb:List (Nat×Nat)} (hin:rY e v x=some (s,cv,off)) (hp:(bj e Y).cells=some p) (hlen:p.length=sz∧off+sz≤cv.length)
  (hnb:lf nb p σ=some (p',σ')) (hdst:o.dst=none):
  KP P CR ann n ops base g0 w0 b g w a k cs i rest σ ((v,.own s (cv.take off++p'++cv.drop (off+sz)))::e) σ':=by
 obtain⟨tmps,df⟩:=a;have hd:∀c,o.op ≠ .defer c:=by intro c hc;rw[hop]at hc;cases hc
 obtain⟨hgv,hpx⟩:=ha.fr.rY hin;obtain⟨hvV,hptr,hob⟩:=ha.fr.own v s cv hgv;obtain⟨ca,el,hheap,hrl,h1c⟩:=hob.bO;obtain⟨hrp,h1p⟩:=(ha.fr.bj (df:=df) hy).cells hp;obtain⟨g1,i1,e1,r1⟩:=xu nb _ _ _ _ g _ hnb ha.inv hrp;obtain⟨_,hp'len,_⟩:=Aj nb _ _ _ _ hnb;have hpl:((Act.mk tmps df).eval y).cells.toList.length=sz:=by rw[← r1.length,hp'len];exact hlen.1
 have hpl':((Act.mk tmps df).eval y).cells.size=sz:=by simpa using hpl
 have hcl:ca.size=cv.length:=by have:=hrl.length;simpa using this.symm
 obtain⟨w',c',hrun,hb',hs',hc',hother,hsize,ho1,ho2,ho3⟩:=Eg (P:=P) (t:=t) (w:=w) (b:=B v) (o:=off) (v:=(Act.mk tmps df).eval y) hsz (by simpa using hpl) h1p hheap (by omega);have hob1:=hob.ev e1;have hcv:(Act.mk tmps df).eval (.tmp x)=.pointer (some ⟨B v,off,none⟩):=hpx;have hrunO:(execOp (Act.mk tmps df).eval o).run P w=.ok .skip w':=by
  simp[execOp,hop,Instr.storeAt,hcv,Instr.sureAddr,hrun]
 have hoth:∀b',b'≠B v→w'.heap[b']?=w.heap[b']?:=hother;have i2:Inv CR base g1 σ' w':=i1.Gh (fun b' hb'' hk=>hoth b' fun hh=>by
  subst hh;rcases hk with hk | ⟨o2,v2,hk⟩
  ·exact hob1.free hk
  ·rw[hob1.vP]at hk;cases hk) (by omega)
 have hwrite:bC g1 (cv.take off++p'++cv.drop (off+sz)) c'.toList∧∀z∈c'.toList,z.oneCell'=true:=by
  have hrow:=Fa (c:=ca) (c':=c') (bo:=0) (off:=off) (vs:=ca.toList) (ps:=((Act.mk tmps df).eval y).cells.toList) (fun j z hz=>⟨by simpa using hz,h1c z (ai hz)⟩) h1p (by simp;omega)
   (by rw[hpl];simpa using hc')
  rw[hpl]at hrow;have hrel:=(((hrl.mono e1.le).take off).append r1).append ((hrl.mono e1.le).drop (off+sz));have heq:c'.toList=ca.toList.take off++((Act.mk tmps df).eval y).cells.toList++ca.toList.drop (off+sz):=by
   have hll:(ca.toList.take off++((Act.mk tmps df).eval y).cells.toList++ca.toList.drop (off+sz)).length=c'.toList.length:=by
    simp only[bz,hpl,lO,List.length_drop,Array.length_toList,hs'];omega
   apply eU;intro j;by_cases hj:j<c'.toList.length
   ·have hj2:=hj;rw[← hll]at hj2;have:=(hrow j _ (aF hj2)).1;rw[aF hj2];simpa using this
   ·rw[eR (by omega),eR (by omega)]
  rw[heq];refine⟨hrel,fun z hz=>?_⟩;simp only[bx]at hz;rcases hz with(hz | hz) | hz
  ·exact h1c z (cm hz)
  ·exact h1p z hz
  ·exact h1c z (dZ hz)
 have hob2:HS w0.heap.size g1 w' (B v) (cv.take off++p'++cv.drop (off+sz)):=⟨hob1.lo,hob1.free,hob1.vP,c',el,hb',hwrite.1,hwrite.2⟩;have hsteps:=xH (P:=P) (b:=b) (a:=⟨tmps,df⟩) (k:=k) (cs:=cs) (rest:=rest) ho hw hd hrunO rfl;rw[hdst]at hsteps;have hgo:=tg _ _ _ _ _ hnb;refine⟨g1,w',B,⟨tmps,df⟩,.one hsteps,⟨?_,?_,i2,hgo.low ha.low,by rw[hgo.len];exact ha.pos,ha.size,?_,Ao ha.round e1.le⟩,e1.le,hgo⟩
 ·exact(ha.fr.ev e1).Nw hgv hob2 fun b' _ hne=>hoth b' hne
 ·have h0:=ha.ev.trans e1;refine⟨h0.le,ho1.trans h0.os,ho2.trans h0.tape,ho3.trans h0.output,by have:=h0.size;omega,fun b' hb'' hnb'=>?_,h0.img,h0.JQ⟩;rw[hoth b' (by have:=hob.lo;omega)];exact h0.kept b' hb'' hnb'
 ·obtain⟨rs,hm⟩:=ha.marks;have hm1:=hm.ev e1;refine⟨rs,hm1.eq,hm1.nodup,fun r hr=>?_⟩;have hmr:=hm1.all r hr;refine⟨hmr.lo,hmr.free,hmr.vP,?_⟩;rw[hoth r,hmr.bO];intro hh;subst hh;have:=hmr.bO;rw[hheap]at this;cases this
def KEq(P:Program)(ann:uD)(o:Oper)(kk:K):Prop :=
  match kk with
  |.call _ F Xs=>∃f args ts,o.op=.call {callee:=.value f,args,argTypes:=ts }∧bE f=some F∧wv args.toList=some Xs
  |.ek _ z=>∃el v,o.op=.alloc el∧rZ P el=some z∧o.dst=some v∧v∈ann.eD
  |.EK X=>∃t x v,o.op=.box t x∧bE x=some X∧o.dst=some v∧v∈ann.eD
  |.Er _ _ sz x Y=>∃t y,o.op=.store t (.tmp x) y∧bE y=some Y∧dt P t=some sz
  |.Mw X=>∃y,o.op=.panic y∧bE y=some X
  |.My=>∃args ts,o.op=.call {callee:=.builtin .recover,args,argTypes:=ts }
  |_=>True
theorem Nd{X Y:bK}{t:TypeId}{bo:BinOp}{kk:K}{o:Oper}(hk:eqC P bo t X Y=some kk):KEq P ann o kk:=by
 unfold eqC at hk;split at hk
 case h_2=>cases hk
 split at hk
 ·cases hk
 split at hk
 ·obtain⟨ag,hag,rfl⟩:=ad.1 hk;trivial
 ·obtain⟨ag,hag,rfl⟩:=ad.1 hk;trivial
 ·cases hk
theorem aed{kk:K}{key:Nat}{o:Oper}(hk:kC P ann ops key o=some kk):KEq P ann o kk:=by
 unfold kC at hk;split at hk
 ·rename_i x ho;obtain⟨X,hX,rfl⟩:=ad.1 hk;trivial
 ·rename_i x ho;split at hk
  ·rename_i hnil _ _;split at hk
   ·obtain⟨X,hX,rfl⟩:=ad.1 hk;trivial
   ·obtain⟨X,hX,rfl⟩:=ad.1 hk;trivial
  ·obtain⟨X,hX,rfl⟩:=ad.1 hk;trivial
 ·rename_i c x y ho;split at hk
  ·rename_i c' x' y' h1 h2 h3;cases hk;trivial
  ·cases hk
 ·rename_i el ho;split at hk
  ·rename_i z d0 hz hd0;split at hk
   ·split at hk
    case h_2=>cases hk
    split at hk
    case h_2=>cases hk
    split at hk
    case h_2=>cases hk
    cases hk;trivial
   cases hk;split
   ·rename_i hc;exact⟨el,d0,ho,hz,hd0,by simpa using hc⟩
   ·trivial
  ·cases hk
 ·rename_i t x ho;split at hk
  ·rename_i x' d0 hx hd0;cases hk;by_cases hc:ann.eD.contains d0=true
   ·simp only[hc,if_true];exact⟨t,x,d0,ho,hx,hd0,by simpa using hc⟩
   ·rw[if_neg hc];split
    ·split<;>trivial
    ·trivial
  ·cases hk
 ·rename_i t ps ho;split at hk
  ·rename_i fs z ht hz;split at hk
   ·rename_i hall;obtain⟨parts,hp,rfl⟩:=ad.1 hk;trivial
   ·cases hk
  ·rename_i n el z ht hz;split at hk
   ·rename_i wd hw;obtain⟨parts,hp,rfl⟩:=ad.1 hk;trivial
   ·cases hk
  ·cases hk
 ·rename_i t n ps ho;split at hk
  ·rename_i el ht;split at hk
   ·rename_i wd z d0 hw hz _;split at hk
    ·rename_i hc;obtain⟨parts,hp,rfl⟩:=ad.1 hk;dsimp only;split
     ·trivial
     split<;>trivial
    ·cases hk
   ·cases hk
  ·cases hk
 ·rename_i t x ho;split at hk
  ·rename_i ag sz n hag hsz hx;split at hk
   ·rename_i hc;simp only[af,av]at hc;cases hk;have hxe:x=.tmp n:=by
     cases x<;>simp only[bE,ae,bK.t.injEq,reduceCtorEq,ad,and_false,exists_false]at hx;rw[hx]
    split
    ·trivial
    ·split
     ·trivial
     ·split<;>trivial
   ·cases hk
  ·cases hk
 ·rename_i t x y ho;split at hk
  ·rename_i sz n y' hsz hx hy;cases hk;have hxe:x=.tmp n:=by
    cases x<;>simp only[bE,ae,bK.t.injEq,reduceCtorEq,ad,and_false,exists_false]at hx;rw[hx]
   by_cases hc:ann.eD.contains (FM ops 8 n)=true
   ·simp only[hc,if_true];exact⟨t,y,by rw[ho,hxe],hy,hsz⟩
   ·rw[if_neg hc];split<;>trivial
  ·cases hk
 ·rename_i b t x y u ho;split at hk
  ·rename_i hx hy;cases hk;trivial
  ·rename_i hx hy;exact Nd hk
  ·rename_i hx hy;exact Nd hk
  ·rename_i hx hy;exact Nd hk
  ·rename_i ht hx hy;split at hk<;>cases hk<;>trivial
  ·rename_i ht hx hy;unfold isC at hk;split at hk<;>cases hk<;>trivial
  ·rename_i ht hx hy;split at hk
   ·split at hk<;>cases hk<;>trivial
   ·cases hk
  ·rename_i ht hx hy;unfold isC at hk;split at hk<;>cases hk<;>trivial
  ·rename_i ht hx hy;split at hk<;>cases hk<;>trivial
  ·cases hk
 ·rename_i x ho;obtain⟨X,hX,rfl⟩:=ad.1 hk;trivial
 ·rename_i b t x ho;obtain⟨X,hX,rfl⟩:=ad.1 hk;trivial
 ·rename_i s t x ho;split at hk
  ·rename_i hs ht hx;cases hk;trivial
  ·split at hk<;>cases hk<;>trivial
  ·split at hk<;>cases hk<;>trivial
  ·split at hk
   ·split at hk<;>cases hk<;>trivial
   ·cases hk
  ·cases hk
 ·rename_i t x ho;split at hk
  ·obtain⟨X,hX,rfl⟩:=ad.1 hk;trivial
  ·cases hk
 ·rename_i f xs ys ho;split at hk
  ·rename_i hx hy;cases hk;trivial
  ·cases hk
 ·rename_i t x y ho;split at hk
  ·rename_i el ht;split at hk
   ·rename_i hw hb hz hx hy;split at hk
    ·rename_i hc;cases hk;trivial
    ·cases hk
   ·cases hk
  ·cases hk
 ·rename_i t x lo hh mx ho;split at hk
  ·rename_i ht hx hlo hhi hmx;obtain⟨wd,hw,rfl⟩:=ad.1 hk;trivial
  ·rename_i ht hx hlo hhi hmx;obtain⟨wd,hw,rfl⟩:=ad.1 hk;have hm:mx=none:=by
    cases mx with
    |none=>rfl
    |some m=>simp[xz,ad]at hmx
   subst hm;trivial
  ·rename_i ht hx hlo hhi hmx;cases hk;trivial
  ·cases hk
 ·rename_i s x i ho;split at hk
  ·rename_i fs x' hs hx;split at hk
   ·rename_i off sz hfc;split at hk
    ·rename_i hpos;cases hk;trivial
    ·cases hk
   ·cases hk
  ·cases hk
 ·rename_i s x i ho;split at hk
  ·rename_i fs x' hs hx;split at hk
   ·rename_i f hfi;split at hk
    ·rename_i hag hsz;split at hk
     ·cases hk;trivial
     ·cases hk
    ·cases hk
   ·cases hk
  ·cases hk
 ·rename_i t x y ho;split at hk
  ·rename_i ht hx hy;obtain⟨wd,hw,rfl⟩:=ad.1 hk;trivial
  ·rename_i ht hx hy;obtain⟨wd,hw,rfl⟩:=ad.1 hk;trivial
  ·cases hk
 ·rename_i t x y ho;split at hk
  ·rename_i ht hx hy;split at hk
   ·rename_i hag hsz;split at hk
    ·cases hk;trivial
    ·cases hk
   ·cases hk
  ·rename_i ht hx hy;cases hk;trivial
  ·cases hk
 ·rename_i x i ho;obtain⟨X,hX,rfl⟩:=ad.1 hk;trivial
 ·rename_i c ho;obtain⟨callee,args,ts⟩:=c;dsimp only at hk;split at hk
  ·rename_i f;split at hk
   ·rename_i hf hx;cases hk;exact⟨f,args,ts,ho,hf,hx⟩
   ·cases hk
  ·split at hk
   ·rename_i t tr x r hts ha;split at hk
    ·rename_i ht hx;cases hk;trivial
    ·rename_i ht hx;cases hk;trivial
    ·rename_i ht hx;cases hk;trivial
    ·rename_i ht;cases hk;trivial
    ·rename_i ht;split at hk
     ·rename_i hr;cases hk;trivial
     ·cases hk
    ·cases hk
   ·cases hk
  ·cases hk;exact⟨_,_,ho⟩
  ·split at hk
   ·rename_i ha;split at hk
    ·rename_i hx hy;cases hk;trivial
    ·cases hk
   ·cases hk
  ·split at hk
   ·rename_i ha;split at hk
    ·rename_i hx hy;cases hk;trivial
    ·cases hk
   ·cases hk
  ·split at hk
   ·rename_i t u x y hts ha;split at hk
    ·rename_i ht hu hx hy;split at hk
     case isFalse=>cases hk
     split at hk
     ·rename_i hw hb hz;split at hk
      ·rename_i hc;cases hk;split
       ·trivial
       ·split
        ·trivial
        ·split
         ·trivial
         ·split<;>trivial
      ·cases hk
     ·cases hk
    ·cases hk
   ·cases hk
  ·cases hk
 ·rename_i t x ho;split at hk
  ·obtain⟨X,hX,rfl⟩:=ad.1 hk;trivial
  ·cases hk
 ·rename_i x xt t ok ho;split at hk
  ·cases hk
  ·split at hk
   ·obtain⟨z,hz,rfl⟩:=ad.1 hk;trivial
   ·cases hk;trivial
  ·cases hk
 ·rename_i x ho;obtain⟨X,hX,rfl⟩:=ad.1 hk;exact⟨x,ho,hX⟩
 ·rename_i t ho;cases hk;trivial
 ·split at hk<;>cases hk<;>trivial
 ·rename_i t x ho;split at hk
  ·rename_i ht hx;cases hk;trivial
  ·cases hk
 ·rename_i x ho;split at hk
  ·rename_i hx;cases hk;trivial
  ·cases hk
 ·rename_i t x y ok ho;split at hk
  ·split at hk
   ·cases hk;trivial
   ·cases hk
  ·cases hk
 ·rename_i t m x y ho;split at hk
  ·split at hk
   ·cases hk;trivial
   ·cases hk
  ·cases hk
 ·rename_i t m x y ho;split at hk
  ·split at hk
   ·cases hk;trivial
   ·cases hk
  ·cases hk
 ·cases hk
theorem RZ{kk:K}(h:kk.makes=true):bL e σ kk=none:=by
 cases kk<;>simp[K.makes]at h<;>rfl
theorem Tk(hO:zc P CR O)(ha:At CR base ann.eD g0 w0 n b g w B e σ a){o:Oper}(ho:ops[i]?=some o)(hw:Region.wanted o (yielded ops a.tmps)=true)
  {AF:Bool} {op:Op} (hop:RQ P ann n cc ops AF i o=some op) (h:vU O op e σ=some (e',σ')):
  KP P CR ann n ops base g0 w0 b g w a k cs i rest σ e' σ':=by
 unfold RQ at hop;split at hop
 case h_2=>cases hop
 rename_i kk hk;split at hop
 case h_2=>cases hop
 rename_i gd hgd hdn;simp only[aC,af]at hop;obtain⟨⟨hown,hst⟩,hop⟩:=hop;cases hop;have hn:∀t,o.dst=some t→t<n:=by
  intro t ht;rw[ht]at hdn;simpa using hdn
 have hV:kk.makes=false→∀t,o.dst=some t→t ∉ ann.eD:=by
  intro hm t ht;rw[ht]at hown;simp[hm]at hown;simpa using hown
 have hd:=LD hk;have hkeq:=aed hk;unfold vU at h;dsimp only at h;split at h
 ·
  rename_i kp F Xs;split at h
  case h_2=>cases h
  rename_i d σ1 hc;split at h
  case isFalse=>cases h
  cases h;obtain⟨f,args,ts,h1,h2,h3⟩:=hkeq;exact Og hO ha ho hw hn (hV rfl) h1 h2 h3 hc
 ·
  rename_i nb z;obtain⟨el,v,h1,h2,h3,h4⟩:=hkeq;rw[h3]at h;cases hnb:lf nb z σ with
  |none=>simp[hnb]at h
  |some x =>
   obtain⟨cs',σ1⟩:=x;simp only[hnb,ae,ak]at h;obtain⟨rfl,rfl⟩:=h;obtain⟨i0,vz,hinfo,hzero,hrz,h1z⟩:=tB g h2;obtain⟨g1,i1,e1,r1⟩:=xu nb _ _ _ _ g _ hnb ha.inv hrz;exact aeC (el:=el) ha ho hw hd h3 h4 (hn _ h3) (by simp[execOp,h1,Fc hinfo hzero]) i1 e1 (tg _ _ _ _ _ hnb) r1 h1z
 ·
  rename_i X;obtain⟨t,x,v,h1,h2,h3,h4⟩:=hkeq;rw[h3]at h;cases hcx:(bj e X).cells with
  |none=>simp[hcx]at h
  |some cs' =>
   simp only[hcx,ae,ak]at h;obtain⟨rfl,rfl⟩:=h;obtain⟨tmps,df⟩:=a;obtain⟨hr,h1z⟩:=(ha.fr.bj (df:=df) h2).cells hcx;exact aeC (el:=t) ha ho hw hd h3 h4 (hn _ h3) (by simp[execOp,h1,Instr.box,newVar,newRow]) ha.inv (Ev.refl g w) (.refl σ) hr h1z
 ·
  rename_i v nb sz x X;obtain⟨t,y,h1,h2,h3⟩:=hkeq;have hdst:o.dst=none:=by simpa[K.awN]using hst
  split at h
  case h_2=>cases h
  rename_i s cv off p hin hp;split at h
  case isFalse=>cases h
  rename_i hlen;split at h
  case h_2=>cases h
  rename_i p' σ1 hnb;cases h;exact asN ha ho hw hn (hV rfl) h1 h2 h3 hin hp hlen hnb hdst
 ·
  rename_i k1 h1 h2 h3 h4;cases hs:bL e σ kk with
  |none=>simp[hs]at h
  |some x =>
   obtain⟨d,σ1⟩:=x;simp only[hs,aT,ae,ak]at h;obtain⟨rfl,rfl⟩:=h;have hm:kk.makes=false:=by
    cases hm:kk.makes
    ·rfl
    ·rw[RZ hm]at hs;cases hs
   obtain⟨tmps,df⟩:=a;obtain⟨x,c,g',w',hrun,hx,he,hi,hr⟩:=asH (df:=df) ha.fr ha.inv hk hs;exact Ai ha ho hn (hV hm) (.one (xH ho hw hd hrun hx)) he hi (aeX hs) hr
inductive wA {α β:Type} (R:α→β→Prop):List α→List β→Prop
 |nil:wA R [] []
 |cons {x:α} {y:β} {xs:List α} {ys:List β}:R x y→wA R xs ys→wA R (x::xs) (y::ys)
def GD(P:Program)(ann:uD)(n cc:Nat)(ops:Array Oper)(i:Nat)(x:Op):Prop:=∃o AF,ops[i]?=some o∧RQ P ann n cc ops AF i o=some x
theorem JY{AF:Bool}{o:Oper}{op:Op}(h:RQ P ann n cc ops AF i o=some op):
  op.dst=o.dst∧(∀t,o.dst=some t→t<n)∧((o.guard=none∧op.Di=none)∨∃j d bb,o.guard=some (j,bb)∧op.Di=some (d,bb)∧(ops[j]?).bind (·.dst)=some d∧(∀t,o.dst=some t→t ∉ ann.eD)):=by
 unfold RQ at h;split at h
 case h_2=>cases h
 rename_i kk hk;split at h
 case h_2=>cases h
 rename_i gd hgd hdn;simp only[aC,af]at h;obtain⟨⟨hown,hst⟩,h⟩:=h;cases h;refine⟨rfl,fun t ht=>by rw[ht]at hdn;simpa using hdn,?_⟩;cases hg:o.guard with
 |none=>rw[hg]at hgd;cases hgd;exact .inl ⟨rfl,rfl⟩
 |some x =>
  obtain⟨j,bb⟩:=x;rw[hg]at hgd;dsimp only at hgd;cases hj:(ops[j]?).bind (·.dst)with
  |none=>rw[hj]at hgd;cases hgd
  |some d =>
   rw[hj]at hgd;cases hgd;refine .inr ⟨j,d,bb,rfl,rfl,hj,fun t ht=>?_⟩;rw[ht,hg]at hown;simpa using hown
theorem B7(hO:zc P CR O){tl:List Nat}:∀(is:List Nat) (xs:List Op) (e:Env) (σ:SK) (g:G) (w:World) (B:Nat→Nat) (a:Act),wA (GD P ann n cc ops) is xs →
  mF O xs e σ=some (e',σ')→At CR base ann.eD g0 w0 n b g w B e σ a →
  ∃g' w' B' a',Steps P (lone (b.atR a (.inRegion ops (is++tl)::k)) cs w) (lone (b.atR a' (.inRegion ops tl::k)) cs w')∧At CR base ann.eD g0 w0 n b g' w' B' e' σ' a'∧g.le g'∧gL σ σ'
 |[],xs,e,σ,g,w,B,a,hF,h,ha=>by
  cases hF;simp only[mF,ae,ak]at h;obtain⟨rfl,rfl⟩:=h;exact⟨g,w,B,a,.refl _ _,ha,g.le_refl,.refl σ⟩
 |i::is,xs,e,σ,g,w,B,a,hF,h,ha=>by
  cases hF with
  |cons hx hF =>
   rename_i x xs;obtain⟨o,AF,ho,hop⟩:=hx;obtain⟨hdst,hn,hgrd⟩:=JY hop;simp only[mF]at h;have hgo:∀{e1 σ1 g1 w1 B1 a1},Steps P (lone (b.atR a (.inRegion ops (i::is++tl)::k)) cs w) (lone (b.atR a1 (.inRegion ops (is++tl)::k)) cs w1) →
     At CR base ann.eD g0 w0 n b g1 w1 B1 e1 σ1 a1→g.le g1→gL σ σ1→mF O xs e1 σ1=some (e',σ') →
     ∃g' w' B' a',Steps P (lone (b.atR a (.inRegion ops (i::is++tl)::k)) cs w) (lone (b.atR a' (.inRegion ops tl::k)) cs w')∧At CR base ann.eD g0 w0 n b g' w' B' e' σ' a'∧g.le g'∧gL σ σ':=by
    intro e1 σ1 g1 w1 B1 a1 h1 h2 h3 h4 h5;obtain⟨g2,w2,B2,a2,k1,k2,k3,k4⟩:=B7 hO is xs _ _ _ _ _ _ hF h5 h2;exact⟨g2,w2,B2,a2,h1.trans k1,k2,h3.trans' k3,h4.trans k4⟩
   rcases hgrd with⟨hg1,hg2⟩ | ⟨j,d,bb,hg1,hg2,hj,hV⟩
   ·rw[hg2]at h;simp only[ah,Prod.exists]at h;obtain⟨e1,σ1,h1,h2⟩:=h;obtain⟨g1,w1,B1,a1,k1,k2,k3,k4⟩:=Tk (k:=k) (cs:=cs) (rest:=is++tl) hO ha ho (by simp[Region.wanted,hg1]) hop h1;exact hgo k1 k2 k3 k4 h2
   ·rw[hg2]at h;dsimp only at h;split at h
    case h_2=>cases h
    rename_i bv hbv;have hy:yielded ops a.tmps j=bv:=by
     have hrel:=ha.fr.rel d;unfold yielded;rw[hj];simp only[Option.bind_some];cases hg:get e d with
     |bool b =>
      rw[hg]at hrel hbv;have hrel':bI g (.bool b) (a.tmps.getD d Go.undef):=hrel;have hval:=hrel'.pv;simp only[D.bit,ae]at hbv;subst hbv;rw[cf]at hval;cases hd:a.tmps[d]? with
      |none=>rw[hd]at hval;simp[Go.undef]at hval
      |some y=>rw[hd]at hval;simp at hval;subst hval;rfl
     |dK ds =>
      cases ds with
      |nil =>
       rw[hg]at hrel hbv;have hrel':bI g (.dK []) (a.tmps.getD d Go.undef):=hrel;have hval:a.tmps.getD d Go.undef=.tuple #[]:=by
        generalize a.tmps.getD d Go.undef=z at hrel';cases hrel' with | dK _ cs hl =>
         cases cs with | mk cs=>cases cs with
          |nil=>rfl
          |cons c cs=>cases hl
       simp only[D.bit,ae]at hbv;subst hbv;rw[cf]at hval;cases hd:a.tmps[d]? with
       |none=>rfl
       |some y=>rw[hd]at hval;simp at hval;subst hval;rfl
      |cons x xs=>rw[hg]at hbv;simp[D.bit]at hbv
     |_=>rw[hg]at hbv;simp[D.bit]at hbv
    split at h
    ·rename_i hb;simp only[ah,Prod.exists]at h;obtain⟨e1,σ1,h1,h2⟩:=h;obtain⟨g1,w1,B1,a1,k1,k2,k3,k4⟩:=Tk (k:=k) (cs:=cs) (rest:=is++tl) hO ha ho (by simp[Region.wanted,hg1,hy,hb]) hop h1;exact hgo k1 k2 k3 k4 h2
    ·rename_i hb;have hstep:=stepR_op_skip (P:=P) (b:=b) (a:=a) (k:=k) (cs:=cs) (w:=w) (ops:=ops) (i:=i) (rest:=is++tl) (by simp[ho,Region.wanted,hg1,hy,hb]);rw[show(ops[i]?).bind (·.dst)=o.dst from by rw[ho];rfl]at hstep;obtain⟨g1,w1,B1,a1,k1,k2,k3,k4⟩:=Ai (d:=.dK []) ha ho hn hV (.one hstep) (Ev.refl g w) ha.inv (.refl σ) (cJ.of (.dK [] #[] .nil));rw[hdst]at h;exact hgo k1 k2 k3 k4 h
theorem No(hO:zc P CR O)(is:List Nat)(xs:List Op)(e:Env)(σ:SK)(g:G)(w:World)(B:Nat→Nat)(a:Act)(hF:wA (GD P ann n cc ops) is xs)
  (h:mF O xs e σ=some (e',σ')) (ha:At CR base ann.eD g0 w0 n b g w B e σ a):
  ∃g' w' B' a',Steps P (lone (b.atR a (.inRegion ops is::k)) cs w) (lone (b.atR a' (.inRegion ops []::k)) cs w')∧At CR base ann.eD g0 w0 n b g' w' B' e' σ' a'∧g.le g'∧gL σ σ':=by
 have:=B7 (k:=k) (cs:=cs) (tl:=[]) hO is xs e σ g w B a hF h ha;simpa using this
theorem Q6{O:bN}{fv:D}{args:List D}{r:R}(h:Az O fv args σ=some r):∃f first cap,fv=.fn f first cap∧O (.call false f (first++args++cap) σ)=some r:=by
 unfold Az at h;split at h
 ·exact⟨_,_,_,rfl,h⟩
 ·cases h
theorem amH{AF:Bool}{o:Oper}{op:Op}(h:RQ P ann n cc ops AF i o=some op):kC P ann ops (cc*1000+i) o=some op.k∧(op.k.makes=false→∀t,o.dst=some t→t ∉ ann.eD):=by
 unfold RQ at h;split at h
 case h_2=>cases h
 rename_i kk hk;split at h
 case h_2=>cases h
 simp only[aC,af]at h;obtain⟨⟨hown,hst⟩,h⟩:=h;cases h;refine⟨hk,fun hm t ht=>?_⟩;dsimp only at hm;rw[ht]at hown;simp[hm]at hown;simpa using hown
theorem NC{o:Oper}{v:Value}{w':World}{is:List Nat}(ho:ops[i]?=some o)(hw:Region.wanted o (yielded ops a.tmps)=true)(hd:∀c,o.op ≠ .defer c)
  (hr:(execOp a.eval o).run P w=.halt (.panic v) w'):
  step P (lone (b.atR a (.inRegion ops (i::is)::k)) cs w)=.next (lone {b.atR a (.inRegion ops (i::is)::k)with mode:=.panicking [{v,recovered:=false }] } cs w'):=by
 have hg:=stepGR_op (P:=P) (b:=b) (k:=k) (cs:=cs) (w:=w) (rest:=is) ho hw;rw[Oper.semAt_eq _ _ _ hd]at hg;exact step_lone_go (by rw[hg,← Frame.raise_atR];simp[stepG.apply,hr])
end
def kh(ts:List Nat)(e e':Env):Prop:=∀t∈ts,get e' t=get e t
theorem kh.mono{ts us:List Nat}{e e':Env}(h:kh us e e')(hs:∀t∈ts,t∈us):kh ts e e':=fun t ht=>h t (hs t ht)
theorem kh.app{ts us:List Nat}{e e':Env}:kh (ts++us) e e'↔kh ts e e'∧kh us e e' :=
 ⟨fun h=>⟨fun t ht=>h t (by simp[ht]),fun t ht=>h t (by simp[ht])⟩,fun h t ht=>(bx.1 ht).elim (h.1 t) (h.2 t)⟩
theorem kh.cons{t:Nat}{us:List Nat}{e e':Env}:kh (t::us) e e'↔get e' t=get e t∧kh us e e' :=
 ⟨fun h=>⟨h t (by simp),fun u hu=>h u (by simp[hu])⟩,fun h u hu=>(ba.1 hu).elim (fun x=>x ▸ h.1) (h.2 u)⟩
variable {e e':Env} {σ σ':SK}
theorem aU{x:bK}(h:kh x.tmps e e'):bj e' x=bj e x:=by
 cases x with
 |t n=>simp only[bj];rw[h n (by simp[bK.tmps])]
 |c d=>rfl
theorem vc{xs:List bK}(h:kh (xs.flatMap bK.tmps) e e'):xs.map (bj e')=xs.map (bj e):=by
 induction xs with
 |nil=>rfl
 |cons x xs ih =>
  simp only[aW,kh.app]at h;simp only[aO,aU h.1,ih h.2]
theorem yh:∀{ps:List (Nat×Nat×bK)} {cs:List D},kh (ps.flatMap fun p=>p.2.2.tmps) e e'→rX e' ps cs=rX e ps cs
 |[],cs,h=>rfl
 |(off,sz,x)::ps,cs,h=>by
  simp only[aW,kh.app]at h;simp only[rX,aU h.1];split
  ·split
   ·exact yh h.2
   ·rfl
  ·rfl
theorem EJ{m:Nat}{dfl:Option Nat}{x:Option bK}(h:kh ((x.map bK.tmps).getD []) e e'):BV e' m dfl x=BV e m dfl x:=by
 cases x with
 |none=>rfl
 |some x=>simp only[BV];rw[aU (by simpa using h)]
theorem DO{n:Nat}{lo hi mx:Option bK}(h1:kh ((lo.map bK.tmps).getD []) e e')(h2:kh ((hi.map bK.tmps).getD []) e e')(h3:kh ((mx.map bK.tmps).getD []) e e'):
  bounds n e' lo hi mx=bounds n e lo hi mx:=by
 simp only[bounds,EJ h1,EJ h2,EJ h3]
theorem By{v a:Nat}(h1:get e' v=get e v)(h2:get e' a=get e a):rY e' v a=rY e v a:=by
 simp only[rY,h1,h2]
theorem RY{k:K}(h:kh k.tmps e e'):bL e' σ k=bL e σ k:=by
 cases k<;>simp only[K.tmps,kh.app,kh.cons]at h
 case mv x=>simp only[bL,aU h]
 case pI=>rfl
 case pick c a b=>simp only[bL,aU h.1.1,aU h.1.2,aU h.2]
 case H6=>rfl
 case mki=>simp only[bL,aU h]
 case tas=>simp only[bL,aU h]
 case isi=>simp only[bL,aU h]
 case Mw=>rfl
 case My=>rfl
 case ek=>rfl
 case H7 x=>simp only[bL,aU h]
 case H8 x=>simp only[bL,aU h]
 case bxn nb x=>simp only[bL,aU h]
 case EK=>rfl
 case lh=>simp only[bL,yh h]
 case tH=>simp only[bL,yh h]
 case KX=>simp only[bL,yh h]
 case ld=>simp only[bL,aU h]
 case Qc=>simp only[bL,aU h]
 case Sg=>simp only[bL,aU h]
 case Sf=>simp only[bL,aU h]
 case mG=>simp only[bL,aU h]
 case st=>simp only[bL,aU h.1,aU h.2]
 case R5 os sz a x =>
  have hall:∀l i,(os.all fun t=>D.off l i (get e' t))=os.all fun t=>D.off l i (get e t):=by
   intro l i;have h2:=h.2;clear h;induction os with
   |nil=>rfl
   |cons o os ih=>simp only[jO,h2 o (by simp),ih (h2.mono fun t ht=>by simp[ht])]
  simp only[bL,aU h.1.1,aU h.1.2,hall]
 case Sh=>simp only[bL,By h.1 h.2.1]
 case Er=>rfl
 case bin=>simp only[bL,aU h.1,aU h.2]
 case eqv=>simp only[bL,aU h.1,aU h.2]
 case un=>simp only[bL,aU h]
 case JG=>simp only[bL,aU h]
 case yq=>simp only[bL,vc h.1,vc h.2]
 case mks=>simp only[bL,aU h.1,aU h.2]
 case Jc=>simp only[bL,aU h.1.1.1,DO h.1.1.2 h.1.2 h.2]
 case Ny=>simp only[bL,aU h.1.1,DO (mx:=none) h.1.2 h.2 (fun t ht=>by simp at ht)]
 case Ia off x =>
  cases x with
  |t n=>simp only[bL,h n (by simp[bK.tmps])]
  |c d=>rfl
 case fld=>simp only[bL,aU h]
 case Bw len w x i =>
  cases x with
  |t n =>
   have h1:=h.1 n (by simp[bK.tmps]);simp only[bL,aU h.2];cases D4 (bj e i)<;>simp only[h1]
  |c d=>simp only[bL]
 case dT=>simp only[bL,aU h.1,aU h.2]
 case JP=>simp only[bL,aU h.1,aU h.2]
 case Ie=>simp only[bL,aU h]
 case Nf=>rfl
 case mn=>simp only[bL,aU h.1,aU h.2]
 case mx=>simp only[bL,aU h.1,aU h.2]
 case app=>simp only[bL,aU h.1,aU h.2]
 case Q0 os w b s x =>
  have hall:∀l i,(os.all fun t=>D.off l i (get e' t))=os.all fun t=>D.off l i (get e t):=by
   intro l i;have h2:=h.2;clear h;induction os with
   |nil=>rfl
   |cons o os ih=>simp only[jO,h2 o (by simp),ih (h2.mono fun t ht=>by simp[ht])]
  simp only[bL,Jz,aU h.1.1,aU h.1.2,hall]
 case apz=>simp only[bL,Jz,aU h.1,aU h.2]
 case cpi=>simp only[bL,aU h]
 case cvz=>simp only[bL,aU h]
 case bse=>rfl
 case ape w b v x=>simp only[bL,h.1,aU h.2]
 case ext=>simp only[bL,aU h]
 case rj=>simp only[bL,vc h]
 case mp=>simp only[bL,vc h]
 case me=>simp only[bL,vc h]
 case call=>rfl
noncomputable def ux(O:bN)(op:Op)(e:Env)(σ:SK):Option (Env×SK) :=
 match op.Di with
 |none=>vU O op e σ
 |some (g,want) =>
  match(get e g).bit with
  |some y=>if y=some want then vU O op e σ else some (put op.dst (.dK []) e,σ)
  |none=>none
theorem kl{O:bN}{op:Op}{r:List Op}:mF O (op::r) e σ=(ux O op e σ).bind fun x=>mF O r x.1 x.2:=by
 simp only[mF,ux];cases op.Di with
 |none=>rfl
 |some x =>
  obtain⟨g,want⟩:=x;dsimp only;cases(get e g).bit<;>try rfl
  dsimp only;split<;>rfl
theorem J3{dst:Option Nat}{d:D}:put dst d e=(dst.toList.map fun t=>(t,d))++e:=by
 cases dst<;>rfl
theorem IA{O:bN}{op:Op}{e1:Env}{σ1:SK}(h:vU O op e σ=some (e1,σ1)):
  ∃l:List (Nat×D),(∀p∈l,p.1∈op.defs)∧∀e',kh (op.En++op.defs) e e'→vU O op e' σ=some (l++e',σ1):=by
 obtain⟨dst,Di,AF,k⟩:=op;have hk:∀e',kh (Op.En ⟨dst,Di,AF,k⟩++Op.defs ⟨dst,Di,AF,k⟩) e e'→kh k.tmps e e':=fun e' ha=>ha.mono fun t ht=>by simp[Op.En,ht]
 have hdst:∀d:D,∀p∈dst.toList.map (fun t=>(t,d)),p.1∈Op.defs ⟨dst,Di,AF,k⟩:=by
  intro d p hp;simp only[bR]at hp;obtain⟨t,ht,rfl⟩:=hp;simp only[Op.defs,bx];exact .inl ht
 have hplain:(∀e0,vU O ⟨dst,Di,AF,k⟩ e0 σ=(bL e0 σ k).map fun x=>(put dst x.1 e0,x.2)) →
   ∃l:List (Nat×D),(∀p∈l,p.1∈Op.defs ⟨dst,Di,AF,k⟩)∧∀e',kh (Op.En ⟨dst,Di,AF,k⟩++Op.defs ⟨dst,Di,AF,k⟩) e e'→vU O ⟨dst,Di,AF,k⟩ e' σ=some (l++e',σ1):=by
  intro hall;rw[hall]at h;simp only[ad,Prod.exists,ak]at h;obtain⟨d,σ2,hs,rfl,rfl⟩:=h;refine⟨dst.toList.map fun t=>(t,d),hdst d,fun e' ha=>?_⟩;rw[hall,RY (hk e' ha),hs];simp only[aT,J3]
 cases k
 case call kp f args =>
  simp only[vU]at h ⊢;split at h
  case h_2=>cases h
  rename_i d σ2 hc;split at h
  case isFalse=>cases h
  rename_i hn;cases h;refine⟨dst.toList.map fun t=>(t,d),hdst d,fun e' ha=>?_⟩;have h1:=hk e' ha;simp only[K.tmps,kh.app]at h1;rw[aU h1.1,vc h1.2,hc];simp only[if_pos hn,J3]
 case ek nb cs =>
  simp only[vU]at h ⊢;split at h
  case h_2=>cases h
  rename_i v cs' σ2 hnb;cases h;refine⟨[(v,.own (uA e v) cs')],by simp[Op.defs],fun e' ha=>?_⟩;rw[show uA e' v=uA e v from by simp only[uA];rw[ha v (by simp[Op.defs])]];rfl
 case EK x =>
  simp only[vU]at h ⊢;split at h
  case h_2=>cases h
  rename_i v cs' hc;cases h;refine⟨[(v,.own (uA e v) cs')],by simp[Op.defs],fun e' ha=>?_⟩;have h1:=hk e' ha;simp only[K.tmps]at h1;rw[aU h1,hc];simp only[show uA e' v=uA e v from by simp only[uA];rw[ha v (by simp[Op.defs])]];rfl
 case Er v nb sz a x =>
  simp only[vU]at h ⊢;split at h
  case h_2=>cases h
  rename_i s cs off p hin hp;split at h
  case isFalse=>cases h
  rename_i hc;split at h
  case h_2=>cases h
  rename_i p' σ2 hnb;cases h;refine⟨[(v,.own s (cs.take off++p'++cs.drop (off+sz)))],by simp[Op.defs],fun e' ha=>?_⟩;have h1:=hk e' ha;simp only[K.tmps,kh.app,kh.cons]at h1;rw[By h1.1.1 h1.1.2.1,aU h1.2,hin,hp];simp only[if_pos hc,hnb];rfl
 all_goals exact hplain fun e0=>rfl
theorem Dt{O:bN}{op:Op}{e1:Env}{σ1:SK}(h:ux O op e σ=some (e1,σ1)):
  ∃l:List (Nat×D),(∀p∈l,p.1∈op.defs)∧∀e',kh (op.En++op.defs) e e'→ux O op e' σ=some (l++e',σ1):=by
 unfold ux at h ⊢;cases hg:op.Di with
 |none=>rw[hg]at h;simp only at h ⊢;exact IA h
 |some x =>
  obtain⟨t,want⟩:=x;rw[hg]at h;simp only at h ⊢;split at h
  case h_2=>cases h
  rename_i b hb;have hgt:∀e',kh (op.En++op.defs) e e'→(get e' t).bit=some b:=fun e' ha=>by rw[ha t (by simp[Op.En,hg]),hb]
  split at h
  ·rename_i hw;obtain⟨l,h1,h2⟩:=IA h;refine⟨l,h1,fun e' ha=>?_⟩;rw[hgt e' ha];simp only[if_pos hw];exact h2 e' ha
  ·rename_i hw;cases h;refine⟨op.dst.toList.map fun t=>(t,.dK []),fun p hp=>?_,fun e' ha=>?_⟩
   ·simp only[bR]at hp;obtain⟨t,ht,rfl⟩:=hp;simp only[Op.defs,bx];exact .inl ht
   ·rw[hgt e' ha];simp only[if_neg hw,J3]
theorem I3{cs cs':List D}(h:lf [] cs σ=some (cs',σ')):σ'=σ:=by
 simp only[lf,ae,ak]at h;exact h.2.symm
theorem Jd{d:D}{k:K}(h:bL e σ k=some (d,σ'))(hk:k.calm=true):σ'=σ:=Mf h hk
theorem IB{O:bN}{op:Op}{e1:Env}{σ1:SK}(h:vU O op e σ=some (e1,σ1))(hs:op.still=true):σ1=σ:=by
 obtain⟨dst,Di,AF,k⟩:=op;simp only[Op.still,af]at hs;obtain⟨hk,hn⟩:=hs;have hplain:(vU O ⟨dst,Di,AF,k⟩ e σ=(bL e σ k).map fun x=>(put dst x.1 e,x.2))→σ1=σ:=by
  intro hall;rw[hall]at h;simp only[ad,Prod.exists,ak]at h;obtain⟨d,σ2,hs,rfl,rfl⟩:=h;exact Jd hs hk
 cases k
 case call kp f args =>
  simp only[vU]at h;split at h
  case h_2=>cases h
  split at h
  case isFalse=>cases h
  rename_i hx;cases h;exact hx hn
 case ek nb cs =>
  simp only[vU]at h;split at h
  case h_2=>cases h
  rename_i v cs' σ2 hnb;cases h;simp only[K.calm,List.isEmpty_iff]at hk;subst hk;exact I3 hnb
 case EK x =>
  simp only[vU]at h;split at h
  case h_2=>cases h
  cases h;rfl
 case Er v nb sz a x =>
  simp only[vU]at h;split at h
  case h_2=>cases h
  split at h
  case isFalse=>cases h
  split at h
  case h_2=>cases h
  rename_i hnb;cases h;simp only[K.calm,List.isEmpty_iff]at hk;subst hk;exact I3 hnb
 all_goals exact hplain rfl
theorem Du{O:bN}{op:Op}{e1:Env}{σ1:SK}(h:ux O op e σ=some (e1,σ1))(hs:op.still=true):σ1=σ:=by
 unfold ux at h;split at h
 ·exact IB h hs
 ·split at h
  case h_2=>cases h
  split at h
  ·exact IB h hs
  ·cases h;rfl
def Fq(e e':Env):Prop:=∀t,get e' t=get e t
theorem Fq.refl(e:Env):Fq e e:=fun _=>rfl
theorem Fq.trans{a b c:Env}(h:Fq a b)(h':Fq b c):Fq a c:=fun t=>(h' t).trans (h t)
theorem Fq.agree(h:Fq e e')(ts:List Nat):kh ts e e':=fun t _=>h t
theorem Gk{l:List (Nat×D)}{t:Nat}:get (l++e) t=if t∈l.map (·.1)then get l t else get e t:=by
 induction l with
 |nil=>simp
 |cons p l ih =>
  obtain⟨k,v⟩:=p;simp only[fK,get];by_cases hk:k=t
  ·simp[hk]
  ·rw[if_neg hk,ih];simp only[aO,ba];by_cases ht:t∈l.map (·.1)
   ·rw[if_pos ht,if_pos (.inr ht)];rw[if_neg hk]
   ·rw[if_neg ht,if_neg (by intro h;rcases h with h | h;exact hk h.symm;exact ht h)]
theorem Fq.app(h:Fq e e')(l:List (Nat×D)):Fq (l++e) (l++e'):=fun t=>by
 simp only[Gk,h t]
theorem GW{O:bN}:∀{xs:List Op} {e e' e1:Env} {σ σ1:SK},mF O xs e σ=some (e1,σ1)→Fq e e'→∃e1',mF O xs e' σ=some (e1',σ1)∧Fq e1 e1'
 |[],e,e',e1,σ,σ1,h,he=>by
  simp only[mF,ae,ak]at h;obtain⟨rfl,rfl⟩:=h;exact⟨e',rfl,he⟩
 |x::xs,e,e',e1,σ,σ1,h,he=>by
  rw[kl]at h;simp only[ah,Prod.exists]at h;obtain⟨e2,σ2,h1,h2⟩:=h;obtain⟨l,_,hl⟩:=Dt h1;have h3:=hl e (Fq.agree (.refl e) _);rw[h1]at h3;cases h3;obtain⟨e3,h4,h5⟩:=GW h2 (he.app l);exact⟨e3,by rw[kl,hl e' (he.agree _)];exact h4,h5⟩
theorem aeY{d:D}{k:K}(h:bL e σ k=some (d,σ'))(hk:k.pure=true)(τ:SK):bL e τ k=some (d,τ):=by
 cases k<;>simp only[K.pure,K.calm,aw]at hk<;>simp only[bL,aQ,reduceCtorEq]at h ⊢ <;> (repeat' split at h)<;>
  simp only[ad,ah,ae,ak,Prod.exists,reduceCtorEq,exists_eq_left,and_false,exists_false]at h<;>(try split at h)<;>
  simp_all<;>(try (obtain⟨_,_,h⟩:=h;simp_all))<;>(try grind)
theorem KV{O:bN}{op:Op}{e1:Env}{σ1:SK}(h:vU O op e σ=some (e1,σ1))(hs:op.k.pure=true)(τ:SK):vU O op e τ=some (e1,τ):=by
 obtain⟨dst,Di,AF,k⟩:=op;have hplain:(∀τ,vU O ⟨dst,Di,AF,k⟩ e τ=(bL e τ k).map fun x=>(put dst x.1 e,x.2))→vU O ⟨dst,Di,AF,k⟩ e τ=some (e1,τ):=by
  intro hall;rw[hall]at h ⊢;simp only[ad,Prod.exists,ak]at h;obtain⟨d,σ2,hs',rfl,rfl⟩:=h;rw[aeY hs' hs τ];rfl
 cases k
 case call kp f args=>simp[K.pure]at hs
 case ek nb cs =>
  simp only[K.pure,K.calm,List.isEmpty_iff]at hs;subst hs;simp only[vU]at h ⊢;cases dst with
  |none=>cases h
  |some v=>simp only[lf,ae,ak]at h ⊢;exact⟨h.1,trivial⟩
 case EK x =>
  simp only[vU]at h ⊢;cases dst with
  |none=>cases h
  |some v =>
   cases hx:(bj e x).cells with
   |none=>rw[hx]at h;cases h
   |some cs=>rw[hx]at h;simp only[ae,ak]at h ⊢;exact⟨h.1,trivial⟩
 case Er v nb sz a x =>
  simp only[K.pure,K.calm,List.isEmpty_iff]at hs;subst hs;simp only[vU]at h ⊢;cases hin:rY e v a<;>rw[hin]at h<;>try (cases h;done)
  cases hx:(bj e x).cells<;>rw[hx]at h<;>try (cases h;done)
  simp only[lf]at h ⊢;split at h
  ·rename_i hc;rw[if_pos hc];simp only[ae,ak]at h ⊢;exact⟨h.1,trivial⟩
  ·cases h
 all_goals exact hplain fun τ=>rfl
theorem Cc{O:bN}{op:Op}{e1:Env}{σ1:SK}(h:ux O op e σ=some (e1,σ1))(hs:op.k.pure=true):∀τ,ux O op e τ=some (e1,τ):=by
 intro τ;unfold ux at h ⊢;cases hg:op.Di with
 |none=>rw[hg]at h;exact KV h hs τ
 |some y =>
  obtain⟨g,want⟩:=y;rw[hg]at h;dsimp only at h ⊢;cases hb:(get e g).bit with
  |none=>rw[hb]at h;cases h
  |some b =>
   rw[hb]at h;dsimp only at h ⊢;split at h
   ·rename_i hw;rw[if_pos hw];exact KV h hs τ
   ·rename_i hw;rw[if_neg hw];cases h;rfl
theorem Aq{a:List aE}{σ:SK}{l:Nat}{s:List aE}(h:σ.length=l):iN (a::σ) l s=s::σ:=by simp only[iN];rw[if_pos h]
theorem oM{a:List aE}{σ:SK}{l:Nat}{s:List aE}(h:¬σ.length=l):iN (a::σ) l s=a::iN σ l s:=by simp only[iN];rw[if_neg h]
theorem Md{σ:SK}{l l':Nat}{s s':List aE}(h:l≠l'):iN (iN σ l s) l' s'=iN (iN σ l' s') l s:=by
 induction σ with
 |nil=>rfl
 |cons a σ ih =>
  by_cases h1:σ.length=l
  ·have h2:¬σ.length=l':=by omega
   rw[Aq h1,oM h2,oM h2,Aq (by rw[gC];exact h1)]
  ·by_cases h2:σ.length=l'
   ·rw[oM h1,Aq h2,Aq (by rw[gC];exact h2),oM h1]
   ·rw[oM h1,oM h2,oM (by rw[gC];exact h2),oM (by rw[gC];exact h1),ih]
theorem uz{σ:SK}{l l':Nat}{s:List aE}(h:l≠l'):fX (iN σ l s) l'=fX σ l':=by
 induction σ with
 |nil=>rfl
 |cons a σ ih =>
  simp only[iN];by_cases h1:σ.length=l
  ·rw[if_pos h1];simp only[fX];rw[if_neg (by omega),if_neg (by omega)]
  ·rw[if_neg h1];simp only[fX,gC,ih]
theorem Ki{σ:SK}{l:Nat}{s s':List aE}:iN (iN σ l s) l s'=iN σ l s':=by
 induction σ with
 |nil=>rfl
 |cons a σ ih =>
  simp only[iN];by_cases h1:σ.length=l
  ·rw[if_pos h1,if_pos h1];simp only[iN];rw[if_pos h1]
  ·rw[if_neg h1,if_neg h1];simp only[iN,gC];rw[if_neg h1,ih]
theorem Mb{σ:SK}{l i l' i':Nat}{b b':aE}(h:¬(l'=l∧i'=i)):aV (aV σ l i b) l' i' b'=aV (aV σ l' i' b') l i b:=by
 by_cases hl:l=l'
 ·subst hl;have hi:i≠i':=fun e=>h ⟨rfl,e.symm⟩
  unfold aV;cases hs:fX σ l with
  |none=>simp[hs]
  |some s =>
   simp only[tz (Ap hs),Ki];rw[List.set_comm _ _ hi]
 ·unfold aV;cases hs:fX σ l with
  |none =>
   cases hs':fX σ l' with
   |none=>simp[hs,hs']
   |some s'=>simp only[uz (Ne.symm hl),hs]
  |some s =>
   cases hs':fX σ l' with
   |none=>simp only[uz hl,hs',hs]
   |some s' =>
    simp only[uz hl,uz (Ne.symm hl),hs,hs'];exact Md hl
theorem zZ{σ:SK}{l i l' i' v:Nat}{b:aE}(h:¬(l'=l∧i'=i)):cells? (aV σ l i b) l' i' v=cells? σ l' i' v:=by
 unfold cells?;rw[eW h]
theorem J5{σ:SK}{l i:Nat}{b:aE}{d:D}(h:D.off l i d=true):E7 (aV σ l i b) d.strip=E7 σ d.strip:=by
 cases d<;>try rfl
 simp only[D.off,av]at h;simp only[D.strip,E7,zZ h]
theorem Cb{O:bN}{dst:Option Nat}{n ag:Bool}{sz m:Nat}{e1:Env}{σ1:SK}(h:ux O ⟨dst,none,n,.ld ag sz (.t m)⟩ e σ=some (e1,σ1)):
  σ1=σ∧∀τ,E7 τ (get e m).strip=E7 σ (get e m).strip→ux O ⟨dst,none,n,.ld ag sz (.t m)⟩ e τ=some (e1,τ):=by
 have hs:=Du h;simp only[ux,vU,bL,bj]at h ⊢;refine⟨?_,fun τ hτ=>?_⟩
 ·simp only[ad,Prod.exists,ak]at h;obtain⟨d,σ2,h,_,rfl⟩:=h;exact Jd (k:=.ld ag sz (.t m)) (e:=e) (d:=d) (by simpa only[bL,bj]using h) rfl
 ·rw[hτ];cases hr:E7 σ (get e m).strip with
  |none=>rw[hr]at h;cases h
  |some cs =>
   rw[hr]at h;dsimp only at h ⊢;split at h
   ·rename_i hsz;rw[if_pos hsz];cases ag with
    |true=>simp at h ⊢;exact h.1
    |false =>
     simp only[aw,if_false]at h ⊢;cases cs with
     |nil=>cases h
     |cons d ds=>simp at h ⊢;exact h.1
   ·cases h
theorem Ef{O:bN}{dst:Option Nat}{n:Bool}{os:List Nat}{sz:Nat}{a x:bK}{e1:Env}{σ1:SK}(h:ux O ⟨dst,none,n,.R5 os sz a x⟩ e σ=some (e1,σ1)):
  ∃l i v off b,bj e a=.ref l i v off∧(∀m∈os,D.off l i (get e m)=true)∧σ1=aV σ l i b ∧
   ∀τ,τ.length=σ.length→cells? τ l i v=cells? σ l i v→ux O ⟨dst,none,n,.R5 os sz a x⟩ e τ=some (e1,aV τ l i b):=by
 simp only[ux,vU,bL]at h ⊢;cases ha:bj e a<;>rw[ha]at h<;>try (cases h;done)
 rename_i l i v off;dsimp only at h ⊢;split at h
 case isFalse=>cases h
 rename_i hall;cases hc:cells? σ l i v with
 |none=>rw[hc]at h;cases h
 |some cs =>
 rw[hc]at h;dsimp only at h;cases hp:(bj e x).cells with
 |none=>rw[hp]at h;cases h
 |some p =>
 rw[hp]at h;dsimp only at h;split at h
 case isFalse=>cases h
 rename_i hq;simp only[aT,ae,ak]at h;refine⟨l,i,v,off,.cells v (cs.take off++p++cs.drop (off+sz)),rfl,fun m hm=>lN.1 hall m hm,h.2.symm,fun τ hlen hτ=>?_⟩;simp only[hall,if_true,hτ,hc,hlen,if_pos hq,aT,h.1]
theorem L7{O:bN}{dst:Option Nat}{n:Bool}{os:List Nat}{w b:Nat}{a x:bK}{e1:Env}{σ1:SK}(h:ux O ⟨dst,none,n,.Q0 os w b a x⟩ e σ=some (e1,σ1)):
  ∃l i v cs,(∀m∈os,D.off l i (get e m)=true)∧σ1=aV σ l i (.cells (v+1) cs):=by
 simp only[ux,vU,ad,Prod.exists,ak]at h;obtain⟨d,σ2,h,_,rfl⟩:=h;simp only[bL]at h;split at h
 case h_2=>cases h
 rename_i l i v off n' w' ha;split at h
 case isFalse=>cases h
 rename_i hall;simp only[ah]at h;obtain⟨⟨m,xs⟩,he,h⟩:=h;dsimp only at h;split at h
 case isFalse=>cases h
 rename_i hcl;simp only[Jz,aQ,he,Option.bind_some,ha]at h;split at h
 case h_2=>cases h
 split at h
 case isFalse=>cases h
 refine⟨l,i,?_⟩;split at h
 ·cases h;exact⟨_,_,fun m hm=>lN.1 hall m hm,rfl⟩
 ·rw[show deep=15+1 from rfl,EV hcl]at h;cases h;exact⟨_,_,fun m hm=>lN.1 hall m hm,rfl⟩
theorem agO{σ:SK}{l i v:Nat}{cs:List D}{d:D}{c:List D}(h:Sj (aV σ l i (.cells (v+1) cs)) d=some c):Sj σ d=some c:=by
 unfold Sj at h ⊢;split at h
 case h_2=>cases h
 rename_i l2 i2 off;simp only[E7,ad]at h ⊢;obtain⟨a,h1,h2⟩:=h;refine⟨a,?_,h2⟩;by_cases hh:l2=l∧i2=i
 ·obtain⟨rfl,rfl⟩:=hh;unfold cells? at h1;cases hb:eo σ l2 i2 with
  |some b0=>rw[oJ hb]at h1;simp at h1
  |none =>
   have hn:eo (aV σ l2 i2 (.cells (v+1) cs)) l2 i2=none:=by
    unfold eo at hb ⊢;unfold aV;cases hs:fX σ l2 with
    |none=>simp only[hs];rfl
    |some s =>
     simp only[hs,Option.bind_some]at hb;simp only[tz (Ap hs),Option.bind_some];rw[List.getElem?_eq_none_iff]at hb ⊢;simpa using hb
   rw[hn]at h1;cases h1
 ·rwa[zZ hh]at h1
theorem aeO{O:bN}{dst:Option Nat}{n ag:Bool}{sz m:Nat}{e1:Env}{σ1:SK}(h:ux O ⟨dst,none,n,.Sg ag sz (.t m)⟩ e σ=some (e1,σ1)):
  σ1=σ∧∃c,Sj σ (get e m).strip=some c∧∀τ,Sj τ (get e m).strip=some c→ux O ⟨dst,none,n,.Sg ag sz (.t m)⟩ e τ=some (e1,τ):=by
 simp only[ux,vU,bL,bj]at h ⊢;cases hr:Sj σ (get e m).strip with
 |none=>rw[hr]at h;cases h
 |some cs =>
  rw[hr]at h;dsimp only at h ⊢;have hs:σ1=σ:=by
   split at h
   ·cases ag with
    |true=>simp at h;exact h.2.symm
    |false=>cases cs<;>simp at h;exact h.2.symm
   ·cases h
  refine⟨hs,cs,rfl,fun τ hτ=>?_⟩;rw[hτ];dsimp only;split at h
  ·rename_i hsz;rw[if_pos hsz];cases ag with
   |true=>simp at h ⊢;exact h.1
   |false =>
    simp only[aw,if_false]at h ⊢;cases cs with
    |nil=>cases h
    |cons d ds=>simp at h ⊢;exact h.1
  ·cases h
theorem RN{σ σ':SK}{b:aE}{l i:Nat}(h:ie σ b=some (l,i,σ')){d:D}{cs:List D}(hd:E7 σ d=some cs):E7 σ' d=some cs:=by
 cases d<;>try exact hd
 rename_i l' i' v off;simp only[E7,ad]at hd ⊢;obtain⟨c,h1,h2⟩:=hd;refine⟨c,?_,h2⟩;unfold cells? at h1 ⊢;have hb:∃b0,eo σ l' i'=some b0:=by
  cases hb:eo σ l' i' with
  |none=>rw[hb]at h1;cases h1
  |some b0=>exact⟨b0,rfl⟩
 obtain⟨b0,hb⟩:=hb;have hne:¬(l'=l∧i'=i):=fun hh=>by
  have:=(kg h).1;rw[hh.1,hh.2,this]at hb;cases hb
 rw[(kg h).2.2.1 l' i' hne];exact h1
theorem anH{O:bN}{x y:Op}{e2:Env}{σ2:SK}{r:List Op}(hf:x.adr y=true)
  (h:mF O (x::y::r) e σ=some (e2,σ2)):∃e2',mF O (y::x::r) e σ=some (e2',σ2)∧Fq e2 e2':=by
 unfold Op.adr at hf;split at hf
 case h_2=>cases hf
 rename_i n v sz a X d n' off m;simp only[av]at hf;obtain⟨rfl,hdv,hda,hdX⟩:=hf;rw[kl]at h;simp only[ah,Prod.exists]at h;obtain⟨ex,σx,h1,h2⟩:=h;rw[kl]at h2;simp only[ah,Prod.exists]at h2;obtain⟨ey,σy,h2,h3⟩:=h2;simp only[ux,vU]at h1;cases hin:rY e m a with
 |none=>rw[hin]at h1;cases h1
 |some z =>
 obtain⟨s,cs,o⟩:=z;rw[hin]at h1;cases hX:(bj e X).cells with
 |none=>rw[hX]at h1;cases h1
 |some p =>
 rw[hX]at h1;dsimp only at h1;split at h1
 case isFalse=>cases h1
 rename_i hq;simp only[lf,ae,ak]at h1;obtain⟨rfl,rfl⟩:=h1;have hgv:∃cs',get e m=.own s cs':=by
  unfold rY at hin;cases hg:get e m<;>rw[hg]at hin<;>try (cases hin;done)
  rename_i s' cs';dsimp only at hin;split at hin
  ·cases hin;exact⟨_,rfl⟩
  ·split at hin
   ·split at hin
    ·cases hin;exact⟨_,rfl⟩
    ·cases hin
   ·cases hin
 obtain⟨cs',hgv⟩:=hgv;simp only[ux,vU,bL,get,if_true,aT,ae,ak]at h2;obtain⟨rfl,rfl⟩:=h2;have hne:get ((d,D.vr m s off)::e) m=get e m:=by simp[get,hdv]
 have hna:get ((d,D.vr m s off)::e) a=get e a:=by simp[get,hda]
 have hin':rY ((d,D.vr m s off)::e) m a=some (s,cs,o):=by rw[By hne hna,hin]
 have hX':bj ((d,D.vr m s off)::e) X=bj e X:=aU fun t ht=>by
  have:d≠t:=fun he=>hdX (he ▸ ht)
  simp[get,this]
 have heq:Fq (put (some d) (D.vr m s off) ((m,.own s (cs.take o++p++cs.drop (o+sz)))::e)) ((m,.own s (cs.take o++p++cs.drop (o+sz)))::(d,D.vr m s off)::e):=by
  intro t;simp only[put,get];by_cases h1:d=t
  ·have:¬m=t:=fun e=>hdv (h1.trans e.symm)
   simp[h1,this]
  ·simp[h1]
 obtain⟨e3,k1,k2⟩:=GW h3 heq;refine⟨e3,?_,k2⟩;rw[kl];simp only[ux,vU,bL,hgv,aT,Option.bind_some];rw[kl];simp only[ux,vU,put,hin',hX',hX,hq,and_self,if_true,lf,Option.bind_some];exact k1
theorem ahe{O:bN}{x y:Op}{e2:Env}{σ2:SK}{r:List Op}(hf:x.free y=true)
  (h:mF O (x::y::r) e σ=some (e2,σ2)):∃e2',mF O (y::x::r) e σ=some (e2',σ2)∧Fq e2 e2':=by
 unfold Op.free at hf;rw[bX]at hf;rcases hf with hf | hf
 ·exact anH hf h
 simp only[af,dU]at hf;obtain⟨hc,hf⟩:=hf;simp only[Op.ahv,Bool.or_eq_false_iff,List.any_eq_false,List.contains_iff_mem,bX,not_or]at hc;obtain⟨c1,c2⟩:=hc;rw[kl]at h;simp only[ah,Prod.exists]at h;obtain⟨ex,σx,h1,h2⟩:=h;rw[kl]at h2;simp only[ah,Prod.exists]at h2;obtain⟨ey,σy,h2,h3⟩:=h2;obtain⟨lx,d1,hl1⟩:=Dt h1;obtain⟨ly,d2,hl2⟩:=Dt h2;have k1:=hl1 e (Fq.agree (.refl e) _);rw[h1]at k1;cases k1;have k2:=hl2 _ (Fq.agree (.refl _) _);rw[h2]at k2;cases k2;have ay:kh (y.En++y.defs) (lx++e) e:=fun t ht=>by
  rw[Gk,if_neg];intro hm;obtain⟨p,hp,rfl⟩:=bR.1 hm;have:=c1 _ (d1 p hp);simp only[bx]at ht;rcases ht with ht | ht
  ·exact this.2 (by simpa using ht)
  ·exact this.1 (by simpa using ht)
 have ax:kh (x.En++x.defs) e (ly++e):=fun t ht=>by
  rw[Gk,if_neg];intro hm;obtain⟨p,hp,rfl⟩:=bR.1 hm;have hp':=d2 p hp;simp only[bx]at ht;rcases ht with ht | ht
  ·exact c2 _ ht (by simpa using hp')
  ·exact(c1 _ ht).1 (by simpa using hp')
 have hy0:=hl2 e ay;have hx0:=hl1 (ly++e) ax;obtain⟨σm,hy1,hx1⟩:∃σm,ux O y e σ=some (ly++e,σm)∧ux O x (ly++e) σm=some (lx++(ly++e),σy):=by
  simp only[bX,af]at hf;rcases hf with((⟨hx,hy⟩ | hx) | hy) | hfar
  ·obtain rfl:=Du h1 hx;obtain rfl:=Du h2 hy;exact⟨_,hy0,hx0⟩
  ·have e1:=Cc h1 hx σ;rw[h1]at e1;cases e1;exact⟨σy,hy0,Cc hx0 hx σy⟩
  ·have e2:=Cc h2 hy σx;rw[h2]at e2;cases e2;exact⟨σ,Cc hy0 hy σ,hx0⟩
  ·unfold Op.far at hfar;obtain⟨dx,gx,nx,kx⟩:=x;obtain⟨dy,gy,ny,ky⟩:=y;simp only[af,Option.isNone_iff_eq_none]at hfar;obtain⟨⟨rfl,rfl⟩,hfar⟩:=hfar;split at hfar
   ·rename_i os sz a X ag sz' m;have hm:m∈os:=by simpa using hfar
    obtain⟨l,i,v,off,b,_,hoff,rfl,_⟩:=Ef h1;obtain⟨rfl,hall⟩:=Cb hy0;exact⟨σ,hall σ (J5 (hoff m hm)).symm,hx0⟩
   ·rename_i ag sz' m os sz a X;have hm:m∈os:=by simpa using hfar
    obtain⟨rfl,_⟩:=Cb h1;obtain⟨l,i,v,off,b,_,hoff,rfl,_⟩:=Ef hy0;obtain⟨_,hall⟩:=Cb hx0;refine⟨_,hy0,hall _ ?_⟩;have hg:get (ly++e) m=get e m:=ax m (by simp[Op.En,K.tmps,bK.tmps]);rw[hg];exact J5 (hoff m hm)
   ·rename_i os sz a X os' sz' m X';have hm:m∈os:=by simpa using hfar
    obtain⟨l,i,v,off,b,_,hoff,rfl,hall⟩:=Ef hx0;obtain⟨l',i',v',off',b',hr,hoff',rfl,hall'⟩:=Ef hy0;have hg:get (ly++e) m=get e m:=ax m (by simp[Op.En,K.tmps,hm]);have h4:=hoff m hm;rw[hg]at h4;have h5:get e m=.ref l' i' v' off':=by
     simp only[bj]at hr;cases hgm:get e m<;>rw[hgm]at hr<;>simp only[D.strip,reduceCtorEq]at hr;exact hr
    rw[h5]at h4;simp only[D.off,av]at h4;refine⟨aV σ l' i' b',hall' σ dB.symm (zZ h4).symm,?_⟩;rw[Mb h4];exact hall _ dB (zZ fun hh=>h4 ⟨hh.1.symm,hh.2.symm⟩)
   ·rename_i os wd bt a X ag sz' m;have hm:m∈os:=by simpa using hfar
    obtain⟨l,i,b,bc,hoff,rfl⟩:=L7 h1;obtain⟨rfl,hall⟩:=Cb hy0;exact⟨σ,hall σ (J5 (hoff m hm)).symm,hx0⟩
   ·rename_i ag sz' m cs;obtain⟨rfl,_⟩:=Cb h1;obtain⟨_,hall⟩:=Cb hx0;refine⟨_,hy0,hall _ ?_⟩;have hg:get (ly++e) m=get e m:=ax m (by simp[Op.En,K.tmps,bK.tmps]);rw[hg];have hrd:∃c,E7 σx (get e m).strip=some c:=by
     simp only[ux,vU,bL,bj]at h1;cases hr:E7 σx (get e m).strip with
     |none=>rw[hr]at h1;simp at h1
     |some c=>exact⟨c,rfl⟩
    obtain⟨c,hrd⟩:=hrd;have hn:∃l i,ie σx (.cells 0 cs)=some (l,i,σy):=by
     simp only[ux,vU,bL,lf,aQ,Option.bind_some,ad,ah,Prod.exists,ak]at hy0;obtain⟨d0,σ0,⟨l,i,σ3,h1,h2⟩,_,h3⟩:=hy0;cases h2;cases h3;exact⟨l,i,h1⟩
    obtain⟨l,i,hn⟩:=hn;rw[hrd,RN hn hrd]
   ·rename_i os wd bt a X ag sz' m;obtain⟨l,i,b,bc,hoff,rfl⟩:=L7 h1;obtain⟨rfl,c,hc,hall⟩:=aeO hy0;exact⟨σ,hall σ (agO hc),hx0⟩
   ·cases hfar
 have heq:Fq (ly++(lx++e)) (lx++(ly++e)):=fun t=>by
  simp only[Gk];by_cases m1:t∈lx.map (·.1)
  ·by_cases m2:t∈ly.map (·.1)
   ·obtain⟨p,hp,rfl⟩:=bR.1 m1;obtain⟨q,hq,he⟩:=bR.1 m2;have:=(c1 _ (d1 p hp)).1;have hq':=d2 q hq;rw[he]at hq';exact absurd hq' (by simpa using this)
   ·rw[if_pos m1,if_neg m2,if_pos m1]
  ·by_cases m2:t∈ly.map (·.1)
   ·rw[if_neg m1,if_pos m2,if_pos m2]
   ·rw[if_neg m1,if_neg m2,if_neg m2,if_neg m1]
 obtain⟨e3,k3,k4⟩:=GW h3 heq;refine⟨e3,?_,k4⟩;rw[kl,hy1];simp only[Option.bind_some];rw[kl,hx1];exact k3
theorem Lm{O:bN}{y:Op}{r:List Op}:∀{pre:List Op} {e e2:Env} {σ σ2:SK},(∀x∈pre,x.free y=true) →
  mF O (pre++y::r) e σ=some (e2,σ2)→∃e2',mF O (y::(pre++r)) e σ=some (e2',σ2)∧Fq e2 e2'
 |[],e,e2,σ,σ2,hp,h=>⟨e2,h,.refl _⟩
 |x::pre,e,e2,σ,σ2,hp,h=>by
  simp only[fK]at h;rw[kl]at h;simp only[ah,Prod.exists]at h;obtain⟨e1,σ1,h1,h2⟩:=h;obtain⟨e3,h3,h4⟩:=Lm (fun z hz=>hp z (by simp[hz])) h2;have h5:mF O (x::y::(pre++r)) e σ=some (e3,σ2):=by rw[kl,h1];exact h3
  obtain⟨e4,h6,h7⟩:=ahe (hp x (by simp)) h5;exact⟨e4,h6,h4.trans h7⟩
theorem J9{live:List Nat}(h:Fq e e'):restrict live e'=restrict live e:=by
 simp only[restrict];exact List.map_congr_left fun t _=>by rw[h t]
end Go.Abs
