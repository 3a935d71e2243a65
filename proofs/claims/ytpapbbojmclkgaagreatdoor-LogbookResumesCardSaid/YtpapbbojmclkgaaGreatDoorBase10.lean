import Derived.Test.YtpapbbojmclkgaaGreatDoorBase9
import Derived.Recover
set_option linter.all false
namespace Go.aw
open Go
def xc(P:Program)(CR:fw)(f:Nat)(args:List D)(J:SK)(d:D)(J':SK):Prop :=
 (∃F c,P.funcs[f]?=some F/\F.name ≠ "runtime.NumGoroutine" /\ F.body=some c) /\
 ∀base g w vs,Inv CR base g J w->po J->0<J.length->bS g args vs.toList ->
  fQ J J'/\Calls P f vs w (λe w'=>∃v g',e=.returned v/\Ev g w g' w'/\Inv CR base g' J' w'/\bW g' d v)
def abA(P:Program)(CR:fw)(f:Nat)(args:List D)(J:SK)(d:D)(J':SK):Prop :=
 d.clean=true/\(∃F c,P.funcs[f]?=some F/\F.name ≠ "runtime.NumGoroutine" /\ F.body=some c) /\
 ∀base g w vs,Inv CR base g J w->po J->0<J.length->bS g args vs.toList ->
  fQ J J'/\Calls P f vs w (λe w'=>∃v g',e=.panicked [{v,recovered:=false }]/\Ev g w g' w'/\Inv CR base g' J' w'/\bW g' d v)
def TS(g:G):Option D->FrameMode->Prop
 |none,u=>u=.returning
 |some d,u=>∃v,bW g d v/\u=.panicking [{v,recovered:=false }]
def abp(P:Program)(CR:fw)(f:Nat)(args:List D)(th:Option D)(J J':SK):Prop :=
 (∃F c,P.funcs[f]?=some F/\F.name ≠ "runtime.NumGoroutine" /\ F.body=some c) /\
 ∀base g w vs u,Inv CR base g J w->po J->0<J.length->bS g args vs.toList->TS g th u ->
  fQ J J'/\CallsD P f vs u w (λe u' w'=>∃v g',e=.returned v/\settle u'=.returning/\Ev g w g' w'/\Inv CR base g' J' w')
def Uk(P:Program)(CR:fw)(l i:Nat)(args:List D)(J:SK)(d:D)(J':SK):Prop :=
 (∃lp,ef J l i=some (.loop lp))/\∀base g w vs b,Inv CR base g J w->po J->0<J.length->bS g args vs.toList->bW g (.jg l i) (.func (.yield b) #[] #[]) ->
  fQ J J'/\∃f tmps BY body,(Instr.yield b vs).run P w=.ok (.round b f tmps BY body) w /\
   ∀c cs,∃v g' w',Steps P (lone (Frame.round b f tmps BY body .normal) (c::cs) w) (lone (c.finish v) cs w')/\Ev g w g' w'/\Inv CR base g' J' w'/\bW g' d v
def DF(k:List Item):Exit->List Item->Prop
 |.normal,t=>t=k
 |.exit id,t=>∃k',t=.code (.exit id)::k'/\exitTo id k'=exitTo id k
 |.ret,t=>∃k',t=.code .ret::k'
 |.fy _,_=>True
def yo(S:Frame->Prop)(g:G)(b:Frame)(a:Act)(todo:List Item):Exit->Prop
 |.fy d=>d.clean=true/\∃v,bW g d v/\S {b.atR a todo with mode:=.panicking [{v,recovered:=false }] }
 |_=>S (b.atR a todo)
theorem yo.imp{S S':Frame->Prop}{g:G}{b:Frame}{a:Act}{todo:List Item}{x:Exit}(h:yo S g b a todo x)(hs:∀fr,S fr->S' fr):yo S' g b a todo x:=by
 cases x with
 |fy d=>obtain⟨h0,v,h1,h2⟩:=h;exact⟨h0,v,h1,hs _ h2⟩
 |_=>exact hs _ h
def aeT(P:Program)(CR:fw)(c:cb)(e:Env)(J:SK)(x:Exit)(e':Env)(J':SK):Prop :=
 x ≠ .normal/\∀(ann:sS) dR code n,cG P ann n dR code=some c->∀base g0 w0 b a k cs g w B,At CR base ann.ed g0 w0 n b g w B e J a ->
  ∃g' w' B' a' todo,yo (λfr=>Steps P (lone (b.atR a (.code code::.inLoop code::k)) cs w) (lone fr cs w')) g' b a' todo x /\
   At CR base ann.ed g0 w0 n b g' w' B' e' J' a'/\g.le g'/\DF k x todo/\fQ J J'
def Yl(P:Program)(ann:sS)(n dR:Nat)(rest:cb):Option Code->Prop
 |none=>rest=.Ko
 |some q=>cG P ann n dR q=some rest
def abv(P:Program)(CR:fw)(live:List Nat)(it:bU)(nx ok bid:Nat)(c rest:cb)(e:Env)(J:SK)(x:Exit)(e':Env)(J':SK):Prop :=
 ∀(ann:sS) dR rid ops p n it0 (qs:Option Code),it=.t it0->SX ann n (.loop (.seq (.region rid ops false) p))=some (it0,nx,ok)->cG P ann n bid p=some c->Yl P ann n dR rest qs ->
  ∀base g0 w0 b a k cs g w B,At CR base ann.ed g0 w0 n b g w B e J a ->
  ∃g' w' B' a' todo,yo (λfr=>Steps P (lone (b.atR a (.code (.seq (.region rid ops false) p)::.inLoop (.seq (.region rid ops false) p)::.inBlock bid::(qs.toList.map Item.code++k))) cs w) (lone fr cs w')) g' b a' todo x /\
   At CR base ann.ed g0 w0 n b g' w' B' e' J' a'/\g.le g'/\DF k x todo/\fQ J J'
def Jj(P:Program)(CR:fw):Q->R->Prop
 |.call _ f args J,.val d J'=>xc P CR f args J d J'
 |.round l i args J,.val d J'=>Uk P CR l i args J d J'
 |.loop _ _ c e J,.FU x e' J'=>aeT P CR c e J x e' J'
 |.call _ f args J,.fy d J'=>abA P CR f args J d J'
 |.gX live it nx ok bid c rest e J,.FU x e' J'=>abv P CR live it nx ok bid c rest e J x e' J'
 |.Ar f args th J,.val _ J'=>abp P CR f args th J J'
 |_,_=>True
def B6(P:Program)(CR:fw)(O:cn):Prop:=∀q r,O q=some r->Jj P CR q r
theorem Jh{r:Option R}{d:D}{J:SK}(h:R.dG r=some (d,J)):r=some (.val d J):=by
 unfold R.dG at h;split at h
 .cases h;rfl
 .cases h
theorem Na{r:Option R}{x:Exit}{e:Env}{J:SK}(h:R.VX r=some (x,e,J)):r=some (.FU x e J):=by
 unfold R.VX at h;split at h
 .cases h;rfl
 .cases h
section
variable {P:Program} {CR:fw} {O:cn} {ann:sS} {n rM:Nat} {ops:Array Oper} {base:Nat} {g0 g:G} {w0 w:World} {b:Frame} {B:Nat->Nat} {e e':Env} {J J':SK} {a:Act}
 {k:List Item} {cs:List Frame} {i:Nat} {rest:List Nat}
def Qc(P:Program)(CR:fw)(ann:sS)(n:Nat)(ops:Array Oper)(base:Nat)(g0:G)(w0:World)(b:Frame)(g:G)(w:World)(a:Act)(k:List Item)(cs:List Frame)(i:Nat)(rest:List Nat)(J:SK)(e':Env)(J':SK):Prop :=
 ∃g' w' B' a',Steps P (lone (b.atR a (.inRegion ops (i::rest)::k)) cs w) (lone (b.atR a' (.inRegion ops rest::k)) cs w') /\
  At CR base ann.ed g0 w0 n b g' w' B' e' J' a'/\g.le g'/\fQ J J'
theorem At.go{V:List Nat}(ha:At CR base V g0 w0 n b g w B e J a){g':G}{w':World}{B':Nat->Nat}{tm:Act}(he:Ev g w g' w')(hi:Inv CR base g' J' w')(hg:fQ J J')
  (hf:Fr w0.heap.size V g' w' B' e' tm.tmps) (hs:tm.tmps.size=a.tmps.size) (hd:tm.defers=a.defers):At CR base V g0 w0 n b g' w' B' e' J' tm where
 fr:=hf
 ev:=ha.ev.trans he
 inv:=hi
 low:=hg.low ha.low
 pos:=by rw[hg.len];exact ha.pos
 size:=by rw[hs];exact ha.size
 marks:=let ⟨rs,h⟩:=ha.marks;⟨rs,by rw[hd];exact h.ev he⟩
 round:=vL ha.round he.le
theorem E1{dst:Option Nat}{c:Value}:(a.put dst c).tmps.size=a.tmps.size:=by cases dst<;>simp[Act.put]
theorem put_defers{dst:Option Nat}{c:Value}:(a.put dst c).defers=a.defers:=by cases dst<;>simp[Act.put]
theorem QZ{ann:sS}{key:Nat}{o:Oper}{kk:K}(h:kC P ann ops key o=some kk):∀c,o.op ≠ .defer c:=by
 intro c hc;unfold kC at h;rw[hc]at h;cases h
theorem Ds(ha:At CR base ann.ed g0 w0 n b g w B e J a){o:Oper}(ho:ops[i]?=some o)(hn:∀t,o.dst=some t->t<n)(hV:∀t,o.dst=some t->t ∉ ann.ed)
  {g':G} {w':World} {d:D} {c:Value} (hsteps:Steps P (lone (b.atR a (.inRegion ops (i::rest)::k)) cs w) (lone (b.atR (a.put o.dst c) (.inRegion ops rest::k)) cs w'))
  (he:Ev g w g' w') (hi:Inv CR base g' J' w') (hg:fQ J J') (hr:de g' B e d c):
  Qc P CR ann n ops base g0 w0 b g w a k cs i rest J (put o.dst d e) J':=by
 refine⟨g',w',B,a.put o.dst c,hsteps,ha.go he hi hg ?_ E1 put_defers,he.le,hg⟩;exact(ha.fr.ev he).put hr hV λt ht=>by rw[ha.size];exact hn t ht
theorem jG{ρ:Operand->Value}{f:Operand}{args:Array Operand}{ts:Array TypeId}{ty:TypeId}{fn:Go.Fn}{first cap:Array Value}(hf:ρ f=.func fn first cap)(w:World):
  (resolve ρ {callee:=.value f,args,argTypes:=ts } ty).run P w=.ok {target:=.fn fn cap,args:=first++args.map ρ } w:=by
 simp[resolve,Deferred.ofValue,hf]
theorem yF{f:FuncId}{args:Array Value}{F:Func}(h1:P.funcs[f]?=some F)(h2:F.name ≠ "runtime.NumGoroutine"){c:Code}(h3:F.body=some c)(w:World):
  (callFunc f args).run P w=.ok (.enter f args) w:=by
 simp[callFunc,program,Sem.run,h1,h2,h3]
theorem H0{xs:Array Operand}{Xs:List bU}{fb:Nat}{V:List Nat}{tmps:Array Value}{df:List Deferred}(hf:Fr fb V g w B e tmps)(hx:yh xs.toList=some Xs):
  bS g (Xs.map (aw.bG e)) (xs.map (Act.mk tmps df).eval).toList:=by
 have:=hf.afO (df:=df) hx;simpa using this
theorem Us(hO:B6 P CR O)(ha:At CR base ann.ed g0 w0 n b g w B e J a){o:Oper}(ho:ops[i]?=some o)(hw:Region.wanted o (yielded ops a.tmps)=true)
  (hn:∀t,o.dst=some t->t<n) (hV:∀t,o.dst=some t->t ∉ ann.ed) {f:Operand} {args:Array Operand} {ts:Array TypeId} (hop:o.op=.call {callee:=.value f,args,argTypes:=ts })
  {F:bU} {Xs:List bU} (hF:bT f=some F) (hX:yh args.toList=some Xs) {kp:Bool} {d:D} (h:nG O kp (bG e F) (Xs.map (bG e)) J=some (d,J')):
  Qc P CR ann n ops base g0 w0 b g w a k cs i rest J (put o.dst d e) J':=by
 obtain⟨tmps,df⟩:=a;have hd:∀c,o.op ≠ .defer c:=by intro c hc;rw[hop]at hc;cases hc
 have hfv:=ha.fr.bG (df:=df) hF;have hxs:=H0 (df:=df) ha.fr hX;unfold nG at h;split at h
 .rename_i fi first cap hfe
  rw[hfe]at hfv;have hans:=hO _ _ (Jh h);obtain⟨⟨Fn,cd,hfn1,hfn2,hfn3⟩,hcall⟩:=hans;generalize hev:(Act.mk tmps df).eval f=fv at hfv;cases hfv with
  |fn _ _ _ first' cap' r1 r2 =>
   have hrun:(execOp (Act.mk tmps df).eval o).run P w=.ok (.enter fi (first'++args.map (Act.mk tmps df).eval++cap')) w:=by
    simp only[execOp,hop,Sem.run_bind,jG hev,Result.andThen_ok,invoke,yF hfn1 hfn2 hfn3]
   have hargs:bS g (first++Xs.map (bG e)++cap) (first'++args.map (Act.mk tmps df).eval++cap').toList:=by
    simpa using(r1.append hxs).append r2
   obtain⟨hgo,hcalls⟩:=hcall base g w _ ha.inv ha.low ha.pos hargs;obtain⟨en,w',fr,⟨v,g',rfl,he,hi,hr⟩,hcomes,hfr,hleave⟩:=hcalls (b.atR ⟨tmps,df⟩ (.inRegion ops (i::rest)::k)::cs);refine Ds ha ho hn hV (Steps.head (Mb ho hw hd hrun) (Steps.trans hcomes (Steps.one ?_))) he hi hgo (de.of hr);rw[step_leave_returned hleave,Fl ho]
 .rename_i l j hfe;rw[hfe]at hfv;have hans:=hO _ _ (Jh h);generalize hev:(Act.mk tmps df).eval f=fv at hfv;have hfv0:=hfv;cases hfv with
  |UM _ _ bb r1 =>
   obtain⟨⟨lp,hlp⟩,_⟩:=hans;obtain⟨b0,hb0,hrel⟩:=ha.inv.yr _ _ _ r1;rw[hlp]at hb0;cases hb0;exact hrel.elim
  |Za _ _ bb L r1 r2 =>
   obtain⟨⟨lp,hlp⟩,_⟩:=hans;obtain⟨b0,hb0,hrel⟩:=ha.inv.yr _ _ _ r1;rw[hlp]at hb0;cases hb0;rcases r2 with rfl | rfl<;>exact hrel.elim
  |VR _ _ bb L r1 r2 =>
   obtain⟨⟨lp,hlp⟩,_⟩:=hans;obtain⟨b0,hb0,hrel⟩:=ha.inv.yr _ _ _ r1;rw[hlp]at hb0;cases hb0;rcases r2 with⟨c,rfl⟩ | rfl<;>exact hrel.elim
  |jg _ _ bb r1 =>
   obtain⟨hgo,f0,tm0,BY,body,hy,hround⟩:=hans.2 base g w (args.map (Act.mk tmps df).eval) bb ha.inv ha.low ha.pos (by simpa using hxs) hfv0;have hrun:(execOp (Act.mk tmps df).eval o).run P w=.ok (.round bb f0 tm0 BY body) w:=by
    simp only[execOp,hop,Sem.run_bind,jG hev,Result.andThen_ok,invoke];simpa using hy
   obtain⟨v,g',w',hsteps,he,hi,hr⟩:=hround (b.atR ⟨tmps,df⟩ (.inRegion ops (i::rest)::k)) cs;refine Ds ha ho hn hV (Steps.head (Tq ho hw hd hrun) ?_) he hi hgo (de.of hr);rw[Fl ho]at hsteps;exact hsteps
 .cases h
end
section
variable {P:Program} {CR:fw} {O:cn} {ann:sS} {n rM:Nat} {ops:Array Oper} {base:Nat} {g0 g:G} {w0 w:World} {b:Frame} {B:Nat->Nat} {e e':Env} {J J':SK} {a:Act}
 {k:List Item} {cs:List Frame} {i:Nat} {rest:List Nat}
theorem ZD(ha:At CR base ann.ed g0 w0 n b g w B e J a){o:Oper}(ho:ops[i]?=some o)(hw:Region.wanted o (yielded ops a.tmps)=true)(hd:∀c,o.op ≠ .defer c)
  {v:Nat} (hdst:o.dst=some v) (hV:v∈ann.ed) (hn:v<n) {g1:G} {ds:List D} {ca:Array Value} {el:TypeId}
  (hrun:(execOp a.eval o).run P w=.ok (.value (.pointer (some ⟨w.heap.size,0,none⟩))) (w.alloc (.cells ca el)))
  (i1:Inv CR base g1 J' w) (e1:Ev g w g1 w) (hg:fQ J J') (hr:bS g1 ds ca.toList) (h1:∀x∈ca.toList,x.oneCell'=true):
  Qc P CR ann n ops base g0 w0 b g w a k cs i rest J ((v,.own (uj e v) ds)::e) J':=by
 obtain⟨tmps,df⟩:=a;have i2:=i1.alloc (.cells ca el);have e2:=e1.trans (Ev.alloc g1 w (.cells ca el));have hsteps:=Ab (P:=P) (b:=b) (a:=⟨tmps,df⟩) (k:=k) (cs:=cs) (rest:=rest) ho hw hd hrun rfl;rw[hdst]at hsteps;have hsz:v<tmps.size:=by have:=ha.size;simp only at this;omega
 refine⟨g1,_,_,_,.one hsteps,ha.go e2 i2 hg ((ha.fr.ev e2).afV hV hsz ⟨ha.ev.size,λhb=>?_,λo=>?_,ca,el,sC,hr,h1⟩ λt s cs' ht=>?_) E1 put_defers,e2.le,hg⟩
 .exact Nat.lt_irrefl _ (i1.Y0 hb)
 .cases hh:g1.nB w.heap.size o with
  |none=>rfl
  |some x=>exact absurd (i1.iW hh) (Nat.lt_irrefl _)
 .have:=(ha.fr.own t s cs' ht).2.2.lt;omega
theorem agP(ha:At CR base ann.ed g0 w0 n b g w B e J a){o:Oper}(ho:ops[i]?=some o)(hw:Region.wanted o (yielded ops a.tmps)=true)
  (hn:∀t,o.dst=some t->t<n) (hV:∀t,o.dst=some t->t ∉ ann.ed) {t:TypeId} {x v:Nat} {y:Operand} {Y:bU} (hop:o.op=.store t (.tmp x) y) (hy:bT y=some Y) {sz:Nat} (hsz:dL P t=some sz)
  {s off:Nat} {cv p p':List D} {nb:List (Nat×Nat)} (hin:pL e v x=some (s,cv,off)) (hp:(bG e Y).cells=some p) (hlen:p.length=sz/\off+sz<=cv.length)
  (hnb:jT nb p J=some (p',J')) (hdst:o.dst=none):
  Qc P CR ann n ops base g0 w0 b g w a k cs i rest J ((v,.own s (cv.take off++p'++cv.drop (off+sz)))::e) J':=by
 obtain⟨tmps,df⟩:=a;have hd:∀c,o.op ≠ .defer c:=by intro c hc;rw[hop]at hc;cases hc
 obtain⟨hgv,hpx⟩:=ha.fr.pL hin;obtain⟨hvV,hptr,hob⟩:=ha.fr.own v s cv hgv;obtain⟨ca,el,hheap,hrl,h1c⟩:=hob.dR;obtain⟨hrp,h1p⟩:=(ha.fr.bG (df:=df) hy).cells hp;obtain⟨g1,i1,e1,r1⟩:=zU nb _ _ _ _ g _ hnb ha.inv hrp;obtain⟨_,hp'len,_⟩:=Dt nb _ _ _ _ hnb;have hpl:((Act.mk tmps df).eval y).cells.toList.length=sz:=by rw[<- r1.length,hp'len];exact hlen.1
 have hpl':((Act.mk tmps df).eval y).cells.size=sz:=by simpa using hpl
 have hcl:ca.size=cv.length:=by have:=hrl.length;simpa using this.symm
 obtain⟨w',c',hrun,hb',hs',hc',hother,hsize,ho1,ho2,ho3⟩:=Ia (P:=P) (t:=t) (w:=w) (b:=B v) (o:=off) (v:=(Act.mk tmps df).eval y) hsz (by simpa using hpl) h1p hheap (by omega);have hob1:=hob.ev e1;have hcv:(Act.mk tmps df).eval (.tmp x)=.pointer (some ⟨B v,off,none⟩):=hpx;have hrunO:(execOp (Act.mk tmps df).eval o).run P w=.ok .skip w':=by
  simp[execOp,hop,Instr.storeAt,hcv,Instr.sureAddr,hrun]
 have hoth:∀b',b'≠B v->w'.heap[b']?=w.heap[b']?:=hother;have i2:Inv CR base g1 J' w':=i1.Kj (λb' hb'' hk=>hoth b' λhh=>by
  subst hh;rcases hk with hk | ⟨o2,v2,hk⟩
  .exact hob1.free hk
  .rw[hob1.pM]at hk;cases hk) (by omega)
 have hwrite:bS g1 (cv.take off++p'++cv.drop (off+sz)) c'.toList/\∀z∈c'.toList,z.oneCell'=true:=by
  have hrow:=I4 (c:=ca) (c':=c') (bo:=0) (off:=off) (vs:=ca.toList) (ps:=((Act.mk tmps df).eval y).cells.toList) (λj z hz=>⟨by simpa using hz,h1c z (ah hz)⟩) h1p (by simp;omega)
   (by rw[hpl];simpa using hc')
  rw[hpl]at hrow;have hrel:=(((hrl.mono e1.le).take off).append r1).append ((hrl.mono e1.le).drop (off+sz));have heq:c'.toList=ca.toList.take off++((Act.mk tmps df).eval y).cells.toList++ca.toList.drop (off+sz):=by
   have hll:(ca.toList.take off++((Act.mk tmps df).eval y).cells.toList++ca.toList.drop (off+sz)).length=c'.toList.length:=by
    simp only[aP,hpl,dp,List.length_drop,Array.length_toList,hs'];omega
   apply eL;intro j;by_cases hj:j<c'.toList.length
   .have hj2:=hj;rw[<- hll]at hj2;have:=(hrow j _ (aE hj2)).1;rw[aE hj2];simpa using this
   .rw[dV (by omega),dV (by omega)]
  rw[heq];refine⟨hrel,λz hz=>?_⟩;simp only[aU]at hz;rcases hz with(hz | hz) | hz
  .exact h1c z (dj hz)
  .exact h1p z hz
  .exact h1c z (dH hz)
 have hob2:Ml w0.heap.size g1 w' (B v) (cv.take off++p'++cv.drop (off+sz)):=⟨hob1.lo,hob1.free,hob1.pM,c',el,hb',hwrite.1,hwrite.2⟩;have hsteps:=Ab (P:=P) (b:=b) (a:=⟨tmps,df⟩) (k:=k) (cs:=cs) (rest:=rest) ho hw hd hrunO rfl;rw[hdst]at hsteps;have hgo:=sA _ _ _ _ _ hnb;refine⟨g1,w',B,⟨tmps,df⟩,.one hsteps,⟨?_,?_,i2,hgo.low ha.low,by rw[hgo.len];exact ha.pos,ha.size,?_,vL ha.round e1.le⟩,e1.le,hgo⟩
 .exact(ha.fr.ev e1).Th hgv hob2 λb' _ hne=>hoth b' hne
 .have h0:=ha.ev.trans e1;refine⟨h0.le,ho1.trans h0.os,ho2.trans h0.tape,ho3.trans h0.output,by have:=h0.size;omega,λb' hb'' hnb'=>?_,h0.WW,h0.Mz⟩;rw[hoth b' (by have:=hob.lo;omega)];exact h0.kept b' hb'' hnb'
 .obtain⟨rs,hm⟩:=ha.marks;have hm1:=hm.ev e1;refine⟨rs,hm1.eq,hm1.nodup,λr hr=>?_⟩;have hmr:=hm1.all r hr;refine⟨hmr.lo,hmr.free,hmr.pM,?_⟩;rw[hoth r,hmr.dR];intro hh;subst hh;have:=hmr.dR;rw[hheap]at this;cases this
def KEq(P:Program)(ann:sS)(o:Oper)(kk:K):Prop :=
  match kk with
  |.call _ F Xs=>∃f args ts,o.op=.call {callee:=.value f,args,argTypes:=ts }/\bT f=some F/\yh args.toList=some Xs
  |.CV _ z=>∃el v,o.op=.alloc el/\pN P el=some z/\o.dst=some v/\v∈ann.ed
  |.GD X=>∃t x v,o.op=.box t x/\bT x=some X/\o.dst=some v/\v∈ann.ed
  |.Je _ _ sz x Y=>∃t y,o.op=.store t (.tmp x) y/\bT y=some Y/\dL P t=some sz
  |.ZE X=>∃y,o.op=.panic y/\bT y=some X
  |.RX=>∃args ts,o.op=.call {callee:=.builtin .recover,args,argTypes:=ts }
  |_=>True
theorem SR{X Y:bU}{t:TypeId}{bo:BinOp}{kk:K}{o:Oper}(hk:eqC P bo t X Y=some kk):KEq P ann o kk:=by
 unfold eqC at hk;split at hk
 case h_2=>cases hk
 split at hk
 .cases hk
 split at hk
 .obtain⟨ag,hag,rfl⟩:=ad.1 hk;trivial
 .obtain⟨ag,hag,rfl⟩:=ad.1 hk;trivial
 .cases hk
theorem Zc{kk:K}{key:Nat}{o:Oper}(hk:kC P ann ops key o=some kk):KEq P ann o kk:=by
 unfold kC at hk;split at hk
 .rename_i x ho;obtain⟨X,hX,rfl⟩:=ad.1 hk;trivial
 .rename_i x ho;split at hk
  .rename_i hnil _ _;split at hk
   .obtain⟨X,hX,rfl⟩:=ad.1 hk;trivial
   .obtain⟨X,hX,rfl⟩:=ad.1 hk;trivial
  .obtain⟨X,hX,rfl⟩:=ad.1 hk;trivial
 .rename_i c x y ho;split at hk
  .rename_i c' x' y' h1 h2 h3;cases hk;trivial
  .cases hk
 .rename_i el ho;split at hk
  .rename_i z d0 hz hd0;split at hk
   .split at hk
    case h_2=>cases hk
    split at hk
    case h_2=>cases hk
    split at hk
    case h_2=>cases hk
    cases hk;trivial
   cases hk;split
   .rename_i hc;exact⟨el,d0,ho,hz,hd0,by simpa using hc⟩
   .trivial
  .cases hk
 .rename_i t x ho;split at hk
  .rename_i x' d0 hx hd0;cases hk;by_cases hc:ann.ed.contains d0=true
   .simp only[hc,if_true];exact⟨t,x,d0,ho,hx,hd0,by simpa using hc⟩
   .rw[if_neg hc];split
    .split<;>trivial
    .trivial
  .cases hk
 .rename_i t ps ho;split at hk
  .rename_i fs z ht hz;split at hk
   .rename_i hall;obtain⟨parts,hp,rfl⟩:=ad.1 hk;trivial
   .cases hk
  .rename_i n el z ht hz;split at hk
   .rename_i wd hw;obtain⟨parts,hp,rfl⟩:=ad.1 hk;trivial
   .cases hk
  .cases hk
 .rename_i t n ps ho;split at hk
  .rename_i el ht;split at hk
   .rename_i wd z d0 hw hz _;split at hk
    .rename_i hc;obtain⟨parts,hp,rfl⟩:=ad.1 hk;dsimp only;split
     .trivial
     split<;>trivial
    .cases hk
   .cases hk
  .cases hk
 .rename_i t x ho;split at hk
  .rename_i ag sz n hag hsz hx;split at hk
   .rename_i hc;simp only[af,au]at hc;cases hk;have hxe:x=.tmp n:=by
     cases x<;>simp only[bT,ae,bU.t.injEq,reduceCtorEq,ad,and_false,exists_false]at hx;rw[hx]
    split
    .trivial
    .split
     .trivial
     .split<;>trivial
   .cases hk
  .cases hk
 .rename_i t x y ho;split at hk
  .rename_i sz n y' hsz hx hy;cases hk;have hxe:x=.tmp n:=by
    cases x<;>simp only[bT,ae,bU.t.injEq,reduceCtorEq,ad,and_false,exists_false]at hx;rw[hx]
   by_cases hc:ann.ed.contains (JT ops 8 n)=true
   .simp only[hc,if_true];exact⟨t,y,by rw[ho,hxe],hy,hsz⟩
   .rw[if_neg hc];split<;>trivial
  .cases hk
 .rename_i b t x y u ho;split at hk
  .rename_i hx hy;cases hk;trivial
  .rename_i hx hy;exact SR hk
  .rename_i hx hy;exact SR hk
  .rename_i hx hy;exact SR hk
  .rename_i ht hx hy;split at hk<;>cases hk<;>trivial
  .rename_i ht hx hy;unfold isC at hk;split at hk<;>cases hk<;>trivial
  .rename_i ht hx hy;split at hk
   .split at hk<;>cases hk<;>trivial
   .cases hk
  .rename_i ht hx hy;unfold isC at hk;split at hk<;>cases hk<;>trivial
  .rename_i ht hx hy;split at hk<;>cases hk<;>trivial
  .cases hk
 .rename_i x ho;obtain⟨X,hX,rfl⟩:=ad.1 hk;trivial
 .rename_i b t x ho;obtain⟨X,hX,rfl⟩:=ad.1 hk;trivial
 .rename_i s t x ho;split at hk
  .rename_i hs ht hx;cases hk;trivial
  .split at hk<;>cases hk<;>trivial
  .split at hk<;>cases hk<;>trivial
  .split at hk
   .split at hk<;>cases hk<;>trivial
   .cases hk
  .cases hk
 .rename_i t x ho;split at hk
  .obtain⟨X,hX,rfl⟩:=ad.1 hk;trivial
  .cases hk
 .rename_i f xs ys ho;split at hk
  .rename_i hx hy;cases hk;trivial
  .cases hk
 .rename_i t x y ho;split at hk
  .rename_i el ht;split at hk
   .rename_i hw hb hz hx hy;split at hk
    .rename_i hc;cases hk;trivial
    .cases hk
   .cases hk
  .cases hk
 .rename_i t x lo hh mx ho;split at hk
  .rename_i ht hx hlo hhi hmx;obtain⟨wd,hw,rfl⟩:=ad.1 hk;trivial
  .rename_i ht hx hlo hhi hmx;obtain⟨wd,hw,rfl⟩:=ad.1 hk;have hm:mx=none:=by
    cases mx with
    |none=>rfl
    |some m=>simp[zX,ad]at hmx
   subst hm;trivial
  .rename_i ht hx hlo hhi hmx;cases hk;trivial
  .cases hk
 .rename_i s x i ho;split at hk
  .rename_i fs x' hs hx;split at hk
   .rename_i off sz hfc;split at hk
    .rename_i hpos;cases hk;trivial
    .cases hk
   .cases hk
  .cases hk
 .rename_i s x i ho;split at hk
  .rename_i fs x' hs hx;split at hk
   .rename_i f hfi;split at hk
    .rename_i hag hsz;split at hk
     .cases hk;trivial
     .cases hk
    .cases hk
   .cases hk
  .cases hk
 .rename_i t x y ho;split at hk
  .rename_i ht hx hy;obtain⟨wd,hw,rfl⟩:=ad.1 hk;trivial
  .rename_i ht hx hy;obtain⟨wd,hw,rfl⟩:=ad.1 hk;trivial
  .cases hk
 .rename_i t x y ho;split at hk
  .rename_i ht hx hy;split at hk
   .rename_i hag hsz;split at hk
    .cases hk;trivial
    .cases hk
   .cases hk
  .rename_i ht hx hy;cases hk;trivial
  .cases hk
 .rename_i x i ho;obtain⟨X,hX,rfl⟩:=ad.1 hk;trivial
 .rename_i c ho;obtain⟨callee,args,ts⟩:=c;dsimp only at hk;split at hk
  .rename_i f;split at hk
   .rename_i hf hx;cases hk;exact⟨f,args,ts,ho,hf,hx⟩
   .cases hk
  .split at hk
   .rename_i t tr x r hts ha;split at hk
    .rename_i ht hx;cases hk;trivial
    .rename_i ht hx;cases hk;trivial
    .rename_i ht hx;cases hk;trivial
    .rename_i ht;cases hk;trivial
    .rename_i ht;split at hk
     .rename_i hr;cases hk;trivial
     .cases hk
    .cases hk
   .cases hk
  .cases hk;exact⟨_,_,ho⟩
  .split at hk
   .rename_i ha;split at hk
    .rename_i hx hy;cases hk;trivial
    .cases hk
   .cases hk
  .split at hk
   .rename_i ha;split at hk
    .rename_i hx hy;cases hk;trivial
    .cases hk
   .cases hk
  .split at hk
   .rename_i t u x y hts ha;split at hk
    .rename_i ht hu hx hy;split at hk
     case isFalse=>cases hk
     split at hk
     .rename_i hw hb hz;split at hk
      .rename_i hc;cases hk;split
       .trivial
       .split
        .trivial
        .split
         .trivial
         .split<;>trivial
      .cases hk
     .cases hk
    .cases hk
   .cases hk
  .cases hk
 .rename_i t x ho;split at hk
  .obtain⟨X,hX,rfl⟩:=ad.1 hk;trivial
  .cases hk
 .rename_i x xt t ok ho;split at hk
  .cases hk
  .split at hk
   .obtain⟨z,hz,rfl⟩:=ad.1 hk;trivial
   .cases hk;trivial
  .cases hk
 .rename_i x ho;obtain⟨X,hX,rfl⟩:=ad.1 hk;exact⟨x,ho,hX⟩
 .rename_i t ho;cases hk;trivial
 .split at hk<;>cases hk<;>trivial
 .rename_i t x ho;split at hk
  .rename_i ht hx;cases hk;trivial
  .cases hk
 .rename_i x ho;split at hk
  .rename_i hx;cases hk;trivial
  .cases hk
 .rename_i t x y ok ho;split at hk
  .split at hk
   .cases hk;trivial
   .cases hk
  .cases hk
 .rename_i t m x y ho;split at hk
  .split at hk
   .cases hk;trivial
   .cases hk
  .cases hk
 .rename_i t m x y ho;split at hk
  .split at hk
   .cases hk;trivial
   .cases hk
  .cases hk
 .cases hk
theorem WB{kk:K}(h:kk.makes=true):bY e J kk=none:=by
 cases kk<;>simp[K.makes]at h<;>rfl
theorem Yt(hO:B6 P CR O)(ha:At CR base ann.ed g0 w0 n b g w B e J a){o:Oper}(ho:ops[i]?=some o)(hw:Region.wanted o (yielded ops a.tmps)=true)
  {DZ:Bool} {op:Op} (hop:Wr P ann n rM ops DZ i o=some op) (h:xe O op e J=some (e',J')):
  Qc P CR ann n ops base g0 w0 b g w a k cs i rest J e' J':=by
 unfold Wr at hop;split at hop
 case h_2=>cases hop
 rename_i kk hk;split at hop
 case h_2=>cases hop
 rename_i gd hgd hdn;simp only[aI,af]at hop;obtain⟨⟨hown,hst⟩,hop⟩:=hop;cases hop;have hn:∀t,o.dst=some t->t<n:=by
  intro t ht;rw[ht]at hdn;simpa using hdn
 have hV:kk.makes=false->∀t,o.dst=some t->t ∉ ann.ed:=by
  intro hm t ht;rw[ht]at hown;simp[hm]at hown;simpa using hown
 have hd:=QZ hk;have hkeq:=Zc hk;unfold xe at h;dsimp only at h;split at h
 ·
  rename_i kp F Xs;split at h
  case h_2=>cases h
  rename_i d J1 hc;split at h
  case isFalse=>cases h
  cases h;obtain⟨f,args,ts,h1,h2,h3⟩:=hkeq;exact Us hO ha ho hw hn (hV rfl) h1 h2 h3 hc
 ·
  rename_i nb z;obtain⟨el,v,h1,h2,h3,h4⟩:=hkeq;rw[h3]at h;cases hnb:jT nb z J with
  |none=>simp[hnb]at h
  |some x =>
   obtain⟨cs',J1⟩:=x;simp only[hnb,ae,ak]at h;obtain⟨rfl,rfl⟩:=h;obtain⟨i0,vz,hinfo,hzero,hrz,h1z⟩:=sQ g h2;obtain⟨g1,i1,e1,r1⟩:=zU nb _ _ _ _ g _ hnb ha.inv hrz;exact ZD (el:=el) ha ho hw hd h3 h4 (hn _ h3) (by simp[execOp,h1,I5 hinfo hzero]) i1 e1 (sA _ _ _ _ _ hnb) r1 h1z
 ·
  rename_i X;obtain⟨t,x,v,h1,h2,h3,h4⟩:=hkeq;rw[h3]at h;cases hcx:(bG e X).cells with
  |none=>simp[hcx]at h
  |some cs' =>
   simp only[hcx,ae,ak]at h;obtain⟨rfl,rfl⟩:=h;obtain⟨tmps,df⟩:=a;obtain⟨hr,h1z⟩:=(ha.fr.bG (df:=df) h2).cells hcx;exact ZD (el:=t) ha ho hw hd h3 h4 (hn _ h3) (by simp[execOp,h1,Instr.box,newVar,newRow]) ha.inv (Ev.refl g w) (.refl J) hr h1z
 ·
  rename_i v nb sz x X;obtain⟨t,y,h1,h2,h3⟩:=hkeq;have hdst:o.dst=none:=by simpa[K.ajO]using hst
  split at h
  case h_2=>cases h
  rename_i s cv off p hin hp;split at h
  case isFalse=>cases h
  rename_i hlen;split at h
  case h_2=>cases h
  rename_i p' J1 hnb;cases h;exact agP ha ho hw hn (hV rfl) h1 h2 h3 hin hp hlen hnb hdst
 ·
  rename_i k1 h1 h2 h3 h4;cases hs:bY e J kk with
  |none=>simp[hs]at h
  |some x =>
   obtain⟨d,J1⟩:=x;simp only[hs,aZ,ae,ak]at h;obtain⟨rfl,rfl⟩:=h;have hm:kk.makes=false:=by
    cases hm:kk.makes
    .rfl
    .rw[WB hm]at hs;cases hs
   obtain⟨tmps,df⟩:=a;obtain⟨x,c,g',w',hrun,hx,he,hi,hr⟩:=agK (df:=df) ha.fr ha.inv hk hs;exact Ds ha ho hn (hV hm) (.one (Ab ho hw hd hrun hx)) he hi (Z8 hs) hr
inductive yk {α β:Type} (R:α->β->Prop):List α->List β->Prop
 |nil:yk R [] []
 |cons {x:α} {y:β} {xs:List α} {ys:List β}:R x y->yk R xs ys->yk R (x::xs) (y::ys)
def KS(P:Program)(ann:sS)(n rM:Nat)(ops:Array Oper)(i:Nat)(x:Op):Prop:=∃o DZ,ops[i]?=some o/\Wr P ann n rM ops DZ i o=some x
theorem OP{DZ:Bool}{o:Oper}{op:Op}(h:Wr P ann n rM ops DZ i o=some op):
  op.dst=o.dst/\(∀t,o.dst=some t->t<n)/\((o.guard=none/\op.GJ=none)\/∃j d bb,o.guard=some (j,bb)/\op.GJ=some (d,bb)/\(ops[j]?).bind (·.dst)=some d/\(∀t,o.dst=some t->t ∉ ann.ed)):=by
 unfold Wr at h;split at h
 case h_2=>cases h
 rename_i kk hk;split at h
 case h_2=>cases h
 rename_i gd hgd hdn;simp only[aI,af]at h;obtain⟨⟨hown,hst⟩,h⟩:=h;cases h;refine⟨rfl,λt ht=>by rw[ht]at hdn;simpa using hdn,?_⟩;cases hg:o.guard with
 |none=>rw[hg]at hgd;cases hgd;exact .inl ⟨rfl,rfl⟩
 |some x =>
  obtain⟨j,bb⟩:=x;rw[hg]at hgd;dsimp only at hgd;cases hj:(ops[j]?).bind (·.dst)with
  |none=>rw[hj]at hgd;cases hgd
  |some d =>
   rw[hj]at hgd;cases hgd;refine .inr ⟨j,d,bb,rfl,rfl,hj,λt ht=>?_⟩;rw[ht,hg]at hown;simpa using hown
theorem Fu(hO:B6 P CR O){tl:List Nat}:∀(is:List Nat) (xs:List Op) (e:Env) (J:SK) (g:G) (w:World) (B:Nat->Nat) (a:Act),yk (KS P ann n rM ops) is xs ->
  kO O xs e J=some (e',J')->At CR base ann.ed g0 w0 n b g w B e J a ->
  ∃g' w' B' a',Steps P (lone (b.atR a (.inRegion ops (is++tl)::k)) cs w) (lone (b.atR a' (.inRegion ops tl::k)) cs w')/\At CR base ann.ed g0 w0 n b g' w' B' e' J' a'/\g.le g'/\fQ J J'
 |[],xs,e,J,g,w,B,a,hF,h,ha=>by
  cases hF;simp only[kO,ae,ak]at h;obtain⟨rfl,rfl⟩:=h;exact⟨g,w,B,a,.refl _ _,ha,g.le_refl,.refl J⟩
 |i::is,xs,e,J,g,w,B,a,hF,h,ha=>by
  cases hF with
  |cons hx hF =>
   rename_i x xs;obtain⟨o,DZ,ho,hop⟩:=hx;obtain⟨hdst,hn,hgrd⟩:=OP hop;simp only[kO]at h;have hgo:∀{e1 J1 g1 w1 B1 a1},Steps P (lone (b.atR a (.inRegion ops (i::is++tl)::k)) cs w) (lone (b.atR a1 (.inRegion ops (is++tl)::k)) cs w1) ->
     At CR base ann.ed g0 w0 n b g1 w1 B1 e1 J1 a1->g.le g1->fQ J J1->kO O xs e1 J1=some (e',J') ->
     ∃g' w' B' a',Steps P (lone (b.atR a (.inRegion ops (i::is++tl)::k)) cs w) (lone (b.atR a' (.inRegion ops tl::k)) cs w')/\At CR base ann.ed g0 w0 n b g' w' B' e' J' a'/\g.le g'/\fQ J J':=by
    intro e1 J1 g1 w1 B1 a1 h1 h2 h3 h4 h5;obtain⟨g2,w2,B2,a2,k1,k2,k3,k4⟩:=Fu hO is xs _ _ _ _ _ _ hF h5 h2;exact⟨g2,w2,B2,a2,h1.trans k1,k2,h3.trans' k3,h4.trans k4⟩
   rcases hgrd with⟨hg1,hg2⟩ | ⟨j,d,bb,hg1,hg2,hj,hV⟩
   .rw[hg2]at h;simp only[aj,Prod.exists]at h;obtain⟨e1,J1,h1,h2⟩:=h;obtain⟨g1,w1,B1,a1,k1,k2,k3,k4⟩:=Yt (k:=k) (cs:=cs) (rest:=is++tl) hO ha ho (by simp[Region.wanted,hg1]) hop h1;exact hgo k1 k2 k3 k4 h2
   .rw[hg2]at h;dsimp only at h;split at h
    case h_2=>cases h
    rename_i bv hbv;have hy:yielded ops a.tmps j=bv:=by
     have hrel:=ha.fr.rel d;unfold yielded;rw[hj];simp only[Option.bind_some];cases hg:get e d with
     |bool b =>
      rw[hg]at hrel hbv;have hrel':bW g (.bool b) (a.tmps.getD d Go.undef):=hrel;have hval:=hrel'.nF;simp only[D.bit,ae]at hbv;subst hbv;rw[cM]at hval;cases hd:a.tmps[d]? with
      |none=>rw[hd]at hval;simp[Go.undef]at hval
      |some y=>rw[hd]at hval;simp at hval;subst hval;rfl
     |cS ds =>
      cases ds with
      |nil =>
       rw[hg]at hrel hbv;have hrel':bW g (.cS []) (a.tmps.getD d Go.undef):=hrel;have hval:a.tmps.getD d Go.undef=.tuple #[]:=by
        generalize a.tmps.getD d Go.undef=z at hrel';cases hrel' with | cS _ cs hl =>
         cases cs with | mk cs=>cases cs with
          |nil=>rfl
          |cons c cs=>cases hl
       simp only[D.bit,ae]at hbv;subst hbv;rw[cM]at hval;cases hd:a.tmps[d]? with
       |none=>rfl
       |some y=>rw[hd]at hval;simp at hval;subst hval;rfl
      |cons x xs=>rw[hg]at hbv;simp[D.bit]at hbv
     |_=>rw[hg]at hbv;simp[D.bit]at hbv
    split at h
    .rename_i hb;simp only[aj,Prod.exists]at h;obtain⟨e1,J1,h1,h2⟩:=h;obtain⟨g1,w1,B1,a1,k1,k2,k3,k4⟩:=Yt (k:=k) (cs:=cs) (rest:=is++tl) hO ha ho (by simp[Region.wanted,hg1,hy,hb]) hop h1;exact hgo k1 k2 k3 k4 h2
    .rename_i hb;have hstep:=stepR_op_skip (P:=P) (b:=b) (a:=a) (k:=k) (cs:=cs) (w:=w) (ops:=ops) (i:=i) (rest:=is++tl) (by simp[ho,Region.wanted,hg1,hy,hb]);rw[show(ops[i]?).bind (·.dst)=o.dst from by rw[ho];rfl]at hstep;obtain⟨g1,w1,B1,a1,k1,k2,k3,k4⟩:=Ds (d:=.cS []) ha ho hn hV (.one hstep) (Ev.refl g w) ha.inv (.refl J) (de.of (.cS [] #[] .nil));rw[hdst]at h;exact hgo k1 k2 k3 k4 h
theorem S5(hO:B6 P CR O)(is:List Nat)(xs:List Op)(e:Env)(J:SK)(g:G)(w:World)(B:Nat->Nat)(a:Act)(hF:yk (KS P ann n rM ops) is xs)
  (h:kO O xs e J=some (e',J')) (ha:At CR base ann.ed g0 w0 n b g w B e J a):
  ∃g' w' B' a',Steps P (lone (b.atR a (.inRegion ops is::k)) cs w) (lone (b.atR a' (.inRegion ops []::k)) cs w')/\At CR base ann.ed g0 w0 n b g' w' B' e' J' a'/\g.le g'/\fQ J J':=by
 have:=Fu (k:=k) (cs:=cs) (tl:=[]) hO is xs e J g w B a hF h ha;simpa using this
theorem VV{O:cn}{fv:D}{args:List D}{r:R}(h:DH O fv args J=some r):∃f first cap,fv=.fn f first cap/\O (.call false f (first++args++cap) J)=some r:=by
 unfold DH at h;split at h
 .exact⟨_,_,_,rfl,h⟩
 .cases h
theorem adI{DZ:Bool}{o:Oper}{op:Op}(h:Wr P ann n rM ops DZ i o=some op):kC P ann ops (rM*1000+i) o=some op.k/\(op.k.makes=false->∀t,o.dst=some t->t ∉ ann.ed):=by
 unfold Wr at h;split at h
 case h_2=>cases h
 rename_i kk hk;split at h
 case h_2=>cases h
 simp only[aI,af]at h;obtain⟨⟨hown,hst⟩,h⟩:=h;cases h;refine⟨hk,λhm t ht=>?_⟩;dsimp only at hm;rw[ht]at hown;simp[hm]at hown;simpa using hown
theorem Tp{o:Oper}{v:Value}{w':World}{is:List Nat}(ho:ops[i]?=some o)(hw:Region.wanted o (yielded ops a.tmps)=true)(hd:∀c,o.op ≠ .defer c)
  (hr:(execOp a.eval o).run P w=.halt (.panic v) w'):
  step P (lone (b.atR a (.inRegion ops (i::is)::k)) cs w)=.next (lone {b.atR a (.inRegion ops (i::is)::k)with mode:=.panicking [{v,recovered:=false }] } cs w'):=by
 have hg:=stepGR_op (P:=P) (b:=b) (k:=k) (cs:=cs) (w:=w) (rest:=is) ho hw;rw[Oper.semAt_eq _ _ _ hd]at hg;exact step_lone_go (by rw[hg,<- Frame.raise_atR];simp[stepG.apply,hr])
end
def jA(ts:List Nat)(e e':Env):Prop:=∀t∈ts,get e' t=get e t
theorem jA.mono{ts us:List Nat}{e e':Env}(h:jA us e e')(hs:∀t∈ts,t∈us):jA ts e e':=λt ht=>h t (hs t ht)
theorem jA.app{ts us:List Nat}{e e':Env}:jA (ts++us) e e'↔jA ts e e'/\jA us e e' :=
 ⟨λh=>⟨λt ht=>h t (by simp[ht]),λt ht=>h t (by simp[ht])⟩,λh t ht=>(aU.1 ht).elim (h.1 t) (h.2 t)⟩
theorem jA.cons{t:Nat}{us:List Nat}{e e':Env}:jA (t::us) e e'↔get e' t=get e t/\jA us e e' :=
 ⟨λh=>⟨h t (by simp),λu hu=>h u (by simp[hu])⟩,λh u hu=>(bz.1 hu).elim (λx=>x ▸ h.1) (h.2 u)⟩
variable {e e':Env} {J J':SK}
theorem bu{x:bU}(h:jA x.tmps e e'):bG e' x=bG e x:=by
 cases x with
 |t n=>simp only[bG];rw[h n (by simp[bU.tmps])]
 |c d=>rfl
theorem vJ{xs:List bU}(h:jA (fM xs bU.tmps) e e'):xs.map (bG e')=xs.map (bG e):=by
 induction xs with
 |nil=>rfl
 |cons x xs ih =>
  simp only[cT,jA.app]at h;simp only[aL,bu h.1,ih h.2]
theorem AS:∀{ps:List (Nat×Nat×bU)} {cs:List D},jA (fM ps λp=>p.2.2.tmps) e e'->iB e' ps cs=iB e ps cs
 |[],cs,h=>rfl
 |(off,sz,x)::ps,cs,h=>by
  simp only[cT,jA.app]at h;simp only[iB,bu h.1];split
  .split
   .exact AS h.2
   .rfl
  .rfl
theorem IB{m:Nat}{dfl:Option Nat}{x:Option bU}(h:jA ((x.map bU.tmps).getD []) e e'):CM e' m dfl x=CM e m dfl x:=by
 cases x with
 |none=>rfl
 |some x=>simp only[CM];rw[bu (by simpa using h)]
theorem G9{n:Nat}{lo hi mx:Option bU}(h1:jA ((lo.map bU.tmps).getD []) e e')(h2:jA ((hi.map bU.tmps).getD []) e e')(h3:jA ((mx.map bU.tmps).getD []) e e'):
  bounds n e' lo hi mx=bounds n e lo hi mx:=by
 simp only[bounds,IB h1,IB h2,IB h3]
theorem EM{v a:Nat}(h1:get e' v=get e v)(h2:get e' a=get e a):pL e' v a=pL e v a:=by
 simp only[pL,h1,h2]
theorem WA{k:K}(h:jA k.tmps e e'):bY e' J k=bY e J k:=by
 cases k<;>simp only[K.tmps,jA.app,jA.cons]at h
 case mv x=>simp only[bY,bu h]
 case LL=>rfl
 case pick c a b=>simp only[bY,bu h.1.1,bu h.1.2,bu h.2]
 case Un=>rfl
 case Zq=>simp only[bY,bu h]
 case tas=>simp only[bY,bu h]
 case isi=>simp only[bY,bu h]
 case ZE=>rfl
 case RX=>rfl
 case CV=>rfl
 case Mq x=>simp only[bY,bu h]
 case Mr x=>simp only[bY,bu h]
 case bxn nb x=>simp only[bY,bu h]
 case GD=>rfl
 case Mp=>simp only[bY,AS h]
 case bsi=>simp only[bY,AS h]
 case YB=>simp only[bY,AS h]
 case ld=>simp only[bY,bu h]
 case WY=>simp only[bY,bu h]
 case WX=>simp only[bY,bu h]
 case isn=>simp only[bY,bu h]
 case nck=>simp only[bY,bu h]
 case st=>simp only[bY,bu h.1,bu h.2]
 case RL os sz a x =>
  have hall:∀l i,(os.all λt=>D.off l i (get e' t))=os.all λt=>D.off l i (get e t):=by
   intro l i;have h2:=h.2;clear h;induction os with
   |nil=>rfl
   |cons o os ih=>simp only[jb,h2 o (by simp),ih (h2.mono λt ht=>by simp[ht])]
  simp only[bY,bu h.1.1,bu h.1.2,hall]
 case WZ=>simp only[bY,EM h.1 h.2.1]
 case Je=>rfl
 case bin=>simp only[bY,bu h.1,bu h.2]
 case eqv=>simp only[bY,bu h.1,bu h.2]
 case un=>simp only[bY,bu h]
 case YI=>simp only[bY,bu h]
 case Zp=>simp only[bY,vJ h.1,vJ h.2]
 case mks=>simp only[bY,bu h.1,bu h.2]
 case W3=>simp only[bY,bu h.1.1.1,G9 h.1.1.2 h.1.2 h.2]
 case Tj=>simp only[bY,bu h.1.1,G9 (mx:=none) h.1.2 h.2 (λt ht=>by simp at ht)]
 case Mt off x =>
  cases x with
  |t n=>simp only[bY,h n (by simp[bU.tmps])]
  |c d=>rfl
 case fld=>simp only[bY,bu h]
 case My len w x i =>
  cases x with
  |t n =>
   have h1:=h.1 n (by simp[bU.tmps]);simp only[bY,bu h.2];cases HP (bG e i)<;>simp only[h1]
  |c d=>simp only[bY]
 case IQ=>simp only[bY,bu h.1,bu h.2]
 case OF=>simp only[bY,bu h.1,bu h.2]
 case MB=>simp only[bY,bu h]
 case SU=>rfl
 case mn=>simp only[bY,bu h.1,bu h.2]
 case mx=>simp only[bY,bu h.1,bu h.2]
 case app=>simp only[bY,bu h.1,bu h.2]
 case VP os w b s x =>
  have hall:∀l i,(os.all λt=>D.off l i (get e' t))=os.all λt=>D.off l i (get e t):=by
   intro l i;have h2:=h.2;clear h;induction os with
   |nil=>rfl
   |cons o os ih=>simp only[jb,h2 o (by simp),ih (h2.mono λt ht=>by simp[ht])]
  simp only[bY,Oe,bu h.1.1,bu h.1.2,hall]
 case apz=>simp only[bY,Oe,bu h.1,bu h.2]
 case cpi=>simp only[bY,bu h]
 case cvz=>simp only[bY,bu h]
 case bse=>rfl
 case ape w b v x=>simp only[bY,h.1,bu h.2]
 case ext=>simp only[bY,bu h]
 case Is=>simp only[bY,vJ h]
 case mp=>simp only[bY,vJ h]
 case me=>simp only[bY,vJ h]
 case call=>rfl
noncomputable def ug(O:cn)(op:Op)(e:Env)(J:SK):Option (Env×SK) :=
 match op.GJ with
 |none=>xe O op e J
 |some (g,want) =>
  match(get e g).bit with
  |some y=>if y=some want then xe O op e J else some (put op.dst (.cS []) e,J)
  |none=>none
theorem jC{O:cn}{op:Op}{r:List Op}:kO O (op::r) e J=(ug O op e J).bind λx=>kO O r x.1 x.2:=by
 simp only[kO,ug];cases op.GJ with
 |none=>rfl
 |some x =>
  obtain⟨g,want⟩:=x;dsimp only;cases(get e g).bit<;>try rfl
  dsimp only;split<;>rfl
theorem OU{dst:Option Nat}{d:D}:put dst d e=(dst.toList.map λt=>(t,d))++e:=by
 cases dst<;>rfl
theorem M4{O:cn}{op:Op}{e1:Env}{J1:SK}(h:xe O op e J=some (e1,J1)):
  ∃l:List (Nat×D),(∀p∈l,p.1∈op.defs)/\∀e',jA (op.Il++op.defs) e e'->xe O op e' J=some (l++e',J1):=by
 obtain⟨dst,GJ,DZ,k⟩:=op;have hk:∀e',jA (Op.Il ⟨dst,GJ,DZ,k⟩++Op.defs ⟨dst,GJ,DZ,k⟩) e e'->jA k.tmps e e':=λe' ha=>ha.mono λt ht=>by simp[Op.Il,ht]
 have hdst:∀d:D,∀p∈dst.toList.map (λt=>(t,d)),p.1∈Op.defs ⟨dst,GJ,DZ,k⟩:=by
  intro d p hp;simp only[bO]at hp;obtain⟨t,ht,rfl⟩:=hp;simp only[Op.defs,aU];exact .inl ht
 have hplain:(∀e0,xe O ⟨dst,GJ,DZ,k⟩ e0 J=(bY e0 J k).map λx=>(put dst x.1 e0,x.2)) ->
   ∃l:List (Nat×D),(∀p∈l,p.1∈Op.defs ⟨dst,GJ,DZ,k⟩)/\∀e',jA (Op.Il ⟨dst,GJ,DZ,k⟩++Op.defs ⟨dst,GJ,DZ,k⟩) e e'->xe O ⟨dst,GJ,DZ,k⟩ e' J=some (l++e',J1):=by
  intro hall;rw[hall]at h;simp only[ad,Prod.exists,ak]at h;obtain⟨d,J2,hs,rfl,rfl⟩:=h;refine⟨dst.toList.map λt=>(t,d),hdst d,λe' ha=>?_⟩;rw[hall,WA (hk e' ha),hs];simp only[aZ,OU]
 cases k
 case call kp f args =>
  simp only[xe]at h ⊢;split at h
  case h_2=>cases h
  rename_i d J2 hc;split at h
  case isFalse=>cases h
  rename_i hn;cases h;refine⟨dst.toList.map λt=>(t,d),hdst d,λe' ha=>?_⟩;have h1:=hk e' ha;simp only[K.tmps,jA.app]at h1;rw[bu h1.1,vJ h1.2,hc];simp only[if_pos hn,OU]
 case CV nb cs =>
  simp only[xe]at h ⊢;split at h
  case h_2=>cases h
  rename_i v cs' J2 hnb;cases h;refine⟨[(v,.own (uj e v) cs')],by simp[Op.defs],λe' ha=>?_⟩;rw[show uj e' v=uj e v from by simp only[uj];rw[ha v (by simp[Op.defs])]];rfl
 case GD x =>
  simp only[xe]at h ⊢;split at h
  case h_2=>cases h
  rename_i v cs' hc;cases h;refine⟨[(v,.own (uj e v) cs')],by simp[Op.defs],λe' ha=>?_⟩;have h1:=hk e' ha;simp only[K.tmps]at h1;rw[bu h1,hc];simp only[show uj e' v=uj e v from by simp only[uj];rw[ha v (by simp[Op.defs])]];rfl
 case Je v nb sz a x =>
  simp only[xe]at h ⊢;split at h
  case h_2=>cases h
  rename_i s cs off p hin hp;split at h
  case isFalse=>cases h
  rename_i hc;split at h
  case h_2=>cases h
  rename_i p' J2 hnb;cases h;refine⟨[(v,.own s (cs.take off++p'++cs.drop (off+sz)))],by simp[Op.defs],λe' ha=>?_⟩;have h1:=hk e' ha;simp only[K.tmps,jA.app,jA.cons]at h1;rw[EM h1.1.1 h1.1.2.1,bu h1.2,hin,hp];simp only[if_pos hc,hnb];rfl
 all_goals exact hplain λe0=>rfl
theorem GW{O:cn}{op:Op}{e1:Env}{J1:SK}(h:ug O op e J=some (e1,J1)):
  ∃l:List (Nat×D),(∀p∈l,p.1∈op.defs)/\∀e',jA (op.Il++op.defs) e e'->ug O op e' J=some (l++e',J1):=by
 unfold ug at h ⊢;cases hg:op.GJ with
 |none=>rw[hg]at h;simp only at h ⊢;exact M4 h
 |some x =>
  obtain⟨t,want⟩:=x;rw[hg]at h;simp only at h ⊢;split at h
  case h_2=>cases h
  rename_i b hb;have hgt:∀e',jA (op.Il++op.defs) e e'->(get e' t).bit=some b:=λe' ha=>by rw[ha t (by simp[Op.Il,hg]),hb]
  split at h
  .rename_i hw;obtain⟨l,h1,h2⟩:=M4 h;refine⟨l,h1,λe' ha=>?_⟩;rw[hgt e' ha];simp only[if_pos hw];exact h2 e' ha
  .rename_i hw;cases h;refine⟨op.dst.toList.map λt=>(t,.cS []),λp hp=>?_,λe' ha=>?_⟩
   .simp only[bO]at hp;obtain⟨t,ht,rfl⟩:=hp;simp only[Op.defs,aU];exact .inl ht
   .rw[hgt e' ha];simp only[if_neg hw,OU]
theorem ND{cs cs':List D}(h:jT [] cs J=some (cs',J')):J'=J:=by
 simp only[jT,ae,ak]at h;exact h.2.symm
theorem NQ{d:D}{k:K}(h:bY e J k=some (d,J'))(hk:k.calm=true):J'=J:=RI h hk
theorem M5{O:cn}{op:Op}{e1:Env}{J1:SK}(h:xe O op e J=some (e1,J1))(hs:op.still=true):J1=J:=by
 obtain⟨dst,GJ,DZ,k⟩:=op;simp only[Op.still,af]at hs;obtain⟨hk,hn⟩:=hs;have hplain:(xe O ⟨dst,GJ,DZ,k⟩ e J=(bY e J k).map λx=>(put dst x.1 e,x.2))->J1=J:=by
  intro hall;rw[hall]at h;simp only[ad,Prod.exists,ak]at h;obtain⟨d,J2,hs,rfl,rfl⟩:=h;exact NQ hs hk
 cases k
 case call kp f args =>
  simp only[xe]at h;split at h
  case h_2=>cases h
  split at h
  case isFalse=>cases h
  rename_i hx;cases h;exact hx hn
 case CV nb cs =>
  simp only[xe]at h;split at h
  case h_2=>cases h
  rename_i v cs' J2 hnb;cases h;simp only[K.calm,List.isEmpty_iff]at hk;subst hk;exact ND hnb
 case GD x =>
  simp only[xe]at h;split at h
  case h_2=>cases h
  cases h;rfl
 case Je v nb sz a x =>
  simp only[xe]at h;split at h
  case h_2=>cases h
  split at h
  case isFalse=>cases h
  split at h
  case h_2=>cases h
  rename_i hnb;cases h;simp only[K.calm,List.isEmpty_iff]at hk;subst hk;exact ND hnb
 all_goals exact hplain rfl
theorem GX{O:cn}{op:Op}{e1:Env}{J1:SK}(h:ug O op e J=some (e1,J1))(hs:op.still=true):J1=J:=by
 unfold ug at h;split at h
 .exact M5 h hs
 .split at h
  case h_2=>cases h
  split at h
  .exact M5 h hs
  .cases h;rfl
def Jo(e e':Env):Prop:=∀t,get e' t=get e t
theorem Jo.refl(e:Env):Jo e e:=λ_=>rfl
theorem Jo.trans{a b c:Env}(h:Jo a b)(h':Jo b c):Jo a c:=λt=>(h' t).trans (h t)
theorem Jo.Eb(h:Jo e e')(ts:List Nat):jA ts e e':=λt _=>h t
theorem Km{l:List (Nat×D)}{t:Nat}:get (l++e) t=if t∈l.map (·.1)then get l t else get e t:=by
 induction l with
 |nil=>simp
 |cons p l ih =>
  obtain⟨k,v⟩:=p;simp only[cF,get];by_cases hk:k=t
  .simp[hk]
  .rw[if_neg hk,ih];simp only[aL,bz];by_cases ht:t∈l.map (·.1)
   .rw[if_pos ht,if_pos (.inr ht)];rw[if_neg hk]
   .rw[if_neg ht,if_neg (by intro h;rcases h with h | h;exact hk h.symm;exact ht h)]
theorem Jo.app(h:Jo e e')(l:List (Nat×D)):Jo (l++e) (l++e'):=λt=>by
 simp only[Km,h t]
theorem K2{O:cn}:∀{xs:List Op} {e e' e1:Env} {J J1:SK},kO O xs e J=some (e1,J1)->Jo e e'->∃e1',kO O xs e' J=some (e1',J1)/\Jo e1 e1'
 |[],e,e',e1,J,J1,h,he=>by
  simp only[kO,ae,ak]at h;obtain⟨rfl,rfl⟩:=h;exact⟨e',rfl,he⟩
 |x::xs,e,e',e1,J,J1,h,he=>by
  rw[jC]at h;simp only[aj,Prod.exists]at h;obtain⟨e2,J2,h1,h2⟩:=h;obtain⟨l,_,hl⟩:=GW h1;have h3:=hl e (Jo.Eb (.refl e) _);rw[h1]at h3;cases h3;obtain⟨e3,h4,h5⟩:=K2 h2 (he.app l);exact⟨e3,by rw[jC,hl e' (he.Eb _)];exact h4,h5⟩
theorem Z9{d:D}{k:K}(h:bY e J k=some (d,J'))(hk:k.pure=true)(τ:SK):bY e τ k=some (d,τ):=by
 cases k<;>simp only[K.pure,K.calm,aC]at hk<;>simp only[bY,aX,reduceCtorEq]at h ⊢ <;> (repeat' split at h)<;>
  simp only[ad,aj,ae,ak,Prod.exists,reduceCtorEq,exists_eq_left,and_false,exists_false]at h<;>(try split at h)<;>
  simp_all<;>(try (obtain⟨_,_,h⟩:=h;simp_all))<;>(try grind)
theorem Qj{O:cn}{op:Op}{e1:Env}{J1:SK}(h:xe O op e J=some (e1,J1))(hs:op.k.pure=true)(τ:SK):xe O op e τ=some (e1,τ):=by
 obtain⟨dst,GJ,DZ,k⟩:=op;have hplain:(∀τ,xe O ⟨dst,GJ,DZ,k⟩ e τ=(bY e τ k).map λx=>(put dst x.1 e,x.2))->xe O ⟨dst,GJ,DZ,k⟩ e τ=some (e1,τ):=by
  intro hall;rw[hall]at h ⊢;simp only[ad,Prod.exists,ak]at h;obtain⟨d,J2,hs',rfl,rfl⟩:=h;rw[Z9 hs' hs τ];rfl
 cases k
 case call kp f args=>simp[K.pure]at hs
 case CV nb cs =>
  simp only[K.pure,K.calm,List.isEmpty_iff]at hs;subst hs;simp only[xe]at h ⊢;cases dst with
  |none=>cases h
  |some v=>simp only[jT,ae,ak]at h ⊢;exact⟨h.1,trivial⟩
 case GD x =>
  simp only[xe]at h ⊢;cases dst with
  |none=>cases h
  |some v =>
   cases hx:(bG e x).cells with
   |none=>rw[hx]at h;cases h
   |some cs=>rw[hx]at h;simp only[ae,ak]at h ⊢;exact⟨h.1,trivial⟩
 case Je v nb sz a x =>
  simp only[K.pure,K.calm,List.isEmpty_iff]at hs;subst hs;simp only[xe]at h ⊢;cases hin:pL e v a<;>rw[hin]at h<;>try (cases h;done)
  cases hx:(bG e x).cells<;>rw[hx]at h<;>try (cases h;done)
  simp only[jT]at h ⊢;split at h
  .rename_i hc;rw[if_pos hc];simp only[ae,ak]at h ⊢;exact⟨h.1,trivial⟩
  .cases h
 all_goals exact hplain fun τ=>rfl
theorem FB{O:cn}{op:Op}{e1:Env}{J1:SK}(h:ug O op e J=some (e1,J1))(hs:op.k.pure=true):∀τ,ug O op e τ=some (e1,τ):=by
 intro τ;unfold ug at h ⊢;cases hg:op.GJ with
 |none=>rw[hg]at h;exact Qj h hs τ
 |some y =>
  obtain⟨g,want⟩:=y;rw[hg]at h;dsimp only at h ⊢;cases hb:(get e g).bit with
  |none=>rw[hb]at h;cases h
  |some b =>
   rw[hb]at h;dsimp only at h ⊢;split at h
   .rename_i hw;rw[if_pos hw];exact Qj h hs τ
   .rename_i hw;rw[if_neg hw];cases h;rfl
theorem Dz{a:List aF}{J:SK}{l:Nat}{s:List aF}(h:J.length=l):gL (a::J) l s=s::J:=by simp only[gL];rw[if_pos h]
theorem mU{a:List aF}{J:SK}{l:Nat}{s:List aF}(h:¬J.length=l):gL (a::J) l s=a::gL J l s:=by simp only[gL];rw[if_neg h]
theorem RG{J:SK}{l l':Nat}{s s':List aF}(h:l≠l'):gL (gL J l s) l' s'=gL (gL J l' s') l s:=by
 induction J with
 |nil=>rfl
 |cons a J ih =>
  by_cases h1:J.length=l
  .have h2:¬J.length=l':=by omega
   rw[Dz h1,mU h2,mU h2,Dz (by rw[fK];exact h1)]
  .by_cases h2:J.length=l'
   .rw[mU h1,Dz h2,Dz (by rw[fK];exact h2),mU h1]
   .rw[mU h1,mU h2,mU (by rw[fK];exact h2),mU (by rw[fK];exact h1),ih]
theorem ui{J:SK}{l l':Nat}{s:List aF}(h:l≠l'):eK (gL J l s) l'=eK J l':=by
 induction J with
 |nil=>rfl
 |cons a J ih =>
  simp only[gL];by_cases h1:J.length=l
  .rw[if_pos h1];simp only[eK];rw[if_neg (by omega),if_neg (by omega)]
  .rw[if_neg h1];simp only[eK,fK,ih]
theorem Pe{J:SK}{l:Nat}{s s':List aF}:gL (gL J l s) l s'=gL J l s':=by
 induction J with
 |nil=>rfl
 |cons a J ih =>
  simp only[gL];by_cases h1:J.length=l
  .rw[if_pos h1,if_pos h1];simp only[gL];rw[if_pos h1]
  .rw[if_neg h1,if_neg h1];simp only[gL,fK];rw[if_neg h1,ih]
theorem RE{J:SK}{l i l' i':Nat}{b b':aF}(h:¬(l'=l/\i'=i)):bw (bw J l i b) l' i' b'=bw (bw J l' i' b') l i b:=by
 by_cases hl:l=l'
 .subst hl;have hi:i≠i':=λe=>h ⟨rfl,e.symm⟩
  unfold bw;cases hs:eK J l with
  |none=>simp[hs]
  |some s =>
   simp only[sN (Dy hs),Pe];rw[List.set_comm _ _ hi]
 .unfold bw;cases hs:eK J l with
  |none =>
   cases hs':eK J l' with
   |none=>simp[hs,hs']
   |some s'=>simp only[ui (Ne.symm hl),hs]
  |some s =>
   cases hs':eK J l' with
   |none=>simp only[ui hl,hs',hs]
   |some s' =>
    simp only[ui hl,ui (Ne.symm hl),hs,hs'];exact RG hl
theorem C0{J:SK}{l i l' i' v:Nat}{b:aF}(h:¬(l'=l/\i'=i)):cells? (bw J l i b) l' i' v=cells? J l' i' v:=by
 unfold cells?;rw[eO h]
theorem OV{J:SK}{l i:Nat}{b:aF}{d:D}(h:D.off l i d=true):I1 (bw J l i b) d.strip=I1 J d.strip:=by
 cases d<;>try rfl
 simp only[D.off,au]at h;simp only[D.strip,I1,C0 h]
theorem FA{O:cn}{dst:Option Nat}{n ag:Bool}{sz m:Nat}{e1:Env}{J1:SK}(h:ug O ⟨dst,none,n,.ld ag sz (.t m)⟩ e J=some (e1,J1)):
  J1=J/\∀τ,I1 τ (get e m).strip=I1 J (get e m).strip->ug O ⟨dst,none,n,.ld ag sz (.t m)⟩ e τ=some (e1,τ):=by
 have hs:=GX h;simp only[ug,xe,bY,bG]at h ⊢;refine⟨?_,fun τ hτ=>?_⟩
 .simp only[ad,Prod.exists,ak]at h;obtain⟨d,J2,h,_,rfl⟩:=h;exact NQ (k:=.ld ag sz (.t m)) (e:=e) (d:=d) (by simpa only[bY,bG]using h) rfl
 .rw[hτ];cases hr:I1 J (get e m).strip with
  |none=>rw[hr]at h;cases h
  |some cs =>
   rw[hr]at h;dsimp only at h ⊢;split at h
   .rename_i hsz;rw[if_pos hsz];cases ag with
    |true=>simp at h ⊢;exact h.1
    |false =>
     simp only[aC,if_false]at h ⊢;cases cs with
     |nil=>cases h
     |cons d ds=>simp at h ⊢;exact h.1
   .cases h
theorem H8{O:cn}{dst:Option Nat}{n:Bool}{os:List Nat}{sz:Nat}{a x:bU}{e1:Env}{J1:SK}(h:ug O ⟨dst,none,n,.RL os sz a x⟩ e J=some (e1,J1)):
  ∃l i v off b,bG e a=.ref l i v off/\(∀m∈os,D.off l i (get e m)=true)/\J1=bw J l i b /\
   ∀τ,τ.length=J.length->cells? τ l i v=cells? J l i v->ug O ⟨dst,none,n,.RL os sz a x⟩ e τ=some (e1,bw τ l i b):=by
 simp only[ug,xe,bY]at h ⊢;cases ha:bG e a<;>rw[ha]at h<;>try (cases h;done)
 rename_i l i v off;dsimp only at h ⊢;split at h
 case isFalse=>cases h
 rename_i hall;cases hc:cells? J l i v with
 |none=>rw[hc]at h;cases h
 |some cs =>
 rw[hc]at h;dsimp only at h;cases hp:(bG e x).cells with
 |none=>rw[hp]at h;cases h
 |some p =>
 rw[hp]at h;dsimp only at h;split at h
 case isFalse=>cases h
 rename_i hq;simp only[aZ,ae,ak]at h;refine⟨l,i,v,off,.cells v (cs.take off++p++cs.drop (off+sz)),rfl,λm hm=>iK.1 hall m hm,h.2.symm,fun τ hlen hτ=>?_⟩;simp only[hall,if_true,hτ,hc,hlen,if_pos hq,aZ,h.1]
theorem Ru{O:cn}{dst:Option Nat}{n:Bool}{os:List Nat}{w b:Nat}{a x:bU}{e1:Env}{J1:SK}(h:ug O ⟨dst,none,n,.VP os w b a x⟩ e J=some (e1,J1)):
  ∃l i v cs,(∀m∈os,D.off l i (get e m)=true)/\J1=bw J l i (.cells (v+1) cs):=by
 simp only[ug,xe,ad,Prod.exists,ak]at h;obtain⟨d,J2,h,_,rfl⟩:=h;simp only[bY]at h;split at h
 case h_2=>cases h
 rename_i l i v off n' w' ha;split at h
 case isFalse=>cases h
 rename_i hall;simp only[aj]at h;obtain⟨⟨m,xs⟩,he,h⟩:=h;dsimp only at h;split at h
 case isFalse=>cases h
 rename_i hcl;simp only[Oe,aX,he,Option.bind_some,ha]at h;split at h
 case h_2=>cases h
 split at h
 case isFalse=>cases h
 refine⟨l,i,?_⟩;split at h
 .cases h;exact⟨_,_,λm hm=>iK.1 hall m hm,rfl⟩
 .rw[show deep=15+1 from rfl,IL hcl]at h;cases h;exact⟨_,_,λm hm=>iK.1 hall m hm,rfl⟩
theorem acB{J:SK}{l i v:Nat}{cs:List D}{d:D}{c:List D}(h:W0 (bw J l i (.cells (v+1) cs)) d=some c):W0 J d=some c:=by
 unfold W0 at h ⊢;split at h
 case h_2=>cases h
 rename_i l2 i2 off;simp only[I1,ad]at h ⊢;obtain⟨a,h1,h2⟩:=h;refine⟨a,?_,h2⟩;by_cases hh:l2=l/\i2=i
 .obtain⟨rfl,rfl⟩:=hh;unfold cells? at h1;cases hb:ef J l2 i2 with
  |some b0=>rw[mR hb]at h1;simp at h1
  |none =>
   have hn:ef (bw J l2 i2 (.cells (v+1) cs)) l2 i2=none:=by
    unfold ef at hb ⊢;unfold bw;cases hs:eK J l2 with
    |none=>simp only[hs];rfl
    |some s =>
     simp only[hs,Option.bind_some]at hb;simp only[sN (Dy hs),Option.bind_some];rw[List.getElem?_eq_none_iff]at hb ⊢;simpa using hb
   rw[hn]at h1;cases h1
 .rwa[C0 hh]at h1
theorem Z0{O:cn}{dst:Option Nat}{n ag:Bool}{sz m:Nat}{e1:Env}{J1:SK}(h:ug O ⟨dst,none,n,.WX ag sz (.t m)⟩ e J=some (e1,J1)):
  J1=J/\∃c,W0 J (get e m).strip=some c/\∀τ,W0 τ (get e m).strip=some c->ug O ⟨dst,none,n,.WX ag sz (.t m)⟩ e τ=some (e1,τ):=by
 simp only[ug,xe,bY,bG]at h ⊢;cases hr:W0 J (get e m).strip with
 |none=>rw[hr]at h;cases h
 |some cs =>
  rw[hr]at h;dsimp only at h ⊢;have hs:J1=J:=by
   split at h
   .cases ag with
    |true=>simp at h;exact h.2.symm
    |false=>cases cs<;>simp at h;exact h.2.symm
   .cases h
  refine⟨hs,cs,rfl,fun τ hτ=>?_⟩;rw[hτ];dsimp only;split at h
  .rename_i hsz;rw[if_pos hsz];cases ag with
   |true=>simp at h ⊢;exact h.1
   |false =>
    simp only[aC,if_false]at h ⊢;cases cs with
    |nil=>cases h
    |cons d ds=>simp at h ⊢;exact h.1
  .cases h
theorem Wo{J J':SK}{b:aF}{l i:Nat}(h:fT J b=some (l,i,J')){d:D}{cs:List D}(hd:I1 J d=some cs):I1 J' d=some cs:=by
 cases d<;>try exact hd
 rename_i l' i' v off;simp only[I1,ad]at hd ⊢;obtain⟨c,h1,h2⟩:=hd;refine⟨c,?_,h2⟩;unfold cells? at h1 ⊢;have hb:∃b0,ef J l' i'=some b0:=by
  cases hb:ef J l' i' with
  |none=>rw[hb]at h1;cases h1
  |some b0=>exact⟨b0,rfl⟩
 obtain⟨b0,hb⟩:=hb;have hne:¬(l'=l/\i'=i):=λhh=>by
  have:=(jy h).1;rw[hh.1,hh.2,this]at hb;cases hb
 rw[(jy h).2.2.1 l' i' hne];exact h1
theorem ae0{O:cn}{x y:Op}{e2:Env}{J2:SK}{r:List Op}(hf:x.adr y=true)
  (h:kO O (x::y::r) e J=some (e2,J2)):∃e2',kO O (y::x::r) e J=some (e2',J2)/\Jo e2 e2':=by
 unfold Op.adr at hf;split at hf
 case h_2=>cases hf
 rename_i n v sz a X d n' off m;simp only[au]at hf;obtain⟨rfl,hdv,hda,hdX⟩:=hf;rw[jC]at h;simp only[aj,Prod.exists]at h;obtain⟨ex,Jx,h1,h2⟩:=h;rw[jC]at h2;simp only[aj,Prod.exists]at h2;obtain⟨ey,Jy,h2,h3⟩:=h2;simp only[ug,xe]at h1;cases hin:pL e m a with
 |none=>rw[hin]at h1;cases h1
 |some z =>
 obtain⟨s,cs,o⟩:=z;rw[hin]at h1;cases hX:(bG e X).cells with
 |none=>rw[hX]at h1;cases h1
 |some p =>
 rw[hX]at h1;dsimp only at h1;split at h1
 case isFalse=>cases h1
 rename_i hq;simp only[jT,ae,ak]at h1;obtain⟨rfl,rfl⟩:=h1;have hgv:∃cs',get e m=.own s cs':=by
  unfold pL at hin;cases hg:get e m<;>rw[hg]at hin<;>try (cases hin;done)
  rename_i s' cs';dsimp only at hin;split at hin
  .cases hin;exact⟨_,rfl⟩
  .split at hin
   .split at hin
    .cases hin;exact⟨_,rfl⟩
    .cases hin
   .cases hin
 obtain⟨cs',hgv⟩:=hgv;simp only[ug,xe,bY,get,if_true,aZ,ae,ak]at h2;obtain⟨rfl,rfl⟩:=h2;have hne:get ((d,D.vr m s off)::e) m=get e m:=by simp[get,hdv]
 have hna:get ((d,D.vr m s off)::e) a=get e a:=by simp[get,hda]
 have hin':pL ((d,D.vr m s off)::e) m a=some (s,cs,o):=by rw[EM hne hna,hin]
 have hX':bG ((d,D.vr m s off)::e) X=bG e X:=bu λt ht=>by
  have:d≠t:=λhe=>hdX (he ▸ ht)
  simp[get,this]
 have heq:Jo (put (some d) (D.vr m s off) ((m,.own s (cs.take o++p++cs.drop (o+sz)))::e)) ((m,.own s (cs.take o++p++cs.drop (o+sz)))::(d,D.vr m s off)::e):=by
  intro t;simp only[put,get];by_cases h1:d=t
  .have:¬m=t:=λe=>hdv (h1.trans e.symm)
   simp[h1,this]
  .simp[h1]
 obtain⟨e3,k1,k2⟩:=K2 h3 heq;refine⟨e3,?_,k2⟩;rw[jC];simp only[ug,xe,bY,hgv,aZ,Option.bind_some];rw[jC];simp only[ug,xe,put,hin',hX',hX,hq,and_self,if_true,jT,Option.bind_some];exact k1
theorem ac2{O:cn}{x y:Op}{e2:Env}{J2:SK}{r:List Op}(hf:x.free y=true)
  (h:kO O (x::y::r) e J=some (e2,J2)):∃e2',kO O (y::x::r) e J=some (e2',J2)/\Jo e2 e2':=by
 unfold Op.free at hf;rw[cq]at hf;rcases hf with hf | hf
 .exact ae0 hf h
 simp only[af,ea]at hf;obtain⟨hc,hf⟩:=hf;simp only[Op.adq,Bool.or_eq_false_iff,List.any_eq_false,List.contains_iff_mem,cq,not_or]at hc;obtain⟨c1,c2⟩:=hc;rw[jC]at h;simp only[aj,Prod.exists]at h;obtain⟨ex,Jx,h1,h2⟩:=h;rw[jC]at h2;simp only[aj,Prod.exists]at h2;obtain⟨ey,Jy,h2,h3⟩:=h2;obtain⟨lx,d1,hl1⟩:=GW h1;obtain⟨ly,d2,hl2⟩:=GW h2;have k1:=hl1 e (Jo.Eb (.refl e) _);rw[h1]at k1;cases k1;have k2:=hl2 _ (Jo.Eb (.refl _) _);rw[h2]at k2;cases k2;have ay:jA (y.Il++y.defs) (lx++e) e:=λt ht=>by
  rw[Km,if_neg];intro hm;obtain⟨p,hp,rfl⟩:=bO.1 hm;have:=c1 _ (d1 p hp);simp only[aU]at ht;rcases ht with ht | ht
  .exact this.2 (by simpa using ht)
  .exact this.1 (by simpa using ht)
 have ax:jA (x.Il++x.defs) e (ly++e):=λt ht=>by
  rw[Km,if_neg];intro hm;obtain⟨p,hp,rfl⟩:=bO.1 hm;have hp':=d2 p hp;simp only[aU]at ht;rcases ht with ht | ht
  .exact c2 _ ht (by simpa using hp')
  .exact(c1 _ ht).1 (by simpa using hp')
 have hy0:=hl2 e ay;have hx0:=hl1 (ly++e) ax;obtain⟨Jm,hy1,hx1⟩:∃Jm,ug O y e J=some (ly++e,Jm)/\ug O x (ly++e) Jm=some (lx++(ly++e),Jy):=by
  simp only[cq,af]at hf;rcases hf with((⟨hx,hy⟩ | hx) | hy) | hfar
  .obtain rfl:=GX h1 hx;obtain rfl:=GX h2 hy;exact⟨_,hy0,hx0⟩
  .have e1:=FB h1 hx J;rw[h1]at e1;cases e1;exact⟨Jy,hy0,FB hx0 hx Jy⟩
  .have e2:=FB h2 hy Jx;rw[h2]at e2;cases e2;exact⟨J,FB hy0 hy J,hx0⟩
  .unfold Op.far at hfar;obtain⟨dx,gx,nx,kx⟩:=x;obtain⟨dy,gy,ny,ky⟩:=y;simp only[af,Option.isNone_iff_eq_none]at hfar;obtain⟨⟨rfl,rfl⟩,hfar⟩:=hfar;split at hfar
   .rename_i os sz a X ag sz' m;have hm:m∈os:=by simpa using hfar
    obtain⟨l,i,v,off,b,_,hoff,rfl,_⟩:=H8 h1;obtain⟨rfl,hall⟩:=FA hy0;exact⟨J,hall J (OV (hoff m hm)).symm,hx0⟩
   .rename_i ag sz' m os sz a X;have hm:m∈os:=by simpa using hfar
    obtain⟨rfl,_⟩:=FA h1;obtain⟨l,i,v,off,b,_,hoff,rfl,_⟩:=H8 hy0;obtain⟨_,hall⟩:=FA hx0;refine⟨_,hy0,hall _ ?_⟩;have hg:get (ly++e) m=get e m:=ax m (by simp[Op.Il,K.tmps,bU.tmps]);rw[hg];exact OV (hoff m hm)
   .rename_i os sz a X os' sz' m X';have hm:m∈os:=by simpa using hfar
    obtain⟨l,i,v,off,b,_,hoff,rfl,hall⟩:=H8 hx0;obtain⟨l',i',v',off',b',hr,hoff',rfl,hall'⟩:=H8 hy0;have hg:get (ly++e) m=get e m:=ax m (by simp[Op.Il,K.tmps,hm]);have h4:=hoff m hm;rw[hg]at h4;have h5:get e m=.ref l' i' v' off':=by
     simp only[bG]at hr;cases hgm:get e m<;>rw[hgm]at hr<;>simp only[D.strip,reduceCtorEq]at hr;exact hr
    rw[h5]at h4;simp only[D.off,au]at h4;refine⟨bw J l' i' b',hall' J dS.symm (C0 h4).symm,?_⟩;rw[RE h4];exact hall _ dS (C0 λhh=>h4 ⟨hh.1.symm,hh.2.symm⟩)
   .rename_i os wd bt a X ag sz' m;have hm:m∈os:=by simpa using hfar
    obtain⟨l,i,b,bc,hoff,rfl⟩:=Ru h1;obtain⟨rfl,hall⟩:=FA hy0;exact⟨J,hall J (OV (hoff m hm)).symm,hx0⟩
   .rename_i ag sz' m cs;obtain⟨rfl,_⟩:=FA h1;obtain⟨_,hall⟩:=FA hx0;refine⟨_,hy0,hall _ ?_⟩;have hg:get (ly++e) m=get e m:=ax m (by simp[Op.Il,K.tmps,bU.tmps]);rw[hg];have hrd:∃c,I1 Jx (get e m).strip=some c:=by
     simp only[ug,xe,bY,bG]at h1;cases hr:I1 Jx (get e m).strip with
     |none=>rw[hr]at h1;simp at h1
     |some c=>exact⟨c,rfl⟩
    obtain⟨c,hrd⟩:=hrd;have hn:∃l i,fT Jx (.cells 0 cs)=some (l,i,Jy):=by
     simp only[ug,xe,bY,jT,aX,Option.bind_some,ad,aj,Prod.exists,ak]at hy0;obtain⟨d0,J0,⟨l,i,J3,h1,h2⟩,_,h3⟩:=hy0;cases h2;cases h3;exact⟨l,i,h1⟩
    obtain⟨l,i,hn⟩:=hn;rw[hrd,Wo hn hrd]
   .rename_i os wd bt a X ag sz' m;obtain⟨l,i,b,bc,hoff,rfl⟩:=Ru h1;obtain⟨rfl,c,hc,hall⟩:=Z0 hy0;exact⟨J,hall J (acB hc),hx0⟩
   .cases hfar
 have heq:Jo (ly++(lx++e)) (lx++(ly++e)):=λt=>by
  simp only[Km];by_cases m1:t∈lx.map (·.1)
  .by_cases m2:t∈ly.map (·.1)
   .obtain⟨p,hp,rfl⟩:=bO.1 m1;obtain⟨q,hq,he⟩:=bO.1 m2;have:=(c1 _ (d1 p hp)).1;have hq':=d2 q hq;rw[he]at hq';exact absurd hq' (by simpa using this)
   .rw[if_pos m1,if_neg m2,if_pos m1]
  .by_cases m2:t∈ly.map (·.1)
   .rw[if_neg m1,if_pos m2,if_pos m2]
   .rw[if_neg m1,if_neg m2,if_neg m2,if_neg m1]
 obtain⟨e3,k3,k4⟩:=K2 h3 heq;refine⟨e3,?_,k4⟩;rw[jC,hy1];simp only[Option.bind_some];rw[jC,hx1];exact k3
theorem QF{O:cn}{y:Op}{r:List Op}:∀{pre:List Op} {e e2:Env} {J J2:SK},(∀x∈pre,x.free y=true) ->
  kO O (pre++y::r) e J=some (e2,J2)->∃e2',kO O (y::(pre++r)) e J=some (e2',J2)/\Jo e2 e2'
 |[],e,e2,J,J2,hp,h=>⟨e2,h,.refl _⟩
 |x::pre,e,e2,J,J2,hp,h=>by
  simp only[cF]at h;rw[jC]at h;simp only[aj,Prod.exists]at h;obtain⟨e1,J1,h1,h2⟩:=h;obtain⟨e3,h3,h4⟩:=QF (λz hz=>hp z (by simp[hz])) h2;have h5:kO O (x::y::(pre++r)) e J=some (e3,J2):=by rw[jC,h1];exact h3
  obtain⟨e4,h6,h7⟩:=ac2 (hp x (by simp)) h5;exact⟨e4,h6,h4.trans h7⟩
theorem O2{live:List Nat}(h:Jo e e'):restrict live e'=restrict live e:=by
 simp only[restrict];exact List.map_congr_left λt _=>by rw[h t]
