import Derived.Test.YtpapbbojmclkgaaGreatDoorBase0
import Derived.AtR
import Derived.Laws.Cells
import Derived.Laws.World
import Derived.Lib.FrozenHead
set_option linter.all false
namespace Go.Abs
open Go
inductive Loc where
 |dead
 |oH (v:Nat)
 |at(dJ off v sz:Nat)
 |lp (dJ:Nat)
 |mp (dJ:Nat)
 |it (dJ:Nat)
 |ob (dJ:Nat) (buf:Option Nat)
def Loc.Tn:Loc->Nat->Prop
 |.dead,_=>True
 |.oH v',v=>v<=v'
 |.at _ _ v' _,v=>v<=v'
 |.lp _,_=>False
 |.mp _,_=>False
 |.it _,_=>False
 |.ob ..,_=>False
def Loc.owns:Loc->Nat->Prop
 |.at b _ _ _,x=>b=x
 |.lp b,x=>b=x
 |.mp b,x=>b=x
 |.it b,x=>b=x
 |.ob b c,x=>b=x\/c=some x
 |_,_=>False
structure G where
 loc:Nat->Nat->Option Loc
 oc:Nat->Nat->Option Value
def G.row(g:G)(b o:Nat)(vs:List Value):Prop:=∀j v,vs[j]?=some v->g.oc b (o+j)=some v
mutual
inductive bQ (g:G):D->Value->Prop
 |undef (c:Value):bQ g .undef c
 |bool (b:Bool):bQ g (.bool b) (.bool b)
 |int (k:IntKind) (n:Int):bQ g (.int k n) (.int k n)
 |str (s:ByteArray):bQ g (.str s.data.toList) (.string s)
 |agg (ds:List D) (cs:Array Value):bN g ds cs.toList->(∀c∈cs.toList,c.oneCell'=true)->bQ g (.agg ds) (.agg cs)
 |cK (ds:List D) (cs:Array Value):bN g ds cs.toList->bQ g (.cK ds) (.tuple cs)
 |zg:bQ g .zg (.pointer none)
 |ref (l i v off b o:Nat) (L:Loc):g.loc l i=some L->L.Tn v ->
   (∀dJ bo sz,L=.at dJ bo v sz->b=dJ/\o=bo+off)->L ≠ .oH v->bQ g (.ref l i v off) (.pointer (some ⟨b,o,none⟩))
 |bg (ds:List D) (b o:Nat) (vs:List Value):g.row b o vs->bN g ds vs->bQ g (.bg ds) (.pointer (some ⟨b,o,none⟩))
 |bz:bQ g .bz (.slice none 0 0)
 |zA:bQ g (.bT 0 []) (.slice none 0 0)
 |bT (n:Nat) (ds:List D) (a:Addr) (cap:Nat) (vs:List Value):n<=cap->g.row a.block a.off vs->(n≠0->a.spot=none)->bN g ds vs ->
   bQ g (.bT n ds) (.slice (some a) n cap)
 |sl (l i v off n w:Nat) (a:Option Addr) (cap:Nat) (L:Loc):g.loc l i=some L->L.Tn v->(n<=cap/\cap<9223372036854775808)->(a=none->cap=0)->(∀x,a=some x->n≠0->x.spot=none) ->
   (∀dJ bo sz,L=.at dJ bo v sz->(a=some ⟨dJ,bo+off,none⟩/\bo+off+cap*w<=sz)\/cap=0) ->
   (L=.oH v->a=none)->bQ g (.sl l i v off n w) (.slice a n cap)
 |fn (f:Nat) (fs cs:List D) (fs' cs':Array Value):bN g fs fs'.toList->bN g cs cs'.toList->bQ g (.fn f fs cs) (.func (.func f) fs' cs')
 |pR:bQ g .pR .nilFunc
 |jU (l i b:Nat):g.loc l i=some (.lp b)->bQ g (.jU l i) (.func (.yield b) #[] #[])
 |Tg (l i b:Nat):g.loc l i=some (.mp b)->bQ g (.jU l i) (.map (some b))
 |Xx (l i b:Nat) (L:Loc):g.loc l i=some L->(L=.it b\/L=.dead)->bQ g (.jU l i) (.pointer (some ⟨b,0,none⟩))
 |Uk (l i b:Nat) (L:Loc):g.loc l i=some L->((∃c,L=.ob b c)\/L=.dead)->bQ g (.jU l i) (.pointer (some ⟨b,0,none⟩))
 |ui (t:Nat) (d:D) (c:Value):bQ g d c->bQ g (.ui t d) (.iface t c)
 |nK:bQ g .nK .nilIface
inductive bN (g:G):List D->List Value->Prop
 |nil:bN g [] []
 |cons (d:D) (c:Value) (ds:List D) (cs:List Value):bQ g d c->bN g ds cs->bN g (d::ds) (c::cs)
end
def Loc.le:Loc->Loc->Prop
 |.dead,L=>L=.dead
 |.lp b,L=>L=.lp b
 |.mp b,L=>L=.mp b
 |.it b,L=>L=.it b\/L=.dead
 |.ob b _,L=>(∃c,L=.ob b c)\/L=.dead
 |.oH v,L=>L=.oH v\/L=.dead\/(∃b o v' s,L=.at b o v' s/\v<v')\/∃v',L=.oH v'/\v<v'
 |.at b o v s,L=>L=.at b o v s\/L=.dead\/∃b' o' v' s',L=.at b' o' v' s'/\v<v'
theorem Loc.le_refl(L:Loc):L.le L:=by cases L<;>simp[Loc.le]
theorem Loc.le_trans{a b c:Loc}(h:a.le b)(h':b.le c):a.le c:=by
 cases a with
 |dead=>simp only[Loc.le]at h;subst h;exact h'
 |lp x=>simp only[Loc.le]at h;subst h;exact h'
 |mp x=>simp only[Loc.le]at h;subst h;exact h'
 |it x =>
  simp only[Loc.le]at h;rcases h with rfl | rfl
  .exact h'
  .simp only[Loc.le]at h' ⊢;exact .inr h'
 |ob x y =>
  simp only[Loc.le]at h;rcases h with⟨c,rfl⟩ | rfl
  .exact h'
  .simp only[Loc.le]at h' ⊢;exact .inr h'
 |oH v =>
  simp only[Loc.le]at h;rcases h with rfl | rfl | ⟨b1,o,v',s,rfl,hv⟩ | ⟨v',rfl,hv⟩
  .exact h'
  .simp only[Loc.le]at h' ⊢;exact .inr (.inl h')
  .simp only[Loc.le]at h' ⊢;rcases h' with rfl | rfl | ⟨b2,o2,v2,s2,rfl,hv2⟩
   .exact .inr (.inr (.inl ⟨_,_,_,_,rfl,hv⟩))
   .exact .inr (.inl rfl)
   .exact .inr (.inr (.inl ⟨_,_,_,_,rfl,by omega⟩))
  .simp only[Loc.le]at h' ⊢;rcases h' with rfl | rfl | ⟨b2,o2,v2,s2,rfl,hv2⟩ | ⟨v2,rfl,hv2⟩
   .exact .inr (.inr (.inr ⟨_,rfl,hv⟩))
   .exact .inr (.inl rfl)
   .exact .inr (.inr (.inl ⟨_,_,_,_,rfl,by omega⟩))
   .exact .inr (.inr (.inr ⟨_,rfl,by omega⟩))
 |«at» b1 o v s =>
  simp only[Loc.le]at h;rcases h with rfl | rfl | ⟨b2,o2,v2,s2,rfl,hv⟩
  .exact h'
  .simp only[Loc.le]at h' ⊢;exact .inr (.inl h')
  .simp only[Loc.le]at h' ⊢;rcases h' with rfl | rfl | ⟨b3,o3,v3,s3,rfl,hv3⟩
   .exact .inr (.inr ⟨_,_,_,_,rfl,hv⟩)
   .exact .inr (.inl rfl)
   .exact .inr (.inr ⟨_,_,_,_,rfl,by omega⟩)
theorem Loc.zh{L L':Loc}{v:Nat}(h:L.Tn v)(h':L.le L'):L'.Tn v:=by
 cases L with
 |dead=>simp only[Loc.le]at h';subst h';trivial
 |lp b=>exact h.elim
 |mp b=>exact h.elim
 |it b=>exact h.elim
 |ob b c=>exact h.elim
 |oH v' =>
  simp only[Loc.le]at h';simp only[Loc.Tn]at h;rcases h' with rfl | rfl | ⟨b,o,v',s,rfl,hv⟩ | ⟨v',rfl,hv⟩<;>simp only[Loc.Tn]<;>omega
 |«at» b o v' s =>
  simp only[Loc.le]at h';simp only[Loc.Tn]at h;rcases h' with rfl | rfl | ⟨b',o',v'',s',rfl,hv⟩<;>simp only[Loc.Tn]<;>omega
structure G.le(g g':G):Prop where
 loc:∀l i L,g.loc l i=some L->∃L',g'.loc l i=some L'/\L.le L'
 oc:∀b o v,g.oc b o=some v->g'.oc b o=some v
theorem G.le_refl(g:G):g.le g:=⟨λ_ _ L h=>⟨L,h,L.le_refl⟩,λ_ _ _ h=>h⟩
theorem G.le_trans{a b c:G}(h:a.le b)(h':b.le c):a.le c :=
 ⟨λl i L e=>let ⟨L1,e1,h1⟩:=h.loc l i L e;let ⟨L2,e2,h2⟩:=h'.loc l i L1 e1;⟨L2,e2,Loc.le_trans h1 h2⟩,
  λx o v e=>h'.oc x o v (h.oc x o v e)⟩
theorem G.HT{g g':G}(h:g.le g'){b o:Nat}{vs:List Value}(hr:g.row b o vs):g'.row b o vs:=λj v e=>h.oc _ _ _ (hr j v e)
theorem Loc.back{L L':Loc}{v:Nat}(h:L.Tn v)(h':L.le L'){b o s:Nat}(e:L'=.at b o v s):L=.at b o v s:=by
 subst e;cases L with
 |dead=>simp[Loc.le]at h'
 |lp b=>simp[Loc.le]at h'
 |mp b=>simp[Loc.le]at h'
 |it b=>simp[Loc.le]at h'
 |ob b c=>simp[Loc.le]at h'
 |oH v' =>
  simp only[Loc.le]at h';simp only[Loc.Tn]at h;rcases h' with h' | h' | ⟨b,o,v',s,h',hv⟩ | ⟨v',h',hv⟩<;>simp_all
  omega
 |«at» b o v' s =>
  simp only[Loc.le]at h';simp only[Loc.Tn]at h;rcases h' with h' | h' | ⟨b',o',v'',s',h',hv⟩<;>simp_all
  omega
theorem Loc.Em{L L':Loc}{v:Nat}(h:L.Tn v)(h':L.le L')(e:L'=.oH v):L=.oH v:=by
 subst e;cases L with
 |dead=>simp[Loc.le]at h'
 |lp b=>simp[Loc.le]at h'
 |mp b=>simp[Loc.le]at h'
 |it b=>simp[Loc.le]at h'
 |ob b c=>simp[Loc.le]at h'
 |oH v' =>
  simp only[Loc.le]at h';simp only[Loc.Tn]at h;rcases h' with h' | h' | ⟨b,o,v',s,h',hv⟩ | ⟨v',h',hv⟩<;>simp_all
  omega
 |«at» b o v' s=>simp[Loc.le]at h'
mutual
theorem bQ.mono{g g':G}(h:g.le g'):∀{d:D} {c:Value},bQ g d c->bQ g' d c
 |_,_,.undef c => .undef c
 |_,_,.bool b => .bool b
 |_,_,.int k n => .int k n
 |_,_,.str s => .str s
 |_,_,.agg ds cs hr h1 => .agg ds cs (bN.mono h hr) h1
 |_,_,.cK ds cs hr => .cK ds cs (bN.mono h hr)
 |_,_,.zg => .zg
 |_,_,.ref l i v off b o L e hv hc hn =>
  let ⟨L',e',hl⟩:=h.loc l i L e
  .ref l i v off b o L' e' (Loc.zh hv hl) (λdJ bo sz eq=>hc dJ bo sz (Loc.back hv hl eq)) (λeq=>hn (Loc.Em hv hl eq))
 |_,_,.bg ds b o vs hr hl => .bg ds b o vs (G.HT h hr) (bN.mono h hl)
 |_,_,.bz => .bz
 |_,_,.zA => .zA
 |_,_,.bT n ds a cap vs hn hr hs hl => .bT n ds a cap vs hn (G.HT h hr) hs (bN.mono h hl)
 |_,_,.sl l i v off n w a cap L e hv hn ha hs hc hc' =>
  let ⟨L',e',hl⟩:=h.loc l i L e
  .sl l i v off n w a cap L' e' (Loc.zh hv hl) hn ha hs (λdJ bo sz eq=>hc dJ bo sz (Loc.back hv hl eq)) (λeq=>hc' (Loc.Em hv hl eq))
 |_,_,.fn f fs cs fs' cs' h1 h2 => .fn f fs cs fs' cs' (bN.mono h h1) (bN.mono h h2)
 |_,_,.pR => .pR
 |_,_,.jU l i b e =>
  let ⟨L',e',hl⟩:=h.loc l i _ e
  .jU l i b (by rw[e',show L'=.lp b from hl])
 |_,_,.Tg l i b e =>
  let ⟨L',e',hl⟩:=h.loc l i _ e
  .Tg l i b (by rw[e',show L'=.mp b from hl])
 |_,_,.Xx l i b L e hc =>
  let ⟨L',e',hl⟩:=h.loc l i L e
  .Xx l i b L' e' (by
   rcases hc with rfl | rfl
   .exact hl
   .exact .inr hl)
 |_,_,.Uk l i b L e hc =>
  let ⟨L',e',hl⟩:=h.loc l i L e
  .Uk l i b L' e' (by
   rcases hc with⟨c,rfl⟩ | rfl
   .exact hl
   .exact .inr hl)
 |_,_,.ui t d c h1 => .ui t d c (bQ.mono h h1)
 |_,_,.nK => .nK
theorem bN.mono{g g':G}(h:g.le g'):∀{ds:List D} {cs:List Value},bN g ds cs->bN g' ds cs
 |_,_,.nil => .nil
 |_,_,.cons d c ds cs h1 h2 => .cons d c ds cs (bQ.mono h h1) (bN.mono h h2)
end
section lists
variable {g:G}
theorem bN.length{ds:List D}{cs:List Value}(h:bN g ds cs):ds.length=cs.length:=by
 induction ds generalizing cs with
 |nil=>cases h;rfl
 |cons d ds ih=>cases h with | cons _ c _ cs h1 h2=>simp[ih h2]
theorem bN.get{ds:List D}{cs:List Value}(h:bN g ds cs){j:Nat}{d:D}(e:ds[j]?=some d):∃c,cs[j]?=some c/\bQ g d c:=by
 induction ds generalizing cs j with
 |nil=>simp at e
 |cons d0 ds ih =>
  cases h with
  |cons _ c _ cs h1 h2 =>
   cases j with
   |zero=>simp at e;subst e;exact⟨c,rfl,h1⟩
   |succ j=>exact ih h2 (by simpa using e)
theorem bN.append{a b:List D}{x y:List Value}(h:bN g a x)(h':bN g b y):bN g (a++b) (x++y):=by
 induction a generalizing x with
 |nil=>cases h;exact h'
 |cons d a ih=>cases h with | cons _ c _ cs h1 h2=>exact .cons _ _ _ _ h1 (ih h2)
theorem bN.take{a:List D}{x:List Value}(h:bN g a x)(n:Nat):bN g (a.take n) (x.take n):=by
 induction a generalizing x n with
 |nil=>cases h;simpa using bN.nil
 |cons d a ih =>
  cases h with
  |cons _ c _ cs h1 h2 =>
   cases n with
   |zero=>exact .nil
   |succ n=>exact .cons _ _ _ _ h1 (ih h2 n)
theorem bN.drop{a:List D}{x:List Value}(h:bN g a x)(n:Nat):bN g (a.drop n) (x.drop n):=by
 induction a generalizing x n with
 |nil=>cases h;simpa using bN.nil
 |cons d a ih =>
  cases h with
  |cons _ c _ cs h1 h2 =>
   cases n with
   |zero=>exact .cons _ _ _ _ h1 h2
   |succ n=>exact ih h2 n
theorem bN.ad2{ds:List D}{cs:List Value}(hl:ds.length=cs.length)(h:∀(j:Nat) (d:D) (c:Value),ds[j]?=some d->cs[j]?=some c->bQ g d c):bN g ds cs:=by
 induction ds generalizing cs with
 |nil=>cases cs with
  |nil=>exact .nil
  |cons c cs=>simp at hl
 |cons d ds ih =>
  cases cs with
  |nil=>simp at hl
  |cons c cs =>
   exact .cons _ _ _ _ (h 0 d c rfl rfl) (ih (by simpa using hl) λj d' c' e e'=>h (j+1) d' c' (by simpa using e) (by simpa using e'))
theorem bQ.cells{d:D}{c:Value}(h:bQ g d c){ds:List D}(e:d.cells=some ds):bN g ds c.cells.toList/\∀x∈c.cells.toList,x.oneCell'=true:=by
 have h0:=h;cases h with
 |agg ds' cs hr h1=>simp only[D.cells,ae]at e;subst e;exact⟨hr,h1⟩
 |undef c=>simp[D.cells]at e
 |cK=>simp[D.cells]at e
 |_=>simp only[D.cells,ae]at e;subst e;exact⟨.cons _ _ _ _ h0 .nil,by simp[Value.cells,Value.oneCell']⟩
end lists
def Ax(g:G)(e:Env)(tmps:Array Value):Prop:=∀t,bQ g (get e t) (tmps.getD t Go.undef)
theorem Ax.mono{g g':G}(h:g.le g'){e:Env}{tmps:Array Value}(hr:Ax g e tmps):Ax g' e tmps:=λt=>(hr t).mono h
structure fh where
 rel:b9->Code->Nat->Prop
 Nm:Nat->(Obj->Prop)->Prop
def aj9:Nat->LoopState
 |0 => .ready
 |1 => .busy
 |2 => .done
 |_ => .exhausted
def D6:Option Exit->Option (Option Code)
 |none=>some none
 |some (.exit id)=>some (some (.exit id))
 |some .ret=>some (some .ret)
 |some .normal=>none
 |some (.fu _)=>none
structure B0(CR:fh)(g:G)(lp:xX)(r:Loop):Prop where
 state:r.state=aj9 lp.state
 zj:D6 lp.zj=some r.pending
 env:Ax g lp.env r.tmps
 params:r.params.toList=lp.params
 small:∀t∈lp.params,t<r.tmps.size
 both:CR.rel (.ite (.t 0) lp.B9 lp.body) (.cond (.tmp 0) r.assign r.body) r.tmps.size
def SL(es:List MapEntry)(clock:Nat):Prop:=es.map (·.born)=List.range es.length/\clock=es.length
def IU(CR:fh)(g:G)(w:World):aG->Loc->Prop
 |.cells v cs,.at b off v' sz=>v=v'/\∃(c:Array Value) (el:TypeId),w.heap[b]?=some (.cells c el (0,0))/\c.size=sz/\off+cs.length<=sz /\
   ∃vs,bN g cs vs/\(∀j x,vs[j]?=some x->c[off+j]?=some x/\x.oneCell'=true)
 |.cells v cs,.oH v'=>v=v'/\cs=[]
 |.dead,.dead=>True
 |.loop lp,.lp b=>∃r,w.heap[b]?=some (.loop r)/\B0 CR g lp r
 |.cells v es,.mp b=>v=0/\∃dL clock,w.heap[b]?=some (.map dL clock)/\bN g es (dL.toList.map λe => .tuple #[e.key,e.val])/\SL dL.toList clock
 |.cells v cs,.it b=>v=1/\∃l i bm n,∃js:List Nat,cs=.jU l i::.int .i64 (n:Nat)::js.map (λj:Nat=>D.int .i64 j)/\g.loc l i=some (.mp bm) /\
   w.heap[b]?=some (.mapIter (some bm) n js.reverse.toArray n)/\js.Nodup/\∀j∈js,j<n
 |.cells v cs,.ob b c=>v=2/\∃(T e:Nat) (bs:List UInt8) (p s:Value),cs=[.int .i64 T,.int .i64 e,.str bs]/\w.heap[b]?=some (.cells #[p,s] T (0,0)) /\
   (p=.pointer none\/p=.pointer (some ⟨b,0,none⟩))/\w.ownsRowF 0 e 1 s bs.length (bs.map λx => .int .u8 x.toNat)/\s.ownBlock=c/\c≠some b
 |_,_=>False
structure Inv(CR:fh)(base:Nat)(g:G)(J:SK)(w:World):Prop where
 ge:base<=w.heap.size
 xJ:∀l i L,g.loc l i=some L->∃b,dZ J l i=some b/\IU CR g w b L
 oc:∀b o v,g.oc b o=some v->w.cell? ⟨b,o,none⟩=some v/\v.oneCell'=true
 sep:∀l i L b,g.loc l i=some L->L.owns b->∀o,g.oc b o=none
 inj:∀l i L l' i' L' b,g.loc l i=some L->g.loc l' i'=some L'->L.owns b->L'.owns b->l=l'/\i=i'
 lo:∀l i L b,g.loc l i=some L->L.owns b->base<=b/\b<w.heap.size
 TL:∀l i b,dZ J l i=some b->∃L,g.loc l i=some L
 Nm:∀b Q,CR.Nm b Q->(∃v,g.oc b 0=some v)/\∃o,w.heap[b]?=some o/\Q o
def G.has(g:G)(b:Nat):Prop:=∃l i L,g.loc l i=some L/\L.owns b
structure Ev(g:G)(w:World)(g':G)(w':World):Prop where
 le:g.le g'
 os:w'.os=w.os
 tape:w'.tape=w.tape
 output:w'.output=w.output
 size:w.heap.size<=w'.heap.size
 kept:∀b,b<w.heap.size->¬g.has b->w'.heap[b]?=w.heap[b]?
 Vd:∀b,g'.has b->g.has b\/w.heap.size<=b
 Lg:∀b o v,g'.oc b o=some v->g.oc b o=some v\/g.has b\/w.heap.size<=b
theorem Ev.refl(g:G)(w:World):Ev g w g w:=⟨g.le_refl,rfl,rfl,rfl,aN _,λ_ _ _=>rfl,λ_ h => .inl h,λ_ _ _ h => .inl h⟩
theorem Ev.trans{g g1 g2:G}{w w1 w2:World}(h:Ev g w g1 w1)(h':Ev g1 w1 g2 w2):Ev g w g2 w2 where
 le:=G.le_trans h.le h'.le
 os:=h'.os.trans h.os
 tape:=h'.tape.trans h.tape
 output:=h'.output.trans h.output
 size:=jn h.size h'.size
 kept b hb hn:=by
  have h1:¬g1.has b:=λhx=>by
   rcases h.Vd b hx with hx | hx
   .exact hn hx
   .omega
  rw[h'.kept b (Nat.lt_of_lt_of_le hb h.size) h1,h.kept b hb hn]
 Vd b hb:=by
  rcases h'.Vd b hb with hx | hx
  .exact h.Vd b hx
  .exact .inr (jn h.size hx)
 Lg b o v hv:=by
  rcases h'.Lg b o v hv with hx | hx | hx
  .exact h.Lg b o v hx
  .exact .inr (h.Vd b hx)
  .exact .inr (.inr (jn h.size hx))
section stack
theorem CJ{J:SK}{l:Nat}{s:List aG}(h:eT J l=some s):l<J.length:=by
 induction J with
 |nil=>simp[eT]at h
 |cons s0 J ih =>
  simp only[eT]at h;split at h
  .simp;omega
  .have:=ih h;simp;omega
theorem ti{J:SK}{l:Nat}{s:List aG}(h:l<J.length):eT (gT J l s) l=some s:=by
 induction J with
 |nil=>simp at h
 |cons s0 J ih =>
  simp only[gT];split
  .rename_i e;simp[eT,e]
  .rename_i e;simp only[eT];rw[fI];rw[if_neg e];exact ih (by simp at h;omega)
where
 fI {J:SK} {l:Nat} {s:List aG}:(gT J l s).length=J.length:=by
  induction J with
  |nil=>rfl
  |cons s0 J ih=>simp only[gT];split<;>simp[ih]
theorem fI{J:SK}{l:Nat}{s:List aG}:(gT J l s).length=J.length:=ti.fI
theorem Ha{J:SK}{l l':Nat}{s:List aG}(h:l'≠l):eT (gT J l s) l'=eT J l':=by
 induction J with
 |nil=>rfl
 |cons s0 J ih =>
  simp only[gT];split
  .rename_i e;simp only[eT];rw[if_neg (by omega),if_neg (by omega)]
  .simp only[eT,fI];split
   .rfl
   .exact ih
theorem dK{J:SK}{l i:Nat}{b:aG}:(bj J l i b).length=J.length:=by
 unfold bj;split
 .exact fI
 .rfl
theorem nL{J:SK}{l i:Nat}{b b0:aG}(h:dZ J l i=some b0):dZ (bj J l i b) l i=some b:=by
 unfold dZ at h;cases hs:eT J l with
 |none=>simp[hs]at h
 |some s =>
  simp only[hs,Option.bind_some]at h;have hi:i<s.length:=(aB.1 h).1;simp only[bj,hs,dZ,ti (CJ hs),Option.bind_some];simp[hi]
theorem eD{J:SK}{l i l' i':Nat}{b:aG}(h:¬(l'=l/\i'=i)):dZ (bj J l i b) l' i'=dZ J l' i':=by
 unfold bj;cases hs:eT J l with
 |none=>rfl
 |some s =>
  simp only[dZ];by_cases hl:l'=l
  .subst hl;rw[ti (CJ hs),hs];simp only[Option.bind_some];rw[List.getElem?_set_ne];intro e;exact h ⟨rfl,e.symm⟩
  .rw[Ha hl]
theorem jL{J J':SK}{b:aG}{l i:Nat}(h:fR J b=some (l,i,J')):
  dZ J l i=none/\dZ J' l i=some b/\(∀l' i',¬(l'=l/\i'=i)->dZ J' l' i'=dZ J l' i')/\J'.length=J.length/\l+1=J.length:=by
 cases J with
 |nil=>simp[fR]at h
 |cons s J =>
  simp only[fR,ae,ar]at h;obtain⟨rfl,rfl,rfl⟩:=h;refine⟨by simp[dZ,eT],by simp[dZ,eT],?_,rfl,rfl⟩;intro l' i' hn;simp only[dZ,eT];split
  .rename_i e;simp only[Option.bind_some];rw[List.getElem?_append];split
   .rfl
   .rename_i hlt;have:i'≠s.length:=λe'=>hn ⟨e.symm,e'⟩
    rw[dN (by simp;omega),dN (by omega)]
  .rfl
end stack
theorem IU.mono{CR:fh}{g g':G}{w w':World}{b:aG}{L:Loc}(h:IU CR g w b L)(hg:g.le g')
  (hw:∀x,L.owns x->w'.heap[x]?=w.heap[x]?):IU CR g' w' b L:=by
 cases b with
 |cells v cs =>
  cases L with
  |«at» x off v' sz =>
   obtain⟨rfl,c,el,hb,hsz,hlen,vs,hr,hv⟩:=h;exact⟨rfl,c,el,(hw x rfl).trans hb,hsz,hlen,vs,hr.mono hg,hv⟩
  |oH v'=>exact h
  |dead=>exact h
  |lp x=>exact h
  |mp x =>
   obtain⟨hv,dL,clock,hb,hr,hm⟩:=h;exact⟨hv,dL,clock,(hw x rfl).trans hb,hr.mono hg,hm⟩
  |it x =>
   obtain⟨hv,l,i,bm,n,js,h1,h2,h3,h4⟩:=h;obtain⟨L',e',hl⟩:=hg.loc l i _ h2;exact⟨hv,l,i,bm,n,js,h1,by rw[e',show L'=.mp bm from hl],(hw x rfl).trans h3,h4⟩
  |ob x y =>
   obtain⟨hv,T,e,bs,p,s,h1,h2,h3,h4,h5,h6⟩:=h;refine⟨hv,T,e,bs,p,s,h1,(hw x (.inl rfl)).trans h2,h3,⟨h4.1,h4.2.imp id λ⟨q,cap,cur,fz,k1,k2,k3,k4⟩=>⟨q,cap,cur,fz,k1,k2,(hw q (.inr ?_)).trans k3,k4⟩⟩,h5,h6⟩;rw[<- h5,k1];rfl
 |dead=>cases L<;>exact h
 |loop lp =>
  cases L with
  |lp x =>
   obtain⟨r,hb,hr⟩:=h;exact⟨r,(hw x rfl).trans hb,{hr with env:=hr.env.mono hg }⟩
  |«at» x off v' sz=>exact h
  |oH v'=>exact h
  |dead=>exact h
  |mp x=>exact h
  |it x=>exact h
  |ob x y=>exact h
theorem Inv.He{CR:fh}{base:Nat}{g g':G}{J J':SK}{w w':World}(hi:Inv CR base g J w)(l i:Nat)
  (hle:g.le g')
  (hJ:∀l' i',¬(l'=l/\i'=i)->dZ J' l' i'=dZ J l' i')
  (hloc:∀l' i',¬(l'=l/\i'=i)->g'.loc l' i'=g.loc l' i')
  (hw:∀l' i' L b,¬(l'=l/\i'=i)->g.loc l' i'=some L->L.owns b->w'.heap[b]?=w.heap[b]?)
  (hnew:∀L,g'.loc l i=some L->∃b,dZ J' l i=some b/\IU CR g' w' b L)
  (himm:∀b o v,g'.oc b o=some v->w'.cell? ⟨b,o,none⟩=some v/\v.oneCell'=true)
  (hsep:∀l' i' L b,g'.loc l' i'=some L->L.owns b->∀o,g'.oc b o=none)
  (hinj:∀L b,g'.loc l i=some L->L.owns b->base<=b/\b<w'.heap.size/\∀l' i' L',¬(l'=l/\i'=i)->g.loc l' i'=some L'->¬L'.owns b)
  (hsize:w.heap.size<=w'.heap.size) (htot:∃L,g'.loc l i=some L) (hlow:∀b v,g.oc b 0=some v->w'.heap[b]?=w.heap[b]?):Inv CR base g' J' w' where
 Nm b Q h:=let ⟨⟨v,hb⟩,o,ho,hq⟩:=hi.Nm b Q h;⟨⟨v,hle.oc _ _ _ hb⟩,o,(hlow b v hb).trans ho,hq⟩
 TL l' i' b e:=by
  by_cases h:l'=l/\i'=i
  .obtain⟨rfl,rfl⟩:=h;exact htot
  .rw[hJ l' i' h]at e;rw[hloc l' i' h];exact hi.TL l' i' b e
 ge:=jn hi.ge hsize
 xJ l' i' L e:=by
  by_cases h:l'=l/\i'=i
  .obtain⟨rfl,rfl⟩:=h;exact hnew L e
  .rw[hloc l' i' h]at e;obtain⟨b,hb,hr⟩:=hi.xJ l' i' L e;exact⟨b,(hJ l' i' h).trans hb,hr.mono hle λx hx=>hw l' i' L x h e hx⟩
 oc:=himm
 sep:=hsep
 inj l1 i1 L1 l2 i2 L2 b h1 h2 e1 e2:=by
  by_cases c1:l1=l/\i1=i
  .obtain⟨rfl,rfl⟩:=c1;by_cases c2:l2=l1/\i2=i1
   .exact⟨c2.1.symm,c2.2.symm⟩
   .rw[hloc l2 i2 c2]at h2;exact absurd e2 ((hinj L1 b h1 e1).2.2 l2 i2 L2 c2 h2)
  .rw[hloc l1 i1 c1]at h1;by_cases c2:l2=l/\i2=i
   .obtain⟨rfl,rfl⟩:=c2;exact absurd e1 ((hinj L2 b h2 e2).2.2 l1 i1 L1 c1 h1)
   .rw[hloc l2 i2 c2]at h2;exact hi.inj _ _ _ _ _ _ b h1 h2 e1 e2
 lo l' i' L b e eb:=by
  by_cases h:l'=l/\i'=i
  .obtain⟨rfl,rfl⟩:=h;exact⟨(hinj L b e eb).1,(hinj L b e eb).2.1⟩
  .rw[hloc l' i' h]at e;have:=hi.lo l' i' L b e eb;exact⟨this.1,by omega⟩
theorem ie{w w':World}{b o:Nat}(h:w'.heap[b]?=w.heap[b]?):w'.cell? ⟨b,o,none⟩=w.cell? ⟨b,o,none⟩:=by
 simp only[World.cell?,h]
theorem Inv.heap{CR:fh}{base:Nat}{g:G}{J:SK}{w w1:World}(hi:Inv CR base g J w)(h:w1.heap=w.heap):Inv CR base g J w1 where
 ge:=by rw[h];exact hi.ge
 xJ l i L e:=let ⟨b,hb,hr⟩:=hi.xJ l i L e;⟨b,hb,hr.mono g.le_refl λx _=>by rw[h]⟩
 oc b o v e:=let ⟨h1,h2⟩:=hi.oc b o v e;⟨(ie (by rw[h])).trans h1,h2⟩
 sep:=hi.sep
 inj:=hi.inj
 TL:=hi.TL
 Nm:=by rw[h];exact hi.Nm
 lo l i L b e eb:=by rw[h];exact hi.lo l i L b e eb
theorem Ev.heap(g:G){w w1:World}(h:w1.heap=w.heap)(ho:w1.os=w.os)(ht:w1.tape=w.tape)(hp:w1.output=w.output):Ev g w g w1 :=
 ⟨g.le_refl,ho,ht,hp,by rw[h];exact aN _,λb _ _=>by rw[h],λb hb => .inl hb,λb o v hv => .inl hv⟩
theorem Inv.jh{CR:fh}{base:Nat}{g:G}{J:SK}{w:World}(hi:Inv CR base g J w){b o:Nat}{v:Value}(h:g.oc b o=some v):b<w.heap.size :=
 World.block_lt_of_cell? (a:=⟨b,o,none⟩) w (hi.oc b o v h).1
theorem Inv.Xn{CR:fh}{base:Nat}{g:G}{J:SK}{w:World}(hi:Inv CR base g J w){b:Nat}(h:g.has b):b<w.heap.size :=
 let ⟨l,i,L,e,eb⟩:=h;(hi.lo l i L b e eb).2
def G.jv(g:G)(x:Nat)(vs:List Value):G:=⟨g.loc,λb o=>if b=x then vs[o]? else g.oc b o⟩
theorem alloc_old{w:World}{o:Obj}{b:Nat}(h:b<w.heap.size):(w.alloc o).heap[b]?=w.heap[b]?:=by
 simp only[World.alloc,Array.getElem?_push];rw[if_neg (by omega)]
theorem sW{w:World}{o:Obj}:(w.alloc o).heap[w.heap.size]?=some o:=by
 simp only[World.alloc,Array.getElem?_push_size]
theorem Inv.HO{CR:fh}{base:Nat}{g:G}{J:SK}{w:World}(hi:Inv CR base g J w)(vs:List Value)(cs:Array Value)(el:TypeId)
  (hcs:∀(j:Nat) x,vs[j]?=some x->cs[j]?=some x/\x.oneCell'=true):
  Inv CR base (g.jv w.heap.size vs) J (w.alloc (.cells cs el))/\Ev g w (g.jv w.heap.size vs) (w.alloc (.cells cs el))/\(g.jv w.heap.size vs).row w.heap.size 0 vs:=by
 have hle:g.le (g.jv w.heap.size vs):=⟨λl i L e=>⟨L,e,L.le_refl⟩,λb o v e=>by
  have:=hi.jh e;simp only[G.jv];rw[if_neg (by omega)];exact e⟩
 refine⟨⟨?_,?_,?_,?_,hi.inj,?_,hi.TL,λb Q h=>let ⟨⟨v,hb⟩,o,ho,hq⟩:=hi.Nm b Q h;⟨⟨v,hle.oc _ _ _ hb⟩,o,(alloc_old (hi.jh hb)).trans ho,hq⟩⟩,⟨hle,rfl,rfl,rfl,by simp,λb hb _=>alloc_old hb,λb hb => .inl hb,?_⟩,?_⟩
 .have:=hi.ge;simp;omega
 .intro l i L e;obtain⟨b,hb,hr⟩:=hi.xJ l i L e;exact⟨b,hb,hr.mono hle λx hx=>alloc_old (hi.lo l i L x e hx).2⟩
 .intro b o v e;simp only[G.jv]at e;split at e
  .rename_i hb;subst hb;obtain⟨h1,h2⟩:=hcs o v e;exact⟨by rw[World.cell?_alloc_new];exact h1,h2⟩
  .obtain⟨h1,h2⟩:=hi.oc b o v e;exact⟨(ie (alloc_old (hi.jh e))).trans h1,h2⟩
 .intro l i L b e eb o;have:=(hi.lo l i L b e eb).2;simp only[G.jv];rw[if_neg (by omega)];exact hi.sep l i L b e eb o
 .intro l i L b e eb;have:=hi.lo l i L b e eb;exact⟨this.1,by simp;omega⟩
 .intro b o v hv;simp only[G.jv]at hv;split at hv
  .rename_i hb;exact .inr (.inr (by omega))
  .exact .inl hv
 .intro j v hv;simp[G.jv,hv]
def G.cT(g:G)(l i:Nat)(L:Loc):G:=⟨λl' i'=>if l'=l/\i'=i then some L else g.loc l' i',g.oc⟩
theorem G.aL{g:G}{l i:Nat}{L:Loc}:(g.cT l i L).loc l i=some L:=by simp[G.cT]
theorem G.bK{g:G}{l i l' i':Nat}{L:Loc}(h:¬(l'=l/\i'=i)):(g.cT l i L).loc l' i'=g.loc l' i':=by simp only[G.cT];rw[if_neg h]
theorem G.jR{g:G}{l i:Nat}{L:Loc}(h:∀L0,g.loc l i=some L0->L0.le L):g.le (g.cT l i L) :=
 ⟨λl' i' L' e=>by
  by_cases c:l'=l/\i'=i
  .obtain⟨rfl,rfl⟩:=c;exact⟨L,G.aL,h L' e⟩
  .exact⟨L',by rw[G.bK c];exact e,L'.le_refl⟩,λ_ _ _ e=>e⟩
theorem Inv.Ey{CR:fh}{base:Nat}{g:G}{J:SK}{w:World}(hi:Inv CR base g J w){l i:Nat}(h:dZ J l i=none):g.loc l i=none:=by
 cases e:g.loc l i with
 |none=>rfl
 |some L=>obtain⟨b,hb,_⟩:=hi.xJ l i L e;rw[h]at hb;cases hb
theorem Inv.BM{CR:fh}{base:Nat}{g:G}{J J':SK}{w:World}(hi:Inv CR base g J w){l i:Nat}{ds:List D}(hn:fR J (.cells 0 ds)=some (l,i,J'))
  (vs:List Value) (cs:Array Value) (el:TypeId) (hr:bN g ds vs) (hlen:vs.length<=cs.size)
  (hcs:∀(j:Nat) x,vs[j]?=some x->cs[j]?=some x/\x.oneCell'=true):
  Inv CR base (g.cT l i (.at w.heap.size 0 0 cs.size)) J' (w.alloc (.cells cs el))/\Ev g w (g.cT l i (.at w.heap.size 0 0 cs.size)) (w.alloc (.cells cs el)):=by
 obtain⟨h1,h2,h3,_,_⟩:=jL hn;have hnone:=hi.Ey h1;have hle:g.le (g.cT l i (.at w.heap.size 0 0 cs.size)):=G.jR λL0 e=>by rw[hnone]at e;cases e
 refine⟨hi.He l i hle h3 (λl' i' c=>G.bK c) (λl' i' L b c e eb=>alloc_old (hi.lo l' i' L b e eb).2) ?_ ?_ ?_ ?_ (by simp) ⟨_,G.aL⟩ (λb v hb=>alloc_old (hi.jh hb)),⟨hle,rfl,rfl,rfl,by simp,λb hb _=>alloc_old hb,?_,λb o v hv => .inl hv⟩⟩
 .intro L e;rw[G.aL]at e;cases e;exact⟨_,h2,rfl,cs,el,sW,rfl,by rw[hr.length];omega,vs,hr.mono hle,λj x hx=>by simpa using hcs j x hx⟩
 .intro b o v e;obtain⟨h1,h2⟩:=hi.oc b o v e;exact⟨(ie (alloc_old (hi.jh e))).trans h1,h2⟩
 .intro l' i' L b e eb o;by_cases c:l'=l/\i'=i
  .obtain⟨rfl,rfl⟩:=c;rw[G.aL]at e;cases e;cases eb;cases e':(g.cT l' i' (.at w.heap.size 0 0 cs.size)).oc w.heap.size o with
   |none=>rfl
   |some v=>have:=hi.jh (b:=w.heap.size) (o:=o) (v:=v) e';omega
  .rw[G.bK c]at e;exact hi.sep l' i' L b e eb o
 .intro L b e eb;rw[G.aL]at e;cases e;cases eb;refine⟨hi.ge,by simp,λl' i' L' c e' eb'=>?_⟩;have:=(hi.lo l' i' L' _ e' eb').2;omega
 .intro b hb;obtain⟨l',i',L,e,eb⟩:=hb;by_cases c:l'=l/\i'=i
  .obtain⟨rfl,rfl⟩:=c;rw[G.aL]at e;cases e;cases eb;exact .inr (aN _)
  .rw[G.bK c]at e;exact .inl ⟨l',i',L,e,eb⟩
theorem Inv.Tj{CR:fh}{base:Nat}{g:G}{J J':SK}{w:World}(hi:Inv CR base g J w){l i:Nat}(hn:fR J (.cells 0 [])=some (l,i,J')):
  Inv CR base (g.cT l i (.oH 0)) J' w/\Ev g w (g.cT l i (.oH 0)) w:=by
 obtain⟨h1,h2,h3,_,_⟩:=jL hn;have hnone:=hi.Ey h1;have hle:g.le (g.cT l i (.oH 0)):=G.jR λL0 e=>by rw[hnone]at e;cases e
 refine⟨hi.He l i hle h3 (λl' i' c=>G.bK c) (λ_ _ _ _ _ _ _=>rfl) ?_ hi.oc ?_ ?_ (aN _) ⟨_,G.aL⟩ (λ_ _ _=>rfl),⟨hle,rfl,rfl,rfl,aN _,λ_ _ _=>rfl,?_,λb o v hv => .inl hv⟩⟩
 .intro L e;rw[G.aL]at e;cases e;exact⟨_,h2,rfl,rfl⟩
 .intro l' i' L b e eb o;by_cases c:l'=l/\i'=i
  .obtain⟨rfl,rfl⟩:=c;rw[G.aL]at e;cases e;cases eb
  .rw[G.bK c]at e;exact hi.sep l' i' L b e eb o
 .intro L b e eb;rw[G.aL]at e;cases e;cases eb
 .intro b hb;obtain⟨l',i',L,e,eb⟩:=hb;by_cases c:l'=l/\i'=i
  .obtain⟨rfl,rfl⟩:=c;rw[G.aL]at e;cases e;cases eb
  .rw[G.bK c]at e;exact .inl ⟨l',i',L,e,eb⟩
theorem Inv.setCells{CR:fh}{base:Nat}{g:G}{J:SK}{w w':World}(hi:Inv CR base g J w){l i:Nat}{L0 L:Loc}{b0:aG}{v:Nat}{ds:List D}
  (h0:g.loc l i=some L0) (hb0:dZ J l i=some b0) (hL:L0.le L)
  (hrel:IU CR (g.cT l i L) w' (.cells v ds) L)
  (hkept:∀b,b<w.heap.size->¬L0.owns b->w'.heap[b]?=w.heap[b]?)
  (hos:w'.os=w.os) (htape:w'.tape=w.tape) (hout:w'.output=w.output)
  (hsize:w.heap.size<=w'.heap.size)
  (hblk:∀b,L.owns b->(L0.owns b\/(w.heap.size<=b/\b<w'.heap.size))):
  Inv CR base (g.cT l i L) (bj J l i (.cells v ds)) w'/\Ev g w (g.cT l i L) w':=by
 have hle:g.le (g.cT l i L):=G.jR λL1 e=>by rw[h0]at e;cases e;exact hL
 refine⟨hi.He l i hle (λl' i' c=>eD c) (λl' i' c=>G.bK c) ?_ ?_ ?_ ?_ ?_ hsize ⟨_,G.aL⟩ (λb v hb=>hkept b (World.block_lt_of_cell? (a:=⟨b,0,none⟩) w (hi.oc b 0 v hb).1) λeb0=>by have h:=hi.sep l i L0 b h0 eb0 0;rw[hb]at h;cases h),⟨hle,hos,htape,hout,hsize,?_,?_,λb o v hv => .inl hv⟩⟩
 .intro l' i' L' b c e eb;refine hkept b (hi.lo l' i' L' b e eb).2 λeb0=>c ?_
  have:=hi.inj l' i' L' l i L0 b e h0 eb eb0;exact this
 .intro L1 e;rw[G.aL]at e;cases e;exact⟨_,nL hb0,hrel⟩
 .intro b o x e;obtain⟨h1,h2⟩:=hi.oc b o x e;refine⟨(ie (hkept b (hi.jh e) λeb0=>?_)).trans h1,h2⟩;have:=hi.sep l i L0 b h0 eb0 o;rw[show g.oc b o=some x from e]at this;cases this
 .intro l' i' L' b e eb o;by_cases c:l'=l/\i'=i
  .obtain⟨rfl,rfl⟩:=c;rw[G.aL]at e;cases e;rcases hblk b eb with h | ⟨h,_⟩
   .exact hi.sep _ _ L0 b h0 h o
   .cases e':(g.cT l' i' L).oc b o with
    |none=>rfl
    |some v=>have:=hi.jh (b:=b) (o:=o) (v:=v) e';omega
  .rw[G.bK c]at e;exact hi.sep l' i' L' b e eb o
 .intro L1 b e eb;rw[G.aL]at e;cases e;rcases hblk b eb with h | ⟨h,h'⟩
  .have:=hi.lo l i L0 b h0 h;refine⟨this.1,by omega,λl' i' L' c e' eb'=>c ?_⟩;exact hi.inj l' i' L' l i L0 b e' h0 eb' h
  .exact⟨jn hi.ge h,h',λl' i' L' c e' eb'=>by have:=(hi.lo l' i' L' b e' eb').2;omega⟩
 .intro b hb hn;exact hkept b hb λe=>hn ⟨l,i,L0,h0,e⟩
 .intro b hb;obtain⟨l',i',L',e,eb⟩:=hb;by_cases c:l'=l/\i'=i
  .obtain⟨rfl,rfl⟩:=c;rw[G.aL]at e;cases e;rcases hblk b eb with h | ⟨h,_⟩
   .exact .inl ⟨_,_,L0,h0,h⟩
   .exact .inr h
  .rw[G.bK c]at e;exact .inl ⟨l',i',L',e,eb⟩
theorem HC{l n:Nat}:∀{ds:List D} {J:SK},D.bf ds=true->cF.frzL (cF l (n+1)) ds J=(ds,J)
 |[],J,h=>rfl
 |d::ds,J,h=>by
  simp only[D.bf,af]at h;have h1:cF l (n+1) d J=(d,J):=by cases d<;>simp[cF,h.1]
  simp only[cF.frzL,h1,HC h.2]
theorem TF{e:Env}{J:SK}{os:List Nat}{sz:Nat}{X Y:bP}{r:D×SK}(h:bR e J (.U6 os sz X Y)=some r):bR e J (.st [] sz X Y)=some r:=by
 simp only[bR]at h ⊢;cases hx:bB e X<;>rw[hx]at h<;>try (cases h;done)
 dsimp only at h ⊢;split at h
 case isFalse=>cases h
 split at h
 case h_2=>cases h
 rename_i cs hcs;split at h
 case h_2=>cases h
 rename_i p hp;split at h
 case isFalse=>cases h
 rename_i hc
 try simp only[hcs]
 try simp only[hp]
 try dsimp only
 rw[if_pos ⟨hc.1,hc.2.1⟩];split
 .simpa[kj]using h
 .rename_i hn;rw[show deep=15+1 from rfl,HC (hc.2.2.resolve_right hn)];exact h
end Go.Abs
