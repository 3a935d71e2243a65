import Derived.Test.YtpapbbojmclkgaaGreatDoorBase0
import Derived.AtR
import Derived.Laws.Cells
import Derived.Laws.World
import Derived.Lib.FrozenHead
set_option linter.all false
namespace Go.Abs
open Go
inductive Loc where
 |dead
 |oD (v:Nat)
 |at(dI off v sz:Nat)
 |lp (dI:Nat)
 |mp (dI:Nat)
 |it (dI:Nat)
 |ob (dI:Nat) (buf:Option Nat)
def Loc.Tr:Loc->Nat->Prop
 |.dead,_=>True
 |.oD v',v=>v<=v'
 |.at _ _ v' _,v=>v<=v'
 |.lp _,_=>False
 |.mp _,_=>False
 |.it _,_=>False
 |.ob ..,_=>False
def Loc.owns:Loc->Nat->Prop
 |.at b _ _ _,x=>b=x
 |.lp b,x=>b=x
 |.mp b,x=>b=x
 |.it b,x=>b=x
 |.ob b c,x=>b=x\/c=some x
 |_,_=>False
structure G where
 loc:Nat->Nat->Option Loc
 n8:Nat->Nat->Option Value
def G.row(g:G)(b o:Nat)(vs:List Value):Prop:=∀j v,vs[j]?=some v->g.n8 b (o+j)=some v
mutual
inductive bQ (g:G):D->Value->Prop
 |undef (c:Value):bQ g .undef c
 |bool (b:Bool):bQ g (.bool b) (.bool b)
 |int (k:IntKind) (n:Int):bQ g (.int k n) (.int k n)
 |str (s:ByteArray):bQ g (.str s.data.toList) (.string s)
 |agg (ds:List D) (cs:Array Value):bN g ds cs.toList->(∀c∈cs.toList,c.oneCell'=true)->bQ g (.agg ds) (.agg cs)
 |cN (ds:List D) (cs:Array Value):bN g ds cs.toList->bQ g (.cN ds) (.tuple cs)
 |ze:bQ g .ze (.pointer none)
 |ref (l i v off b o:Nat) (L:Loc):g.loc l i=some L->L.Tr v ->
   (∀dI bo sz,L=.at dI bo v sz->b=dI/\o=bo+off)->L ≠ .oD v->bQ g (.ref l i v off) (.pointer (some ⟨b,o,none⟩))
 |bg (ds:List D) (b o:Nat) (vs:List Value):g.row b o vs->bN g ds vs->bQ g (.bg ds) (.pointer (some ⟨b,o,none⟩))
 |bA:bQ g .bA (.slice none 0 0)
 |zy:bQ g (.bV 0 []) (.slice none 0 0)
 |bV (n:Nat) (ds:List D) (a:Addr) (cap:Nat) (vs:List Value):n<=cap->g.row a.block a.off vs->(n≠0->a.spot=none)->bN g ds vs ->
   bQ g (.bV n ds) (.slice (some a) n cap)
 |sl (l i v off n w:Nat) (a:Option Addr) (cap:Nat) (L:Loc):g.loc l i=some L->L.Tr v->(n<=cap/\cap<9223372036854775808)->(a=none->cap=0)->(∀x,a=some x->n≠0->x.spot=none) ->
   (∀dI bo sz,L=.at dI bo v sz->(a=some ⟨dI,bo+off,none⟩/\bo+off+cap*w<=sz)\/cap=0) ->
   (L=.oD v->a=none)->bQ g (.sl l i v off n w) (.slice a n cap)
 |fn (f:Nat) (fs cs:List D) (fs' cs':Array Value):bN g fs fs'.toList->bN g cs cs'.toList->bQ g (.fn f fs cs) (.func (.func f) fs' cs')
 |pR:bQ g .pR .nilFunc
 |jS (l i b:Nat):g.loc l i=some (.lp b)->bQ g (.jS l i) (.func (.yield b) #[] #[])
 |Tk (l i b:Nat):g.loc l i=some (.mp b)->bQ g (.jS l i) (.map (some b))
 |Xy (l i b:Nat) (L:Loc):g.loc l i=some L->(L=.it b\/L=.dead)->bQ g (.jS l i) (.pointer (some ⟨b,0,none⟩))
 |Up (l i b:Nat) (L:Loc):g.loc l i=some L->((∃c,L=.ob b c)\/L=.dead)->bQ g (.jS l i) (.pointer (some ⟨b,0,none⟩))
 |uh (t:Nat) (d:D) (c:Value):bQ g d c->bQ g (.uh t d) (.iface t c)
 |nJ:bQ g .nJ .nilIface
inductive bN (g:G):List D->List Value->Prop
 |nil:bN g [] []
 |cons (d:D) (c:Value) (ds:List D) (cs:List Value):bQ g d c->bN g ds cs->bN g (d::ds) (c::cs)
end
def Loc.le:Loc->Loc->Prop
 |.dead,L=>L=.dead
 |.lp b,L=>L=.lp b
 |.mp b,L=>L=.mp b
 |.it b,L=>L=.it b\/L=.dead
 |.ob b _,L=>(∃c,L=.ob b c)\/L=.dead
 |.oD v,L=>L=.oD v\/L=.dead\/(∃b o v' s,L=.at b o v' s/\v<v')\/∃v',L=.oD v'/\v<v'
 |.at b o v s,L=>L=.at b o v s\/L=.dead\/∃b' o' v' s',L=.at b' o' v' s'/\v<v'
theorem Loc.le_refl(L:Loc):L.le L:=by cases L<;>simp[Loc.le]
theorem Loc.le_trans{a b c:Loc}(h:a.le b)(h':b.le c):a.le c:=by
 cases a with
 |dead=>simp only[Loc.le]at h;subst h;exact h'
 |lp x=>simp only[Loc.le]at h;subst h;exact h'
 |mp x=>simp only[Loc.le]at h;subst h;exact h'
 |it x =>
  simp only[Loc.le]at h;rcases h with rfl | rfl
  .exact h'
  .simp only[Loc.le]at h' ⊢;exact .inr h'
 |ob x y =>
  simp only[Loc.le]at h;rcases h with⟨c,rfl⟩ | rfl
  .exact h'
  .simp only[Loc.le]at h' ⊢;exact .inr h'
 |oD v =>
  simp only[Loc.le]at h;rcases h with rfl | rfl | ⟨b1,o,v',s,rfl,hv⟩ | ⟨v',rfl,hv⟩
  .exact h'
  .simp only[Loc.le]at h' ⊢;exact .inr (.inl h')
  .simp only[Loc.le]at h' ⊢;rcases h' with rfl | rfl | ⟨b2,o2,v2,s2,rfl,hv2⟩
   .exact .inr (.inr (.inl ⟨_,_,_,_,rfl,hv⟩))
   .exact .inr (.inl rfl)
   .exact .inr (.inr (.inl ⟨_,_,_,_,rfl,by omega⟩))
  .simp only[Loc.le]at h' ⊢;rcases h' with rfl | rfl | ⟨b2,o2,v2,s2,rfl,hv2⟩ | ⟨v2,rfl,hv2⟩
   .exact .inr (.inr (.inr ⟨_,rfl,hv⟩))
   .exact .inr (.inl rfl)
   .exact .inr (.inr (.inl ⟨_,_,_,_,rfl,by omega⟩))
   .exact .inr (.inr (.inr ⟨_,rfl,by omega⟩))
 |«at» b1 o v s =>
  simp only[Loc.le]at h;rcases h with rfl | rfl | ⟨b2,o2,v2,s2,rfl,hv⟩
  .exact h'
  .simp only[Loc.le]at h' ⊢;exact .inr (.inl h')
  .simp only[Loc.le]at h' ⊢;rcases h' with rfl | rfl | ⟨b3,o3,v3,s3,rfl,hv3⟩
   .exact .inr (.inr ⟨_,_,_,_,rfl,hv⟩)
   .exact .inr (.inl rfl)
   .exact .inr (.inr ⟨_,_,_,_,rfl,by omega⟩)
theorem Loc.zf{L L':Loc}{v:Nat}(h:L.Tr v)(h':L.le L'):L'.Tr v:=by
 cases L with
 |dead=>simp only[Loc.le]at h';subst h';trivial
 |lp b=>exact h.elim
 |mp b=>exact h.elim
 |it b=>exact h.elim
 |ob b c=>exact h.elim
 |oD v' =>
  simp only[Loc.le]at h';simp only[Loc.Tr]at h;rcases h' with rfl | rfl | ⟨b,o,v',s,rfl,hv⟩ | ⟨v',rfl,hv⟩<;>simp only[Loc.Tr]<;>omega
 |«at» b o v' s =>
  simp only[Loc.le]at h';simp only[Loc.Tr]at h;rcases h' with rfl | rfl | ⟨b',o',v'',s',rfl,hv⟩<;>simp only[Loc.Tr]<;>omega
structure G.le(g g':G):Prop where
 loc:∀l i L,g.loc l i=some L->∃L',g'.loc l i=some L'/\L.le L'
 n8:∀b o v,g.n8 b o=some v->g'.n8 b o=some v
theorem G.le_refl(g:G):g.le g:=⟨λ_ _ L h=>⟨L,h,L.le_refl⟩,λ_ _ _ h=>h⟩
theorem G.le_trans{a b c:G}(h:a.le b)(h':b.le c):a.le c :=
 ⟨λl i L e=>let ⟨L1,e1,h1⟩:=h.loc l i L e;let ⟨L2,e2,h2⟩:=h'.loc l i L1 e1;⟨L2,e2,Loc.le_trans h1 h2⟩,
  λx o v e=>h'.n8 x o v (h.n8 x o v e)⟩
theorem G.H6{g g':G}(h:g.le g'){b o:Nat}{vs:List Value}(hr:g.row b o vs):g'.row b o vs:=λj v e=>h.n8 _ _ _ (hr j v e)
theorem Loc.back{L L':Loc}{v:Nat}(h:L.Tr v)(h':L.le L'){b o s:Nat}(e:L'=.at b o v s):L=.at b o v s:=by
 subst e;cases L with
 |dead=>simp[Loc.le]at h'
 |lp b=>simp[Loc.le]at h'
 |mp b=>simp[Loc.le]at h'
 |it b=>simp[Loc.le]at h'
 |ob b c=>simp[Loc.le]at h'
 |oD v' =>
  simp only[Loc.le]at h';simp only[Loc.Tr]at h;rcases h' with h' | h' | ⟨b,o,v',s,h',hv⟩ | ⟨v',h',hv⟩<;>simp_all
  omega
 |«at» b o v' s =>
  simp only[Loc.le]at h';simp only[Loc.Tr]at h;rcases h' with h' | h' | ⟨b',o',v'',s',h',hv⟩<;>simp_all
  omega
theorem Loc.Ew{L L':Loc}{v:Nat}(h:L.Tr v)(h':L.le L')(e:L'=.oD v):L=.oD v:=by
 subst e;cases L with
 |dead=>simp[Loc.le]at h'
 |lp b=>simp[Loc.le]at h'
 |mp b=>simp[Loc.le]at h'
 |it b=>simp[Loc.le]at h'
 |ob b c=>simp[Loc.le]at h'
 |oD v' =>
  simp only[Loc.le]at h';simp only[Loc.Tr]at h;rcases h' with h' | h' | ⟨b,o,v',s,h',hv⟩ | ⟨v',h',hv⟩<;>simp_all
  omega
 |«at» b o v' s=>simp[Loc.le]at h'
mutual
theorem bQ.mono{g g':G}(h:g.le g'):∀{d:D} {c:Value},bQ g d c->bQ g' d c
 |_,_,.undef c => .undef c
 |_,_,.bool b => .bool b
 |_,_,.int k n => .int k n
 |_,_,.str s => .str s
 |_,_,.agg ds cs hr h1 => .agg ds cs (bN.mono h hr) h1
 |_,_,.cN ds cs hr => .cN ds cs (bN.mono h hr)
 |_,_,.ze => .ze
 |_,_,.ref l i v off b o L e hv hc hn =>
  let ⟨L',e',hl⟩:=h.loc l i L e
  .ref l i v off b o L' e' (Loc.zf hv hl) (λdI bo sz eq=>hc dI bo sz (Loc.back hv hl eq)) (λeq=>hn (Loc.Ew hv hl eq))
 |_,_,.bg ds b o vs hr hl => .bg ds b o vs (G.H6 h hr) (bN.mono h hl)
 |_,_,.bA => .bA
 |_,_,.zy => .zy
 |_,_,.bV n ds a cap vs hn hr hs hl => .bV n ds a cap vs hn (G.H6 h hr) hs (bN.mono h hl)
 |_,_,.sl l i v off n w a cap L e hv hn ha hs hc hc' =>
  let ⟨L',e',hl⟩:=h.loc l i L e
  .sl l i v off n w a cap L' e' (Loc.zf hv hl) hn ha hs (λdI bo sz eq=>hc dI bo sz (Loc.back hv hl eq)) (λeq=>hc' (Loc.Ew hv hl eq))
 |_,_,.fn f fs cs fs' cs' h1 h2 => .fn f fs cs fs' cs' (bN.mono h h1) (bN.mono h h2)
 |_,_,.pR => .pR
 |_,_,.jS l i b e =>
  let ⟨L',e',hl⟩:=h.loc l i _ e
  .jS l i b (by rw[e',show L'=.lp b from hl])
 |_,_,.Tk l i b e =>
  let ⟨L',e',hl⟩:=h.loc l i _ e
  .Tk l i b (by rw[e',show L'=.mp b from hl])
 |_,_,.Xy l i b L e hc =>
  let ⟨L',e',hl⟩:=h.loc l i L e
  .Xy l i b L' e' (by
   rcases hc with rfl | rfl
   .exact hl
   .exact .inr hl)
 |_,_,.Up l i b L e hc =>
  let ⟨L',e',hl⟩:=h.loc l i L e
  .Up l i b L' e' (by
   rcases hc with⟨c,rfl⟩ | rfl
   .exact hl
   .exact .inr hl)
 |_,_,.uh t d c h1 => .uh t d c (bQ.mono h h1)
 |_,_,.nJ => .nJ
theorem bN.mono{g g':G}(h:g.le g'):∀{ds:List D} {cs:List Value},bN g ds cs->bN g' ds cs
 |_,_,.nil => .nil
 |_,_,.cons d c ds cs h1 h2 => .cons d c ds cs (bQ.mono h h1) (bN.mono h h2)
end
section lists
variable {g:G}
theorem bN.length{ds:List D}{cs:List Value}(h:bN g ds cs):ds.length=cs.length:=by
 induction ds generalizing cs with
 |nil=>cases h;rfl
 |cons d ds ih=>cases h with | cons _ c _ cs h1 h2=>simp[ih h2]
theorem bN.get{ds:List D}{cs:List Value}(h:bN g ds cs){j:Nat}{d:D}(e:ds[j]?=some d):∃c,cs[j]?=some c/\bQ g d c:=by
 induction ds generalizing cs j with
 |nil=>simp at e
 |cons d0 ds ih =>
  cases h with
  |cons _ c _ cs h1 h2 =>
   cases j with
   |zero=>simp at e;subst e;exact⟨c,rfl,h1⟩
   |succ j=>exact ih h2 (by simpa using e)
theorem bN.append{a b:List D}{x y:List Value}(h:bN g a x)(h':bN g b y):bN g (a++b) (x++y):=by
 induction a generalizing x with
 |nil=>cases h;exact h'
 |cons d a ih=>cases h with | cons _ c _ cs h1 h2=>exact .cons _ _ _ _ h1 (ih h2)
theorem bN.take{a:List D}{x:List Value}(h:bN g a x)(n:Nat):bN g (a.take n) (x.take n):=by
 induction a generalizing x n with
 |nil=>cases h;simpa using bN.nil
 |cons d a ih =>
  cases h with
  |cons _ c _ cs h1 h2 =>
   cases n with
   |zero=>exact .nil
   |succ n=>exact .cons _ _ _ _ h1 (ih h2 n)
theorem bN.drop{a:List D}{x:List Value}(h:bN g a x)(n:Nat):bN g (a.drop n) (x.drop n):=by
 induction a generalizing x n with
 |nil=>cases h;simpa using bN.nil
 |cons d a ih =>
  cases h with
  |cons _ c _ cs h1 h2 =>
   cases n with
   |zero=>exact .cons _ _ _ _ h1 h2
   |succ n=>exact ih h2 n
theorem bN.ad9{ds:List D}{cs:List Value}(hl:ds.length=cs.length)(h:∀(j:Nat) (d:D) (c:Value),ds[j]?=some d->cs[j]?=some c->bQ g d c):bN g ds cs:=by
 induction ds generalizing cs with
 |nil=>cases cs with
  |nil=>exact .nil
  |cons c cs=>simp at hl
 |cons d ds ih =>
  cases cs with
  |nil=>simp at hl
  |cons c cs =>
   exact .cons _ _ _ _ (h 0 d c rfl rfl) (ih (by simpa using hl) λj d' c' e e'=>h (j+1) d' c' (by simpa using e) (by simpa using e'))
theorem bQ.cells{d:D}{c:Value}(h:bQ g d c){ds:List D}(e:d.cells=some ds):bN g ds c.cells.toList/\∀x∈c.cells.toList,x.oneCell'=true:=by
 have h0:=h;cases h with
 |agg ds' cs hr h1=>simp only[D.cells,ae]at e;subst e;exact⟨hr,h1⟩
 |undef c=>simp[D.cells]at e
 |cN=>simp[D.cells]at e
 |_=>simp only[D.cells,ae]at e;subst e;exact⟨.cons _ _ _ _ h0 .nil,by simp[Value.cells,Value.oneCell']⟩
end lists
def Aw(g:G)(e:Env)(tmps:Array Value):Prop:=∀t,bQ g (get e t) (tmps.getD t Go.undef)
theorem Aw.mono{g g':G}(h:g.le g'){e:Env}{tmps:Array Value}(hr:Aw g e tmps):Aw g' e tmps:=λt=>(hr t).mono h
structure fg where
 rel:b9->Code->Nat->Prop
 Nu:Nat->(Obj->Prop)->Prop
def ake:Nat->LoopState
 |0 => .ready
 |1 => .busy
 |2 => .done
 |_ => .exhausted
def Eb:Option Exit->Option (Option Code)
 |none=>some none
 |some (.exit id)=>some (some (.exit id))
 |some .ret=>some (some .ret)
 |some .normal=>none
 |some (.ft _)=>none
structure BZ(CR:fg)(g:G)(lp:xU)(r:Loop):Prop where
 state:r.state=ake lp.state
 zh:Eb lp.zh=some r.pending
 env:Aw g lp.env r.tmps
 params:r.params.toList=lp.params
 small:∀t∈lp.params,t<r.tmps.size
 both:CR.rel (.ite (.t 0) lp.B8 lp.body) (.cond (.tmp 0) r.assign r.body) r.tmps.size
def SR(es:List MapEntry)(clock:Nat):Prop:=es.map (·.born)=List.range es.length/\clock=es.length
def I3(CR:fg)(g:G)(w:World):aG->Loc->Prop
 |.cells v cs,.at b off v' sz=>v=v'/\∃(c:Array Value) (el:TypeId),w.heap[b]?=some (.cells c el (0,0))/\c.size=sz/\off+cs.length<=sz /\
   ∃vs,bN g cs vs/\(∀j x,vs[j]?=some x->c[off+j]?=some x/\x.oneCell'=true)
 |.cells v cs,.oD v'=>v=v'/\cs=[]
 |.dead,.dead=>True
 |.loop lp,.lp b=>∃r,w.heap[b]?=some (.loop r)/\BZ CR g lp r
 |.cells v es,.mp b=>v=0/\∃dK clock,w.heap[b]?=some (.map dK clock)/\bN g es (dK.toList.map λe => .tuple #[e.key,e.val])/\SR dK.toList clock
 |.cells v cs,.it b=>v=1/\∃l i bm n,∃js:List Nat,cs=.jS l i::.int .i64 (n:Nat)::js.map (λj:Nat=>D.int .i64 j)/\g.loc l i=some (.mp bm) /\
   w.heap[b]?=some (.mapIter (some bm) n js.reverse.toArray n)/\js.Nodup/\∀j∈js,j<n
 |.cells v cs,.ob b c=>v=2/\∃(T e:Nat) (bs:List UInt8) (p s:Value),cs=[.int .i64 T,.int .i64 e,.str bs]/\w.heap[b]?=some (.cells #[p,s] T (0,0)) /\
   (p=.pointer none\/p=.pointer (some ⟨b,0,none⟩))/\w.ownsRowF 0 e 1 s bs.length (bs.map λx => .int .u8 x.toNat)/\s.ownBlock=c/\c≠some b
 |_,_=>False
structure Inv(CR:fg)(base:Nat)(g:G)(J:SK)(w:World):Prop where
 ge:base<=w.heap.size
 xE:∀l i L,g.loc l i=some L->∃b,ea J l i=some b/\I3 CR g w b L
 n8:∀b o v,g.n8 b o=some v->w.cell? ⟨b,o,none⟩=some v/\v.oneCell'=true
 sep:∀l i L b,g.loc l i=some L->L.owns b->∀o,g.n8 b o=none
 inj:∀l i L l' i' L' b,g.loc l i=some L->g.loc l' i'=some L'->L.owns b->L'.owns b->l=l'/\i=i'
 lo:∀l i L b,g.loc l i=some L->L.owns b->base<=b/\b<w.heap.size
 TO:∀l i b,ea J l i=some b->∃L,g.loc l i=some L
 Nu:∀b Q,CR.Nu b Q->(∃v,g.n8 b 0=some v)/\∃o,w.heap[b]?=some o/\Q o
def G.has(g:G)(b:Nat):Prop:=∃l i L,g.loc l i=some L/\L.owns b
structure Ev(g:G)(w:World)(g':G)(w':World):Prop where
 le:g.le g'
 os:w'.os=w.os
 tape:w'.tape=w.tape
 output:w'.output=w.output
 size:w.heap.size<=w'.heap.size
 kept:∀b,b<w.heap.size->¬g.has b->w'.heap[b]?=w.heap[b]?
 Vj:∀b,g'.has b->g.has b\/w.heap.size<=b
 Ls:∀b o v,g'.n8 b o=some v->g.n8 b o=some v\/g.has b\/w.heap.size<=b
theorem Ev.refl(g:G)(w:World):Ev g w g w:=⟨g.le_refl,rfl,rfl,rfl,aN _,λ_ _ _=>rfl,λ_ h => .inl h,λ_ _ _ h => .inl h⟩
theorem Ev.trans{g g1 g2:G}{w w1 w2:World}(h:Ev g w g1 w1)(h':Ev g1 w1 g2 w2):Ev g w g2 w2 where
 le:=G.le_trans h.le h'.le
 os:=h'.os.trans h.os
 tape:=h'.tape.trans h.tape
 output:=h'.output.trans h.output
 size:=jn h.size h'.size
 kept b hb hn:=by
  have h1:¬g1.has b:=λhx=>by
   rcases h.Vj b hx with hx | hx
   .exact hn hx
   .omega
  rw[h'.kept b (Nat.lt_of_lt_of_le hb h.size) h1,h.kept b hb hn]
 Vj b hb:=by
  rcases h'.Vj b hb with hx | hx
  .exact h.Vj b hx
  .exact .inr (jn h.size hx)
 Ls b o v hv:=by
  rcases h'.Ls b o v hv with hx | hx | hx
  .exact h.Ls b o v hx
  .exact .inr (h.Vj b hx)
  .exact .inr (.inr (jn h.size hx))
section stack
theorem CK{J:SK}{l:Nat}{s:List aG}(h:eT J l=some s):l<J.length:=by
 induction J with
 |nil=>simp[eT]at h
 |cons s0 J ih =>
  simp only[eT]at h;split at h
  .simp;omega
  .have:=ih h;simp;omega
theorem ti{J:SK}{l:Nat}{s:List aG}(h:l<J.length):eT (gV J l s) l=some s:=by
 induction J with
 |nil=>simp at h
 |cons s0 J ih =>
  simp only[gV];split
  .rename_i e;simp[eT,e]
  .rename_i e;simp only[eT];rw[fI];rw[if_neg e];exact ih (by simp at h;omega)
where
 fI {J:SK} {l:Nat} {s:List aG}:(gV J l s).length=J.length:=by
  induction J with
  |nil=>rfl
  |cons s0 J ih=>simp only[gV];split<;>simp[ih]
theorem fI{J:SK}{l:Nat}{s:List aG}:(gV J l s).length=J.length:=ti.fI
theorem Hn{J:SK}{l l':Nat}{s:List aG}(h:l'≠l):eT (gV J l s) l'=eT J l':=by
 induction J with
 |nil=>rfl
 |cons s0 J ih =>
  simp only[gV];split
  .rename_i e;simp only[eT];rw[if_neg (by omega),if_neg (by omega)]
  .simp only[eT,fI];split
   .rfl
   .exact ih
theorem dJ{J:SK}{l i:Nat}{b:aG}:(bj J l i b).length=J.length:=by
 unfold bj;split
 .exact fI
 .rfl
theorem nK{J:SK}{l i:Nat}{b b0:aG}(h:ea J l i=some b0):ea (bj J l i b) l i=some b:=by
 unfold ea at h;cases hs:eT J l with
 |none=>simp[hs]at h
 |some s =>
  simp only[hs,Option.bind_some]at h;have hi:i<s.length:=(aC.1 h).1;simp only[bj,hs,ea,ti (CK hs),Option.bind_some];simp[hi]
theorem eD{J:SK}{l i l' i':Nat}{b:aG}(h:¬(l'=l/\i'=i)):ea (bj J l i b) l' i'=ea J l' i':=by
 unfold bj;cases hs:eT J l with
 |none=>rfl
 |some s =>
  simp only[ea];by_cases hl:l'=l
  .subst hl;rw[ti (CK hs),hs];simp only[Option.bind_some];rw[List.getElem?_set_ne];intro e;exact h ⟨rfl,e.symm⟩
  .rw[Hn hl]
theorem jL{J J':SK}{b:aG}{l i:Nat}(h:fQ J b=some (l,i,J')):
  ea J l i=none/\ea J' l i=some b/\(∀l' i',¬(l'=l/\i'=i)->ea J' l' i'=ea J l' i')/\J'.length=J.length/\l+1=J.length:=by
 cases J with
 |nil=>simp[fQ]at h
 |cons s J =>
  simp only[fQ,ae,ar]at h;obtain⟨rfl,rfl,rfl⟩:=h;refine⟨by simp[ea,eT],by simp[ea,eT],?_,rfl,rfl⟩;intro l' i' hn;simp only[ea,eT];split
  .rename_i e;simp only[Option.bind_some];rw[List.getElem?_append];split
   .rfl
   .rename_i hlt;have:i'≠s.length:=λe'=>hn ⟨e.symm,e'⟩
    rw[dN (by simp;omega),dN (by omega)]
  .rfl
end stack
theorem I3.mono{CR:fg}{g g':G}{w w':World}{b:aG}{L:Loc}(h:I3 CR g w b L)(hg:g.le g')
  (hw:∀x,L.owns x->w'.heap[x]?=w.heap[x]?):I3 CR g' w' b L:=by
 cases b with
 |cells v cs =>
  cases L with
  |«at» x off v' sz =>
   obtain⟨rfl,c,el,hb,hsz,hlen,vs,hr,hv⟩:=h;exact⟨rfl,c,el,(hw x rfl).trans hb,hsz,hlen,vs,hr.mono hg,hv⟩
  |oD v'=>exact h
  |dead=>exact h
  |lp x=>exact h
  |mp x =>
   obtain⟨hv,dK,clock,hb,hr,hm⟩:=h;exact⟨hv,dK,clock,(hw x rfl).trans hb,hr.mono hg,hm⟩
  |it x =>
   obtain⟨hv,l,i,bm,n,js,h1,h2,h3,h4⟩:=h;obtain⟨L',e',hl⟩:=hg.loc l i _ h2;exact⟨hv,l,i,bm,n,js,h1,by rw[e',show L'=.mp bm from hl],(hw x rfl).trans h3,h4⟩
  |ob x y =>
   obtain⟨hv,T,e,bs,p,s,h1,h2,h3,h4,h5,h6⟩:=h;refine⟨hv,T,e,bs,p,s,h1,(hw x (.inl rfl)).trans h2,h3,⟨h4.1,h4.2.imp id λ⟨q,cap,cur,fz,k1,k2,k3,k4⟩=>⟨q,cap,cur,fz,k1,k2,(hw q (.inr ?_)).trans k3,k4⟩⟩,h5,h6⟩;rw[<- h5,k1];rfl
 |dead=>cases L<;>exact h
 |loop lp =>
  cases L with
  |lp x =>
   obtain⟨r,hb,hr⟩:=h;exact⟨r,(hw x rfl).trans hb,{hr with env:=hr.env.mono hg }⟩
  |«at» x off v' sz=>exact h
  |oD v'=>exact h
  |dead=>exact h
  |mp x=>exact h
  |it x=>exact h
  |ob x y=>exact h
theorem Inv.Hq{CR:fg}{base:Nat}{g g':G}{J J':SK}{w w':World}(hi:Inv CR base g J w)(l i:Nat)
  (hle:g.le g')
  (hJ:∀l' i',¬(l'=l/\i'=i)->ea J' l' i'=ea J l' i')
  (hloc:∀l' i',¬(l'=l/\i'=i)->g'.loc l' i'=g.loc l' i')
  (hw:∀l' i' L b,¬(l'=l/\i'=i)->g.loc l' i'=some L->L.owns b->w'.heap[b]?=w.heap[b]?)
  (hnew:∀L,g'.loc l i=some L->∃b,ea J' l i=some b/\I3 CR g' w' b L)
  (himm:∀b o v,g'.n8 b o=some v->w'.cell? ⟨b,o,none⟩=some v/\v.oneCell'=true)
  (hsep:∀l' i' L b,g'.loc l' i'=some L->L.owns b->∀o,g'.n8 b o=none)
  (hinj:∀L b,g'.loc l i=some L->L.owns b->base<=b/\b<w'.heap.size/\∀l' i' L',¬(l'=l/\i'=i)->g.loc l' i'=some L'->¬L'.owns b)
  (hsize:w.heap.size<=w'.heap.size) (htot:∃L,g'.loc l i=some L) (hlow:∀b v,g.n8 b 0=some v->w'.heap[b]?=w.heap[b]?):Inv CR base g' J' w' where
 Nu b Q h:=let ⟨⟨v,hb⟩,o,ho,hq⟩:=hi.Nu b Q h;⟨⟨v,hle.n8 _ _ _ hb⟩,o,(hlow b v hb).trans ho,hq⟩
 TO l' i' b e:=by
  by_cases h:l'=l/\i'=i
  .obtain⟨rfl,rfl⟩:=h;exact htot
  .rw[hJ l' i' h]at e;rw[hloc l' i' h];exact hi.TO l' i' b e
 ge:=jn hi.ge hsize
 xE l' i' L e:=by
  by_cases h:l'=l/\i'=i
  .obtain⟨rfl,rfl⟩:=h;exact hnew L e
  .rw[hloc l' i' h]at e;obtain⟨b,hb,hr⟩:=hi.xE l' i' L e;exact⟨b,(hJ l' i' h).trans hb,hr.mono hle λx hx=>hw l' i' L x h e hx⟩
 n8:=himm
 sep:=hsep
 inj l1 i1 L1 l2 i2 L2 b h1 h2 e1 e2:=by
  by_cases c1:l1=l/\i1=i
  .obtain⟨rfl,rfl⟩:=c1;by_cases c2:l2=l1/\i2=i1
   .exact⟨c2.1.symm,c2.2.symm⟩
   .rw[hloc l2 i2 c2]at h2;exact absurd e2 ((hinj L1 b h1 e1).2.2 l2 i2 L2 c2 h2)
  .rw[hloc l1 i1 c1]at h1;by_cases c2:l2=l/\i2=i
   .obtain⟨rfl,rfl⟩:=c2;exact absurd e1 ((hinj L2 b h2 e2).2.2 l1 i1 L1 c1 h1)
   .rw[hloc l2 i2 c2]at h2;exact hi.inj _ _ _ _ _ _ b h1 h2 e1 e2
 lo l' i' L b e eb:=by
  by_cases h:l'=l/\i'=i
  .obtain⟨rfl,rfl⟩:=h;exact⟨(hinj L b e eb).1,(hinj L b e eb).2.1⟩
  .rw[hloc l' i' h]at e;have:=hi.lo l' i' L b e eb;exact⟨this.1,by omega⟩
theorem ij{w w':World}{b o:Nat}(h:w'.heap[b]?=w.heap[b]?):w'.cell? ⟨b,o,none⟩=w.cell? ⟨b,o,none⟩:=by
 simp only[World.cell?,h]
theorem Inv.heap{CR:fg}{base:Nat}{g:G}{J:SK}{w w1:World}(hi:Inv CR base g J w)(h:w1.heap=w.heap):Inv CR base g J w1 where
 ge:=by rw[h];exact hi.ge
 xE l i L e:=let ⟨b,hb,hr⟩:=hi.xE l i L e;⟨b,hb,hr.mono g.le_refl λx _=>by rw[h]⟩
 n8 b o v e:=let ⟨h1,h2⟩:=hi.n8 b o v e;⟨(ij (by rw[h])).trans h1,h2⟩
 sep:=hi.sep
 inj:=hi.inj
 TO:=hi.TO
 Nu:=by rw[h];exact hi.Nu
 lo l i L b e eb:=by rw[h];exact hi.lo l i L b e eb
theorem Ev.heap(g:G){w w1:World}(h:w1.heap=w.heap)(ho:w1.os=w.os)(ht:w1.tape=w.tape)(hp:w1.output=w.output):Ev g w g w1 :=
 ⟨g.le_refl,ho,ht,hp,by rw[h];exact aN _,λb _ _=>by rw[h],λb hb => .inl hb,λb o v hv => .inl hv⟩
theorem Inv.jg{CR:fg}{base:Nat}{g:G}{J:SK}{w:World}(hi:Inv CR base g J w){b o:Nat}{v:Value}(h:g.n8 b o=some v):b<w.heap.size :=
 World.block_lt_of_cell? (a:=⟨b,o,none⟩) w (hi.n8 b o v h).1
theorem Inv.Xo{CR:fg}{base:Nat}{g:G}{J:SK}{w:World}(hi:Inv CR base g J w){b:Nat}(h:g.has b):b<w.heap.size :=
 let ⟨l,i,L,e,eb⟩:=h;(hi.lo l i L b e eb).2
def G.jv(g:G)(x:Nat)(vs:List Value):G:=⟨g.loc,λb o=>if b=x then vs[o]? else g.n8 b o⟩
theorem alloc_old{w:World}{o:Obj}{b:Nat}(h:b<w.heap.size):(w.alloc o).heap[b]?=w.heap[b]?:=by
 simp only[World.alloc,Array.getElem?_push];rw[if_neg (by omega)]
theorem sX{w:World}{o:Obj}:(w.alloc o).heap[w.heap.size]?=some o:=by
 simp only[World.alloc,Array.getElem?_push_size]
theorem Inv.H0{CR:fg}{base:Nat}{g:G}{J:SK}{w:World}(hi:Inv CR base g J w)(vs:List Value)(cs:Array Value)(el:TypeId)
  (hcs:∀(j:Nat) x,vs[j]?=some x->cs[j]?=some x/\x.oneCell'=true):
  Inv CR base (g.jv w.heap.size vs) J (w.alloc (.cells cs el))/\Ev g w (g.jv w.heap.size vs) (w.alloc (.cells cs el))/\(g.jv w.heap.size vs).row w.heap.size 0 vs:=by
 have hle:g.le (g.jv w.heap.size vs):=⟨λl i L e=>⟨L,e,L.le_refl⟩,λb o v e=>by
  have:=hi.jg e;simp only[G.jv];rw[if_neg (by omega)];exact e⟩
 refine⟨⟨?_,?_,?_,?_,hi.inj,?_,hi.TO,λb Q h=>let ⟨⟨v,hb⟩,o,ho,hq⟩:=hi.Nu b Q h;⟨⟨v,hle.n8 _ _ _ hb⟩,o,(alloc_old (hi.jg hb)).trans ho,hq⟩⟩,⟨hle,rfl,rfl,rfl,by simp,λb hb _=>alloc_old hb,λb hb => .inl hb,?_⟩,?_⟩
 .have:=hi.ge;simp;omega
 .intro l i L e;obtain⟨b,hb,hr⟩:=hi.xE l i L e;exact⟨b,hb,hr.mono hle λx hx=>alloc_old (hi.lo l i L x e hx).2⟩
 .intro b o v e;simp only[G.jv]at e;split at e
  .rename_i hb;subst hb;obtain⟨h1,h2⟩:=hcs o v e;exact⟨by rw[World.cell?_alloc_new];exact h1,h2⟩
  .obtain⟨h1,h2⟩:=hi.n8 b o v e;exact⟨(ij (alloc_old (hi.jg e))).trans h1,h2⟩
 .intro l i L b e eb o;have:=(hi.lo l i L b e eb).2;simp only[G.jv];rw[if_neg (by omega)];exact hi.sep l i L b e eb o
 .intro l i L b e eb;have:=hi.lo l i L b e eb;exact⟨this.1,by simp;omega⟩
 .intro b o v hv;simp only[G.jv]at hv;split at hv
  .rename_i hb;exact .inr (.inr (by omega))
  .exact .inl hv
 .intro j v hv;simp[G.jv,hv]
def G.cT(g:G)(l i:Nat)(L:Loc):G:=⟨λl' i'=>if l'=l/\i'=i then some L else g.loc l' i',g.n8⟩
theorem G.aL{g:G}{l i:Nat}{L:Loc}:(g.cT l i L).loc l i=some L:=by simp[G.cT]
theorem G.bK{g:G}{l i l' i':Nat}{L:Loc}(h:¬(l'=l/\i'=i)):(g.cT l i L).loc l' i'=g.loc l' i':=by simp only[G.cT];rw[if_neg h]
theorem G.jQ{g:G}{l i:Nat}{L:Loc}(h:∀L0,g.loc l i=some L0->L0.le L):g.le (g.cT l i L) :=
 ⟨λl' i' L' e=>by
  by_cases c:l'=l/\i'=i
  .obtain⟨rfl,rfl⟩:=c;exact⟨L,G.aL,h L' e⟩
  .exact⟨L',by rw[G.bK c];exact e,L'.le_refl⟩,λ_ _ _ e=>e⟩
theorem Inv.EG{CR:fg}{base:Nat}{g:G}{J:SK}{w:World}(hi:Inv CR base g J w){l i:Nat}(h:ea J l i=none):g.loc l i=none:=by
 cases e:g.loc l i with
 |none=>rfl
 |some L=>obtain⟨b,hb,_⟩:=hi.xE l i L e;rw[h]at hb;cases hb
theorem Inv.BL{CR:fg}{base:Nat}{g:G}{J J':SK}{w:World}(hi:Inv CR base g J w){l i:Nat}{ds:List D}(hn:fQ J (.cells 0 ds)=some (l,i,J'))
  (vs:List Value) (cs:Array Value) (el:TypeId) (hr:bN g ds vs) (hlen:vs.length<=cs.size)
  (hcs:∀(j:Nat) x,vs[j]?=some x->cs[j]?=some x/\x.oneCell'=true):
  Inv CR base (g.cT l i (.at w.heap.size 0 0 cs.size)) J' (w.alloc (.cells cs el))/\Ev g w (g.cT l i (.at w.heap.size 0 0 cs.size)) (w.alloc (.cells cs el)):=by
 obtain⟨h1,h2,h3,_,_⟩:=jL hn;have hnone:=hi.EG h1;have hle:g.le (g.cT l i (.at w.heap.size 0 0 cs.size)):=G.jQ λL0 e=>by rw[hnone]at e;cases e
 refine⟨hi.Hq l i hle h3 (λl' i' c=>G.bK c) (λl' i' L b c e eb=>alloc_old (hi.lo l' i' L b e eb).2) ?_ ?_ ?_ ?_ (by simp) ⟨_,G.aL⟩ (λb v hb=>alloc_old (hi.jg hb)),⟨hle,rfl,rfl,rfl,by simp,λb hb _=>alloc_old hb,?_,λb o v hv => .inl hv⟩⟩
 .intro L e;rw[G.aL]at e;cases e;exact⟨_,h2,rfl,cs,el,sX,rfl,by rw[hr.length];omega,vs,hr.mono hle,λj x hx=>by simpa using hcs j x hx⟩
 .intro b o v e;obtain⟨h1,h2⟩:=hi.n8 b o v e;exact⟨(ij (alloc_old (hi.jg e))).trans h1,h2⟩
 .intro l' i' L b e eb o;by_cases c:l'=l/\i'=i
  .obtain⟨rfl,rfl⟩:=c;rw[G.aL]at e;cases e;cases eb;cases e':(g.cT l' i' (.at w.heap.size 0 0 cs.size)).n8 w.heap.size o with
   |none=>rfl
   |some v=>have:=hi.jg (b:=w.heap.size) (o:=o) (v:=v) e';omega
  .rw[G.bK c]at e;exact hi.sep l' i' L b e eb o
 .intro L b e eb;rw[G.aL]at e;cases e;cases eb;refine⟨hi.ge,by simp,λl' i' L' c e' eb'=>?_⟩;have:=(hi.lo l' i' L' _ e' eb').2;omega
 .intro b hb;obtain⟨l',i',L,e,eb⟩:=hb;by_cases c:l'=l/\i'=i
  .obtain⟨rfl,rfl⟩:=c;rw[G.aL]at e;cases e;cases eb;exact .inr (aN _)
  .rw[G.bK c]at e;exact .inl ⟨l',i',L,e,eb⟩
theorem Inv.Tn{CR:fg}{base:Nat}{g:G}{J J':SK}{w:World}(hi:Inv CR base g J w){l i:Nat}(hn:fQ J (.cells 0 [])=some (l,i,J')):
  Inv CR base (g.cT l i (.oD 0)) J' w/\Ev g w (g.cT l i (.oD 0)) w:=by
 obtain⟨h1,h2,h3,_,_⟩:=jL hn;have hnone:=hi.EG h1;have hle:g.le (g.cT l i (.oD 0)):=G.jQ λL0 e=>by rw[hnone]at e;cases e
 refine⟨hi.Hq l i hle h3 (λl' i' c=>G.bK c) (λ_ _ _ _ _ _ _=>rfl) ?_ hi.n8 ?_ ?_ (aN _) ⟨_,G.aL⟩ (λ_ _ _=>rfl),⟨hle,rfl,rfl,rfl,aN _,λ_ _ _=>rfl,?_,λb o v hv => .inl hv⟩⟩
 .intro L e;rw[G.aL]at e;cases e;exact⟨_,h2,rfl,rfl⟩
 .intro l' i' L b e eb o;by_cases c:l'=l/\i'=i
  .obtain⟨rfl,rfl⟩:=c;rw[G.aL]at e;cases e;cases eb
  .rw[G.bK c]at e;exact hi.sep l' i' L b e eb o
 .intro L b e eb;rw[G.aL]at e;cases e;cases eb
 .intro b hb;obtain⟨l',i',L,e,eb⟩:=hb;by_cases c:l'=l/\i'=i
  .obtain⟨rfl,rfl⟩:=c;rw[G.aL]at e;cases e;cases eb
  .rw[G.bK c]at e;exact .inl ⟨l',i',L,e,eb⟩
theorem Inv.setCells{CR:fg}{base:Nat}{g:G}{J:SK}{w w':World}(hi:Inv CR base g J w){l i:Nat}{L0 L:Loc}{b0:aG}{v:Nat}{ds:List D}
  (h0:g.loc l i=some L0) (hb0:ea J l i=some b0) (hL:L0.le L)
  (hrel:I3 CR (g.cT l i L) w' (.cells v ds) L)
  (hkept:∀b,b<w.heap.size->¬L0.owns b->w'.heap[b]?=w.heap[b]?)
  (hos:w'.os=w.os) (htape:w'.tape=w.tape) (hout:w'.output=w.output)
  (hsize:w.heap.size<=w'.heap.size)
  (hblk:∀b,L.owns b->(L0.owns b\/(w.heap.size<=b/\b<w'.heap.size))):
  Inv CR base (g.cT l i L) (bj J l i (.cells v ds)) w'/\Ev g w (g.cT l i L) w':=by
 have hle:g.le (g.cT l i L):=G.jQ λL1 e=>by rw[h0]at e;cases e;exact hL
 refine⟨hi.Hq l i hle (λl' i' c=>eD c) (λl' i' c=>G.bK c) ?_ ?_ ?_ ?_ ?_ hsize ⟨_,G.aL⟩ (λb v hb=>hkept b (World.block_lt_of_cell? (a:=⟨b,0,none⟩) w (hi.n8 b 0 v hb).1) λeb0=>by have h:=hi.sep l i L0 b h0 eb0 0;rw[hb]at h;cases h),⟨hle,hos,htape,hout,hsize,?_,?_,λb o v hv => .inl hv⟩⟩
 .intro l' i' L' b c e eb;refine hkept b (hi.lo l' i' L' b e eb).2 λeb0=>c ?_
  have:=hi.inj l' i' L' l i L0 b e h0 eb eb0;exact this
 .intro L1 e;rw[G.aL]at e;cases e;exact⟨_,nK hb0,hrel⟩
 .intro b o x e;obtain⟨h1,h2⟩:=hi.n8 b o x e;refine⟨(ij (hkept b (hi.jg e) λeb0=>?_)).trans h1,h2⟩;have:=hi.sep l i L0 b h0 eb0 o;rw[show g.n8 b o=some x from e]at this;cases this
 .intro l' i' L' b e eb o;by_cases c:l'=l/\i'=i
  .obtain⟨rfl,rfl⟩:=c;rw[G.aL]at e;cases e;rcases hblk b eb with h | ⟨h,_⟩
   .exact hi.sep _ _ L0 b h0 h o
   .cases e':(g.cT l' i' L).n8 b o with
    |none=>rfl
    |some v=>have:=hi.jg (b:=b) (o:=o) (v:=v) e';omega
  .rw[G.bK c]at e;exact hi.sep l' i' L' b e eb o
 .intro L1 b e eb;rw[G.aL]at e;cases e;rcases hblk b eb with h | ⟨h,h'⟩
  .have:=hi.lo l i L0 b h0 h;refine⟨this.1,by omega,λl' i' L' c e' eb'=>c ?_⟩;exact hi.inj l' i' L' l i L0 b e' h0 eb' h
  .exact⟨jn hi.ge h,h',λl' i' L' c e' eb'=>by have:=(hi.lo l' i' L' b e' eb').2;omega⟩
 .intro b hb hn;exact hkept b hb λe=>hn ⟨l,i,L0,h0,e⟩
 .intro b hb;obtain⟨l',i',L',e,eb⟩:=hb;by_cases c:l'=l/\i'=i
  .obtain⟨rfl,rfl⟩:=c;rw[G.aL]at e;cases e;rcases hblk b eb with h | ⟨h,_⟩
   .exact .inl ⟨_,_,L0,h0,h⟩
   .exact .inr h
  .rw[G.bK c]at e;exact .inl ⟨l',i',L',e,eb⟩
theorem HO{l n:Nat}:∀{ds:List D} {J:SK},D.bf ds=true->cI.frzL (cI l (n+1)) ds J=(ds,J)
 |[],J,h=>rfl
 |d::ds,J,h=>by
  simp only[D.bf,af]at h;have h1:cI l (n+1) d J=(d,J):=by cases d<;>simp[cI,h.1]
  simp only[cI.frzL,h1,HO h.2]
theorem TI{e:Env}{J:SK}{os:List Nat}{sz:Nat}{X Y:bP}{r:D×SK}(h:bS e J (.Vb os sz X Y)=some r):bS e J (.st [] sz X Y)=some r:=by
 simp only[bS]at h ⊢;cases hx:bB e X<;>rw[hx]at h<;>try (cases h;done)
 dsimp only at h ⊢;split at h
 case isFalse=>cases h
 split at h
 case h_2=>cases h
 rename_i cs hcs;split at h
 case h_2=>cases h
 rename_i p hp;split at h
 case isFalse=>cases h
 rename_i hc
 try simp only[hcs]
 try simp only[hp]
 try dsimp only
 rw[if_pos ⟨hc.1,hc.2.1⟩];split
 .simpa[kh]using h
 .rename_i hn;rw[show deep=15+1 from rfl,HO (hc.2.2.resolve_right hn)];exact h
end Go.Abs
