import Derived.Test.YtanhdobabijmoaaGreatDoorBase0
import Derived.AtR
import Derived.Laws.Cells
import Derived.Laws.World
import Derived.Lib.FrozenHead
set_option linter.all false
namespace Go.aA
open Go
inductive Loc where
 |dead
 |qG (v:Nat)
 |at(dr off v sz:Nat)
 |lp (dr:Nat)
 |mp (dr:Nat)
 |it (dr:Nat)
 |ob (dr:Nat) (buf:Option Nat)
def Loc.QY:Loc->Nat->Prop
 |.dead,_=>True
 |.qG v',v=>v<=v'
 |.at _ _ v' _,v=>v<=v'
 |.lp _,_=>False
 |.mp _,_=>False
 |.it _,_=>False
 |.ob ..,_=>False
def Loc.owns:Loc->Nat->Prop
 |.at b _ _ _,x=>b=x
 |.lp b,x=>b=x
 |.mp b,x=>b=x
 |.it b,x=>b=x
 |.ob b c,x=>b=x\/c=some x
 |_,_=>False
structure G where
 loc:Nat->Nat->Option Loc
 pM:Nat->Nat->Option Value
def G.row(g:G)(b o:Nat)(vs:List Value):Prop:=∀j v,vs[j]?=some v->g.pM b (o+j)=some v
mutual
inductive bH (g:G):D->Value->Prop
 |undef (c:Value):bH g .undef c
 |bool (b:Bool):bH g (.bool b) (.bool b)
 |int (k:IntKind) (n:Int):bH g (.int k n) (.int k n)
 |str (s:ByteArray):bH g (.str s.data.toList) (.string s)
 |agg (ds:List D) (cs:Array Value):bF g ds cs.toList->(∀c∈cs.toList,c.oneCell'=true)->bH g (.agg ds) (.agg cs)
 |db (ds:List D) (cs:Array Value):bF g ds cs.toList->bH g (.db ds) (.tuple cs)
 |xU:bH g .xU (.pointer none)
 |ref (l i v off b o:Nat) (L:Loc):g.loc l i=some L->L.QY v ->
   (∀dr bo sz,L=.at dr bo v sz->b=dr/\o=bo+off)->L ≠ .qG v->bH g (.ref l i v off) (.pointer (some ⟨b,o,none⟩))
 |bq (ds:List D) (b o:Nat) (vs:List Value):g.row b o vs->bF g ds vs->bH g (.bq ds) (.pointer (some ⟨b,o,none⟩))
 |bP:bH g .bP (.slice none 0 0)
 |Aq:bH g (.aJ 0 []) (.slice none 0 0)
 |aJ (n:Nat) (ds:List D) (a:Addr) (cap:Nat) (vs:List Value):n<=cap->g.row a.block a.off vs->(n≠0->a.spot=none)->bF g ds vs ->
   bH g (.aJ n ds) (.slice (some a) n cap)
 |sl (l i v off n w:Nat) (a:Option Addr) (cap:Nat) (L:Loc):g.loc l i=some L->L.QY v->(n<=cap/\cap<9223372036854775808)->(a=none->cap=0)->(∀x,a=some x->n≠0->x.spot=none) ->
   (∀dr bo sz,L=.at dr bo v sz->(a=some ⟨dr,bo+off,none⟩/\bo+off+cap*w<=sz)\/cap=0) ->
   (L=.qG v->a=none)->bH g (.sl l i v off n w) (.slice a n cap)
 |fn (f:Nat) (fs cs:List D) (fs' cs':Array Value):bF g fs fs'.toList->bF g cs cs'.toList->bH g (.fn f fs cs) (.func (.func f) fs' cs')
 |se:bH g .se .nilFunc
 |jm (l i b:Nat):g.loc l i=some (.lp b)->bH g (.jm l i) (.func (.yield b) #[] #[])
 |QP (l i b:Nat):g.loc l i=some (.mp b)->bH g (.jm l i) (.map (some b))
 |Uv (l i b:Nat) (L:Loc):g.loc l i=some L->(L=.it b\/L=.dead)->bH g (.jm l i) (.pointer (some ⟨b,0,none⟩))
 |RG (l i b:Nat) (L:Loc):g.loc l i=some L->((∃c,L=.ob b c)\/L=.dead)->bH g (.jm l i) (.pointer (some ⟨b,0,none⟩))
 |va (t:Nat) (d:D) (c:Value):bH g d c->bH g (.va t d) (.iface t c)
 |oI:bH g .oI .nilIface
inductive bF (g:G):List D->List Value->Prop
 |nil:bF g [] []
 |cons (d:D) (c:Value) (ds:List D) (cs:List Value):bH g d c->bF g ds cs->bF g (d::ds) (c::cs)
end
def Loc.le:Loc->Loc->Prop
 |.dead,L=>L=.dead
 |.lp b,L=>L=.lp b
 |.mp b,L=>L=.mp b
 |.it b,L=>L=.it b\/L=.dead
 |.ob b _,L=>(∃c,L=.ob b c)\/L=.dead
 |.qG v,L=>L=.qG v\/L=.dead\/(∃b o v' s,L=.at b o v' s/\v<v')\/∃v',L=.qG v'/\v<v'
 |.at b o v s,L=>L=.at b o v s\/L=.dead\/∃b' o' v' s',L=.at b' o' v' s'/\v<v'
theorem Loc.le_refl(L:Loc):L.le L:=by cases L<;>simp[Loc.le]
theorem Loc.le_trans{a b c:Loc}(h:a.le b)(h':b.le c):a.le c:=by
 cases a with
 |dead=>simp only[Loc.le]at h;subst h;exact h'
 |lp x=>simp only[Loc.le]at h;subst h;exact h'
 |mp x=>simp only[Loc.le]at h;subst h;exact h'
 |it x =>
  simp only[Loc.le]at h;rcases h with rfl | rfl
  .exact h'
  .simp only[Loc.le]at h' ⊢;exact .inr h'
 |ob x y =>
  simp only[Loc.le]at h;rcases h with⟨c,rfl⟩ | rfl
  .exact h'
  .simp only[Loc.le]at h' ⊢;exact .inr h'
 |qG v =>
  simp only[Loc.le]at h;rcases h with rfl | rfl | ⟨b1,o,v',s,rfl,hv⟩ | ⟨v',rfl,hv⟩
  .exact h'
  .simp only[Loc.le]at h' ⊢;exact .inr (.inl h')
  .simp only[Loc.le]at h' ⊢;rcases h' with rfl | rfl | ⟨b2,o2,v2,s2,rfl,hv2⟩
   .exact .inr (.inr (.inl ⟨_,_,_,_,rfl,hv⟩))
   .exact .inr (.inl rfl)
   .exact .inr (.inr (.inl ⟨_,_,_,_,rfl,by omega⟩))
  .simp only[Loc.le]at h' ⊢;rcases h' with rfl | rfl | ⟨b2,o2,v2,s2,rfl,hv2⟩ | ⟨v2,rfl,hv2⟩
   .exact .inr (.inr (.inr ⟨_,rfl,hv⟩))
   .exact .inr (.inl rfl)
   .exact .inr (.inr (.inl ⟨_,_,_,_,rfl,by omega⟩))
   .exact .inr (.inr (.inr ⟨_,rfl,by omega⟩))
 |«at» b1 o v s =>
  simp only[Loc.le]at h;rcases h with rfl | rfl | ⟨b2,o2,v2,s2,rfl,hv⟩
  .exact h'
  .simp only[Loc.le]at h' ⊢;exact .inr (.inl h')
  .simp only[Loc.le]at h' ⊢;rcases h' with rfl | rfl | ⟨b3,o3,v3,s3,rfl,hv3⟩
   .exact .inr (.inr ⟨_,_,_,_,rfl,hv⟩)
   .exact .inr (.inl rfl)
   .exact .inr (.inr ⟨_,_,_,_,rfl,by omega⟩)
theorem Loc.yH{L L':Loc}{v:Nat}(h:L.QY v)(h':L.le L'):L'.QY v:=by
 cases L with
 |dead=>simp only[Loc.le]at h';subst h';trivial
 |lp b=>exact h.elim
 |mp b=>exact h.elim
 |it b=>exact h.elim
 |ob b c=>exact h.elim
 |qG v' =>
  simp only[Loc.le]at h';simp only[Loc.QY]at h;rcases h' with rfl | rfl | ⟨b,o,v',s,rfl,hv⟩ | ⟨v',rfl,hv⟩<;>simp only[Loc.QY]<;>omega
 |«at» b o v' s =>
  simp only[Loc.le]at h';simp only[Loc.QY]at h;rcases h' with rfl | rfl | ⟨b',o',v'',s',rfl,hv⟩<;>simp only[Loc.QY]<;>omega
structure G.le(g g':G):Prop where
 loc:∀l i L,g.loc l i=some L->∃L',g'.loc l i=some L'/\L.le L'
 pM:∀b o v,g.pM b o=some v->g'.pM b o=some v
theorem G.le_refl(g:G):g.le g:=⟨λ_ _ L h=>⟨L,h,L.le_refl⟩,λ_ _ _ h=>h⟩
theorem G.le_trans{a b c:G}(h:a.le b)(h':b.le c):a.le c :=
 ⟨λl i L e=>let ⟨L1,e1,h1⟩:=h.loc l i L e;let ⟨L2,e2,h2⟩:=h'.loc l i L1 e1;⟨L2,e2,Loc.le_trans h1 h2⟩,
  λx o v e=>h'.pM x o v (h.pM x o v e)⟩
theorem G.Gk{g g':G}(h:g.le g'){b o:Nat}{vs:List Value}(hr:g.row b o vs):g'.row b o vs:=λj v e=>h.pM _ _ _ (hr j v e)
theorem Loc.back{L L':Loc}{v:Nat}(h:L.QY v)(h':L.le L'){b o s:Nat}(e:L'=.at b o v s):L=.at b o v s:=by
 subst e;cases L with
 |dead=>simp[Loc.le]at h'
 |lp b=>simp[Loc.le]at h'
 |mp b=>simp[Loc.le]at h'
 |it b=>simp[Loc.le]at h'
 |ob b c=>simp[Loc.le]at h'
 |qG v' =>
  simp only[Loc.le]at h';simp only[Loc.QY]at h;rcases h' with h' | h' | ⟨b,o,v',s,h',hv⟩ | ⟨v',h',hv⟩<;>simp_all
  omega
 |«at» b o v' s =>
  simp only[Loc.le]at h';simp only[Loc.QY]at h;rcases h' with h' | h' | ⟨b',o',v'',s',h',hv⟩<;>simp_all
  omega
theorem Loc.CV{L L':Loc}{v:Nat}(h:L.QY v)(h':L.le L')(e:L'=.qG v):L=.qG v:=by
 subst e;cases L with
 |dead=>simp[Loc.le]at h'
 |lp b=>simp[Loc.le]at h'
 |mp b=>simp[Loc.le]at h'
 |it b=>simp[Loc.le]at h'
 |ob b c=>simp[Loc.le]at h'
 |qG v' =>
  simp only[Loc.le]at h';simp only[Loc.QY]at h;rcases h' with h' | h' | ⟨b,o,v',s,h',hv⟩ | ⟨v',h',hv⟩<;>simp_all
  omega
 |«at» b o v' s=>simp[Loc.le]at h'
mutual
theorem bH.mono{g g':G}(h:g.le g'):∀{d:D} {c:Value},bH g d c->bH g' d c
 |_,_,.undef c => .undef c
 |_,_,.bool b => .bool b
 |_,_,.int k n => .int k n
 |_,_,.str s => .str s
 |_,_,.agg ds cs hr h1 => .agg ds cs (bF.mono h hr) h1
 |_,_,.db ds cs hr => .db ds cs (bF.mono h hr)
 |_,_,.xU => .xU
 |_,_,.ref l i v off b o L e hv hc hn =>
  let ⟨L',e',hl⟩:=h.loc l i L e
  .ref l i v off b o L' e' (Loc.yH hv hl) (λdr bo sz eq=>hc dr bo sz (Loc.back hv hl eq)) (λeq=>hn (Loc.CV hv hl eq))
 |_,_,.bq ds b o vs hr hl => .bq ds b o vs (G.Gk h hr) (bF.mono h hl)
 |_,_,.bP => .bP
 |_,_,.Aq => .Aq
 |_,_,.aJ n ds a cap vs hn hr hs hl => .aJ n ds a cap vs hn (G.Gk h hr) hs (bF.mono h hl)
 |_,_,.sl l i v off n w a cap L e hv hn ha hs hc hc' =>
  let ⟨L',e',hl⟩:=h.loc l i L e
  .sl l i v off n w a cap L' e' (Loc.yH hv hl) hn ha hs (λdr bo sz eq=>hc dr bo sz (Loc.back hv hl eq)) (λeq=>hc' (Loc.CV hv hl eq))
 |_,_,.fn f fs cs fs' cs' h1 h2 => .fn f fs cs fs' cs' (bF.mono h h1) (bF.mono h h2)
 |_,_,.se => .se
 |_,_,.jm l i b e =>
  let ⟨L',e',hl⟩:=h.loc l i _ e
  .jm l i b (by rw[e',show L'=.lp b from hl])
 |_,_,.QP l i b e =>
  let ⟨L',e',hl⟩:=h.loc l i _ e
  .QP l i b (by rw[e',show L'=.mp b from hl])
 |_,_,.Uv l i b L e hc =>
  let ⟨L',e',hl⟩:=h.loc l i L e
  .Uv l i b L' e' (by
   rcases hc with rfl | rfl
   .exact hl
   .exact .inr hl)
 |_,_,.RG l i b L e hc =>
  let ⟨L',e',hl⟩:=h.loc l i L e
  .RG l i b L' e' (by
   rcases hc with⟨c,rfl⟩ | rfl
   .exact hl
   .exact .inr hl)
 |_,_,.va t d c h1 => .va t d c (bH.mono h h1)
 |_,_,.oI => .oI
theorem bF.mono{g g':G}(h:g.le g'):∀{ds:List D} {cs:List Value},bF g ds cs->bF g' ds cs
 |_,_,.nil => .nil
 |_,_,.cons d c ds cs h1 h2 => .cons d c ds cs (bH.mono h h1) (bF.mono h h2)
end
section lists
variable {g:G}
theorem bF.length{ds:List D}{cs:List Value}(h:bF g ds cs):ds.length=cs.length:=by
 induction ds generalizing cs with
 |nil=>cases h;rfl
 |cons d ds ih=>cases h with | cons _ c _ cs h1 h2=>simp[ih h2]
theorem bF.get{ds:List D}{cs:List Value}(h:bF g ds cs){j:Nat}{d:D}(e:ds[j]?=some d):∃c,cs[j]?=some c/\bH g d c:=by
 induction ds generalizing cs j with
 |nil=>simp at e
 |cons d0 ds ih =>
  cases h with
  |cons _ c _ cs h1 h2 =>
   cases j with
   |zero=>simp at e;subst e;exact⟨c,rfl,h1⟩
   |succ j=>exact ih h2 (by simpa using e)
theorem bF.append{a b:List D}{x y:List Value}(h:bF g a x)(h':bF g b y):bF g (a++b) (x++y):=by
 induction a generalizing x with
 |nil=>cases h;exact h'
 |cons d a ih=>cases h with | cons _ c _ cs h1 h2=>exact .cons _ _ _ _ h1 (ih h2)
theorem bF.take{a:List D}{x:List Value}(h:bF g a x)(n:Nat):bF g (a.take n) (x.take n):=by
 induction a generalizing x n with
 |nil=>cases h;simpa using bF.nil
 |cons d a ih =>
  cases h with
  |cons _ c _ cs h1 h2 =>
   cases n with
   |zero=>exact .nil
   |succ n=>exact .cons _ _ _ _ h1 (ih h2 n)
theorem bF.drop{a:List D}{x:List Value}(h:bF g a x)(n:Nat):bF g (a.drop n) (x.drop n):=by
 induction a generalizing x n with
 |nil=>cases h;simpa using bF.nil
 |cons d a ih =>
  cases h with
  |cons _ c _ cs h1 h2 =>
   cases n with
   |zero=>exact .cons _ _ _ _ h1 h2
   |succ n=>exact ih h2 n
theorem bF.aaQ{ds:List D}{cs:List Value}(hl:ds.length=cs.length)(h:∀(j:Nat) (d:D) (c:Value),ds[j]?=some d->cs[j]?=some c->bH g d c):bF g ds cs:=by
 induction ds generalizing cs with
 |nil=>cases cs with
  |nil=>exact .nil
  |cons c cs=>simp at hl
 |cons d ds ih =>
  cases cs with
  |nil=>simp at hl
  |cons c cs =>
   exact .cons _ _ _ _ (h 0 d c rfl rfl) (ih (by simpa using hl) λj d' c' e e'=>h (j+1) d' c' (by simpa using e) (by simpa using e'))
theorem bH.cells{d:D}{c:Value}(h:bH g d c){ds:List D}(e:d.cells=some ds):bF g ds c.cells.toList/\∀x∈c.cells.toList,x.oneCell'=true:=by
 have h0:=h;cases h with
 |agg ds' cs hr h1=>simp only[D.cells,ad]at e;subst e;exact⟨hr,h1⟩
 |undef c=>simp[D.cells]at e
 |db=>simp[D.cells]at e
 |_=>simp only[D.cells,ad]at e;subst e;exact⟨.cons _ _ _ _ h0 .nil,by simp[Value.cells,Value.oneCell']⟩
end lists
def zL(g:G)(e:Env)(tmps:Array Value):Prop:=∀t,bH g (get e t) (tmps.getD t Go.undef)
theorem zL.mono{g g':G}(h:g.le g'){e:Env}{tmps:Array Value}(hr:zL g e tmps):zL g' e tmps:=λt=>(hr t).mono h
structure eP where
 rel:cc->Code->Nat->Prop
 LC:Nat->(Obj->Prop)->Prop
def agS:Nat->LoopState
 |0 => .ready
 |1 => .busy
 |2 => .done
 |_ => .exhausted
def CH:Option Exit->Option (Option Code)
 |none=>some none
 |some (.exit id)=>some (some (.exit id))
 |some .ret=>some (some .ret)
 |some .normal=>none
 |some (.fp _)=>none
structure AN(CR:eP)(g:G)(lp:xZ)(r:Loop):Prop where
 state:r.state=agS lp.state
 yJ:CH lp.yJ=some r.pending
 env:zL g lp.env r.tmps
 params:r.params.toList=lp.params
 small:∀t∈lp.params,t<r.tmps.size
 both:CR.rel (.ite (.t 0) lp.AY lp.body) (.cond (.tmp 0) r.assign r.body) r.tmps.size
def Qg(es:List MapEntry)(clock:Nat):Prop:=es.map (·.born)=List.range es.length/\clock=es.length
def GX(CR:eP)(g:G)(w:World):aO->Loc->Prop
 |.cells v cs,.at b off v' sz=>v=v'/\∃(c:Array Value) (el:TypeId),w.heap[b]?=some (.cells c el (0,0))/\c.size=sz/\off+cs.length<=sz /\
   ∃vs,bF g cs vs/\(∀j x,vs[j]?=some x->c[off+j]?=some x/\x.oneCell'=true)
 |.cells v cs,.qG v'=>v=v'/\cs=[]
 |.dead,.dead=>True
 |.loop lp,.lp b=>∃r,w.heap[b]?=some (.loop r)/\AN CR g lp r
 |.cells v es,.mp b=>v=0/\∃dn clock,w.heap[b]?=some (.map dn clock)/\bF g es (dn.toList.map λe => .tuple #[e.key,e.val])/\Qg dn.toList clock
 |.cells v cs,.it b=>v=1/\∃l i bm n,∃js:List Nat,cs=.jm l i::.int .i64 (n:Nat)::js.map (λj:Nat=>D.int .i64 j)/\g.loc l i=some (.mp bm) /\
   w.heap[b]?=some (.mapIter (some bm) n js.reverse.toArray n)/\js.Nodup/\∀j∈js,j<n
 |.cells v cs,.ob b c=>v=2/\∃(T e:Nat) (bs:List UInt8) (p s:Value),cs=[.int .i64 T,.int .i64 e,.str bs]/\w.heap[b]?=some (.cells #[p,s] T (0,0)) /\
   (p=.pointer none\/p=.pointer (some ⟨b,0,none⟩))/\w.ownsRowF 0 e 1 s bs.length (bs.map λx => .int .u8 x.toNat)/\s.ownBlock=c/\c≠some b
 |_,_=>False
structure Inv(CR:eP)(base:Nat)(g:G)(J:SK)(w:World):Prop where
 ge:base<=w.heap.size
 xq:∀l i L,g.loc l i=some L->∃b,dG J l i=some b/\GX CR g w b L
 pM:∀b o v,g.pM b o=some v->w.cell? ⟨b,o,none⟩=some v/\v.oneCell'=true
 sep:∀l i L b,g.loc l i=some L->L.owns b->∀o,g.pM b o=none
 inj:∀l i L l' i' L' b,g.loc l i=some L->g.loc l' i'=some L'->L.owns b->L'.owns b->l=l'/\i=i'
 lo:∀l i L b,g.loc l i=some L->L.owns b->base<=b/\b<w.heap.size
 HA:∀l i b,dG J l i=some b->∃L,g.loc l i=some L
 LC:∀b Q,CR.LC b Q->(∃v,g.pM b 0=some v)/\∃o,w.heap[b]?=some o/\Q o
def G.has(g:G)(b:Nat):Prop:=∃l i L,g.loc l i=some L/\L.owns b
structure Ev(g:G)(w:World)(g':G)(w':World):Prop where
 le:g.le g'
 os:w'.os=w.os
 tape:w'.tape=w.tape
 output:w'.output=w.output
 size:w.heap.size<=w'.heap.size
 kept:∀b,b<w.heap.size->¬g.has b->w'.heap[b]?=w.heap[b]?
 SS:∀b,g'.has b->g.has b\/w.heap.size<=b
 JI:∀b o v,g'.pM b o=some v->g.pM b o=some v\/g.has b\/w.heap.size<=b
theorem Ev.refl(g:G)(w:World):Ev g w g w:=⟨g.le_refl,rfl,rfl,rfl,aL _,λ_ _ _=>rfl,λ_ h => .inl h,λ_ _ _ h => .inl h⟩
theorem Ev.trans{g g1 g2:G}{w w1 w2:World}(h:Ev g w g1 w1)(h':Ev g1 w1 g2 w2):Ev g w g2 w2 where
 le:=G.le_trans h.le h'.le
 os:=h'.os.trans h.os
 tape:=h'.tape.trans h.tape
 output:=h'.output.trans h.output
 size:=gz h.size h'.size
 kept b hb hn:=by
  have h1:¬g1.has b:=λhx=>by
   rcases h.SS b hx with hx | hx
   .exact hn hx
   .omega
  rw[h'.kept b (Nat.lt_of_lt_of_le hb h.size) h1,h.kept b hb hn]
 SS b hb:=by
  rcases h'.SS b hb with hx | hx
  .exact h.SS b hx
  .exact .inr (gz h.size hx)
 JI b o v hv:=by
  rcases h'.JI b o v hv with hx | hx | hx
  .exact h.JI b o v hx
  .exact .inr (h.SS b hx)
  .exact .inr (.inr (gz h.size hx))
section stack
theorem By{J:SK}{l:Nat}{s:List aO}(h:fw J l=some s):l<J.length:=by
 induction J with
 |nil=>simp[fw]at h
 |cons s0 J ih =>
  simp only[fw]at h;split at h
  .simp;omega
  .have:=ih h;simp;omega
theorem uo{J:SK}{l:Nat}{s:List aO}(h:l<J.length):fw (gU J l s) l=some s:=by
 induction J with
 |nil=>simp at h
 |cons s0 J ih =>
  simp only[gU];split
  .rename_i e;simp[fw,e]
  .rename_i e;simp only[fw];rw[fJ];rw[if_neg e];exact ih (by simp at h;omega)
where
 fJ {J:SK} {l:Nat} {s:List aO}:(gU J l s).length=J.length:=by
  induction J with
  |nil=>rfl
  |cons s0 J ih=>simp only[gU];split<;>simp[ih]
theorem fJ{J:SK}{l:Nat}{s:List aO}:(gU J l s).length=J.length:=uo.fJ
theorem Fs{J:SK}{l l':Nat}{s:List aO}(h:l'≠l):fw (gU J l s) l'=fw J l':=by
 induction J with
 |nil=>rfl
 |cons s0 J ih =>
  simp only[gU];split
  .rename_i e;simp only[fw];rw[if_neg (by omega),if_neg (by omega)]
  .simp only[fw,fJ];split
   .rfl
   .exact ih
theorem dI{J:SK}{l i:Nat}{b:aO}:(aZ J l i b).length=J.length:=by
 unfold aZ;split
 .exact fJ
 .rfl
theorem oK{J:SK}{l i:Nat}{b b0:aO}(h:dG J l i=some b0):dG (aZ J l i b) l i=some b:=by
 unfold dG at h;cases hs:fw J l with
 |none=>simp[hs]at h
 |some s =>
  simp only[hs,Option.bind_some]at h;have hi:i<s.length:=(ar.1 h).1;simp only[aZ,hs,dG,uo (By hs),Option.bind_some];simp[hi]
theorem ej{J:SK}{l i l' i':Nat}{b:aO}(h:¬(l'=l/\i'=i)):dG (aZ J l i b) l' i'=dG J l' i':=by
 unfold aZ;cases hs:fw J l with
 |none=>rfl
 |some s =>
  simp only[dG];by_cases hl:l'=l
  .subst hl;rw[uo (By hs),hs];simp only[Option.bind_some];rw[List.getElem?_set_ne];intro e;exact h ⟨rfl,e.symm⟩
  .rw[Fs hl]
theorem jI{J J':SK}{b:aO}{l i:Nat}(h:fR J b=some (l,i,J')):
  dG J l i=none/\dG J' l i=some b/\(∀l' i',¬(l'=l/\i'=i)->dG J' l' i'=dG J l' i')/\J'.length=J.length/\l+1=J.length:=by
 cases J with
 |nil=>simp[fR]at h
 |cons s J =>
  simp only[fR,ad,ak]at h;obtain⟨rfl,rfl,rfl⟩:=h;refine⟨by simp[dG,fw],by simp[dG,fw],?_,rfl,rfl⟩;intro l' i' hn;simp only[dG,fw];split
  .rename_i e;simp only[Option.bind_some];rw[List.getElem?_append];split
   .rfl
   .rename_i hlt;have:i'≠s.length:=λe'=>hn ⟨e.symm,e'⟩
    rw[eg (by simp;omega),eg (by omega)]
  .rfl
end stack
theorem GX.mono{CR:eP}{g g':G}{w w':World}{b:aO}{L:Loc}(h:GX CR g w b L)(hg:g.le g')
  (hw:∀x,L.owns x->w'.heap[x]?=w.heap[x]?):GX CR g' w' b L:=by
 cases b with
 |cells v cs =>
  cases L with
  |«at» x off v' sz =>
   obtain⟨rfl,c,el,hb,hsz,hlen,vs,hr,hv⟩:=h;exact⟨rfl,c,el,(hw x rfl).trans hb,hsz,hlen,vs,hr.mono hg,hv⟩
  |qG v'=>exact h
  |dead=>exact h
  |lp x=>exact h
  |mp x =>
   obtain⟨hv,dn,clock,hb,hr,hm⟩:=h;exact⟨hv,dn,clock,(hw x rfl).trans hb,hr.mono hg,hm⟩
  |it x =>
   obtain⟨hv,l,i,bm,n,js,h1,h2,h3,h4⟩:=h;obtain⟨L',e',hl⟩:=hg.loc l i _ h2;exact⟨hv,l,i,bm,n,js,h1,by rw[e',show L'=.mp bm from hl],(hw x rfl).trans h3,h4⟩
  |ob x y =>
   obtain⟨hv,T,e,bs,p,s,h1,h2,h3,h4,h5,h6⟩:=h;refine⟨hv,T,e,bs,p,s,h1,(hw x (.inl rfl)).trans h2,h3,⟨h4.1,h4.2.imp id λ⟨q,cap,cur,fz,k1,k2,k3,k4⟩=>⟨q,cap,cur,fz,k1,k2,(hw q (.inr ?_)).trans k3,k4⟩⟩,h5,h6⟩;rw[<- h5,k1];rfl
 |dead=>cases L<;>exact h
 |loop lp =>
  cases L with
  |lp x =>
   obtain⟨r,hb,hr⟩:=h;exact⟨r,(hw x rfl).trans hb,{hr with env:=hr.env.mono hg }⟩
  |«at» x off v' sz=>exact h
  |qG v'=>exact h
  |dead=>exact h
  |mp x=>exact h
  |it x=>exact h
  |ob x y=>exact h
theorem Inv.FA{CR:eP}{base:Nat}{g g':G}{J J':SK}{w w':World}(hi:Inv CR base g J w)(l i:Nat)
  (hle:g.le g')
  (hJ:∀l' i',¬(l'=l/\i'=i)->dG J' l' i'=dG J l' i')
  (hloc:∀l' i',¬(l'=l/\i'=i)->g'.loc l' i'=g.loc l' i')
  (hw:∀l' i' L b,¬(l'=l/\i'=i)->g.loc l' i'=some L->L.owns b->w'.heap[b]?=w.heap[b]?)
  (hnew:∀L,g'.loc l i=some L->∃b,dG J' l i=some b/\GX CR g' w' b L)
  (himm:∀b o v,g'.pM b o=some v->w'.cell? ⟨b,o,none⟩=some v/\v.oneCell'=true)
  (hsep:∀l' i' L b,g'.loc l' i'=some L->L.owns b->∀o,g'.pM b o=none)
  (hinj:∀L b,g'.loc l i=some L->L.owns b->base<=b/\b<w'.heap.size/\∀l' i' L',¬(l'=l/\i'=i)->g.loc l' i'=some L'->¬L'.owns b)
  (hsize:w.heap.size<=w'.heap.size) (htot:∃L,g'.loc l i=some L) (hlow:∀b v,g.pM b 0=some v->w'.heap[b]?=w.heap[b]?):Inv CR base g' J' w' where
 LC b Q h:=let ⟨⟨v,hb⟩,o,ho,hq⟩:=hi.LC b Q h;⟨⟨v,hle.pM _ _ _ hb⟩,o,(hlow b v hb).trans ho,hq⟩
 HA l' i' b e:=by
  by_cases h:l'=l/\i'=i
  .obtain⟨rfl,rfl⟩:=h;exact htot
  .rw[hJ l' i' h]at e;rw[hloc l' i' h];exact hi.HA l' i' b e
 ge:=gz hi.ge hsize
 xq l' i' L e:=by
  by_cases h:l'=l/\i'=i
  .obtain⟨rfl,rfl⟩:=h;exact hnew L e
  .rw[hloc l' i' h]at e;obtain⟨b,hb,hr⟩:=hi.xq l' i' L e;exact⟨b,(hJ l' i' h).trans hb,hr.mono hle λx hx=>hw l' i' L x h e hx⟩
 pM:=himm
 sep:=hsep
 inj l1 i1 L1 l2 i2 L2 b h1 h2 e1 e2:=by
  by_cases c1:l1=l/\i1=i
  .obtain⟨rfl,rfl⟩:=c1;by_cases c2:l2=l1/\i2=i1
   .exact⟨c2.1.symm,c2.2.symm⟩
   .rw[hloc l2 i2 c2]at h2;exact absurd e2 ((hinj L1 b h1 e1).2.2 l2 i2 L2 c2 h2)
  .rw[hloc l1 i1 c1]at h1;by_cases c2:l2=l/\i2=i
   .obtain⟨rfl,rfl⟩:=c2;exact absurd e1 ((hinj L2 b h2 e2).2.2 l1 i1 L1 c1 h1)
   .rw[hloc l2 i2 c2]at h2;exact hi.inj _ _ _ _ _ _ b h1 h2 e1 e2
 lo l' i' L b e eb:=by
  by_cases h:l'=l/\i'=i
  .obtain⟨rfl,rfl⟩:=h;exact⟨(hinj L b e eb).1,(hinj L b e eb).2.1⟩
  .rw[hloc l' i' h]at e;have:=hi.lo l' i' L b e eb;exact⟨this.1,by omega⟩
theorem iq{w w':World}{b o:Nat}(h:w'.heap[b]?=w.heap[b]?):w'.cell? ⟨b,o,none⟩=w.cell? ⟨b,o,none⟩:=by
 simp only[World.cell?,h]
theorem Inv.heap{CR:eP}{base:Nat}{g:G}{J:SK}{w w1:World}(hi:Inv CR base g J w)(h:w1.heap=w.heap):Inv CR base g J w1 where
 ge:=by rw[h];exact hi.ge
 xq l i L e:=let ⟨b,hb,hr⟩:=hi.xq l i L e;⟨b,hb,hr.mono g.le_refl λx _=>by rw[h]⟩
 pM b o v e:=let ⟨h1,h2⟩:=hi.pM b o v e;⟨(iq (by rw[h])).trans h1,h2⟩
 sep:=hi.sep
 inj:=hi.inj
 HA:=hi.HA
 LC:=by rw[h];exact hi.LC
 lo l i L b e eb:=by rw[h];exact hi.lo l i L b e eb
theorem Ev.heap(g:G){w w1:World}(h:w1.heap=w.heap)(ho:w1.os=w.os)(ht:w1.tape=w.tape)(hp:w1.output=w.output):Ev g w g w1 :=
 ⟨g.le_refl,ho,ht,hp,by rw[h];exact aL _,λb _ _=>by rw[h],λb hb => .inl hb,λb o v hv => .inl hv⟩
theorem Inv.jb{CR:eP}{base:Nat}{g:G}{J:SK}{w:World}(hi:Inv CR base g J w){b o:Nat}{v:Value}(h:g.pM b o=some v):b<w.heap.size :=
 World.block_lt_of_cell? (a:=⟨b,o,none⟩) w (hi.pM b o v h).1
theorem Inv.Un{CR:eP}{base:Nat}{g:G}{J:SK}{w:World}(hi:Inv CR base g J w){b:Nat}(h:g.has b):b<w.heap.size :=
 let ⟨l,i,L,e,eb⟩:=h;(hi.lo l i L b e eb).2
def G.jn(g:G)(x:Nat)(vs:List Value):G:=⟨g.loc,λb o=>if b=x then vs[o]? else g.pM b o⟩
theorem alloc_old{w:World}{o:Obj}{b:Nat}(h:b<w.heap.size):(w.alloc o).heap[b]?=w.heap[b]?:=by
 simp only[World.alloc,Array.getElem?_push];rw[if_neg (by omega)]
theorem ug{w:World}{o:Obj}:(w.alloc o).heap[w.heap.size]?=some o:=by
 simp only[World.alloc,Array.getElem?_push_size]
theorem Inv.Gh{CR:eP}{base:Nat}{g:G}{J:SK}{w:World}(hi:Inv CR base g J w)(vs:List Value)(cs:Array Value)(el:TypeId)
  (hcs:∀(j:Nat) x,vs[j]?=some x->cs[j]?=some x/\x.oneCell'=true):
  Inv CR base (g.jn w.heap.size vs) J (w.alloc (.cells cs el))/\Ev g w (g.jn w.heap.size vs) (w.alloc (.cells cs el))/\(g.jn w.heap.size vs).row w.heap.size 0 vs:=by
 have hle:g.le (g.jn w.heap.size vs):=⟨λl i L e=>⟨L,e,L.le_refl⟩,λb o v e=>by
  have:=hi.jb e;simp only[G.jn];rw[if_neg (by omega)];exact e⟩
 refine⟨⟨?_,?_,?_,?_,hi.inj,?_,hi.HA,λb Q h=>let ⟨⟨v,hb⟩,o,ho,hq⟩:=hi.LC b Q h;⟨⟨v,hle.pM _ _ _ hb⟩,o,(alloc_old (hi.jb hb)).trans ho,hq⟩⟩,⟨hle,rfl,rfl,rfl,by simp,λb hb _=>alloc_old hb,λb hb => .inl hb,?_⟩,?_⟩
 .have:=hi.ge;simp;omega
 .intro l i L e;obtain⟨b,hb,hr⟩:=hi.xq l i L e;exact⟨b,hb,hr.mono hle λx hx=>alloc_old (hi.lo l i L x e hx).2⟩
 .intro b o v e;simp only[G.jn]at e;split at e
  .rename_i hb;subst hb;obtain⟨h1,h2⟩:=hcs o v e;exact⟨by rw[World.cell?_alloc_new];exact h1,h2⟩
  .obtain⟨h1,h2⟩:=hi.pM b o v e;exact⟨(iq (alloc_old (hi.jb e))).trans h1,h2⟩
 .intro l i L b e eb o;have:=(hi.lo l i L b e eb).2;simp only[G.jn];rw[if_neg (by omega)];exact hi.sep l i L b e eb o
 .intro l i L b e eb;have:=hi.lo l i L b e eb;exact⟨this.1,by simp;omega⟩
 .intro b o v hv;simp only[G.jn]at hv;split at hv
  .rename_i hb;exact .inr (.inr (by omega))
  .exact .inl hv
 .intro j v hv;simp[G.jn,hv]
def G.cA(g:G)(l i:Nat)(L:Loc):G:=⟨λl' i'=>if l'=l/\i'=i then some L else g.loc l' i',g.pM⟩
theorem G.aK{g:G}{l i:Nat}{L:Loc}:(g.cA l i L).loc l i=some L:=by simp[G.cA]
theorem G.bD{g:G}{l i l' i':Nat}{L:Loc}(h:¬(l'=l/\i'=i)):(g.cA l i L).loc l' i'=g.loc l' i':=by simp only[G.cA];rw[if_neg h]
theorem G.jS{g:G}{l i:Nat}{L:Loc}(h:∀L0,g.loc l i=some L0->L0.le L):g.le (g.cA l i L) :=
 ⟨λl' i' L' e=>by
  by_cases c:l'=l/\i'=i
  .obtain⟨rfl,rfl⟩:=c;exact⟨L,G.aK,h L' e⟩
  .exact⟨L',by rw[G.bD c];exact e,L'.le_refl⟩,λ_ _ _ e=>e⟩
theorem Inv.C6{CR:eP}{base:Nat}{g:G}{J:SK}{w:World}(hi:Inv CR base g J w){l i:Nat}(h:dG J l i=none):g.loc l i=none:=by
 cases e:g.loc l i with
 |none=>rfl
 |some L=>obtain⟨b,hb,_⟩:=hi.xq l i L e;rw[h]at hb;cases hb
theorem Inv.Aw{CR:eP}{base:Nat}{g:G}{J J':SK}{w:World}(hi:Inv CR base g J w){l i:Nat}{ds:List D}(hn:fR J (.cells 0 ds)=some (l,i,J'))
  (vs:List Value) (cs:Array Value) (el:TypeId) (hr:bF g ds vs) (hlen:vs.length<=cs.size)
  (hcs:∀(j:Nat) x,vs[j]?=some x->cs[j]?=some x/\x.oneCell'=true):
  Inv CR base (g.cA l i (.at w.heap.size 0 0 cs.size)) J' (w.alloc (.cells cs el))/\Ev g w (g.cA l i (.at w.heap.size 0 0 cs.size)) (w.alloc (.cells cs el)):=by
 obtain⟨h1,h2,h3,_,_⟩:=jI hn;have hnone:=hi.C6 h1;have hle:g.le (g.cA l i (.at w.heap.size 0 0 cs.size)):=G.jS λL0 e=>by rw[hnone]at e;cases e
 refine⟨hi.FA l i hle h3 (λl' i' c=>G.bD c) (λl' i' L b c e eb=>alloc_old (hi.lo l' i' L b e eb).2) ?_ ?_ ?_ ?_ (by simp) ⟨_,G.aK⟩ (λb v hb=>alloc_old (hi.jb hb)),⟨hle,rfl,rfl,rfl,by simp,λb hb _=>alloc_old hb,?_,λb o v hv => .inl hv⟩⟩
 .intro L e;rw[G.aK]at e;cases e;exact⟨_,h2,rfl,cs,el,ug,rfl,by rw[hr.length];omega,vs,hr.mono hle,λj x hx=>by simpa using hcs j x hx⟩
 .intro b o v e;obtain⟨h1,h2⟩:=hi.pM b o v e;exact⟨(iq (alloc_old (hi.jb e))).trans h1,h2⟩
 .intro l' i' L b e eb o;by_cases c:l'=l/\i'=i
  .obtain⟨rfl,rfl⟩:=c;rw[G.aK]at e;cases e;cases eb;cases e':(g.cA l' i' (.at w.heap.size 0 0 cs.size)).pM w.heap.size o with
   |none=>rfl
   |some v=>have:=hi.jb (b:=w.heap.size) (o:=o) (v:=v) e';omega
  .rw[G.bD c]at e;exact hi.sep l' i' L b e eb o
 .intro L b e eb;rw[G.aK]at e;cases e;cases eb;refine⟨hi.ge,by simp,λl' i' L' c e' eb'=>?_⟩;have:=(hi.lo l' i' L' _ e' eb').2;omega
 .intro b hb;obtain⟨l',i',L,e,eb⟩:=hb;by_cases c:l'=l/\i'=i
  .obtain⟨rfl,rfl⟩:=c;rw[G.aK]at e;cases e;cases eb;exact .inr (aL _)
  .rw[G.bD c]at e;exact .inl ⟨l',i',L,e,eb⟩
theorem Inv.QR{CR:eP}{base:Nat}{g:G}{J J':SK}{w:World}(hi:Inv CR base g J w){l i:Nat}(hn:fR J (.cells 0 [])=some (l,i,J')):
  Inv CR base (g.cA l i (.qG 0)) J' w/\Ev g w (g.cA l i (.qG 0)) w:=by
 obtain⟨h1,h2,h3,_,_⟩:=jI hn;have hnone:=hi.C6 h1;have hle:g.le (g.cA l i (.qG 0)):=G.jS λL0 e=>by rw[hnone]at e;cases e
 refine⟨hi.FA l i hle h3 (λl' i' c=>G.bD c) (λ_ _ _ _ _ _ _=>rfl) ?_ hi.pM ?_ ?_ (aL _) ⟨_,G.aK⟩ (λ_ _ _=>rfl),⟨hle,rfl,rfl,rfl,aL _,λ_ _ _=>rfl,?_,λb o v hv => .inl hv⟩⟩
 .intro L e;rw[G.aK]at e;cases e;exact⟨_,h2,rfl,rfl⟩
 .intro l' i' L b e eb o;by_cases c:l'=l/\i'=i
  .obtain⟨rfl,rfl⟩:=c;rw[G.aK]at e;cases e;cases eb
  .rw[G.bD c]at e;exact hi.sep l' i' L b e eb o
 .intro L b e eb;rw[G.aK]at e;cases e;cases eb
 .intro b hb;obtain⟨l',i',L,e,eb⟩:=hb;by_cases c:l'=l/\i'=i
  .obtain⟨rfl,rfl⟩:=c;rw[G.aK]at e;cases e;cases eb
  .rw[G.bD c]at e;exact .inl ⟨l',i',L,e,eb⟩
theorem Inv.setCells{CR:eP}{base:Nat}{g:G}{J:SK}{w w':World}(hi:Inv CR base g J w){l i:Nat}{L0 L:Loc}{b0:aO}{v:Nat}{ds:List D}
  (h0:g.loc l i=some L0) (hb0:dG J l i=some b0) (hL:L0.le L)
  (hrel:GX CR (g.cA l i L) w' (.cells v ds) L)
  (hkept:∀b,b<w.heap.size->¬L0.owns b->w'.heap[b]?=w.heap[b]?)
  (hos:w'.os=w.os) (htape:w'.tape=w.tape) (hout:w'.output=w.output)
  (hsize:w.heap.size<=w'.heap.size)
  (hblk:∀b,L.owns b->(L0.owns b\/(w.heap.size<=b/\b<w'.heap.size))):
  Inv CR base (g.cA l i L) (aZ J l i (.cells v ds)) w'/\Ev g w (g.cA l i L) w':=by
 have hle:g.le (g.cA l i L):=G.jS λL1 e=>by rw[h0]at e;cases e;exact hL
 refine⟨hi.FA l i hle (λl' i' c=>ej c) (λl' i' c=>G.bD c) ?_ ?_ ?_ ?_ ?_ hsize ⟨_,G.aK⟩ (λb v hb=>hkept b (World.block_lt_of_cell? (a:=⟨b,0,none⟩) w (hi.pM b 0 v hb).1) λeb0=>by have h:=hi.sep l i L0 b h0 eb0 0;rw[hb]at h;cases h),⟨hle,hos,htape,hout,hsize,?_,?_,λb o v hv => .inl hv⟩⟩
 .intro l' i' L' b c e eb;refine hkept b (hi.lo l' i' L' b e eb).2 λeb0=>c ?_
  have:=hi.inj l' i' L' l i L0 b e h0 eb eb0;exact this
 .intro L1 e;rw[G.aK]at e;cases e;exact⟨_,oK hb0,hrel⟩
 .intro b o x e;obtain⟨h1,h2⟩:=hi.pM b o x e;refine⟨(iq (hkept b (hi.jb e) λeb0=>?_)).trans h1,h2⟩;have:=hi.sep l i L0 b h0 eb0 o;rw[show g.pM b o=some x from e]at this;cases this
 .intro l' i' L' b e eb o;by_cases c:l'=l/\i'=i
  .obtain⟨rfl,rfl⟩:=c;rw[G.aK]at e;cases e;rcases hblk b eb with h | ⟨h,_⟩
   .exact hi.sep _ _ L0 b h0 h o
   .cases e':(g.cA l' i' L).pM b o with
    |none=>rfl
    |some v=>have:=hi.jb (b:=b) (o:=o) (v:=v) e';omega
  .rw[G.bD c]at e;exact hi.sep l' i' L' b e eb o
 .intro L1 b e eb;rw[G.aK]at e;cases e;rcases hblk b eb with h | ⟨h,h'⟩
  .have:=hi.lo l i L0 b h0 h;refine⟨this.1,by omega,λl' i' L' c e' eb'=>c ?_⟩;exact hi.inj l' i' L' l i L0 b e' h0 eb' h
  .exact⟨gz hi.ge h,h',λl' i' L' c e' eb'=>by have:=(hi.lo l' i' L' b e' eb').2;omega⟩
 .intro b hb hn;exact hkept b hb λe=>hn ⟨l,i,L0,h0,e⟩
 .intro b hb;obtain⟨l',i',L',e,eb⟩:=hb;by_cases c:l'=l/\i'=i
  .obtain⟨rfl,rfl⟩:=c;rw[G.aK]at e;cases e;rcases hblk b eb with h | ⟨h,_⟩
   .exact .inl ⟨_,_,L0,h0,h⟩
   .exact .inr h
  .rw[G.bD c]at e;exact .inl ⟨l',i',L',e,eb⟩
theorem Ga{l n:Nat}:∀{ds:List D} {J:SK},D.bj ds=true->cC.frzL (cC l (n+1)) ds J=(ds,J)
 |[],J,h=>rfl
 |d::ds,J,h=>by
  simp only[D.bj,ae]at h;have h1:cC l (n+1) d J=(d,J):=by cases d<;>simp[cC,h.1]
  simp only[cC.frzL,h1,Ga h.2]
theorem Q6{e:Env}{J:SK}{os:List Nat}{sz:Nat}{X Y:bI}{r:D×SK}(h:bO e J (.SH os sz X Y)=some r):bO e J (.st [] sz X Y)=some r:=by
 simp only[bO]at h ⊢;cases hx:bu e X<;>rw[hx]at h<;>try (cases h;done)
 dsimp only at h ⊢;split at h
 case isFalse=>cases h
 split at h
 case h_2=>cases h
 rename_i cs hcs;split at h
 case h_2=>cases h
 rename_i p hp;split at h
 case isFalse=>cases h
 rename_i hc
 try simp only[hcs]
 try simp only[hp]
 try dsimp only
 rw[if_pos ⟨hc.1,hc.2.1⟩];split
 .simpa[ki]using h
 .rename_i hn;rw[show deep=15+1 from rfl,Ga (hc.2.2.resolve_right hn)];exact h
end Go.aA
