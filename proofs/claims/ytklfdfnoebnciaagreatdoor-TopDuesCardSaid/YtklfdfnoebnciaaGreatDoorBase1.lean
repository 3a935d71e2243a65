import Derived.Test.YtklfdfnoebnciaaGreatDoorBase0
import Derived.AtR
import Derived.Laws.Cells
import Derived.Laws.World
import Derived.Lib.FrozenHead
set_option linter.all false
namespace Go.az
open Go
inductive Loc where
 |dead
 |oG (v:Nat)
 |at(cT off v sz:Nat)
 |lp (cT:Nat)
 |mp (cT:Nat)
 |it (cT:Nat)
 |ob (cT:Nat) (buf:Option Nat)
def Loc.NO:Loc->Nat->Prop
 |.dead,_=>True
 |.oG v',v=>v<=v'
 |.at _ _ v' _,v=>v<=v'
 |.lp _,_=>False
 |.mp _,_=>False
 |.it _,_=>False
 |.ob ..,_=>False
def Loc.owns:Loc->Nat->Prop
 |.at b _ _ _,x=>b=x
 |.lp b,x=>b=x
 |.mp b,x=>b=x
 |.it b,x=>b=x
 |.ob b c,x=>b=x\/c=some x
 |_,_=>False
structure G where
 loc:Nat->Nat->Option Loc
 oc:Nat->Nat->Option Value
def G.row(g:G)(b o:Nat)(vs:List Value):Prop:=∀j v,vs[j]?=some v->g.oc b (o+j)=some v
mutual
inductive bB (g:G):D->Value->Prop
 |undef (c:Value):bB g .undef c
 |bool (b:Bool):bB g (.bool b) (.bool b)
 |int (k:IntKind) (n:Int):bB g (.int k n) (.int k n)
 |str (s:ByteArray):bB g (.str s.data.toList) (.string s)
 |agg (ds:List D) (cs:Array Value):bA g ds cs.toList->(∀c∈cs.toList,c.oneCell'=true)->bB g (.agg ds) (.agg cs)
 |dj (ds:List D) (cs:Array Value):bA g ds cs.toList->bB g (.dj ds) (.tuple cs)
 |wN:bB g .wN (.pointer none)
 |ref (l i v off b o:Nat) (L:Loc):g.loc l i=some L->L.NO v ->
   (∀cT bo sz,L=.at cT bo v sz->b=cT/\o=bo+off)->L ≠ .oG v->bB g (.ref l i v off) (.pointer (some ⟨b,o,none⟩))
 |bu (ds:List D) (b o:Nat) (vs:List Value):g.row b o vs->bA g ds vs->bB g (.bu ds) (.pointer (some ⟨b,o,none⟩))
 |bN:bB g .bN (.slice none 0 0)
 |yp:bB g (.aG 0 []) (.slice none 0 0)
 |aG (n:Nat) (ds:List D) (a:Addr) (cap:Nat) (vs:List Value):n<=cap->g.row a.block a.off vs->(n≠0->a.spot=none)->bA g ds vs ->
   bB g (.aG n ds) (.slice (some a) n cap)
 |sl (l i v off n w:Nat) (a:Option Addr) (cap:Nat) (L:Loc):g.loc l i=some L->L.NO v->(n<=cap/\cap<9223372036854775808)->(a=none->cap=0)->(∀x,a=some x->n≠0->x.spot=none) ->
   (∀cT bo sz,L=.at cT bo v sz->(a=some ⟨cT,bo+off,none⟩/\bo+off+cap*w<=sz)\/cap=0) ->
   (L=.oG v->a=none)->bB g (.sl l i v off n w) (.slice a n cap)
 |fn (f:Nat) (fs cs:List D) (fs' cs':Array Value):bA g fs fs'.toList->bA g cs cs'.toList->bB g (.fn f fs cs) (.func (.func f) fs' cs')
 |pR:bB g .pR .nilFunc
 |kJ (l i b:Nat):g.loc l i=some (.lp b)->bB g (.kJ l i) (.func (.yield b) #[] #[])
 |NF (l i b:Nat):g.loc l i=some (.mp b)->bB g (.kJ l i) (.map (some b))
 |Rf (l i b:Nat) (L:Loc):g.loc l i=some L->(L=.it b\/L=.dead)->bB g (.kJ l i) (.pointer (some ⟨b,0,none⟩))
 |Oz (l i b:Nat) (L:Loc):g.loc l i=some L->((∃c,L=.ob b c)\/L=.dead)->bB g (.kJ l i) (.pointer (some ⟨b,0,none⟩))
 |tK (t:Nat) (d:D) (c:Value):bB g d c->bB g (.tK t d) (.iface t c)
 |oD:bB g .oD .nilIface
inductive bA (g:G):List D->List Value->Prop
 |nil:bA g [] []
 |cons (d:D) (c:Value) (ds:List D) (cs:List Value):bB g d c->bA g ds cs->bA g (d::ds) (c::cs)
end
def Loc.le:Loc->Loc->Prop
 |.dead,L=>L=.dead
 |.lp b,L=>L=.lp b
 |.mp b,L=>L=.mp b
 |.it b,L=>L=.it b\/L=.dead
 |.ob b _,L=>(∃c,L=.ob b c)\/L=.dead
 |.oG v,L=>L=.oG v\/L=.dead\/(∃b o v' s,L=.at b o v' s/\v<v')\/∃v',L=.oG v'/\v<v'
 |.at b o v s,L=>L=.at b o v s\/L=.dead\/∃b' o' v' s',L=.at b' o' v' s'/\v<v'
theorem Loc.le_refl(L:Loc):L.le L:=by cases L<;>simp[Loc.le]
theorem Loc.le_trans{a b c:Loc}(h:a.le b)(h':b.le c):a.le c:=by
 cases a with
 |dead=>simp only[Loc.le]at h;subst h;exact h'
 |lp x=>simp only[Loc.le]at h;subst h;exact h'
 |mp x=>simp only[Loc.le]at h;subst h;exact h'
 |it x =>
  simp only[Loc.le]at h;rcases h with rfl | rfl
  .exact h'
  .simp only[Loc.le]at h' ⊢;exact .inr h'
 |ob x y =>
  simp only[Loc.le]at h;rcases h with⟨c,rfl⟩ | rfl
  .exact h'
  .simp only[Loc.le]at h' ⊢;exact .inr h'
 |oG v =>
  simp only[Loc.le]at h;rcases h with rfl | rfl | ⟨b1,o,v',s,rfl,hv⟩ | ⟨v',rfl,hv⟩
  .exact h'
  .simp only[Loc.le]at h' ⊢;exact .inr (.inl h')
  .simp only[Loc.le]at h' ⊢;rcases h' with rfl | rfl | ⟨b2,o2,v2,s2,rfl,hv2⟩
   .exact .inr (.inr (.inl ⟨_,_,_,_,rfl,hv⟩))
   .exact .inr (.inl rfl)
   .exact .inr (.inr (.inl ⟨_,_,_,_,rfl,by omega⟩))
  .simp only[Loc.le]at h' ⊢;rcases h' with rfl | rfl | ⟨b2,o2,v2,s2,rfl,hv2⟩ | ⟨v2,rfl,hv2⟩
   .exact .inr (.inr (.inr ⟨_,rfl,hv⟩))
   .exact .inr (.inl rfl)
   .exact .inr (.inr (.inl ⟨_,_,_,_,rfl,by omega⟩))
   .exact .inr (.inr (.inr ⟨_,rfl,by omega⟩))
 |«at» b1 o v s =>
  simp only[Loc.le]at h;rcases h with rfl | rfl | ⟨b2,o2,v2,s2,rfl,hv⟩
  .exact h'
  .simp only[Loc.le]at h' ⊢;exact .inr (.inl h')
  .simp only[Loc.le]at h' ⊢;rcases h' with rfl | rfl | ⟨b3,o3,v3,s3,rfl,hv3⟩
   .exact .inr (.inr ⟨_,_,_,_,rfl,hv⟩)
   .exact .inr (.inl rfl)
   .exact .inr (.inr ⟨_,_,_,_,rfl,by omega⟩)
theorem Loc.wO{L L':Loc}{v:Nat}(h:L.NO v)(h':L.le L'):L'.NO v:=by
 cases L with
 |dead=>simp only[Loc.le]at h';subst h';trivial
 |lp b=>exact h.elim
 |mp b=>exact h.elim
 |it b=>exact h.elim
 |ob b c=>exact h.elim
 |oG v' =>
  simp only[Loc.le]at h';simp only[Loc.NO]at h;rcases h' with rfl | rfl | ⟨b,o,v',s,rfl,hv⟩ | ⟨v',rfl,hv⟩<;>simp only[Loc.NO]<;>omega
 |«at» b o v' s =>
  simp only[Loc.le]at h';simp only[Loc.NO]at h;rcases h' with rfl | rfl | ⟨b',o',v'',s',rfl,hv⟩<;>simp only[Loc.NO]<;>omega
structure G.le(g g':G):Prop where
 loc:∀l i L,g.loc l i=some L->∃L',g'.loc l i=some L'/\L.le L'
 oc:∀b o v,g.oc b o=some v->g'.oc b o=some v
theorem G.le_refl(g:G):g.le g:=⟨λ_ _ L h=>⟨L,h,L.le_refl⟩,λ_ _ _ h=>h⟩
theorem G.le_trans{a b c:G}(h:a.le b)(h':b.le c):a.le c :=
 ⟨λl i L e=>let ⟨L1,e1,h1⟩:=h.loc l i L e;let ⟨L2,e2,h2⟩:=h'.loc l i L1 e1;⟨L2,e2,Loc.le_trans h1 h2⟩,
  λx o v e=>h'.oc x o v (h.oc x o v e)⟩
theorem G.Er{g g':G}(h:g.le g'){b o:Nat}{vs:List Value}(hr:g.row b o vs):g'.row b o vs:=λj v e=>h.oc _ _ _ (hr j v e)
theorem Loc.back{L L':Loc}{v:Nat}(h:L.NO v)(h':L.le L'){b o s:Nat}(e:L'=.at b o v s):L=.at b o v s:=by
 subst e;cases L with
 |dead=>simp[Loc.le]at h'
 |lp b=>simp[Loc.le]at h'
 |mp b=>simp[Loc.le]at h'
 |it b=>simp[Loc.le]at h'
 |ob b c=>simp[Loc.le]at h'
 |oG v' =>
  simp only[Loc.le]at h';simp only[Loc.NO]at h;rcases h' with h' | h' | ⟨b,o,v',s,h',hv⟩ | ⟨v',h',hv⟩<;>simp_all
  omega
 |«at» b o v' s =>
  simp only[Loc.le]at h';simp only[Loc.NO]at h;rcases h' with h' | h' | ⟨b',o',v'',s',h',hv⟩<;>simp_all
  omega
theorem Loc.Bg{L L':Loc}{v:Nat}(h:L.NO v)(h':L.le L')(e:L'=.oG v):L=.oG v:=by
 subst e;cases L with
 |dead=>simp[Loc.le]at h'
 |lp b=>simp[Loc.le]at h'
 |mp b=>simp[Loc.le]at h'
 |it b=>simp[Loc.le]at h'
 |ob b c=>simp[Loc.le]at h'
 |oG v' =>
  simp only[Loc.le]at h';simp only[Loc.NO]at h;rcases h' with h' | h' | ⟨b,o,v',s,h',hv⟩ | ⟨v',h',hv⟩<;>simp_all
  omega
 |«at» b o v' s=>simp[Loc.le]at h'
mutual
theorem bB.mono{g g':G}(h:g.le g'):∀{d:D} {c:Value},bB g d c->bB g' d c
 |_,_,.undef c => .undef c
 |_,_,.bool b => .bool b
 |_,_,.int k n => .int k n
 |_,_,.str s => .str s
 |_,_,.agg ds cs hr h1 => .agg ds cs (bA.mono h hr) h1
 |_,_,.dj ds cs hr => .dj ds cs (bA.mono h hr)
 |_,_,.wN => .wN
 |_,_,.ref l i v off b o L e hv hc hn =>
  let ⟨L',e',hl⟩:=h.loc l i L e
  .ref l i v off b o L' e' (Loc.wO hv hl) (λcT bo sz eq=>hc cT bo sz (Loc.back hv hl eq)) (λeq=>hn (Loc.Bg hv hl eq))
 |_,_,.bu ds b o vs hr hl => .bu ds b o vs (G.Er h hr) (bA.mono h hl)
 |_,_,.bN => .bN
 |_,_,.yp => .yp
 |_,_,.aG n ds a cap vs hn hr hs hl => .aG n ds a cap vs hn (G.Er h hr) hs (bA.mono h hl)
 |_,_,.sl l i v off n w a cap L e hv hn ha hs hc hc' =>
  let ⟨L',e',hl⟩:=h.loc l i L e
  .sl l i v off n w a cap L' e' (Loc.wO hv hl) hn ha hs (λcT bo sz eq=>hc cT bo sz (Loc.back hv hl eq)) (λeq=>hc' (Loc.Bg hv hl eq))
 |_,_,.fn f fs cs fs' cs' h1 h2 => .fn f fs cs fs' cs' (bA.mono h h1) (bA.mono h h2)
 |_,_,.pR => .pR
 |_,_,.kJ l i b e =>
  let ⟨L',e',hl⟩:=h.loc l i _ e
  .kJ l i b (by rw[e',show L'=.lp b from hl])
 |_,_,.NF l i b e =>
  let ⟨L',e',hl⟩:=h.loc l i _ e
  .NF l i b (by rw[e',show L'=.mp b from hl])
 |_,_,.Rf l i b L e hc =>
  let ⟨L',e',hl⟩:=h.loc l i L e
  .Rf l i b L' e' (by
   rcases hc with rfl | rfl
   .exact hl
   .exact .inr hl)
 |_,_,.Oz l i b L e hc =>
  let ⟨L',e',hl⟩:=h.loc l i L e
  .Oz l i b L' e' (by
   rcases hc with⟨c,rfl⟩ | rfl
   .exact hl
   .exact .inr hl)
 |_,_,.tK t d c h1 => .tK t d c (bB.mono h h1)
 |_,_,.oD => .oD
theorem bA.mono{g g':G}(h:g.le g'):∀{ds:List D} {cs:List Value},bA g ds cs->bA g' ds cs
 |_,_,.nil => .nil
 |_,_,.cons d c ds cs h1 h2 => .cons d c ds cs (bB.mono h h1) (bA.mono h h2)
end
section lists
variable {g:G}
theorem bA.length{ds:List D}{cs:List Value}(h:bA g ds cs):ds.length=cs.length:=by
 induction ds generalizing cs with
 |nil=>cases h;rfl
 |cons d ds ih=>cases h with | cons _ c _ cs h1 h2=>simp[ih h2]
theorem bA.get{ds:List D}{cs:List Value}(h:bA g ds cs){j:Nat}{d:D}(e:ds[j]?=some d):∃c,cs[j]?=some c/\bB g d c:=by
 induction ds generalizing cs j with
 |nil=>simp at e
 |cons d0 ds ih =>
  cases h with
  |cons _ c _ cs h1 h2 =>
   cases j with
   |zero=>simp at e;subst e;exact⟨c,rfl,h1⟩
   |succ j=>exact ih h2 (by simpa using e)
theorem bA.append{a b:List D}{x y:List Value}(h:bA g a x)(h':bA g b y):bA g (a++b) (x++y):=by
 induction a generalizing x with
 |nil=>cases h;exact h'
 |cons d a ih=>cases h with | cons _ c _ cs h1 h2=>exact .cons _ _ _ _ h1 (ih h2)
theorem bA.take{a:List D}{x:List Value}(h:bA g a x)(n:Nat):bA g (a.take n) (x.take n):=by
 induction a generalizing x n with
 |nil=>cases h;simpa using bA.nil
 |cons d a ih =>
  cases h with
  |cons _ c _ cs h1 h2 =>
   cases n with
   |zero=>exact .nil
   |succ n=>exact .cons _ _ _ _ h1 (ih h2 n)
theorem bA.drop{a:List D}{x:List Value}(h:bA g a x)(n:Nat):bA g (a.drop n) (x.drop n):=by
 induction a generalizing x n with
 |nil=>cases h;simpa using bA.nil
 |cons d a ih =>
  cases h with
  |cons _ c _ cs h1 h2 =>
   cases n with
   |zero=>exact .cons _ _ _ _ h1 h2
   |succ n=>exact ih h2 n
theorem bA.W7{ds:List D}{cs:List Value}(hl:ds.length=cs.length)(h:∀(j:Nat) (d:D) (c:Value),ds[j]?=some d->cs[j]?=some c->bB g d c):bA g ds cs:=by
 induction ds generalizing cs with
 |nil=>cases cs with
  |nil=>exact .nil
  |cons c cs=>simp at hl
 |cons d ds ih =>
  cases cs with
  |nil=>simp at hl
  |cons c cs =>
   exact .cons _ _ _ _ (h 0 d c rfl rfl) (ih (by simpa using hl) λj d' c' e e'=>h (j+1) d' c' (by simpa using e) (by simpa using e'))
theorem bB.cells{d:D}{c:Value}(h:bB g d c){ds:List D}(e:d.cells=some ds):bA g ds c.cells.toList/\∀x∈c.cells.toList,x.oneCell'=true:=by
 have h0:=h;cases h with
 |agg ds' cs hr h1=>simp only[D.cells,ad]at e;subst e;exact⟨hr,h1⟩
 |undef c=>simp[D.cells]at e
 |dj=>simp[D.cells]at e
 |_=>simp only[D.cells,ad]at e;subst e;exact⟨.cons _ _ _ _ h0 .nil,by simp[Value.cells,Value.oneCell']⟩
end lists
def xU(g:G)(e:Env)(tmps:Array Value):Prop:=∀t,bB g (get e t) (tmps.getD t Go.undef)
theorem xU.mono{g g':G}(h:g.le g'){e:Env}{tmps:Array Value}(hr:xU g e tmps):xU g' e tmps:=λt=>(hr t).mono h
structure eJ where
 rel:bX->Code->Nat->Prop
 Jb:Nat->(Obj->Prop)->Prop
def ac6:Nat->LoopState
 |0 => .ready
 |1 => .busy
 |2 => .done
 |_ => .exhausted
def AT:Option Exit->Option (Option Code)
 |none=>some none
 |some (.exit id)=>some (some (.exit id))
 |some .ret=>some (some .ret)
 |some .normal=>none
 |some (.eA _)=>none
structure y8(CR:eJ)(g:G)(lp:wk)(r:Loop):Prop where
 state:r.state=ac6 lp.state
 wQ:AT lp.wQ=some r.pending
 env:xU g lp.env r.tmps
 params:r.params.toList=lp.params
 small:∀t∈lp.params,t<r.tmps.size
 both:CR.rel (.ite (.t 0) lp.zh lp.body) (.cond (.tmp 0) r.assign r.body) r.tmps.size
def Na(es:List MapEntry)(clock:Nat):Prop:=es.map (·.born)=List.range es.length/\clock=es.length
def E3(CR:eJ)(g:G)(w:World):aI->Loc->Prop
 |.cells v cs,.at b off v' sz=>v=v'/\∃(c:Array Value) (el:TypeId),w.heap[b]?=some (.cells c el (0,0))/\c.size=sz/\off+cs.length<=sz /\
   ∃vs,bA g cs vs/\(∀j x,vs[j]?=some x->c[off+j]?=some x/\x.oneCell'=true)
 |.cells v cs,.oG v'=>v=v'/\cs=[]
 |.dead,.dead=>True
 |.loop lp,.lp b=>∃r,w.heap[b]?=some (.loop r)/\y8 CR g lp r
 |.cells v es,.mp b=>v=0/\∃cK clock,w.heap[b]?=some (.map cK clock)/\bA g es (cK.toList.map λe => .tuple #[e.key,e.val])/\Na cK.toList clock
 |.cells v cs,.it b=>v=1/\∃l i bm n,∃js:List Nat,cs=.kJ l i::.int .i64 (n:Nat)::js.map (λj:Nat=>D.int .i64 j)/\g.loc l i=some (.mp bm) /\
   w.heap[b]?=some (.mapIter (some bm) n js.reverse.toArray n)/\js.Nodup/\∀j∈js,j<n
 |.cells v cs,.ob b c=>v=2/\∃(T e:Nat) (bs:List UInt8) (p s:Value),cs=[.int .i64 T,.int .i64 e,.str bs]/\w.heap[b]?=some (.cells #[p,s] T (0,0)) /\
   (p=.pointer none\/p=.pointer (some ⟨b,0,none⟩))/\w.ownsRowF 0 e 1 s bs.length (bs.map λx => .int .u8 x.toNat)/\s.ownBlock=c/\c≠some b
 |_,_=>False
structure Inv(CR:eJ)(base:Nat)(g:G)(J:SK)(w:World):Prop where
 ge:base<=w.heap.size
 vQ:∀l i L,g.loc l i=some L->∃b,dn J l i=some b/\E3 CR g w b L
 oc:∀b o v,g.oc b o=some v->w.cell? ⟨b,o,none⟩=some v/\v.oneCell'=true
 sep:∀l i L b,g.loc l i=some L->L.owns b->∀o,g.oc b o=none
 inj:∀l i L l' i' L' b,g.loc l i=some L->g.loc l' i'=some L'->L.owns b->L'.owns b->l=l'/\i=i'
 lo:∀l i L b,g.loc l i=some L->L.owns b->base<=b/\b<w.heap.size
 N8:∀l i b,dn J l i=some b->∃L,g.loc l i=some L
 Jb:∀b Q,CR.Jb b Q->(∃v,g.oc b 0=some v)/\∃o,w.heap[b]?=some o/\Q o
def G.has(g:G)(b:Nat):Prop:=∃l i L,g.loc l i=some L/\L.owns b
structure Ev(g:G)(w:World)(g':G)(w':World):Prop where
 le:g.le g'
 os:w'.os=w.os
 tape:w'.tape=w.tape
 output:w'.output=w.output
 size:w.heap.size<=w'.heap.size
 kept:∀b,b<w.heap.size->¬g.has b->w'.heap[b]?=w.heap[b]?
 PC:∀b,g'.has b->g.has b\/w.heap.size<=b
 Ht:∀b o v,g'.oc b o=some v->g.oc b o=some v\/g.has b\/w.heap.size<=b
theorem Ev.refl(g:G)(w:World):Ev g w g w:=⟨g.le_refl,rfl,rfl,rfl,aH _,λ_ _ _=>rfl,λ_ h => .inl h,λ_ _ _ h => .inl h⟩
theorem Ev.trans{g g1 g2:G}{w w1 w2:World}(h:Ev g w g1 w1)(h':Ev g1 w1 g2 w2):Ev g w g2 w2 where
 le:=G.le_trans h.le h'.le
 os:=h'.os.trans h.os
 tape:=h'.tape.trans h.tape
 output:=h'.output.trans h.output
 size:=iB h.size h'.size
 kept b hb hn:=by
  have h1:¬g1.has b:=λhx=>by
   rcases h.PC b hx with hx | hx
   .exact hn hx
   .omega
  rw[h'.kept b (Nat.lt_of_lt_of_le hb h.size) h1,h.kept b hb hn]
 PC b hb:=by
  rcases h'.PC b hb with hx | hx
  .exact h.PC b hx
  .exact .inr (iB h.size hx)
 Ht b o v hv:=by
  rcases h'.Ht b o v hv with hx | hx | hx
  .exact h.Ht b o v hx
  .exact .inr (h.PC b hx)
  .exact .inr (.inr (iB h.size hx))
section stack
theorem zH{J:SK}{l:Nat}{s:List aI}(h:eZ J l=some s):l<J.length:=by
 induction J with
 |nil=>simp[eZ]at h
 |cons s0 J ih =>
  simp only[eZ]at h;split at h
  .simp;omega
  .have:=ih h;simp;omega
theorem sT{J:SK}{l:Nat}{s:List aI}(h:l<J.length):eZ (iu J l s) l=some s:=by
 induction J with
 |nil=>simp at h
 |cons s0 J ih =>
  simp only[iu];split
  .rename_i e;simp[eZ,e]
  .rename_i e;simp only[eZ];rw[eP];rw[if_neg e];exact ih (by simp at h;omega)
where
 eP {J:SK} {l:Nat} {s:List aI}:(iu J l s).length=J.length:=by
  induction J with
  |nil=>rfl
  |cons s0 J ih=>simp only[iu];split<;>simp[ih]
theorem eP{J:SK}{l:Nat}{s:List aI}:(iu J l s).length=J.length:=sT.eP
theorem DG{J:SK}{l l':Nat}{s:List aI}(h:l'≠l):eZ (iu J l s) l'=eZ J l':=by
 induction J with
 |nil=>rfl
 |cons s0 J ih =>
  simp only[iu];split
  .rename_i e;simp only[eZ];rw[if_neg (by omega),if_neg (by omega)]
  .simp only[eZ,eP];split
   .rfl
   .exact ih
theorem dD{J:SK}{l i:Nat}{b:aI}:(aR J l i b).length=J.length:=by
 unfold aR;split
 .exact eP
 .rfl
theorem na{J:SK}{l i:Nat}{b b0:aI}(h:dn J l i=some b0):dn (aR J l i b) l i=some b:=by
 unfold dn at h;cases hs:eZ J l with
 |none=>simp[hs]at h
 |some s =>
  simp only[hs,Option.bind_some]at h;have hi:i<s.length:=(aw.1 h).1;simp only[aR,hs,dn,sT (zH hs),Option.bind_some];simp[hi]
theorem dI{J:SK}{l i l' i':Nat}{b:aI}(h:¬(l'=l/\i'=i)):dn (aR J l i b) l' i'=dn J l' i':=by
 unfold aR;cases hs:eZ J l with
 |none=>rfl
 |some s =>
  simp only[dn];by_cases hl:l'=l
  .subst hl;rw[sT (zH hs),hs];simp only[Option.bind_some];rw[List.getElem?_set_ne];intro e;exact h ⟨rfl,e.symm⟩
  .rw[DG hl]
theorem iW{J J':SK}{b:aI}{l i:Nat}(h:fJ J b=some (l,i,J')):
  dn J l i=none/\dn J' l i=some b/\(∀l' i',¬(l'=l/\i'=i)->dn J' l' i'=dn J l' i')/\J'.length=J.length/\l+1=J.length:=by
 cases J with
 |nil=>simp[fJ]at h
 |cons s J =>
  simp only[fJ,ad,aj]at h;obtain⟨rfl,rfl,rfl⟩:=h;refine⟨by simp[dn,eZ],by simp[dn,eZ],?_,rfl,rfl⟩;intro l' i' hn;simp only[dn,eZ];split
  .rename_i e;simp only[Option.bind_some];rw[List.getElem?_append];split
   .rfl
   .rename_i hlt;have:i'≠s.length:=λe'=>hn ⟨e.symm,e'⟩
    rw[dF (by simp;omega),dF (by omega)]
  .rfl
end stack
theorem E3.mono{CR:eJ}{g g':G}{w w':World}{b:aI}{L:Loc}(h:E3 CR g w b L)(hg:g.le g')
  (hw:∀x,L.owns x->w'.heap[x]?=w.heap[x]?):E3 CR g' w' b L:=by
 cases b with
 |cells v cs =>
  cases L with
  |«at» x off v' sz =>
   obtain⟨rfl,c,el,hb,hsz,hlen,vs,hr,hv⟩:=h;exact⟨rfl,c,el,(hw x rfl).trans hb,hsz,hlen,vs,hr.mono hg,hv⟩
  |oG v'=>exact h
  |dead=>exact h
  |lp x=>exact h
  |mp x =>
   obtain⟨hv,cK,clock,hb,hr,hm⟩:=h;exact⟨hv,cK,clock,(hw x rfl).trans hb,hr.mono hg,hm⟩
  |it x =>
   obtain⟨hv,l,i,bm,n,js,h1,h2,h3,h4⟩:=h;obtain⟨L',e',hl⟩:=hg.loc l i _ h2;exact⟨hv,l,i,bm,n,js,h1,by rw[e',show L'=.mp bm from hl],(hw x rfl).trans h3,h4⟩
  |ob x y =>
   obtain⟨hv,T,e,bs,p,s,h1,h2,h3,h4,h5,h6⟩:=h;refine⟨hv,T,e,bs,p,s,h1,(hw x (.inl rfl)).trans h2,h3,⟨h4.1,h4.2.imp id λ⟨q,cap,cur,fz,k1,k2,k3,k4⟩=>⟨q,cap,cur,fz,k1,k2,(hw q (.inr ?_)).trans k3,k4⟩⟩,h5,h6⟩;rw[<- h5,k1];rfl
 |dead=>cases L<;>exact h
 |loop lp =>
  cases L with
  |lp x =>
   obtain⟨r,hb,hr⟩:=h;exact⟨r,(hw x rfl).trans hb,{hr with env:=hr.env.mono hg }⟩
  |«at» x off v' sz=>exact h
  |oG v'=>exact h
  |dead=>exact h
  |mp x=>exact h
  |it x=>exact h
  |ob x y=>exact h
theorem Inv.DM{CR:eJ}{base:Nat}{g g':G}{J J':SK}{w w':World}(hi:Inv CR base g J w)(l i:Nat)
  (hle:g.le g')
  (hJ:∀l' i',¬(l'=l/\i'=i)->dn J' l' i'=dn J l' i')
  (hloc:∀l' i',¬(l'=l/\i'=i)->g'.loc l' i'=g.loc l' i')
  (hw:∀l' i' L b,¬(l'=l/\i'=i)->g.loc l' i'=some L->L.owns b->w'.heap[b]?=w.heap[b]?)
  (hnew:∀L,g'.loc l i=some L->∃b,dn J' l i=some b/\E3 CR g' w' b L)
  (himm:∀b o v,g'.oc b o=some v->w'.cell? ⟨b,o,none⟩=some v/\v.oneCell'=true)
  (hsep:∀l' i' L b,g'.loc l' i'=some L->L.owns b->∀o,g'.oc b o=none)
  (hinj:∀L b,g'.loc l i=some L->L.owns b->base<=b/\b<w'.heap.size/\∀l' i' L',¬(l'=l/\i'=i)->g.loc l' i'=some L'->¬L'.owns b)
  (hsize:w.heap.size<=w'.heap.size) (htot:∃L,g'.loc l i=some L) (hlow:∀b v,g.oc b 0=some v->w'.heap[b]?=w.heap[b]?):Inv CR base g' J' w' where
 Jb b Q h:=let ⟨⟨v,hb⟩,o,ho,hq⟩:=hi.Jb b Q h;⟨⟨v,hle.oc _ _ _ hb⟩,o,(hlow b v hb).trans ho,hq⟩
 N8 l' i' b e:=by
  by_cases h:l'=l/\i'=i
  .obtain⟨rfl,rfl⟩:=h;exact htot
  .rw[hJ l' i' h]at e;rw[hloc l' i' h];exact hi.N8 l' i' b e
 ge:=iB hi.ge hsize
 vQ l' i' L e:=by
  by_cases h:l'=l/\i'=i
  .obtain⟨rfl,rfl⟩:=h;exact hnew L e
  .rw[hloc l' i' h]at e;obtain⟨b,hb,hr⟩:=hi.vQ l' i' L e;exact⟨b,(hJ l' i' h).trans hb,hr.mono hle λx hx=>hw l' i' L x h e hx⟩
 oc:=himm
 sep:=hsep
 inj l1 i1 L1 l2 i2 L2 b h1 h2 e1 e2:=by
  by_cases c1:l1=l/\i1=i
  .obtain⟨rfl,rfl⟩:=c1;by_cases c2:l2=l1/\i2=i1
   .exact⟨c2.1.symm,c2.2.symm⟩
   .rw[hloc l2 i2 c2]at h2;exact absurd e2 ((hinj L1 b h1 e1).2.2 l2 i2 L2 c2 h2)
  .rw[hloc l1 i1 c1]at h1;by_cases c2:l2=l/\i2=i
   .obtain⟨rfl,rfl⟩:=c2;exact absurd e1 ((hinj L2 b h2 e2).2.2 l1 i1 L1 c1 h1)
   .rw[hloc l2 i2 c2]at h2;exact hi.inj _ _ _ _ _ _ b h1 h2 e1 e2
 lo l' i' L b e eb:=by
  by_cases h:l'=l/\i'=i
  .obtain⟨rfl,rfl⟩:=h;exact⟨(hinj L b e eb).1,(hinj L b e eb).2.1⟩
  .rw[hloc l' i' h]at e;have:=hi.lo l' i' L b e eb;exact⟨this.1,by omega⟩
theorem gq{w w':World}{b o:Nat}(h:w'.heap[b]?=w.heap[b]?):w'.cell? ⟨b,o,none⟩=w.cell? ⟨b,o,none⟩:=by
 simp only[World.cell?,h]
theorem Inv.heap{CR:eJ}{base:Nat}{g:G}{J:SK}{w w1:World}(hi:Inv CR base g J w)(h:w1.heap=w.heap):Inv CR base g J w1 where
 ge:=by rw[h];exact hi.ge
 vQ l i L e:=let ⟨b,hb,hr⟩:=hi.vQ l i L e;⟨b,hb,hr.mono g.le_refl λx _=>by rw[h]⟩
 oc b o v e:=let ⟨h1,h2⟩:=hi.oc b o v e;⟨(gq (by rw[h])).trans h1,h2⟩
 sep:=hi.sep
 inj:=hi.inj
 N8:=hi.N8
 Jb:=by rw[h];exact hi.Jb
 lo l i L b e eb:=by rw[h];exact hi.lo l i L b e eb
theorem Ev.heap(g:G){w w1:World}(h:w1.heap=w.heap)(ho:w1.os=w.os)(ht:w1.tape=w.tape)(hp:w1.output=w.output):Ev g w g w1 :=
 ⟨g.le_refl,ho,ht,hp,by rw[h];exact aH _,λb _ _=>by rw[h],λb hb => .inl hb,λb o v hv => .inl hv⟩
theorem Inv.ir{CR:eJ}{base:Nat}{g:G}{J:SK}{w:World}(hi:Inv CR base g J w){b o:Nat}{v:Value}(h:g.oc b o=some v):b<w.heap.size :=
 World.block_lt_of_cell? (a:=⟨b,o,none⟩) w (hi.oc b o v h).1
theorem Inv.Q2{CR:eJ}{base:Nat}{g:G}{J:SK}{w:World}(hi:Inv CR base g J w){b:Nat}(h:g.has b):b<w.heap.size :=
 let ⟨l,i,L,e,eb⟩:=h;(hi.lo l i L b e eb).2
def G.iH(g:G)(x:Nat)(vs:List Value):G:=⟨g.loc,λb o=>if b=x then vs[o]? else g.oc b o⟩
theorem alloc_old{w:World}{o:Obj}{b:Nat}(h:b<w.heap.size):(w.alloc o).heap[b]?=w.heap[b]?:=by
 simp only[World.alloc,Array.getElem?_push];rw[if_neg (by omega)]
theorem sN{w:World}{o:Obj}:(w.alloc o).heap[w.heap.size]?=some o:=by
 simp only[World.alloc,Array.getElem?_push_size]
theorem Inv.En{CR:eJ}{base:Nat}{g:G}{J:SK}{w:World}(hi:Inv CR base g J w)(vs:List Value)(cs:Array Value)(el:TypeId)
  (hcs:∀(j:Nat) x,vs[j]?=some x->cs[j]?=some x/\x.oneCell'=true):
  Inv CR base (g.iH w.heap.size vs) J (w.alloc (.cells cs el))/\Ev g w (g.iH w.heap.size vs) (w.alloc (.cells cs el))/\(g.iH w.heap.size vs).row w.heap.size 0 vs:=by
 have hle:g.le (g.iH w.heap.size vs):=⟨λl i L e=>⟨L,e,L.le_refl⟩,λb o v e=>by
  have:=hi.ir e;simp only[G.iH];rw[if_neg (by omega)];exact e⟩
 refine⟨⟨?_,?_,?_,?_,hi.inj,?_,hi.N8,λb Q h=>let ⟨⟨v,hb⟩,o,ho,hq⟩:=hi.Jb b Q h;⟨⟨v,hle.oc _ _ _ hb⟩,o,(alloc_old (hi.ir hb)).trans ho,hq⟩⟩,⟨hle,rfl,rfl,rfl,by simp,λb hb _=>alloc_old hb,λb hb => .inl hb,?_⟩,?_⟩
 .have:=hi.ge;simp;omega
 .intro l i L e;obtain⟨b,hb,hr⟩:=hi.vQ l i L e;exact⟨b,hb,hr.mono hle λx hx=>alloc_old (hi.lo l i L x e hx).2⟩
 .intro b o v e;simp only[G.iH]at e;split at e
  .rename_i hb;subst hb;obtain⟨h1,h2⟩:=hcs o v e;exact⟨by rw[World.cell?_alloc_new];exact h1,h2⟩
  .obtain⟨h1,h2⟩:=hi.oc b o v e;exact⟨(gq (alloc_old (hi.ir e))).trans h1,h2⟩
 .intro l i L b e eb o;have:=(hi.lo l i L b e eb).2;simp only[G.iH];rw[if_neg (by omega)];exact hi.sep l i L b e eb o
 .intro l i L b e eb;have:=hi.lo l i L b e eb;exact⟨this.1,by simp;omega⟩
 .intro b o v hv;simp only[G.iH]at hv;split at hv
  .rename_i hb;exact .inr (.inr (by omega))
  .exact .inl hv
 .intro j v hv;simp[G.iH,hv]
def G.cj(g:G)(l i:Nat)(L:Loc):G:=⟨λl' i'=>if l'=l/\i'=i then some L else g.loc l' i',g.oc⟩
theorem G.aE{g:G}{l i:Nat}{L:Loc}:(g.cj l i L).loc l i=some L:=by simp[G.cj]
theorem G.bz{g:G}{l i l' i':Nat}{L:Loc}(h:¬(l'=l/\i'=i)):(g.cj l i L).loc l' i'=g.loc l' i':=by simp only[G.cj];rw[if_neg h]
theorem G.jg{g:G}{l i:Nat}{L:Loc}(h:∀L0,g.loc l i=some L0->L0.le L):g.le (g.cj l i L) :=
 ⟨λl' i' L' e=>by
  by_cases c:l'=l/\i'=i
  .obtain⟨rfl,rfl⟩:=c;exact⟨L,G.aE,h L' e⟩
  .exact⟨L',by rw[G.bz c];exact e,L'.le_refl⟩,λ_ _ _ e=>e⟩
theorem Inv.Bp{CR:eJ}{base:Nat}{g:G}{J:SK}{w:World}(hi:Inv CR base g J w){l i:Nat}(h:dn J l i=none):g.loc l i=none:=by
 cases e:g.loc l i with
 |none=>rfl
 |some L=>obtain⟨b,hb,_⟩:=hi.vQ l i L e;rw[h]at hb;cases hb
theorem Inv.yN{CR:eJ}{base:Nat}{g:G}{J J':SK}{w:World}(hi:Inv CR base g J w){l i:Nat}{ds:List D}(hn:fJ J (.cells 0 ds)=some (l,i,J'))
  (vs:List Value) (cs:Array Value) (el:TypeId) (hr:bA g ds vs) (hlen:vs.length<=cs.size)
  (hcs:∀(j:Nat) x,vs[j]?=some x->cs[j]?=some x/\x.oneCell'=true):
  Inv CR base (g.cj l i (.at w.heap.size 0 0 cs.size)) J' (w.alloc (.cells cs el))/\Ev g w (g.cj l i (.at w.heap.size 0 0 cs.size)) (w.alloc (.cells cs el)):=by
 obtain⟨h1,h2,h3,_,_⟩:=iW hn;have hnone:=hi.Bp h1;have hle:g.le (g.cj l i (.at w.heap.size 0 0 cs.size)):=G.jg λL0 e=>by rw[hnone]at e;cases e
 refine⟨hi.DM l i hle h3 (λl' i' c=>G.bz c) (λl' i' L b c e eb=>alloc_old (hi.lo l' i' L b e eb).2) ?_ ?_ ?_ ?_ (by simp) ⟨_,G.aE⟩ (λb v hb=>alloc_old (hi.ir hb)),⟨hle,rfl,rfl,rfl,by simp,λb hb _=>alloc_old hb,?_,λb o v hv => .inl hv⟩⟩
 .intro L e;rw[G.aE]at e;cases e;exact⟨_,h2,rfl,cs,el,sN,rfl,by rw[hr.length];omega,vs,hr.mono hle,λj x hx=>by simpa using hcs j x hx⟩
 .intro b o v e;obtain⟨h1,h2⟩:=hi.oc b o v e;exact⟨(gq (alloc_old (hi.ir e))).trans h1,h2⟩
 .intro l' i' L b e eb o;by_cases c:l'=l/\i'=i
  .obtain⟨rfl,rfl⟩:=c;rw[G.aE]at e;cases e;cases eb;cases e':(g.cj l' i' (.at w.heap.size 0 0 cs.size)).oc w.heap.size o with
   |none=>rfl
   |some v=>have:=hi.ir (b:=w.heap.size) (o:=o) (v:=v) e';omega
  .rw[G.bz c]at e;exact hi.sep l' i' L b e eb o
 .intro L b e eb;rw[G.aE]at e;cases e;cases eb;refine⟨hi.ge,by simp,λl' i' L' c e' eb'=>?_⟩;have:=(hi.lo l' i' L' _ e' eb').2;omega
 .intro b hb;obtain⟨l',i',L,e,eb⟩:=hb;by_cases c:l'=l/\i'=i
  .obtain⟨rfl,rfl⟩:=c;rw[G.aE]at e;cases e;cases eb;exact .inr (aH _)
  .rw[G.bz c]at e;exact .inl ⟨l',i',L,e,eb⟩
theorem Inv.NI{CR:eJ}{base:Nat}{g:G}{J J':SK}{w:World}(hi:Inv CR base g J w){l i:Nat}(hn:fJ J (.cells 0 [])=some (l,i,J')):
  Inv CR base (g.cj l i (.oG 0)) J' w/\Ev g w (g.cj l i (.oG 0)) w:=by
 obtain⟨h1,h2,h3,_,_⟩:=iW hn;have hnone:=hi.Bp h1;have hle:g.le (g.cj l i (.oG 0)):=G.jg λL0 e=>by rw[hnone]at e;cases e
 refine⟨hi.DM l i hle h3 (λl' i' c=>G.bz c) (λ_ _ _ _ _ _ _=>rfl) ?_ hi.oc ?_ ?_ (aH _) ⟨_,G.aE⟩ (λ_ _ _=>rfl),⟨hle,rfl,rfl,rfl,aH _,λ_ _ _=>rfl,?_,λb o v hv => .inl hv⟩⟩
 .intro L e;rw[G.aE]at e;cases e;exact⟨_,h2,rfl,rfl⟩
 .intro l' i' L b e eb o;by_cases c:l'=l/\i'=i
  .obtain⟨rfl,rfl⟩:=c;rw[G.aE]at e;cases e;cases eb
  .rw[G.bz c]at e;exact hi.sep l' i' L b e eb o
 .intro L b e eb;rw[G.aE]at e;cases e;cases eb
 .intro b hb;obtain⟨l',i',L,e,eb⟩:=hb;by_cases c:l'=l/\i'=i
  .obtain⟨rfl,rfl⟩:=c;rw[G.aE]at e;cases e;cases eb
  .rw[G.bz c]at e;exact .inl ⟨l',i',L,e,eb⟩
theorem Inv.setCells{CR:eJ}{base:Nat}{g:G}{J:SK}{w w':World}(hi:Inv CR base g J w){l i:Nat}{L0 L:Loc}{b0:aI}{v:Nat}{ds:List D}
  (h0:g.loc l i=some L0) (hb0:dn J l i=some b0) (hL:L0.le L)
  (hrel:E3 CR (g.cj l i L) w' (.cells v ds) L)
  (hkept:∀b,b<w.heap.size->¬L0.owns b->w'.heap[b]?=w.heap[b]?)
  (hos:w'.os=w.os) (htape:w'.tape=w.tape) (hout:w'.output=w.output)
  (hsize:w.heap.size<=w'.heap.size)
  (hblk:∀b,L.owns b->(L0.owns b\/(w.heap.size<=b/\b<w'.heap.size))):
  Inv CR base (g.cj l i L) (aR J l i (.cells v ds)) w'/\Ev g w (g.cj l i L) w':=by
 have hle:g.le (g.cj l i L):=G.jg λL1 e=>by rw[h0]at e;cases e;exact hL
 refine⟨hi.DM l i hle (λl' i' c=>dI c) (λl' i' c=>G.bz c) ?_ ?_ ?_ ?_ ?_ hsize ⟨_,G.aE⟩ (λb v hb=>hkept b (World.block_lt_of_cell? (a:=⟨b,0,none⟩) w (hi.oc b 0 v hb).1) λeb0=>by have h:=hi.sep l i L0 b h0 eb0 0;rw[hb]at h;cases h),⟨hle,hos,htape,hout,hsize,?_,?_,λb o v hv => .inl hv⟩⟩
 .intro l' i' L' b c e eb;refine hkept b (hi.lo l' i' L' b e eb).2 λeb0=>c ?_
  have:=hi.inj l' i' L' l i L0 b e h0 eb eb0;exact this
 .intro L1 e;rw[G.aE]at e;cases e;exact⟨_,na hb0,hrel⟩
 .intro b o x e;obtain⟨h1,h2⟩:=hi.oc b o x e;refine⟨(gq (hkept b (hi.ir e) λeb0=>?_)).trans h1,h2⟩;have:=hi.sep l i L0 b h0 eb0 o;rw[show g.oc b o=some x from e]at this;cases this
 .intro l' i' L' b e eb o;by_cases c:l'=l/\i'=i
  .obtain⟨rfl,rfl⟩:=c;rw[G.aE]at e;cases e;rcases hblk b eb with h | ⟨h,_⟩
   .exact hi.sep _ _ L0 b h0 h o
   .cases e':(g.cj l' i' L).oc b o with
    |none=>rfl
    |some v=>have:=hi.ir (b:=b) (o:=o) (v:=v) e';omega
  .rw[G.bz c]at e;exact hi.sep l' i' L' b e eb o
 .intro L1 b e eb;rw[G.aE]at e;cases e;rcases hblk b eb with h | ⟨h,h'⟩
  .have:=hi.lo l i L0 b h0 h;refine⟨this.1,by omega,λl' i' L' c e' eb'=>c ?_⟩;exact hi.inj l' i' L' l i L0 b e' h0 eb' h
  .exact⟨iB hi.ge h,h',λl' i' L' c e' eb'=>by have:=(hi.lo l' i' L' b e' eb').2;omega⟩
 .intro b hb hn;exact hkept b hb λe=>hn ⟨l,i,L0,h0,e⟩
 .intro b hb;obtain⟨l',i',L',e,eb⟩:=hb;by_cases c:l'=l/\i'=i
  .obtain⟨rfl,rfl⟩:=c;rw[G.aE]at e;cases e;rcases hblk b eb with h | ⟨h,_⟩
   .exact .inl ⟨_,_,L0,h0,h⟩
   .exact .inr h
  .rw[G.bz c]at e;exact .inl ⟨l',i',L',e,eb⟩
theorem Ef{l n:Nat}:∀{ds:List D} {J:SK},D.bx ds=true->cn.frzL (cn l (n+1)) ds J=(ds,J)
 |[],J,h=>rfl
 |d::ds,J,h=>by
  simp only[D.bx,ae]at h;have h1:cn l (n+1) d J=(d,J):=by cases d<;>simp[cn,h.1]
  simp only[cn.frzL,h1,Ef h.2]
theorem N1{e:Env}{J:SK}{os:List Nat}{sz:Nat}{X Y:bD}{r:D×SK}(h:bG e J (.Pv os sz X Y)=some r):bG e J (.st [] sz X Y)=some r:=by
 simp only[bG]at h ⊢;cases hx:ba e X<;>rw[hx]at h<;>try (cases h;done)
 dsimp only at h ⊢;split at h
 case isFalse=>cases h
 split at h
 case h_2=>cases h
 rename_i cs hcs;split at h
 case h_2=>cases h
 rename_i p hp;split at h
 case isFalse=>cases h
 rename_i hc
 try simp only[hcs]
 try simp only[hp]
 try dsimp only
 rw[if_pos ⟨hc.1,hc.2.1⟩];split
 .simpa[jF]using h
 .rename_i hn;rw[show deep=15+1 from rfl,Ef (hc.2.2.resolve_right hn)];exact h
end Go.az
