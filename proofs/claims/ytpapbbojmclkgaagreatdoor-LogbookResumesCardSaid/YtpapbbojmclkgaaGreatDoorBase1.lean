import Derived.Test.YtpapbbojmclkgaaGreatDoorBase0
import Derived.AtR
import Derived.Laws.Cells
import Derived.Laws.World
import Derived.Lib.FrozenHead
set_option linter.all false
namespace Go.aw
open Go
inductive Loc where
 |dead
 |nP (v:Nat)
 |at(dR off v sz:Nat)
 |lp (dR:Nat)
 |mp (dR:Nat)
 |it (dR:Nat)
 |ob (dR:Nat) (buf:Option Nat)
def Loc.UT:Loc->Nat->Prop
 |.dead,_=>True
 |.nP v',v=>v<=v'
 |.at _ _ v' _,v=>v<=v'
 |.lp _,_=>False
 |.mp _,_=>False
 |.it _,_=>False
 |.ob ..,_=>False
def Loc.owns:Loc->Nat->Prop
 |.at b _ _ _,x=>b=x
 |.lp b,x=>b=x
 |.mp b,x=>b=x
 |.it b,x=>b=x
 |.ob b c,x=>b=x\/c=some x
 |_,_=>False
structure G where
 loc:Nat->Nat->Option Loc
 nB:Nat->Nat->Option Value
def G.row(g:G)(b o:Nat)(vs:List Value):Prop:=∀j v,vs[j]?=some v->g.nB b (o+j)=some v
mutual
inductive bW (g:G):D->Value->Prop
 |undef (c:Value):bW g .undef c
 |bool (b:Bool):bW g (.bool b) (.bool b)
 |int (k:IntKind) (n:Int):bW g (.int k n) (.int k n)
 |str (s:ByteArray):bW g (.str s.data.toList) (.string s)
 |agg (ds:List D) (cs:Array Value):bS g ds cs.toList->(∀c∈cs.toList,c.oneCell'=true)->bW g (.agg ds) (.agg cs)
 |cS (ds:List D) (cs:Array Value):bS g ds cs.toList->bW g (.cS ds) (.tuple cs)
 |zV:bW g .zV (.pointer none)
 |ref (l i v off b o:Nat) (L:Loc):g.loc l i=some L->L.UT v ->
   (∀dR bo sz,L=.at dR bo v sz->b=dR/\o=bo+off)->L ≠ .nP v->bW g (.ref l i v off) (.pointer (some ⟨b,o,none⟩))
 |bq (ds:List D) (b o:Nat) (vs:List Value):g.row b o vs->bS g ds vs->bW g (.bq ds) (.pointer (some ⟨b,o,none⟩))
 |bB:bW g .bB (.slice none 0 0)
 |Aj:bW g (.bZ 0 []) (.slice none 0 0)
 |bZ (n:Nat) (ds:List D) (a:Addr) (cap:Nat) (vs:List Value):n<=cap->g.row a.block a.off vs->(n≠0->a.spot=none)->bS g ds vs ->
   bW g (.bZ n ds) (.slice (some a) n cap)
 |sl (l i v off n w:Nat) (a:Option Addr) (cap:Nat) (L:Loc):g.loc l i=some L->L.UT v->(n<=cap/\cap<9223372036854775808)->(a=none->cap=0)->(∀x,a=some x->n≠0->x.spot=none) ->
   (∀dR bo sz,L=.at dR bo v sz->(a=some ⟨dR,bo+off,none⟩/\bo+off+cap*w<=sz)\/cap=0) ->
   (L=.nP v->a=none)->bW g (.sl l i v off n w) (.slice a n cap)
 |fn (f:Nat) (fs cs:List D) (fs' cs':Array Value):bS g fs fs'.toList->bS g cs cs'.toList->bW g (.fn f fs cs) (.func (.func f) fs' cs')
 |pc:bW g .pc .nilFunc
 |jg (l i b:Nat):g.loc l i=some (.lp b)->bW g (.jg l i) (.func (.yield b) #[] #[])
 |UM (l i b:Nat):g.loc l i=some (.mp b)->bW g (.jg l i) (.map (some b))
 |Za (l i b:Nat) (L:Loc):g.loc l i=some L->(L=.it b\/L=.dead)->bW g (.jg l i) (.pointer (some ⟨b,0,none⟩))
 |VR (l i b:Nat) (L:Loc):g.loc l i=some L->((∃c,L=.ob b c)\/L=.dead)->bW g (.jg l i) (.pointer (some ⟨b,0,none⟩))
 |ua (t:Nat) (d:D) (c:Value):bW g d c->bW g (.ua t d) (.iface t c)
 |mQ:bW g .mQ .nilIface
inductive bS (g:G):List D->List Value->Prop
 |nil:bS g [] []
 |cons (d:D) (c:Value) (ds:List D) (cs:List Value):bW g d c->bS g ds cs->bS g (d::ds) (c::cs)
end
def Loc.le:Loc->Loc->Prop
 |.dead,L=>L=.dead
 |.lp b,L=>L=.lp b
 |.mp b,L=>L=.mp b
 |.it b,L=>L=.it b\/L=.dead
 |.ob b _,L=>(∃c,L=.ob b c)\/L=.dead
 |.nP v,L=>L=.nP v\/L=.dead\/(∃b o v' s,L=.at b o v' s/\v<v')\/∃v',L=.nP v'/\v<v'
 |.at b o v s,L=>L=.at b o v s\/L=.dead\/∃b' o' v' s',L=.at b' o' v' s'/\v<v'
theorem Loc.le_refl(L:Loc):L.le L:=by cases L<;>simp[Loc.le]
theorem Loc.le_trans{a b c:Loc}(h:a.le b)(h':b.le c):a.le c:=by
 cases a with
 |dead=>simp only[Loc.le]at h;subst h;exact h'
 |lp x=>simp only[Loc.le]at h;subst h;exact h'
 |mp x=>simp only[Loc.le]at h;subst h;exact h'
 |it x =>
  simp only[Loc.le]at h;rcases h with rfl | rfl
  .exact h'
  .simp only[Loc.le]at h' ⊢;exact .inr h'
 |ob x y =>
  simp only[Loc.le]at h;rcases h with⟨c,rfl⟩ | rfl
  .exact h'
  .simp only[Loc.le]at h' ⊢;exact .inr h'
 |nP v =>
  simp only[Loc.le]at h;rcases h with rfl | rfl | ⟨b1,o,v',s,rfl,hv⟩ | ⟨v',rfl,hv⟩
  .exact h'
  .simp only[Loc.le]at h' ⊢;exact .inr (.inl h')
  .simp only[Loc.le]at h' ⊢;rcases h' with rfl | rfl | ⟨b2,o2,v2,s2,rfl,hv2⟩
   .exact .inr (.inr (.inl ⟨_,_,_,_,rfl,hv⟩))
   .exact .inr (.inl rfl)
   .exact .inr (.inr (.inl ⟨_,_,_,_,rfl,by omega⟩))
  .simp only[Loc.le]at h' ⊢;rcases h' with rfl | rfl | ⟨b2,o2,v2,s2,rfl,hv2⟩ | ⟨v2,rfl,hv2⟩
   .exact .inr (.inr (.inr ⟨_,rfl,hv⟩))
   .exact .inr (.inl rfl)
   .exact .inr (.inr (.inl ⟨_,_,_,_,rfl,by omega⟩))
   .exact .inr (.inr (.inr ⟨_,rfl,by omega⟩))
 |«at» b1 o v s =>
  simp only[Loc.le]at h;rcases h with rfl | rfl | ⟨b2,o2,v2,s2,rfl,hv⟩
  .exact h'
  .simp only[Loc.le]at h' ⊢;exact .inr (.inl h')
  .simp only[Loc.le]at h' ⊢;rcases h' with rfl | rfl | ⟨b3,o3,v3,s3,rfl,hv3⟩
   .exact .inr (.inr ⟨_,_,_,_,rfl,hv⟩)
   .exact .inr (.inl rfl)
   .exact .inr (.inr ⟨_,_,_,_,rfl,by omega⟩)
theorem Loc.zW{L L':Loc}{v:Nat}(h:L.UT v)(h':L.le L'):L'.UT v:=by
 cases L with
 |dead=>simp only[Loc.le]at h';subst h';trivial
 |lp b=>exact h.elim
 |mp b=>exact h.elim
 |it b=>exact h.elim
 |ob b c=>exact h.elim
 |nP v' =>
  simp only[Loc.le]at h';simp only[Loc.UT]at h;rcases h' with rfl | rfl | ⟨b,o,v',s,rfl,hv⟩ | ⟨v',rfl,hv⟩<;>simp only[Loc.UT]<;>omega
 |«at» b o v' s =>
  simp only[Loc.le]at h';simp only[Loc.UT]at h;rcases h' with rfl | rfl | ⟨b',o',v'',s',rfl,hv⟩<;>simp only[Loc.UT]<;>omega
structure G.le(g g':G):Prop where
 loc:∀l i L,g.loc l i=some L->∃L',g'.loc l i=some L'/\L.le L'
 nB:∀b o v,g.nB b o=some v->g'.nB b o=some v
theorem G.le_refl(g:G):g.le g:=⟨λ_ _ L h=>⟨L,h,L.le_refl⟩,λ_ _ _ h=>h⟩
theorem G.le_trans{a b c:G}(h:a.le b)(h':b.le c):a.le c :=
 ⟨λl i L e=>let ⟨L1,e1,h1⟩:=h.loc l i L e;let ⟨L2,e2,h2⟩:=h'.loc l i L1 e1;⟨L2,e2,Loc.le_trans h1 h2⟩,
  λx o v e=>h'.nB x o v (h.nB x o v e)⟩
theorem G.I3{g g':G}(h:g.le g'){b o:Nat}{vs:List Value}(hr:g.row b o vs):g'.row b o vs:=λj v e=>h.nB _ _ _ (hr j v e)
theorem Loc.back{L L':Loc}{v:Nat}(h:L.UT v)(h':L.le L'){b o s:Nat}(e:L'=.at b o v s):L=.at b o v s:=by
 subst e;cases L with
 |dead=>simp[Loc.le]at h'
 |lp b=>simp[Loc.le]at h'
 |mp b=>simp[Loc.le]at h'
 |it b=>simp[Loc.le]at h'
 |ob b c=>simp[Loc.le]at h'
 |nP v' =>
  simp only[Loc.le]at h';simp only[Loc.UT]at h;rcases h' with h' | h' | ⟨b,o,v',s,h',hv⟩ | ⟨v',h',hv⟩<;>simp_all
  omega
 |«at» b o v' s =>
  simp only[Loc.le]at h';simp only[Loc.UT]at h;rcases h' with h' | h' | ⟨b',o',v'',s',h',hv⟩<;>simp_all
  omega
theorem Loc.Fg{L L':Loc}{v:Nat}(h:L.UT v)(h':L.le L')(e:L'=.nP v):L=.nP v:=by
 subst e;cases L with
 |dead=>simp[Loc.le]at h'
 |lp b=>simp[Loc.le]at h'
 |mp b=>simp[Loc.le]at h'
 |it b=>simp[Loc.le]at h'
 |ob b c=>simp[Loc.le]at h'
 |nP v' =>
  simp only[Loc.le]at h';simp only[Loc.UT]at h;rcases h' with h' | h' | ⟨b,o,v',s,h',hv⟩ | ⟨v',h',hv⟩<;>simp_all
  omega
 |«at» b o v' s=>simp[Loc.le]at h'
mutual
theorem bW.mono{g g':G}(h:g.le g'):∀{d:D} {c:Value},bW g d c->bW g' d c
 |_,_,.undef c => .undef c
 |_,_,.bool b => .bool b
 |_,_,.int k n => .int k n
 |_,_,.str s => .str s
 |_,_,.agg ds cs hr h1 => .agg ds cs (bS.mono h hr) h1
 |_,_,.cS ds cs hr => .cS ds cs (bS.mono h hr)
 |_,_,.zV => .zV
 |_,_,.ref l i v off b o L e hv hc hn =>
  let ⟨L',e',hl⟩:=h.loc l i L e
  .ref l i v off b o L' e' (Loc.zW hv hl) (λdR bo sz eq=>hc dR bo sz (Loc.back hv hl eq)) (λeq=>hn (Loc.Fg hv hl eq))
 |_,_,.bq ds b o vs hr hl => .bq ds b o vs (G.I3 h hr) (bS.mono h hl)
 |_,_,.bB => .bB
 |_,_,.Aj => .Aj
 |_,_,.bZ n ds a cap vs hn hr hs hl => .bZ n ds a cap vs hn (G.I3 h hr) hs (bS.mono h hl)
 |_,_,.sl l i v off n w a cap L e hv hn ha hs hc hc' =>
  let ⟨L',e',hl⟩:=h.loc l i L e
  .sl l i v off n w a cap L' e' (Loc.zW hv hl) hn ha hs (λdR bo sz eq=>hc dR bo sz (Loc.back hv hl eq)) (λeq=>hc' (Loc.Fg hv hl eq))
 |_,_,.fn f fs cs fs' cs' h1 h2 => .fn f fs cs fs' cs' (bS.mono h h1) (bS.mono h h2)
 |_,_,.pc => .pc
 |_,_,.jg l i b e =>
  let ⟨L',e',hl⟩:=h.loc l i _ e
  .jg l i b (by rw[e',show L'=.lp b from hl])
 |_,_,.UM l i b e =>
  let ⟨L',e',hl⟩:=h.loc l i _ e
  .UM l i b (by rw[e',show L'=.mp b from hl])
 |_,_,.Za l i b L e hc =>
  let ⟨L',e',hl⟩:=h.loc l i L e
  .Za l i b L' e' (by
   rcases hc with rfl | rfl
   .exact hl
   .exact .inr hl)
 |_,_,.VR l i b L e hc =>
  let ⟨L',e',hl⟩:=h.loc l i L e
  .VR l i b L' e' (by
   rcases hc with⟨c,rfl⟩ | rfl
   .exact hl
   .exact .inr hl)
 |_,_,.ua t d c h1 => .ua t d c (bW.mono h h1)
 |_,_,.mQ => .mQ
theorem bS.mono{g g':G}(h:g.le g'):∀{ds:List D} {cs:List Value},bS g ds cs->bS g' ds cs
 |_,_,.nil => .nil
 |_,_,.cons d c ds cs h1 h2 => .cons d c ds cs (bW.mono h h1) (bS.mono h h2)
end
section lists
variable {g:G}
theorem bS.length{ds:List D}{cs:List Value}(h:bS g ds cs):ds.length=cs.length:=by
 induction ds generalizing cs with
 |nil=>cases h;rfl
 |cons d ds ih=>cases h with | cons _ c _ cs h1 h2=>simp[ih h2]
theorem bS.get{ds:List D}{cs:List Value}(h:bS g ds cs){j:Nat}{d:D}(e:ds[j]?=some d):∃c,cs[j]?=some c/\bW g d c:=by
 induction ds generalizing cs j with
 |nil=>simp at e
 |cons d0 ds ih =>
  cases h with
  |cons _ c _ cs h1 h2 =>
   cases j with
   |zero=>simp at e;subst e;exact⟨c,rfl,h1⟩
   |succ j=>exact ih h2 (by simpa using e)
theorem bS.append{a b:List D}{x y:List Value}(h:bS g a x)(h':bS g b y):bS g (a++b) (x++y):=by
 induction a generalizing x with
 |nil=>cases h;exact h'
 |cons d a ih=>cases h with | cons _ c _ cs h1 h2=>exact .cons _ _ _ _ h1 (ih h2)
theorem bS.take{a:List D}{x:List Value}(h:bS g a x)(n:Nat):bS g (a.take n) (x.take n):=by
 induction a generalizing x n with
 |nil=>cases h;simpa using bS.nil
 |cons d a ih =>
  cases h with
  |cons _ c _ cs h1 h2 =>
   cases n with
   |zero=>exact .nil
   |succ n=>exact .cons _ _ _ _ h1 (ih h2 n)
theorem bS.drop{a:List D}{x:List Value}(h:bS g a x)(n:Nat):bS g (a.drop n) (x.drop n):=by
 induction a generalizing x n with
 |nil=>cases h;simpa using bS.nil
 |cons d a ih =>
  cases h with
  |cons _ c _ cs h1 h2 =>
   cases n with
   |zero=>exact .cons _ _ _ _ h1 h2
   |succ n=>exact ih h2 n
theorem bS.afM{ds:List D}{cs:List Value}(hl:ds.length=cs.length)(h:∀(j:Nat) (d:D) (c:Value),ds[j]?=some d->cs[j]?=some c->bW g d c):bS g ds cs:=by
 induction ds generalizing cs with
 |nil=>cases cs with
  |nil=>exact .nil
  |cons c cs=>simp at hl
 |cons d ds ih =>
  cases cs with
  |nil=>simp at hl
  |cons c cs =>
   exact .cons _ _ _ _ (h 0 d c rfl rfl) (ih (by simpa using hl) λj d' c' e e'=>h (j+1) d' c' (by simpa using e) (by simpa using e'))
theorem bW.cells{d:D}{c:Value}(h:bW g d c){ds:List D}(e:d.cells=some ds):bS g ds c.cells.toList/\∀x∈c.cells.toList,x.oneCell'=true:=by
 have h0:=h;cases h with
 |agg ds' cs hr h1=>simp only[D.cells,ae]at e;subst e;exact⟨hr,h1⟩
 |undef c=>simp[D.cells]at e
 |cS=>simp[D.cells]at e
 |_=>simp only[D.cells,ae]at e;subst e;exact⟨.cons _ _ _ _ h0 .nil,by simp[Value.cells,Value.oneCell']⟩
end lists
def Bl(g:G)(e:Env)(tmps:Array Value):Prop:=∀t,bW g (get e t) (tmps.getD t Go.undef)
theorem Bl.mono{g g':G}(h:g.le g'){e:Env}{tmps:Array Value}(hr:Bl g e tmps):Bl g' e tmps:=λt=>(hr t).mono h
structure fw where
 rel:cb->Code->Nat->Prop
 OA:Nat->(Obj->Prop)->Prop
def alZ:Nat->LoopState
 |0 => .ready
 |1 => .busy
 |2 => .done
 |_ => .exhausted
def EW:Option Exit->Option (Option Code)
 |none=>some none
 |some (.exit id)=>some (some (.exit id))
 |some .ret=>some (some .ret)
 |some .normal=>none
 |some (.fy _)=>none
structure CS(CR:fw)(g:G)(lp:xd)(r:Loop):Prop where
 state:r.state=alZ lp.state
 xC:EW lp.xC=some r.pending
 env:Bl g lp.env r.tmps
 params:r.params.toList=lp.params
 small:∀t∈lp.params,t<r.tmps.size
 both:CR.rel (.ite (.t 0) lp.BY lp.body) (.cond (.tmp 0) r.assign r.body) r.tmps.size
def Ui(es:List MapEntry)(clock:Nat):Prop:=es.map (·.born)=List.range es.length/\clock=es.length
def J0(CR:fw)(g:G)(w:World):aF->Loc->Prop
 |.cells v cs,.at b off v' sz=>v=v'/\∃(c:Array Value) (el:TypeId),w.heap[b]?=some (.cells c el (0,0))/\c.size=sz/\off+cs.length<=sz /\
   ∃vs,bS g cs vs/\(∀j x,vs[j]?=some x->c[off+j]?=some x/\x.oneCell'=true)
 |.cells v cs,.nP v'=>v=v'/\cs=[]
 |.dead,.dead=>True
 |.loop lp,.lp b=>∃r,w.heap[b]?=some (.loop r)/\CS CR g lp r
 |.cells v es,.mp b=>v=0/\∃dT clock,w.heap[b]?=some (.map dT clock)/\bS g es (dT.toList.map λe => .tuple #[e.key,e.val])/\Ui dT.toList clock
 |.cells v cs,.it b=>v=1/\∃l i bm n,∃js:List Nat,cs=.jg l i::.int .i64 (n:Nat)::js.map (λj:Nat=>D.int .i64 j)/\g.loc l i=some (.mp bm) /\
   w.heap[b]?=some (.mapIter (some bm) n js.reverse.toArray n)/\js.Nodup/\∀j∈js,j<n
 |.cells v cs,.ob b c=>v=2/\∃(T e:Nat) (bs:List UInt8) (p s:Value),cs=[.int .i64 T,.int .i64 e,.str bs]/\w.heap[b]?=some (.cells #[p,s] T (0,0)) /\
   (p=.pointer none\/p=.pointer (some ⟨b,0,none⟩))/\w.ownsRowF 0 e 1 s bs.length (bs.map λx => .int .u8 x.toNat)/\s.ownBlock=c/\c≠some b
 |_,_=>False
structure Inv(CR:fw)(base:Nat)(g:G)(J:SK)(w:World):Prop where
 ge:base<=w.heap.size
 yr:∀l i L,g.loc l i=some L->∃b,ef J l i=some b/\J0 CR g w b L
 nB:∀b o v,g.nB b o=some v->w.cell? ⟨b,o,none⟩=some v/\v.oneCell'=true
 sep:∀l i L b,g.loc l i=some L->L.owns b->∀o,g.nB b o=none
 inj:∀l i L l' i' L' b,g.loc l i=some L->g.loc l' i'=some L'->L.owns b->L'.owns b->l=l'/\i=i'
 lo:∀l i L b,g.loc l i=some L->L.owns b->base<=b/\b<w.heap.size
 Vh:∀l i b,ef J l i=some b->∃L,g.loc l i=some L
 OA:∀b Q,CR.OA b Q->(∃v,g.nB b 0=some v)/\∃o,w.heap[b]?=some o/\Q o
def G.has(g:G)(b:Nat):Prop:=∃l i L,g.loc l i=some L/\L.owns b
structure Ev(g:G)(w:World)(g':G)(w':World):Prop where
 le:g.le g'
 os:w'.os=w.os
 tape:w'.tape=w.tape
 output:w'.output=w.output
 size:w.heap.size<=w'.heap.size
 kept:∀b,b<w.heap.size->¬g.has b->w'.heap[b]?=w.heap[b]?
 WW:∀b,g'.has b->g.has b\/w.heap.size<=b
 Mz:∀b o v,g'.nB b o=some v->g.nB b o=some v\/g.has b\/w.heap.size<=b
theorem Ev.refl(g:G)(w:World):Ev g w g w:=⟨g.le_refl,rfl,rfl,rfl,aO _,λ_ _ _=>rfl,λ_ h => .inl h,λ_ _ _ h => .inl h⟩
theorem Ev.trans{g g1 g2:G}{w w1 w2:World}(h:Ev g w g1 w1)(h':Ev g1 w1 g2 w2):Ev g w g2 w2 where
 le:=G.le_trans h.le h'.le
 os:=h'.os.trans h.os
 tape:=h'.tape.trans h.tape
 output:=h'.output.trans h.output
 size:=jc h.size h'.size
 kept b hb hn:=by
  have h1:¬g1.has b:=λhx=>by
   rcases h.WW b hx with hx | hx
   .exact hn hx
   .omega
  rw[h'.kept b (Nat.lt_of_lt_of_le hb h.size) h1,h.kept b hb hn]
 WW b hb:=by
  rcases h'.WW b hb with hx | hx
  .exact h.WW b hx
  .exact .inr (jc h.size hx)
 Mz b o v hv:=by
  rcases h'.Mz b o v hv with hx | hx | hx
  .exact h.Mz b o v hx
  .exact .inr (h.WW b hx)
  .exact .inr (.inr (jc h.size hx))
section stack
theorem Dy{J:SK}{l:Nat}{s:List aF}(h:eK J l=some s):l<J.length:=by
 induction J with
 |nil=>simp[eK]at h
 |cons s0 J ih =>
  simp only[eK]at h;split at h
  .simp;omega
  .have:=ih h;simp;omega
theorem sN{J:SK}{l:Nat}{s:List aF}(h:l<J.length):eK (gL J l s) l=some s:=by
 induction J with
 |nil=>simp at h
 |cons s0 J ih =>
  simp only[gL];split
  .rename_i e;simp[eK,e]
  .rename_i e;simp only[eK];rw[fK];rw[if_neg e];exact ih (by simp at h;omega)
where
 fK {J:SK} {l:Nat} {s:List aF}:(gL J l s).length=J.length:=by
  induction J with
  |nil=>rfl
  |cons s0 J ih=>simp only[gL];split<;>simp[ih]
theorem fK{J:SK}{l:Nat}{s:List aF}:(gL J l s).length=J.length:=sN.fK
theorem Ie{J:SK}{l l':Nat}{s:List aF}(h:l'≠l):eK (gL J l s) l'=eK J l':=by
 induction J with
 |nil=>rfl
 |cons s0 J ih =>
  simp only[gL];split
  .rename_i e;simp only[eK];rw[if_neg (by omega),if_neg (by omega)]
  .simp only[eK,fK];split
   .rfl
   .exact ih
theorem dS{J:SK}{l i:Nat}{b:aF}:(bw J l i b).length=J.length:=by
 unfold bw;split
 .exact fK
 .rfl
theorem mR{J:SK}{l i:Nat}{b b0:aF}(h:ef J l i=some b0):ef (bw J l i b) l i=some b:=by
 unfold ef at h;cases hs:eK J l with
 |none=>simp[hs]at h
 |some s =>
  simp only[hs,Option.bind_some]at h;have hi:i<s.length:=(aA.1 h).1;simp only[bw,hs,ef,sN (Dy hs),Option.bind_some];simp[hi]
theorem eO{J:SK}{l i l' i':Nat}{b:aF}(h:¬(l'=l/\i'=i)):ef (bw J l i b) l' i'=ef J l' i':=by
 unfold bw;cases hs:eK J l with
 |none=>rfl
 |some s =>
  simp only[ef];by_cases hl:l'=l
  .subst hl;rw[sN (Dy hs),hs];simp only[Option.bind_some];rw[List.getElem?_set_ne];intro e;exact h ⟨rfl,e.symm⟩
  .rw[Ie hl]
theorem jy{J J':SK}{b:aF}{l i:Nat}(h:fT J b=some (l,i,J')):
  ef J l i=none/\ef J' l i=some b/\(∀l' i',¬(l'=l/\i'=i)->ef J' l' i'=ef J l' i')/\J'.length=J.length/\l+1=J.length:=by
 cases J with
 |nil=>simp[fT]at h
 |cons s J =>
  simp only[fT,ae,ak]at h;obtain⟨rfl,rfl,rfl⟩:=h;refine⟨by simp[ef,eK],by simp[ef,eK],?_,rfl,rfl⟩;intro l' i' hn;simp only[ef,eK];split
  .rename_i e;simp only[Option.bind_some];rw[List.getElem?_append];split
   .rfl
   .rename_i hlt;have:i'≠s.length:=λe'=>hn ⟨e.symm,e'⟩
    rw[dV (by simp;omega),dV (by omega)]
  .rfl
end stack
theorem J0.mono{CR:fw}{g g':G}{w w':World}{b:aF}{L:Loc}(h:J0 CR g w b L)(hg:g.le g')
  (hw:∀x,L.owns x->w'.heap[x]?=w.heap[x]?):J0 CR g' w' b L:=by
 cases b with
 |cells v cs =>
  cases L with
  |«at» x off v' sz =>
   obtain⟨rfl,c,el,hb,hsz,hlen,vs,hr,hv⟩:=h;exact⟨rfl,c,el,(hw x rfl).trans hb,hsz,hlen,vs,hr.mono hg,hv⟩
  |nP v'=>exact h
  |dead=>exact h
  |lp x=>exact h
  |mp x =>
   obtain⟨hv,dT,clock,hb,hr,hm⟩:=h;exact⟨hv,dT,clock,(hw x rfl).trans hb,hr.mono hg,hm⟩
  |it x =>
   obtain⟨hv,l,i,bm,n,js,h1,h2,h3,h4⟩:=h;obtain⟨L',e',hl⟩:=hg.loc l i _ h2;exact⟨hv,l,i,bm,n,js,h1,by rw[e',show L'=.mp bm from hl],(hw x rfl).trans h3,h4⟩
  |ob x y =>
   obtain⟨hv,T,e,bs,p,s,h1,h2,h3,h4,h5,h6⟩:=h;refine⟨hv,T,e,bs,p,s,h1,(hw x (.inl rfl)).trans h2,h3,⟨h4.1,h4.2.imp id λ⟨q,cap,cur,fz,k1,k2,k3,k4⟩=>⟨q,cap,cur,fz,k1,k2,(hw q (.inr ?_)).trans k3,k4⟩⟩,h5,h6⟩;rw[<- h5,k1];rfl
 |dead=>cases L<;>exact h
 |loop lp =>
  cases L with
  |lp x =>
   obtain⟨r,hb,hr⟩:=h;exact⟨r,(hw x rfl).trans hb,{hr with env:=hr.env.mono hg }⟩
  |«at» x off v' sz=>exact h
  |nP v'=>exact h
  |dead=>exact h
  |mp x=>exact h
  |it x=>exact h
  |ob x y=>exact h
theorem Inv.Ik{CR:fw}{base:Nat}{g g':G}{J J':SK}{w w':World}(hi:Inv CR base g J w)(l i:Nat)
  (hle:g.le g')
  (hJ:∀l' i',¬(l'=l/\i'=i)->ef J' l' i'=ef J l' i')
  (hloc:∀l' i',¬(l'=l/\i'=i)->g'.loc l' i'=g.loc l' i')
  (hw:∀l' i' L b,¬(l'=l/\i'=i)->g.loc l' i'=some L->L.owns b->w'.heap[b]?=w.heap[b]?)
  (hnew:∀L,g'.loc l i=some L->∃b,ef J' l i=some b/\J0 CR g' w' b L)
  (himm:∀b o v,g'.nB b o=some v->w'.cell? ⟨b,o,none⟩=some v/\v.oneCell'=true)
  (hsep:∀l' i' L b,g'.loc l' i'=some L->L.owns b->∀o,g'.nB b o=none)
  (hinj:∀L b,g'.loc l i=some L->L.owns b->base<=b/\b<w'.heap.size/\∀l' i' L',¬(l'=l/\i'=i)->g.loc l' i'=some L'->¬L'.owns b)
  (hsize:w.heap.size<=w'.heap.size) (htot:∃L,g'.loc l i=some L) (hlow:∀b v,g.nB b 0=some v->w'.heap[b]?=w.heap[b]?):Inv CR base g' J' w' where
 OA b Q h:=let ⟨⟨v,hb⟩,o,ho,hq⟩:=hi.OA b Q h;⟨⟨v,hle.nB _ _ _ hb⟩,o,(hlow b v hb).trans ho,hq⟩
 Vh l' i' b e:=by
  by_cases h:l'=l/\i'=i
  .obtain⟨rfl,rfl⟩:=h;exact htot
  .rw[hJ l' i' h]at e;rw[hloc l' i' h];exact hi.Vh l' i' b e
 ge:=jc hi.ge hsize
 yr l' i' L e:=by
  by_cases h:l'=l/\i'=i
  .obtain⟨rfl,rfl⟩:=h;exact hnew L e
  .rw[hloc l' i' h]at e;obtain⟨b,hb,hr⟩:=hi.yr l' i' L e;exact⟨b,(hJ l' i' h).trans hb,hr.mono hle λx hx=>hw l' i' L x h e hx⟩
 nB:=himm
 sep:=hsep
 inj l1 i1 L1 l2 i2 L2 b h1 h2 e1 e2:=by
  by_cases c1:l1=l/\i1=i
  .obtain⟨rfl,rfl⟩:=c1;by_cases c2:l2=l1/\i2=i1
   .exact⟨c2.1.symm,c2.2.symm⟩
   .rw[hloc l2 i2 c2]at h2;exact absurd e2 ((hinj L1 b h1 e1).2.2 l2 i2 L2 c2 h2)
  .rw[hloc l1 i1 c1]at h1;by_cases c2:l2=l/\i2=i
   .obtain⟨rfl,rfl⟩:=c2;exact absurd e1 ((hinj L2 b h2 e2).2.2 l1 i1 L1 c1 h1)
   .rw[hloc l2 i2 c2]at h2;exact hi.inj _ _ _ _ _ _ b h1 h2 e1 e2
 lo l' i' L b e eb:=by
  by_cases h:l'=l/\i'=i
  .obtain⟨rfl,rfl⟩:=h;exact⟨(hinj L b e eb).1,(hinj L b e eb).2.1⟩
  .rw[hloc l' i' h]at e;have:=hi.lo l' i' L b e eb;exact⟨this.1,by omega⟩
theorem gU{w w':World}{b o:Nat}(h:w'.heap[b]?=w.heap[b]?):w'.cell? ⟨b,o,none⟩=w.cell? ⟨b,o,none⟩:=by
 simp only[World.cell?,h]
theorem Inv.heap{CR:fw}{base:Nat}{g:G}{J:SK}{w w1:World}(hi:Inv CR base g J w)(h:w1.heap=w.heap):Inv CR base g J w1 where
 ge:=by rw[h];exact hi.ge
 yr l i L e:=let ⟨b,hb,hr⟩:=hi.yr l i L e;⟨b,hb,hr.mono g.le_refl λx _=>by rw[h]⟩
 nB b o v e:=let ⟨h1,h2⟩:=hi.nB b o v e;⟨(gU (by rw[h])).trans h1,h2⟩
 sep:=hi.sep
 inj:=hi.inj
 Vh:=hi.Vh
 OA:=by rw[h];exact hi.OA
 lo l i L b e eb:=by rw[h];exact hi.lo l i L b e eb
theorem Ev.heap(g:G){w w1:World}(h:w1.heap=w.heap)(ho:w1.os=w.os)(ht:w1.tape=w.tape)(hp:w1.output=w.output):Ev g w g w1 :=
 ⟨g.le_refl,ho,ht,hp,by rw[h];exact aO _,λb _ _=>by rw[h],λb hb => .inl hb,λb o v hv => .inl hv⟩
theorem Inv.iW{CR:fw}{base:Nat}{g:G}{J:SK}{w:World}(hi:Inv CR base g J w){b o:Nat}{v:Value}(h:g.nB b o=some v):b<w.heap.size :=
 World.block_lt_of_cell? (a:=⟨b,o,none⟩) w (hi.nB b o v h).1
theorem Inv.Y0{CR:fw}{base:Nat}{g:G}{J:SK}{w:World}(hi:Inv CR base g J w){b:Nat}(h:g.has b):b<w.heap.size :=
 let ⟨l,i,L,e,eb⟩:=h;(hi.lo l i L b e eb).2
def G.ji(g:G)(x:Nat)(vs:List Value):G:=⟨g.loc,λb o=>if b=x then vs[o]? else g.nB b o⟩
theorem alloc_old{w:World}{o:Obj}{b:Nat}(h:b<w.heap.size):(w.alloc o).heap[b]?=w.heap[b]?:=by
 simp only[World.alloc,Array.getElem?_push];rw[if_neg (by omega)]
theorem sC{w:World}{o:Obj}:(w.alloc o).heap[w.heap.size]?=some o:=by
 simp only[World.alloc,Array.getElem?_push_size]
theorem Inv.IY{CR:fw}{base:Nat}{g:G}{J:SK}{w:World}(hi:Inv CR base g J w)(vs:List Value)(cs:Array Value)(el:TypeId)
  (hcs:∀(j:Nat) x,vs[j]?=some x->cs[j]?=some x/\x.oneCell'=true):
  Inv CR base (g.ji w.heap.size vs) J (w.alloc (.cells cs el))/\Ev g w (g.ji w.heap.size vs) (w.alloc (.cells cs el))/\(g.ji w.heap.size vs).row w.heap.size 0 vs:=by
 have hle:g.le (g.ji w.heap.size vs):=⟨λl i L e=>⟨L,e,L.le_refl⟩,λb o v e=>by
  have:=hi.iW e;simp only[G.ji];rw[if_neg (by omega)];exact e⟩
 refine⟨⟨?_,?_,?_,?_,hi.inj,?_,hi.Vh,λb Q h=>let ⟨⟨v,hb⟩,o,ho,hq⟩:=hi.OA b Q h;⟨⟨v,hle.nB _ _ _ hb⟩,o,(alloc_old (hi.iW hb)).trans ho,hq⟩⟩,⟨hle,rfl,rfl,rfl,by simp,λb hb _=>alloc_old hb,λb hb => .inl hb,?_⟩,?_⟩
 .have:=hi.ge;simp;omega
 .intro l i L e;obtain⟨b,hb,hr⟩:=hi.yr l i L e;exact⟨b,hb,hr.mono hle λx hx=>alloc_old (hi.lo l i L x e hx).2⟩
 .intro b o v e;simp only[G.ji]at e;split at e
  .rename_i hb;subst hb;obtain⟨h1,h2⟩:=hcs o v e;exact⟨by rw[World.cell?_alloc_new];exact h1,h2⟩
  .obtain⟨h1,h2⟩:=hi.nB b o v e;exact⟨(gU (alloc_old (hi.iW e))).trans h1,h2⟩
 .intro l i L b e eb o;have:=(hi.lo l i L b e eb).2;simp only[G.ji];rw[if_neg (by omega)];exact hi.sep l i L b e eb o
 .intro l i L b e eb;have:=hi.lo l i L b e eb;exact⟨this.1,by simp;omega⟩
 .intro b o v hv;simp only[G.ji]at hv;split at hv
  .rename_i hb;exact .inr (.inr (by omega))
  .exact .inl hv
 .intro j v hv;simp[G.ji,hv]
def G.dc(g:G)(l i:Nat)(L:Loc):G:=⟨λl' i'=>if l'=l/\i'=i then some L else g.loc l' i',g.nB⟩
theorem G.aM{g:G}{l i:Nat}{L:Loc}:(g.dc l i L).loc l i=some L:=by simp[G.dc]
theorem G.bQ{g:G}{l i l' i':Nat}{L:Loc}(h:¬(l'=l/\i'=i)):(g.dc l i L).loc l' i'=g.loc l' i':=by simp only[G.dc];rw[if_neg h]
theorem G.jF{g:G}{l i:Nat}{L:Loc}(h:∀L0,g.loc l i=some L0->L0.le L):g.le (g.dc l i L) :=
 ⟨λl' i' L' e=>by
  by_cases c:l'=l/\i'=i
  .obtain⟨rfl,rfl⟩:=c;exact⟨L,G.aM,h L' e⟩
  .exact⟨L',by rw[G.bQ c];exact e,L'.le_refl⟩,λ_ _ _ e=>e⟩
theorem Inv.Fs{CR:fw}{base:Nat}{g:G}{J:SK}{w:World}(hi:Inv CR base g J w){l i:Nat}(h:ef J l i=none):g.loc l i=none:=by
 cases e:g.loc l i with
 |none=>rfl
 |some L=>obtain⟨b,hb,_⟩:=hi.yr l i L e;rw[h]at hb;cases hb
theorem Inv.CA{CR:fw}{base:Nat}{g:G}{J J':SK}{w:World}(hi:Inv CR base g J w){l i:Nat}{ds:List D}(hn:fT J (.cells 0 ds)=some (l,i,J'))
  (vs:List Value) (cs:Array Value) (el:TypeId) (hr:bS g ds vs) (hlen:vs.length<=cs.size)
  (hcs:∀(j:Nat) x,vs[j]?=some x->cs[j]?=some x/\x.oneCell'=true):
  Inv CR base (g.dc l i (.at w.heap.size 0 0 cs.size)) J' (w.alloc (.cells cs el))/\Ev g w (g.dc l i (.at w.heap.size 0 0 cs.size)) (w.alloc (.cells cs el)):=by
 obtain⟨h1,h2,h3,_,_⟩:=jy hn;have hnone:=hi.Fs h1;have hle:g.le (g.dc l i (.at w.heap.size 0 0 cs.size)):=G.jF λL0 e=>by rw[hnone]at e;cases e
 refine⟨hi.Ik l i hle h3 (λl' i' c=>G.bQ c) (λl' i' L b c e eb=>alloc_old (hi.lo l' i' L b e eb).2) ?_ ?_ ?_ ?_ (by simp) ⟨_,G.aM⟩ (λb v hb=>alloc_old (hi.iW hb)),⟨hle,rfl,rfl,rfl,by simp,λb hb _=>alloc_old hb,?_,λb o v hv => .inl hv⟩⟩
 .intro L e;rw[G.aM]at e;cases e;exact⟨_,h2,rfl,cs,el,sC,rfl,by rw[hr.length];omega,vs,hr.mono hle,λj x hx=>by simpa using hcs j x hx⟩
 .intro b o v e;obtain⟨h1,h2⟩:=hi.nB b o v e;exact⟨(gU (alloc_old (hi.iW e))).trans h1,h2⟩
 .intro l' i' L b e eb o;by_cases c:l'=l/\i'=i
  .obtain⟨rfl,rfl⟩:=c;rw[G.aM]at e;cases e;cases eb;cases e':(g.dc l' i' (.at w.heap.size 0 0 cs.size)).nB w.heap.size o with
   |none=>rfl
   |some v=>have:=hi.iW (b:=w.heap.size) (o:=o) (v:=v) e';omega
  .rw[G.bQ c]at e;exact hi.sep l' i' L b e eb o
 .intro L b e eb;rw[G.aM]at e;cases e;cases eb;refine⟨hi.ge,by simp,λl' i' L' c e' eb'=>?_⟩;have:=(hi.lo l' i' L' _ e' eb').2;omega
 .intro b hb;obtain⟨l',i',L,e,eb⟩:=hb;by_cases c:l'=l/\i'=i
  .obtain⟨rfl,rfl⟩:=c;rw[G.aM]at e;cases e;cases eb;exact .inr (aO _)
  .rw[G.bQ c]at e;exact .inl ⟨l',i',L,e,eb⟩
theorem Inv.UP{CR:fw}{base:Nat}{g:G}{J J':SK}{w:World}(hi:Inv CR base g J w){l i:Nat}(hn:fT J (.cells 0 [])=some (l,i,J')):
  Inv CR base (g.dc l i (.nP 0)) J' w/\Ev g w (g.dc l i (.nP 0)) w:=by
 obtain⟨h1,h2,h3,_,_⟩:=jy hn;have hnone:=hi.Fs h1;have hle:g.le (g.dc l i (.nP 0)):=G.jF λL0 e=>by rw[hnone]at e;cases e
 refine⟨hi.Ik l i hle h3 (λl' i' c=>G.bQ c) (λ_ _ _ _ _ _ _=>rfl) ?_ hi.nB ?_ ?_ (aO _) ⟨_,G.aM⟩ (λ_ _ _=>rfl),⟨hle,rfl,rfl,rfl,aO _,λ_ _ _=>rfl,?_,λb o v hv => .inl hv⟩⟩
 .intro L e;rw[G.aM]at e;cases e;exact⟨_,h2,rfl,rfl⟩
 .intro l' i' L b e eb o;by_cases c:l'=l/\i'=i
  .obtain⟨rfl,rfl⟩:=c;rw[G.aM]at e;cases e;cases eb
  .rw[G.bQ c]at e;exact hi.sep l' i' L b e eb o
 .intro L b e eb;rw[G.aM]at e;cases e;cases eb
 .intro b hb;obtain⟨l',i',L,e,eb⟩:=hb;by_cases c:l'=l/\i'=i
  .obtain⟨rfl,rfl⟩:=c;rw[G.aM]at e;cases e;cases eb
  .rw[G.bQ c]at e;exact .inl ⟨l',i',L,e,eb⟩
theorem Inv.setCells{CR:fw}{base:Nat}{g:G}{J:SK}{w w':World}(hi:Inv CR base g J w){l i:Nat}{L0 L:Loc}{b0:aF}{v:Nat}{ds:List D}
  (h0:g.loc l i=some L0) (hb0:ef J l i=some b0) (hL:L0.le L)
  (hrel:J0 CR (g.dc l i L) w' (.cells v ds) L)
  (hkept:∀b,b<w.heap.size->¬L0.owns b->w'.heap[b]?=w.heap[b]?)
  (hos:w'.os=w.os) (htape:w'.tape=w.tape) (hout:w'.output=w.output)
  (hsize:w.heap.size<=w'.heap.size)
  (hblk:∀b,L.owns b->(L0.owns b\/(w.heap.size<=b/\b<w'.heap.size))):
  Inv CR base (g.dc l i L) (bw J l i (.cells v ds)) w'/\Ev g w (g.dc l i L) w':=by
 have hle:g.le (g.dc l i L):=G.jF λL1 e=>by rw[h0]at e;cases e;exact hL
 refine⟨hi.Ik l i hle (λl' i' c=>eO c) (λl' i' c=>G.bQ c) ?_ ?_ ?_ ?_ ?_ hsize ⟨_,G.aM⟩ (λb v hb=>hkept b (World.block_lt_of_cell? (a:=⟨b,0,none⟩) w (hi.nB b 0 v hb).1) λeb0=>by have h:=hi.sep l i L0 b h0 eb0 0;rw[hb]at h;cases h),⟨hle,hos,htape,hout,hsize,?_,?_,λb o v hv => .inl hv⟩⟩
 .intro l' i' L' b c e eb;refine hkept b (hi.lo l' i' L' b e eb).2 λeb0=>c ?_
  have:=hi.inj l' i' L' l i L0 b e h0 eb eb0;exact this
 .intro L1 e;rw[G.aM]at e;cases e;exact⟨_,mR hb0,hrel⟩
 .intro b o x e;obtain⟨h1,h2⟩:=hi.nB b o x e;refine⟨(gU (hkept b (hi.iW e) λeb0=>?_)).trans h1,h2⟩;have:=hi.sep l i L0 b h0 eb0 o;rw[show g.nB b o=some x from e]at this;cases this
 .intro l' i' L' b e eb o;by_cases c:l'=l/\i'=i
  .obtain⟨rfl,rfl⟩:=c;rw[G.aM]at e;cases e;rcases hblk b eb with h | ⟨h,_⟩
   .exact hi.sep _ _ L0 b h0 h o
   .cases e':(g.dc l' i' L).nB b o with
    |none=>rfl
    |some v=>have:=hi.iW (b:=b) (o:=o) (v:=v) e';omega
  .rw[G.bQ c]at e;exact hi.sep l' i' L' b e eb o
 .intro L1 b e eb;rw[G.aM]at e;cases e;rcases hblk b eb with h | ⟨h,h'⟩
  .have:=hi.lo l i L0 b h0 h;refine⟨this.1,by omega,λl' i' L' c e' eb'=>c ?_⟩;exact hi.inj l' i' L' l i L0 b e' h0 eb' h
  .exact⟨jc hi.ge h,h',λl' i' L' c e' eb'=>by have:=(hi.lo l' i' L' b e' eb').2;omega⟩
 .intro b hb hn;exact hkept b hb λe=>hn ⟨l,i,L0,h0,e⟩
 .intro b hb;obtain⟨l',i',L',e,eb⟩:=hb;by_cases c:l'=l/\i'=i
  .obtain⟨rfl,rfl⟩:=c;rw[G.aM]at e;cases e;rcases hblk b eb with h | ⟨h,_⟩
   .exact .inl ⟨_,_,L0,h0,h⟩
   .exact .inr h
  .rw[G.bQ c]at e;exact .inl ⟨l',i',L',e,eb⟩
theorem IL{l n:Nat}:∀{ds:List D} {J:SK},D.bh ds=true->cK.frzL (cK l (n+1)) ds J=(ds,J)
 |[],J,h=>rfl
 |d::ds,J,h=>by
  simp only[D.bh,af]at h;have h1:cK l (n+1) d J=(d,J):=by cases d<;>simp[cK,h.1]
  simp only[cK.frzL,h1,IL h.2]
theorem Va{e:Env}{J:SK}{os:List Nat}{sz:Nat}{X Y:bU}{r:D×SK}(h:bY e J (.RL os sz X Y)=some r):bY e J (.st [] sz X Y)=some r:=by
 simp only[bY]at h ⊢;cases hx:bG e X<;>rw[hx]at h<;>try (cases h;done)
 dsimp only at h ⊢;split at h
 case isFalse=>cases h
 split at h
 case h_2=>cases h
 rename_i cs hcs;split at h
 case h_2=>cases h
 rename_i p hp;split at h
 case isFalse=>cases h
 rename_i hc
 try simp only[hcs]
 try simp only[hp]
 try dsimp only
 rw[if_pos ⟨hc.1,hc.2.1⟩];split
 .simpa[jT]using h
 .rename_i hn;rw[show deep=15+1 from rfl,IL (hc.2.2.resolve_right hn)];exact h
