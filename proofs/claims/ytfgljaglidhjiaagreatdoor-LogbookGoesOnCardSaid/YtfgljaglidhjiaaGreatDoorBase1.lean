import Derived.Test.YtfgljaglidhjiaaGreatDoorBase0
import Derived.AtR
import Derived.Laws.Cells
import Derived.Laws.World
import Derived.Lib.FrozenHead
set_option linter.all false
namespace Go.Abs
open Go
inductive Loc where
 |dead
 |qG (v:Nat)
 |at(bO off v sz:Nat)
 |lp (bO:Nat)
 |mp (bO:Nat)
 |it (bO:Nat)
 |ob (bO:Nat) (buf:Option Nat)
def Loc.Q1:Loc→Nat→Prop
 |.dead,_=>True
 |.qG v',v=>v≤v'
 |.at _ _ v' _,v=>v≤v'
 |.lp _,_=>False
 |.mp _,_=>False
 |.it _,_=>False
 |.ob ..,_=>False
def Loc.owns:Loc→Nat→Prop
 |.at b _ _ _,x=>b=x
 |.lp b,x=>b=x
 |.mp b,x=>b=x
 |.it b,x=>b=x
 |.ob b c,x=>b=x∨c=some x
 |_,_=>False
structure G where
 loc:Nat→Nat→Option Loc
 rh:Nat→Nat→Option Value
def G.row(g:G)(b o:Nat)(vs:List Value):Prop:=∀j v,vs[j]?=some v→g.rh b (o+j)=some v
mutual
inductive bF (g:G):D→Value→Prop
 |undef (c:Value):bF g .undef c
 |bool (b:Bool):bF g (.bool b) (.bool b)
 |int (k:IntKind) (n:Int):bF g (.int k n) (.int k n)
 |str (s:ByteArray):bF g (.str s.data.toList) (.string s)
 |agg (ds:List D) (cs:Array Value):bA g ds cs.toList→(∀c∈cs.toList,c.oneCell'=true)→bF g (.agg ds) (.agg cs)
 |dV (ds:List D) (cs:Array Value):bA g ds cs.toList→bF g (.dV ds) (.tuple cs)
 |xF:bF g .xF (.pointer none)
 |ref (l i v off b o:Nat) (L:Loc):g.loc l i=some L→L.Q1 v →
   (∀bO bo sz,L=.at bO bo v sz→b=bO∧o=bo+off)→L ≠ .qG v→bF g (.ref l i v off) (.pointer (some ⟨b,o,none⟩))
 |bB (ds:List D) (b o:Nat) (vs:List Value):g.row b o vs→bA g ds vs→bF g (.bB ds) (.pointer (some ⟨b,o,none⟩))
 |aK:bF g .aK (.slice none 0 0)
 |xB:bF g (.aH 0 []) (.slice none 0 0)
 |aH (n:Nat) (ds:List D) (a:Addr) (cap:Nat) (vs:List Value):n≤cap→g.row a.block a.off vs→(n≠0→a.spot=none)→bA g ds vs →
   bF g (.aH n ds) (.slice (some a) n cap)
 |sl (l i v off n w:Nat) (a:Option Addr) (cap:Nat) (L:Loc):g.loc l i=some L→L.Q1 v→(n≤cap∧cap<9223372036854775808)→(a=none→cap=0)→(∀x,a=some x→n≠0→x.spot=none) →
   (∀bO bo sz,L=.at bO bo v sz→(a=some ⟨bO,bo+off,none⟩∧bo+off+cap*w≤sz)∨cap=0) →
   (L=.qG v→a=none)→bF g (.sl l i v off n w) (.slice a n cap)
 |fn (f:Nat) (fs cs:List D) (fs' cs':Array Value):bA g fs fs'.toList→bA g cs cs'.toList→bF g (.fn f fs cs) (.func (.func f) fs' cs')
 |iW:bF g .iW .nilFunc
 |l7 (l i b:Nat):g.loc l i=some (.lp b)→bF g (.l7 l i) (.func (.yield b) #[] #[])
 |QT (l i b:Nat):g.loc l i=some (.mp b)→bF g (.l7 l i) (.map (some b))
 |itv (l i b:Nat) (L:Loc):g.loc l i=some L→(L=.it b∨L=.dead)→bF g (.l7 l i) (.pointer (some ⟨b,0,none⟩))
 |RQ (l i b:Nat) (L:Loc):g.loc l i=some L→((∃c,L=.ob b c)∨L=.dead)→bF g (.l7 l i) (.pointer (some ⟨b,0,none⟩))
 |uH (t:Nat) (d:D) (c:Value):bF g d c→bF g (.uH t d) (.iface t c)
 |pN:bF g .pN .nilIface
inductive bA (g:G):List D→List Value→Prop
 |nil:bA g [] []
 |cons (d:D) (c:Value) (ds:List D) (cs:List Value):bF g d c→bA g ds cs→bA g (d::ds) (c::cs)
end
def Loc.le:Loc→Loc→Prop
 |.dead,L=>L=.dead
 |.lp b,L=>L=.lp b
 |.mp b,L=>L=.mp b
 |.it b,L=>L=.it b∨L=.dead
 |.ob b _,L=>(∃c,L=.ob b c)∨L=.dead
 |.qG v,L=>L=.qG v∨L=.dead∨(∃b o v' s,L=.at b o v' s∧v<v')∨∃v',L=.qG v'∧v<v'
 |.at b o v s,L=>L=.at b o v s∨L=.dead∨∃b' o' v' s',L=.at b' o' v' s'∧v<v'
theorem Loc.le_refl(L:Loc):L.le L:=by cases L<;>simp[Loc.le]
theorem Loc.le_trans{a b c:Loc}(h:a.le b)(h':b.le c):a.le c:=by
 cases a with
 |dead=>simp only[Loc.le]at h;subst h;exact h'
 |lp x=>simp only[Loc.le]at h;subst h;exact h'
 |mp x=>simp only[Loc.le]at h;subst h;exact h'
 |it x =>
  simp only[Loc.le]at h;rcases h with rfl | rfl
  ·exact h'
  ·simp only[Loc.le]at h' ⊢;exact .inr h'
 |ob x y =>
  simp only[Loc.le]at h;rcases h with⟨c,rfl⟩ | rfl
  ·exact h'
  ·simp only[Loc.le]at h' ⊢;exact .inr h'
 |qG v =>
  simp only[Loc.le]at h;rcases h with rfl | rfl | ⟨b1,o,v',s,rfl,hv⟩ | ⟨v',rfl,hv⟩
  ·exact h'
  ·simp only[Loc.le]at h' ⊢;exact .inr (.inl h')
  ·simp only[Loc.le]at h' ⊢;rcases h' with rfl | rfl | ⟨b2,o2,v2,s2,rfl,hv2⟩
   ·exact .inr (.inr (.inl ⟨_,_,_,_,rfl,hv⟩))
   ·exact .inr (.inl rfl)
   ·exact .inr (.inr (.inl ⟨_,_,_,_,rfl,by omega⟩))
  ·simp only[Loc.le]at h' ⊢;rcases h' with rfl | rfl | ⟨b2,o2,v2,s2,rfl,hv2⟩ | ⟨v2,rfl,hv2⟩
   ·exact .inr (.inr (.inr ⟨_,rfl,hv⟩))
   ·exact .inr (.inl rfl)
   ·exact .inr (.inr (.inl ⟨_,_,_,_,rfl,by omega⟩))
   ·exact .inr (.inr (.inr ⟨_,rfl,by omega⟩))
 |«at» b1 o v s =>
  simp only[Loc.le]at h;rcases h with rfl | rfl | ⟨b2,o2,v2,s2,rfl,hv⟩
  ·exact h'
  ·simp only[Loc.le]at h' ⊢;exact .inr (.inl h')
  ·simp only[Loc.le]at h' ⊢;rcases h' with rfl | rfl | ⟨b3,o3,v3,s3,rfl,hv3⟩
   ·exact .inr (.inr ⟨_,_,_,_,rfl,hv⟩)
   ·exact .inr (.inl rfl)
   ·exact .inr (.inr ⟨_,_,_,_,rfl,by omega⟩)
theorem Loc.xH{L L':Loc}{v:Nat}(h:L.Q1 v)(h':L.le L'):L'.Q1 v:=by
 cases L with
 |dead=>simp only[Loc.le]at h';subst h';trivial
 |lp b=>exact h.elim
 |mp b=>exact h.elim
 |it b=>exact h.elim
 |ob b c=>exact h.elim
 |qG v' =>
  simp only[Loc.le]at h';simp only[Loc.Q1]at h;rcases h' with rfl | rfl | ⟨b,o,v',s,rfl,hv⟩ | ⟨v',rfl,hv⟩<;>simp only[Loc.Q1]<;>omega
 |«at» b o v' s =>
  simp only[Loc.le]at h';simp only[Loc.Q1]at h;rcases h' with rfl | rfl | ⟨b',o',v'',s',rfl,hv⟩<;>simp only[Loc.Q1]<;>omega
structure G.le(g g':G):Prop where
 loc:∀l i L,g.loc l i=some L→∃L',g'.loc l i=some L'∧L.le L'
 rh:∀b o v,g.rh b o=some v→g'.rh b o=some v
theorem G.le_refl(g:G):g.le g:=⟨fun _ _ L h=>⟨L,h,L.le_refl⟩,fun _ _ _ h=>h⟩
theorem G.le_trans{a b c:G}(h:a.le b)(h':b.le c):a.le c :=
 ⟨fun l i L e=>let ⟨L1,e1,h1⟩:=h.loc l i L e;let ⟨L2,e2,h2⟩:=h'.loc l i L1 e1;⟨L2,e2,Loc.le_trans h1 h2⟩,
  fun x o v e=>h'.rh x o v (h.rh x o v e)⟩
theorem G.Ft{g g':G}(h:g.le g'){b o:Nat}{vs:List Value}(hr:g.row b o vs):g'.row b o vs:=fun j v e=>h.rh _ _ _ (hr j v e)
theorem Loc.back{L L':Loc}{v:Nat}(h:L.Q1 v)(h':L.le L'){b o s:Nat}(e:L'=.at b o v s):L=.at b o v s:=by
 subst e;cases L with
 |dead=>simp[Loc.le]at h'
 |lp b=>simp[Loc.le]at h'
 |mp b=>simp[Loc.le]at h'
 |it b=>simp[Loc.le]at h'
 |ob b c=>simp[Loc.le]at h'
 |qG v' =>
  simp only[Loc.le]at h';simp only[Loc.Q1]at h;rcases h' with h' | h' | ⟨b,o,v',s,h',hv⟩ | ⟨v',h',hv⟩<;>simp_all
  omega
 |«at» b o v' s =>
  simp only[Loc.le]at h';simp only[Loc.Q1]at h;rcases h' with h' | h' | ⟨b',o',v'',s',h',hv⟩<;>simp_all
  omega
theorem Loc.BS{L L':Loc}{v:Nat}(h:L.Q1 v)(h':L.le L')(e:L'=.qG v):L=.qG v:=by
 subst e;cases L with
 |dead=>simp[Loc.le]at h'
 |lp b=>simp[Loc.le]at h'
 |mp b=>simp[Loc.le]at h'
 |it b=>simp[Loc.le]at h'
 |ob b c=>simp[Loc.le]at h'
 |qG v' =>
  simp only[Loc.le]at h';simp only[Loc.Q1]at h;rcases h' with h' | h' | ⟨b,o,v',s,h',hv⟩ | ⟨v',h',hv⟩<;>simp_all
  omega
 |«at» b o v' s=>simp[Loc.le]at h'
mutual
theorem bF.mono{g g':G}(h:g.le g'):∀{d:D} {c:Value},bF g d c→bF g' d c
 |_,_,.undef c => .undef c
 |_,_,.bool b => .bool b
 |_,_,.int k n => .int k n
 |_,_,.str s => .str s
 |_,_,.agg ds cs hr h1 => .agg ds cs (bA.mono h hr) h1
 |_,_,.dV ds cs hr => .dV ds cs (bA.mono h hr)
 |_,_,.xF => .xF
 |_,_,.ref l i v off b o L e hv hc hn =>
  let ⟨L',e',hl⟩:=h.loc l i L e
  .ref l i v off b o L' e' (Loc.xH hv hl) (fun bO bo sz eq=>hc bO bo sz (Loc.back hv hl eq)) (fun eq=>hn (Loc.BS hv hl eq))
 |_,_,.bB ds b o vs hr hl => .bB ds b o vs (G.Ft h hr) (bA.mono h hl)
 |_,_,.aK => .aK
 |_,_,.xB => .xB
 |_,_,.aH n ds a cap vs hn hr hs hl => .aH n ds a cap vs hn (G.Ft h hr) hs (bA.mono h hl)
 |_,_,.sl l i v off n w a cap L e hv hn ha hs hc hc' =>
  let ⟨L',e',hl⟩:=h.loc l i L e
  .sl l i v off n w a cap L' e' (Loc.xH hv hl) hn ha hs (fun bO bo sz eq=>hc bO bo sz (Loc.back hv hl eq)) (fun eq=>hc' (Loc.BS hv hl eq))
 |_,_,.fn f fs cs fs' cs' h1 h2 => .fn f fs cs fs' cs' (bA.mono h h1) (bA.mono h h2)
 |_,_,.iW => .iW
 |_,_,.l7 l i b e =>
  let ⟨L',e',hl⟩:=h.loc l i _ e
  .l7 l i b (by rw[e',show L'=.lp b from hl])
 |_,_,.QT l i b e =>
  let ⟨L',e',hl⟩:=h.loc l i _ e
  .QT l i b (by rw[e',show L'=.mp b from hl])
 |_,_,.itv l i b L e hc =>
  let ⟨L',e',hl⟩:=h.loc l i L e
  .itv l i b L' e' (by
   rcases hc with rfl | rfl
   ·exact hl
   ·exact .inr hl)
 |_,_,.RQ l i b L e hc =>
  let ⟨L',e',hl⟩:=h.loc l i L e
  .RQ l i b L' e' (by
   rcases hc with⟨c,rfl⟩ | rfl
   ·exact hl
   ·exact .inr hl)
 |_,_,.uH t d c h1 => .uH t d c (bF.mono h h1)
 |_,_,.pN => .pN
theorem bA.mono{g g':G}(h:g.le g'):∀{ds:List D} {cs:List Value},bA g ds cs→bA g' ds cs
 |_,_,.nil => .nil
 |_,_,.cons d c ds cs h1 h2 => .cons d c ds cs (bF.mono h h1) (bA.mono h h2)
end
section lists
variable {g:G}
theorem bA.length{ds:List D}{cs:List Value}(h:bA g ds cs):ds.length=cs.length:=by
 induction ds generalizing cs with
 |nil=>cases h;rfl
 |cons d ds ih=>cases h with | cons _ c _ cs h1 h2=>simp[ih h2]
theorem bA.get{ds:List D}{cs:List Value}(h:bA g ds cs){j:Nat}{d:D}(e:ds[j]?=some d):∃c,cs[j]?=some c∧bF g d c:=by
 induction ds generalizing cs j with
 |nil=>simp at e
 |cons d0 ds ih =>
  cases h with
  |cons _ c _ cs h1 h2 =>
   cases j with
   |zero=>simp at e;subst e;exact⟨c,rfl,h1⟩
   |succ j=>exact ih h2 (by simpa using e)
theorem bA.append{a b:List D}{x y:List Value}(h:bA g a x)(h':bA g b y):bA g (a++b) (x++y):=by
 induction a generalizing x with
 |nil=>cases h;exact h'
 |cons d a ih=>cases h with | cons _ c _ cs h1 h2=>exact .cons _ _ _ _ h1 (ih h2)
theorem bA.take{a:List D}{x:List Value}(h:bA g a x)(n:Nat):bA g (a.take n) (x.take n):=by
 induction a generalizing x n with
 |nil=>cases h;simpa using bA.nil
 |cons d a ih =>
  cases h with
  |cons _ c _ cs h1 h2 =>
   cases n with
   |zero=>exact .nil
   |succ n=>exact .cons _ _ _ _ h1 (ih h2 n)
theorem bA.drop{a:List D}{x:List Value}(h:bA g a x)(n:Nat):bA g (a.drop n) (x.drop n):=by
 induction a generalizing x n with
 |nil=>cases h;simpa using bA.nil
 |cons d a ih =>
  cases h with
  |cons _ c _ cs h1 h2 =>
   cases n with
   |zero=>exact .cons _ _ _ _ h1 h2
   |succ n=>exact ih h2 n
theorem bA.arA{ds:List D}{cs:List Value}(hl:ds.length=cs.length)(h:∀(j:Nat) (d:D) (c:Value),ds[j]?=some d→cs[j]?=some c→bF g d c):bA g ds cs:=by
 induction ds generalizing cs with
 |nil=>cases cs with
  |nil=>exact .nil
  |cons c cs=>simp at hl
 |cons d ds ih =>
  cases cs with
  |nil=>simp at hl
  |cons c cs =>
   exact .cons _ _ _ _ (h 0 d c rfl rfl) (ih (by simpa using hl) fun j d' c' e e'=>h (j+1) d' c' (by simpa using e) (by simpa using e'))
theorem bF.cells{d:D}{c:Value}(h:bF g d c){ds:List D}(e:d.cells=some ds):bA g ds c.cells.toList∧∀x∈c.cells.toList,x.oneCell'=true:=by
 have h0:=h;cases h with
 |agg ds' cs hr h1=>simp only[D.cells,ae]at e;subst e;exact⟨hr,h1⟩
 |undef c=>simp[D.cells]at e
 |dV=>simp[D.cells]at e
 |_=>simp only[D.cells,ae]at e;subst e;exact⟨.cons _ _ _ _ h0 .nil,by simp[Value.cells,Value.oneCell']⟩
end lists
def yJ(g:G)(e:Env)(tmps:Array Value):Prop:=∀t,bF g (get e t) (tmps.getD t Go.undef)
theorem yJ.mono{g g':G}(h:g.le g'){e:Env}{tmps:Array Value}(hr:yJ g e tmps):yJ g' e tmps:=fun t=>(hr t).mono h
structure gg where
 rel:cF→Code→Nat→Prop
 KP:Nat→(Obj→Prop)→Prop
def ayV:Nat→LoopState
 |0 => .ready
 |1 => .busy
 |2 => .done
 |_ => .exhausted
def BF:Option Exit→Option (Option Code)
 |none=>some none
 |some (.exit id)=>some (some (.exit id))
 |some .ret=>some (some .ret)
 |some .normal=>none
 |some (.gf _)=>none
structure zN(CR:gg)(g:G)(lp:we)(r:Loop):Prop where
 state:r.state=ayV lp.state
 wv:BF lp.wv=some r.pending
 env:yJ g lp.env r.tmps
 params:r.params.toList=lp.params
 small:∀t∈lp.params,t<r.tmps.size
 both:CR.rel (.ite (.t 0) lp.zd lp.body) (.cond (.tmp 0) r.assign r.body) r.tmps.size
def ON(es:List MapEntry)(clock:Nat):Prop:=es.map (·.born)=List.range es.length∧clock=es.length
def Ga(CR:gg)(g:G)(w:World):aE→Loc→Prop
 |.cells v cs,.at b off v' sz=>v=v'∧∃(c:Array Value) (el:TypeId),w.heap[b]?=some (.cells c el (0,0))∧c.size=sz∧off+cs.length≤sz ∧
   ∃vs,bA g cs vs∧(∀j x,vs[j]?=some x→c[off+j]?=some x∧x.oneCell'=true)
 |.cells v cs,.qG v'=>v=v'∧cs=[]
 |.dead,.dead=>True
 |.loop lp,.lp b=>∃r,w.heap[b]?=some (.loop r)∧zN CR g lp r
 |.cells v es,.mp b=>v=0∧∃dI clock,w.heap[b]?=some (.map dI clock)∧bA g es (dI.toList.map fun e => .tuple #[e.key,e.val])∧ON dI.toList clock
 |.cells v cs,.it b=>v=1∧∃l i bm n,∃js:List Nat,cs=.l7 l i::.int .i64 (n:Nat)::js.map (fun j:Nat=>D.int .i64 j)∧g.loc l i=some (.mp bm) ∧
   w.heap[b]?=some (.mapIter (some bm) n js.reverse.toArray n)∧js.Nodup∧∀j∈js,j<n
 |.cells v cs,.ob b c=>v=2∧∃(T e:Nat) (bs:List UInt8) (p s:Value),cs=[.int .i64 T,.int .i64 e,.str bs]∧w.heap[b]?=some (.cells #[p,s] T (0,0)) ∧
   (p=.pointer none∨p=.pointer (some ⟨b,0,none⟩))∧w.ownsRowF 0 e 1 s bs.length (bs.map fun x => .int .u8 x.toNat)∧s.ownBlock=c∧c≠some b
 |_,_=>False
structure Inv(CR:gg)(base:Nat)(g:G)(σ:SK)(w:World):Prop where
 ge:base≤w.heap.size
 wZ:∀l i L,g.loc l i=some L→∃b,ef σ l i=some b∧Ga CR g w b L
 rh:∀b o v,g.rh b o=some v→w.cell? ⟨b,o,none⟩=some v∧v.oneCell'=true
 sep:∀l i L b,g.loc l i=some L→L.owns b→∀o,g.rh b o=none
 inj:∀l i L l' i' L' b,g.loc l i=some L→g.loc l' i'=some L'→L.owns b→L'.owns b→l=l'∧i=i'
 lo:∀l i L b,g.loc l i=some L→L.owns b→base≤b∧b<w.heap.size
 SS:∀l i b,ef σ l i=some b→∃L,g.loc l i=some L
 KP:∀b Q,CR.KP b Q→(∃v,g.rh b 0=some v)∧∃o,w.heap[b]?=some o∧Q o
def G.has(g:G)(b:Nat):Prop:=∃l i L,g.loc l i=some L∧L.owns b
structure Ev(g:G)(w:World)(g':G)(w':World):Prop where
 le:g.le g'
 os:w'.os=w.os
 tape:w'.tape=w.tape
 output:w'.output=w.output
 size:w.heap.size≤w'.heap.size
 kept:∀b,b<w.heap.size→¬g.has b→w'.heap[b]?=w.heap[b]?
 img:∀b,g'.has b→g.has b∨w.heap.size≤b
 Kg:∀b o v,g'.rh b o=some v→g.rh b o=some v∨g.has b∨w.heap.size≤b
theorem Ev.refl(g:G)(w:World):Ev g w g w:=⟨g.le_refl,rfl,rfl,rfl,aI _,fun _ _ _=>rfl,fun _ h => .inl h,fun _ _ _ h => .inl h⟩
theorem Ev.trans{g g1 g2:G}{w w1 w2:World}(h:Ev g w g1 w1)(h':Ev g1 w1 g2 w2):Ev g w g2 w2 where
 le:=G.le_trans h.le h'.le
 os:=h'.os.trans h.os
 tape:=h'.tape.trans h.tape
 output:=h'.output.trans h.output
 size:=iF h.size h'.size
 kept b hb hn:=by
  have h1:¬g1.has b:=fun hx=>by
   rcases h.img b hx with hx | hx
   ·exact hn hx
   ·omega
  rw[h'.kept b (Nat.lt_of_lt_of_le hb h.size) h1,h.kept b hb hn]
 img b hb:=by
  rcases h'.img b hb with hx | hx
  ·exact h.img b hx
  ·exact .inr (iF h.size hx)
 Kg b o v hv:=by
  rcases h'.Kg b o v hv with hx | hx | hx
  ·exact h.Kg b o v hx
  ·exact .inr (h.img b hx)
  ·exact .inr (.inr (iF h.size hx))
section stack
theorem As{σ:SK}{l:Nat}{s:List aE}(h:gB σ l=some s):l<σ.length:=by
 induction σ with
 |nil=>simp[gB]at h
 |cons s0 σ ih =>
  simp only[gB]at h;split at h
  ·simp;omega
  ·have:=ih h;simp;omega
theorem tS{σ:SK}{l:Nat}{s:List aE}(h:l<σ.length):gB (iX σ l s) l=some s:=by
 induction σ with
 |nil=>simp at h
 |cons s0 σ ih =>
  simp only[iX];split
  ·rename_i e;simp[gB,e]
  ·rename_i e;simp only[gB];rw[gM];rw[if_neg e];exact ih (by simp at h;omega)
where
 gM {σ:SK} {l:Nat} {s:List aE}:(iX σ l s).length=σ.length:=by
  induction σ with
  |nil=>rfl
  |cons s0 σ ih=>simp only[iX];split<;>simp[ih]
theorem gM{σ:SK}{l:Nat}{s:List aE}:(iX σ l s).length=σ.length:=tS.gM
theorem Ew{σ:SK}{l l':Nat}{s:List aE}(h:l'≠l):gB (iX σ l s) l'=gB σ l':=by
 induction σ with
 |nil=>rfl
 |cons s0 σ ih =>
  simp only[iX];split
  ·rename_i e;simp only[gB];rw[if_neg (by omega),if_neg (by omega)]
  ·simp only[gB,gM];split
   ·rfl
   ·exact ih
theorem dG{σ:SK}{l i:Nat}{b:aE}:(aV σ l i b).length=σ.length:=by
 unfold aV;split
 ·exact gM
 ·rfl
theorem oY{σ:SK}{l i:Nat}{b b0:aE}(h:ef σ l i=some b0):ef (aV σ l i b) l i=some b:=by
 unfold ef at h;cases hs:gB σ l with
 |none=>simp[hs]at h
 |some s =>
  simp only[hs,Option.bind_some]at h;have hi:i<s.length:=(aB.1 h).1;simp only[aV,hs,ef,tS (As hs),Option.bind_some];simp[hi]
theorem fa{σ:SK}{l i l' i':Nat}{b:aE}(h:¬(l'=l∧i'=i)):ef (aV σ l i b) l' i'=ef σ l' i':=by
 unfold aV;cases hs:gB σ l with
 |none=>rfl
 |some s =>
  simp only[ef];by_cases hl:l'=l
  ·subst hl;rw[tS (As hs),hs];simp only[Option.bind_some];rw[List.getElem?_set_ne];intro e;exact h ⟨rfl,e.symm⟩
  ·rw[Ew hl]
theorem kl{σ σ':SK}{b:aE}{l i:Nat}(h:iC σ b=some (l,i,σ')):
  ef σ l i=none∧ef σ' l i=some b∧(∀l' i',¬(l'=l∧i'=i)→ef σ' l' i'=ef σ l' i')∧σ'.length=σ.length∧l+1=σ.length:=by
 cases σ with
 |nil=>simp[iC]at h
 |cons s σ =>
  simp only[iC,ae,ak]at h;obtain⟨rfl,rfl,rfl⟩:=h;refine⟨by simp[ef,gB],by simp[ef,gB],?_,rfl,rfl⟩;intro l' i' hn;simp only[ef,gB];split
  ·rename_i e;simp only[Option.bind_some];rw[List.getElem?_append];split
   ·rfl
   ·rename_i hlt;have:i'≠s.length:=fun e'=>hn ⟨e.symm,e'⟩
    rw[eT (by simp;omega),eT (by omega)]
  ·rfl
end stack
theorem Ga.mono{CR:gg}{g g':G}{w w':World}{b:aE}{L:Loc}(h:Ga CR g w b L)(hg:g.le g')
  (hw:∀x,L.owns x→w'.heap[x]?=w.heap[x]?):Ga CR g' w' b L:=by
 cases b with
 |cells v cs =>
  cases L with
  |«at» x off v' sz =>
   obtain⟨rfl,c,el,hb,hsz,hlen,vs,hr,hv⟩:=h;exact⟨rfl,c,el,(hw x rfl).trans hb,hsz,hlen,vs,hr.mono hg,hv⟩
  |qG v'=>exact h
  |dead=>exact h
  |lp x=>exact h
  |mp x =>
   obtain⟨hv,dI,clock,hb,hr,hm⟩:=h;exact⟨hv,dI,clock,(hw x rfl).trans hb,hr.mono hg,hm⟩
  |it x =>
   obtain⟨hv,l,i,bm,n,js,h1,h2,h3,h4⟩:=h;obtain⟨L',e',hl⟩:=hg.loc l i _ h2;exact⟨hv,l,i,bm,n,js,h1,by rw[e',show L'=.mp bm from hl],(hw x rfl).trans h3,h4⟩
  |ob x y =>
   obtain⟨hv,T,e,bs,p,s,h1,h2,h3,h4,h5,h6⟩:=h;refine⟨hv,T,e,bs,p,s,h1,(hw x (.inl rfl)).trans h2,h3,⟨h4.1,h4.2.imp id fun⟨q,cap,cur,fz,k1,k2,k3,k4⟩=>⟨q,cap,cur,fz,k1,k2,(hw q (.inr ?_)).trans k3,k4⟩⟩,h5,h6⟩;rw[← h5,k1];rfl
 |dead=>cases L<;>exact h
 |loop lp =>
  cases L with
  |lp x =>
   obtain⟨r,hb,hr⟩:=h;exact⟨r,(hw x rfl).trans hb,{hr with env:=hr.env.mono hg }⟩
  |«at» x off v' sz=>exact h
  |qG v'=>exact h
  |dead=>exact h
  |mp x=>exact h
  |it x=>exact h
  |ob x y=>exact h
theorem Inv.ED{CR:gg}{base:Nat}{g g':G}{σ σ':SK}{w w':World}(hi:Inv CR base g σ w)(l i:Nat)
  (hle:g.le g')
  (hσ:∀l' i',¬(l'=l∧i'=i)→ef σ' l' i'=ef σ l' i')
  (hloc:∀l' i',¬(l'=l∧i'=i)→g'.loc l' i'=g.loc l' i')
  (hw:∀l' i' L b,¬(l'=l∧i'=i)→g.loc l' i'=some L→L.owns b→w'.heap[b]?=w.heap[b]?)
  (hnew:∀L,g'.loc l i=some L→∃b,ef σ' l i=some b∧Ga CR g' w' b L)
  (himm:∀b o v,g'.rh b o=some v→w'.cell? ⟨b,o,none⟩=some v∧v.oneCell'=true)
  (hsep:∀l' i' L b,g'.loc l' i'=some L→L.owns b→∀o,g'.rh b o=none)
  (hinj:∀L b,g'.loc l i=some L→L.owns b→base≤b∧b<w'.heap.size∧∀l' i' L',¬(l'=l∧i'=i)→g.loc l' i'=some L'→¬L'.owns b)
  (hsize:w.heap.size≤w'.heap.size) (htot:∃L,g'.loc l i=some L) (hlow:∀b v,g.rh b 0=some v→w'.heap[b]?=w.heap[b]?):Inv CR base g' σ' w' where
 KP b Q h:=let ⟨⟨v,hb⟩,o,ho,hq⟩:=hi.KP b Q h;⟨⟨v,hle.rh _ _ _ hb⟩,o,(hlow b v hb).trans ho,hq⟩
 SS l' i' b e:=by
  by_cases h:l'=l∧i'=i
  ·obtain⟨rfl,rfl⟩:=h;exact htot
  ·rw[hσ l' i' h]at e;rw[hloc l' i' h];exact hi.SS l' i' b e
 ge:=iF hi.ge hsize
 wZ l' i' L e:=by
  by_cases h:l'=l∧i'=i
  ·obtain⟨rfl,rfl⟩:=h;exact hnew L e
  ·rw[hloc l' i' h]at e;obtain⟨b,hb,hr⟩:=hi.wZ l' i' L e;exact⟨b,(hσ l' i' h).trans hb,hr.mono hle fun x hx=>hw l' i' L x h e hx⟩
 rh:=himm
 sep:=hsep
 inj l1 i1 L1 l2 i2 L2 b h1 h2 e1 e2:=by
  by_cases c1:l1=l∧i1=i
  ·obtain⟨rfl,rfl⟩:=c1;by_cases c2:l2=l1∧i2=i1
   ·exact⟨c2.1.symm,c2.2.symm⟩
   ·rw[hloc l2 i2 c2]at h2;exact absurd e2 ((hinj L1 b h1 e1).2.2 l2 i2 L2 c2 h2)
  ·rw[hloc l1 i1 c1]at h1;by_cases c2:l2=l∧i2=i
   ·obtain⟨rfl,rfl⟩:=c2;exact absurd e1 ((hinj L2 b h2 e2).2.2 l1 i1 L1 c1 h1)
   ·rw[hloc l2 i2 c2]at h2;exact hi.inj _ _ _ _ _ _ b h1 h2 e1 e2
 lo l' i' L b e eb:=by
  by_cases h:l'=l∧i'=i
  ·obtain⟨rfl,rfl⟩:=h;exact⟨(hinj L b e eb).1,(hinj L b e eb).2.1⟩
  ·rw[hloc l' i' h]at e;have:=hi.lo l' i' L b e eb;exact⟨this.1,by omega⟩
theorem jh{w w':World}{b o:Nat}(h:w'.heap[b]?=w.heap[b]?):w'.cell? ⟨b,o,none⟩=w.cell? ⟨b,o,none⟩:=by
 simp only[World.cell?,h]
theorem Inv.heap{CR:gg}{base:Nat}{g:G}{σ:SK}{w w1:World}(hi:Inv CR base g σ w)(h:w1.heap=w.heap):Inv CR base g σ w1 where
 ge:=by rw[h];exact hi.ge
 wZ l i L e:=let ⟨b,hb,hr⟩:=hi.wZ l i L e;⟨b,hb,hr.mono g.le_refl fun x _=>by rw[h]⟩
 rh b o v e:=let ⟨h1,h2⟩:=hi.rh b o v e;⟨(jh (by rw[h])).trans h1,h2⟩
 sep:=hi.sep
 inj:=hi.inj
 SS:=hi.SS
 KP:=by rw[h];exact hi.KP
 lo l i L b e eb:=by rw[h];exact hi.lo l i L b e eb
theorem Ev.heap(g:G){w w1:World}(h:w1.heap=w.heap)(ho:w1.os=w.os)(ht:w1.tape=w.tape)(hp:w1.output=w.output):Ev g w g w1 :=
 ⟨g.le_refl,ho,ht,hp,by rw[h];exact aI _,fun b _ _=>by rw[h],fun b hb => .inl hb,fun b o v hv => .inl hv⟩
theorem Inv.jS{CR:gg}{base:Nat}{g:G}{σ:SK}{w:World}(hi:Inv CR base g σ w){b o:Nat}{v:Value}(h:g.rh b o=some v):b<w.heap.size :=
 World.block_lt_of_cell? (a:=⟨b,o,none⟩) w (hi.rh b o v h).1
theorem Inv.aeu{CR:gg}{base:Nat}{g:G}{σ:SK}{w:World}(hi:Inv CR base g σ w){b:Nat}(h:g.has b):b<w.heap.size :=
 let ⟨l,i,L,e,eb⟩:=h;(hi.lo l i L b e eb).2
def G.o8(g:G)(x:Nat)(vs:List Value):G:=⟨g.loc,fun b o=>if b=x then vs[o]? else g.rh b o⟩
theorem alloc_old{w:World}{o:Obj}{b:Nat}(h:b<w.heap.size):(w.alloc o).heap[b]?=w.heap[b]?:=by
 simp only[World.alloc,Array.getElem?_push];rw[if_neg (by omega)]
theorem tL{w:World}{o:Obj}:(w.alloc o).heap[w.heap.size]?=some o:=by
 simp only[World.alloc,Array.getElem?_push_size]
theorem Inv.Fp{CR:gg}{base:Nat}{g:G}{σ:SK}{w:World}(hi:Inv CR base g σ w)(vs:List Value)(cs:Array Value)(el:TypeId)
  (hcs:∀(j:Nat) x,vs[j]?=some x→cs[j]?=some x∧x.oneCell'=true):
  Inv CR base (g.o8 w.heap.size vs) σ (w.alloc (.cells cs el))∧Ev g w (g.o8 w.heap.size vs) (w.alloc (.cells cs el))∧(g.o8 w.heap.size vs).row w.heap.size 0 vs:=by
 have hle:g.le (g.o8 w.heap.size vs):=⟨fun l i L e=>⟨L,e,L.le_refl⟩,fun b o v e=>by
  have:=hi.jS e;simp only[G.o8];rw[if_neg (by omega)];exact e⟩
 refine⟨⟨?_,?_,?_,?_,hi.inj,?_,hi.SS,fun b Q h=>let ⟨⟨v,hb⟩,o,ho,hq⟩:=hi.KP b Q h;⟨⟨v,hle.rh _ _ _ hb⟩,o,(alloc_old (hi.jS hb)).trans ho,hq⟩⟩,⟨hle,rfl,rfl,rfl,by simp,fun b hb _=>alloc_old hb,fun b hb => .inl hb,?_⟩,?_⟩
 ·have:=hi.ge;simp;omega
 ·intro l i L e;obtain⟨b,hb,hr⟩:=hi.wZ l i L e;exact⟨b,hb,hr.mono hle fun x hx=>alloc_old (hi.lo l i L x e hx).2⟩
 ·intro b o v e;simp only[G.o8]at e;split at e
  ·rename_i hb;subst hb;obtain⟨h1,h2⟩:=hcs o v e;exact⟨by rw[World.cell?_alloc_new];exact h1,h2⟩
  ·obtain⟨h1,h2⟩:=hi.rh b o v e;exact⟨(jh (alloc_old (hi.jS e))).trans h1,h2⟩
 ·intro l i L b e eb o;have:=(hi.lo l i L b e eb).2;simp only[G.o8];rw[if_neg (by omega)];exact hi.sep l i L b e eb o
 ·intro l i L b e eb;have:=hi.lo l i L b e eb;exact⟨this.1,by simp;omega⟩
 ·intro b o v hv;simp only[G.o8]at hv;split at hv
  ·rename_i hb;exact .inr (.inr (by omega))
  ·exact .inl hv
 ·intro j v hv;simp[G.o8,hv]
def G.cI(g:G)(l i:Nat)(L:Loc):G:=⟨fun l' i'=>if l'=l∧i'=i then some L else g.loc l' i',g.rh⟩
theorem G.aF{g:G}{l i:Nat}{L:Loc}:(g.cI l i L).loc l i=some L:=by simp[G.cI]
theorem G.bz{g:G}{l i l' i':Nat}{L:Loc}(h:¬(l'=l∧i'=i)):(g.cI l i L).loc l' i'=g.loc l' i':=by simp only[G.cI];rw[if_neg h]
theorem G.kP{g:G}{l i:Nat}{L:Loc}(h:∀L0,g.loc l i=some L0→L0.le L):g.le (g.cI l i L) :=
 ⟨fun l' i' L' e=>by
  by_cases c:l'=l∧i'=i
  ·obtain⟨rfl,rfl⟩:=c;exact⟨L,G.aF,h L' e⟩
  ·exact⟨L',by rw[G.bz c];exact e,L'.le_refl⟩,fun _ _ _ e=>e⟩
theorem Inv.B5{CR:gg}{base:Nat}{g:G}{σ:SK}{w:World}(hi:Inv CR base g σ w){l i:Nat}(h:ef σ l i=none):g.loc l i=none:=by
 cases e:g.loc l i with
 |none=>rfl
 |some L=>obtain⟨b,hb,_⟩:=hi.wZ l i L e;rw[h]at hb;cases hb
theorem Inv.zA{CR:gg}{base:Nat}{g:G}{σ σ':SK}{w:World}(hi:Inv CR base g σ w){l i:Nat}{ds:List D}(hn:iC σ (.cells 0 ds)=some (l,i,σ'))
  (vs:List Value) (cs:Array Value) (el:TypeId) (hr:bA g ds vs) (hlen:vs.length≤cs.size)
  (hcs:∀(j:Nat) x,vs[j]?=some x→cs[j]?=some x∧x.oneCell'=true):
  Inv CR base (g.cI l i (.at w.heap.size 0 0 cs.size)) σ' (w.alloc (.cells cs el))∧Ev g w (g.cI l i (.at w.heap.size 0 0 cs.size)) (w.alloc (.cells cs el)):=by
 obtain⟨h1,h2,h3,_,_⟩:=kl hn;have hnone:=hi.B5 h1;have hle:g.le (g.cI l i (.at w.heap.size 0 0 cs.size)):=G.kP fun L0 e=>by rw[hnone]at e;cases e
 refine⟨hi.ED l i hle h3 (fun l' i' c=>G.bz c) (fun l' i' L b c e eb=>alloc_old (hi.lo l' i' L b e eb).2) ?_ ?_ ?_ ?_ (by simp) ⟨_,G.aF⟩ (fun b v hb=>alloc_old (hi.jS hb)),⟨hle,rfl,rfl,rfl,by simp,fun b hb _=>alloc_old hb,?_,fun b o v hv => .inl hv⟩⟩
 ·intro L e;rw[G.aF]at e;cases e;exact⟨_,h2,rfl,cs,el,tL,rfl,by rw[hr.length];omega,vs,hr.mono hle,fun j x hx=>by simpa using hcs j x hx⟩
 ·intro b o v e;obtain⟨h1,h2⟩:=hi.rh b o v e;exact⟨(jh (alloc_old (hi.jS e))).trans h1,h2⟩
 ·intro l' i' L b e eb o;by_cases c:l'=l∧i'=i
  ·obtain⟨rfl,rfl⟩:=c;rw[G.aF]at e;cases e;cases eb;cases e':(g.cI l' i' (.at w.heap.size 0 0 cs.size)).rh w.heap.size o with
   |none=>rfl
   |some v=>have:=hi.jS (b:=w.heap.size) (o:=o) (v:=v) e';omega
  ·rw[G.bz c]at e;exact hi.sep l' i' L b e eb o
 ·intro L b e eb;rw[G.aF]at e;cases e;cases eb;refine⟨hi.ge,by simp,fun l' i' L' c e' eb'=>?_⟩;have:=(hi.lo l' i' L' _ e' eb').2;omega
 ·intro b hb;obtain⟨l',i',L,e,eb⟩:=hb;by_cases c:l'=l∧i'=i
  ·obtain⟨rfl,rfl⟩:=c;rw[G.aF]at e;cases e;cases eb;exact .inr (aI _)
  ·rw[G.bz c]at e;exact .inl ⟨l',i',L,e,eb⟩
theorem Inv.QW{CR:gg}{base:Nat}{g:G}{σ σ':SK}{w:World}(hi:Inv CR base g σ w){l i:Nat}(hn:iC σ (.cells 0 [])=some (l,i,σ')):
  Inv CR base (g.cI l i (.qG 0)) σ' w∧Ev g w (g.cI l i (.qG 0)) w:=by
 obtain⟨h1,h2,h3,_,_⟩:=kl hn;have hnone:=hi.B5 h1;have hle:g.le (g.cI l i (.qG 0)):=G.kP fun L0 e=>by rw[hnone]at e;cases e
 refine⟨hi.ED l i hle h3 (fun l' i' c=>G.bz c) (fun _ _ _ _ _ _ _=>rfl) ?_ hi.rh ?_ ?_ (aI _) ⟨_,G.aF⟩ (fun _ _ _=>rfl),⟨hle,rfl,rfl,rfl,aI _,fun _ _ _=>rfl,?_,fun b o v hv => .inl hv⟩⟩
 ·intro L e;rw[G.aF]at e;cases e;exact⟨_,h2,rfl,rfl⟩
 ·intro l' i' L b e eb o;by_cases c:l'=l∧i'=i
  ·obtain⟨rfl,rfl⟩:=c;rw[G.aF]at e;cases e;cases eb
  ·rw[G.bz c]at e;exact hi.sep l' i' L b e eb o
 ·intro L b e eb;rw[G.aF]at e;cases e;cases eb
 ·intro b hb;obtain⟨l',i',L,e,eb⟩:=hb;by_cases c:l'=l∧i'=i
  ·obtain⟨rfl,rfl⟩:=c;rw[G.aF]at e;cases e;cases eb
  ·rw[G.bz c]at e;exact .inl ⟨l',i',L,e,eb⟩
theorem Inv.setCells{CR:gg}{base:Nat}{g:G}{σ:SK}{w w':World}(hi:Inv CR base g σ w){l i:Nat}{L0 L:Loc}{b0:aE}{v:Nat}{ds:List D}
  (h0:g.loc l i=some L0) (hb0:ef σ l i=some b0) (hL:L0.le L)
  (hrel:Ga CR (g.cI l i L) w' (.cells v ds) L)
  (hkept:∀b,b<w.heap.size→¬L0.owns b→w'.heap[b]?=w.heap[b]?)
  (hos:w'.os=w.os) (htape:w'.tape=w.tape) (hout:w'.output=w.output)
  (hsize:w.heap.size≤w'.heap.size)
  (hblk:∀b,L.owns b→(L0.owns b∨(w.heap.size≤b∧b<w'.heap.size))):
  Inv CR base (g.cI l i L) (aV σ l i (.cells v ds)) w'∧Ev g w (g.cI l i L) w':=by
 have hle:g.le (g.cI l i L):=G.kP fun L1 e=>by rw[h0]at e;cases e;exact hL
 refine⟨hi.ED l i hle (fun l' i' c=>fa c) (fun l' i' c=>G.bz c) ?_ ?_ ?_ ?_ ?_ hsize ⟨_,G.aF⟩ (fun b v hb=>hkept b (World.block_lt_of_cell? (a:=⟨b,0,none⟩) w (hi.rh b 0 v hb).1) fun eb0=>by have h:=hi.sep l i L0 b h0 eb0 0;rw[hb]at h;cases h),⟨hle,hos,htape,hout,hsize,?_,?_,fun b o v hv => .inl hv⟩⟩
 ·intro l' i' L' b c e eb;refine hkept b (hi.lo l' i' L' b e eb).2 fun eb0=>c ?_
  have:=hi.inj l' i' L' l i L0 b e h0 eb eb0;exact this
 ·intro L1 e;rw[G.aF]at e;cases e;exact⟨_,oY hb0,hrel⟩
 ·intro b o x e;obtain⟨h1,h2⟩:=hi.rh b o x e;refine⟨(jh (hkept b (hi.jS e) fun eb0=>?_)).trans h1,h2⟩;have:=hi.sep l i L0 b h0 eb0 o;rw[show g.rh b o=some x from e]at this;cases this
 ·intro l' i' L' b e eb o;by_cases c:l'=l∧i'=i
  ·obtain⟨rfl,rfl⟩:=c;rw[G.aF]at e;cases e;rcases hblk b eb with h | ⟨h,_⟩
   ·exact hi.sep _ _ L0 b h0 h o
   ·cases e':(g.cI l' i' L).rh b o with
    |none=>rfl
    |some v=>have:=hi.jS (b:=b) (o:=o) (v:=v) e';omega
  ·rw[G.bz c]at e;exact hi.sep l' i' L' b e eb o
 ·intro L1 b e eb;rw[G.aF]at e;cases e;rcases hblk b eb with h | ⟨h,h'⟩
  ·have:=hi.lo l i L0 b h0 h;refine⟨this.1,by omega,fun l' i' L' c e' eb'=>c ?_⟩;exact hi.inj l' i' L' l i L0 b e' h0 eb' h
  ·exact⟨iF hi.ge h,h',fun l' i' L' c e' eb'=>by have:=(hi.lo l' i' L' b e' eb').2;omega⟩
 ·intro b hb hn;exact hkept b hb fun e=>hn ⟨l,i,L0,h0,e⟩
 ·intro b hb;obtain⟨l',i',L',e,eb⟩:=hb;by_cases c:l'=l∧i'=i
  ·obtain⟨rfl,rfl⟩:=c;rw[G.aF]at e;cases e;rcases hblk b eb with h | ⟨h,_⟩
   ·exact .inl ⟨_,_,L0,h0,h⟩
   ·exact .inr h
  ·rw[G.bz c]at e;exact .inl ⟨l',i',L',e,eb⟩
theorem Fc{l n:Nat}:∀{ds:List D} {σ:SK},D.bJ ds=true→cJ.frzL (cJ l (n+1)) ds σ=(ds,σ)
 |[],σ,h=>rfl
 |d::ds,σ,h=>by
  simp only[D.bJ,af]at h;have h1:cJ l (n+1) d σ=(d,σ):=by cases d<;>simp[cJ,h.1]
  simp only[cJ.frzL,h1,Fc h.2]
theorem Re{e:Env}{σ:SK}{os:List Nat}{sz:Nat}{X Y:bG}{r:D×SK}(h:bH e σ (.MJ os sz X Y)=some r):bH e σ (.st [] sz X Y)=some r:=by
 simp only[bH]at h ⊢;cases hx:bg e X<;>rw[hx]at h<;>try (cases h;done)
 dsimp only at h ⊢;split at h
 case isFalse=>cases h
 split at h
 case h_2=>cases h
 rename_i cs hcs;split at h
 case h_2=>cases h
 rename_i p hp;split at h
 case isFalse=>cases h
 rename_i hc
 try simp only[hcs]
 try simp only[hp]
 try dsimp only
 rw[if_pos ⟨hc.1,hc.2.1⟩];split
 ·simpa[lq]using h
 ·rename_i hn;rw[show deep=15+1 from rfl,Fc (hc.2.2.resolve_right hn)];exact h
end Go.Abs
