import Derived.Test.YtcgippbplkagkaaGreatBase0
import Derived.AtR
import Derived.Laws.Cells
import Derived.Laws.World
import Derived.Lib.FrozenHead
set_option linter.all false
namespace Go.Abs
open Go
inductive Loc where
 |dead
 |kg (v:Nat)
 |at(bu off v sz:Nat)
 |lp (bu:Nat)
 |mp (bu:Nat)
 |it (bu:Nat)
 |ob (bu:Nat) (buf:Option Nat)
def Loc.D2:Loc→Nat→Prop
 |.dead,_=>True
 |.kg v',v=>v≤v'
 |.at _ _ v' _,v=>v≤v'
 |.lp _,_=>False
 |.mp _,_=>False
 |.it _,_=>False
 |.ob ..,_=>False
def Loc.owns:Loc→Nat→Prop
 |.at b _ _ _,x=>b=x
 |.lp b,x=>b=x
 |.mp b,x=>b=x
 |.it b,x=>b=x
 |.ob b c,x=>b=x∨c=some x
 |_,_=>False
structure G where
 loc:Nat→Nat→Option Loc
 jV:Nat→Nat→Option Value
def G.row(g:G)(b o:Nat)(vs:List Value):Prop:=∀j v,vs[j]?=some v→g.jV b (o+j)=some v
mutual
inductive a8 (g:G):D→Value→Prop
 |undef (c:Value):a8 g .undef c
 |bool (b:Bool):a8 g (.bool b) (.bool b)
 |int (k:IntKind) (n:Int):a8 g (.int k n) (.int k n)
 |str (s:ByteArray):a8 g (.str s.data.toList) (.string s)
 |agg (ds:List D) (cs:Array Value):aY g ds cs.toList→(∀c∈cs.toList,c.oneCell'=true)→a8 g (.agg ds) (.agg cs)
 |fj (ds:List D) (cs:Array Value):aY g ds cs.toList→a8 g (.fj ds) (.tuple cs)
 |nd:a8 g .nd (.pointer none)
 |ref (l i v off b o:Nat) (L:Loc):g.loc l i=some L→L.D2 v →
   (∀bu bo sz,L=.at bu bo v sz→b=bu∧o=bo+off)→L ≠ .kg v→a8 g (.ref l i v off) (.pointer (some ⟨b,o,none⟩))
 |aK (ds:List D) (b o:Nat) (vs:List Value):g.row b o vs→aY g ds vs→a8 g (.aK ds) (.pointer (some ⟨b,o,none⟩))
 |bw:a8 g .bw (.slice none 0 0)
 |pN:a8 g (.aE 0 []) (.slice none 0 0)
 |aE (n:Nat) (ds:List D) (a:Addr) (cap:Nat) (vs:List Value):n≤cap→g.row a.block a.off vs→(n≠0→a.spot=none)→aY g ds vs →
   a8 g (.aE n ds) (.slice (some a) n cap)
 |sl (l i v off n w:Nat) (a:Option Addr) (cap:Nat) (L:Loc):g.loc l i=some L→L.D2 v→(n≤cap∧cap<9223372036854775808)→(a=none→cap=0)→(∀x,a=some x→n≠0→x.spot=none) →
   (∀bu bo sz,L=.at bu bo v sz→(a=some ⟨bu,bo+off,none⟩∧bo+off+cap*w≤sz)∨cap=0) →
   (L=.kg v→a=none)→a8 g (.sl l i v off n w) (.slice a n cap)
 |fn (f:Nat) (fs cs:List D) (fs' cs':Array Value):aY g fs fs'.toList→aY g cs cs'.toList→a8 g (.fn f fs cs) (.func (.func f) fs' cs')
 |pO:a8 g .pO .nilFunc
 |iN (l i b:Nat):g.loc l i=some (.lp b)→a8 g (.iN l i) (.func (.yield b) #[] #[])
 |EP (l i b:Nat):g.loc l i=some (.mp b)→a8 g (.iN l i) (.map (some b))
 |JY (l i b:Nat) (L:Loc):g.loc l i=some L→(L=.it b∨L=.dead)→a8 g (.iN l i) (.pointer (some ⟨b,0,none⟩))
 |Fa (l i b:Nat) (L:Loc):g.loc l i=some L→((∃c,L=.ob b c)∨L=.dead)→a8 g (.iN l i) (.pointer (some ⟨b,0,none⟩))
 |o9 (t:Nat) (d:D) (c:Value):a8 g d c→a8 g (.o9 t d) (.iface t c)
 |kL:a8 g .kL .nilIface
inductive aY (g:G):List D→List Value→Prop
 |nil:aY g [] []
 |cons (d:D) (c:Value) (ds:List D) (cs:List Value):a8 g d c→aY g ds cs→aY g (d::ds) (c::cs)
end
def Loc.le:Loc→Loc→Prop
 |.dead,L=>L=.dead
 |.lp b,L=>L=.lp b
 |.mp b,L=>L=.mp b
 |.it b,L=>L=.it b∨L=.dead
 |.ob b _,L=>(∃c,L=.ob b c)∨L=.dead
 |.kg v,L=>L=.kg v∨L=.dead∨(∃b o v' s,L=.at b o v' s∧v<v')∨∃v',L=.kg v'∧v<v'
 |.at b o v s,L=>L=.at b o v s∨L=.dead∨∃b' o' v' s',L=.at b' o' v' s'∧v<v'
theorem Loc.le_refl(L:Loc):L.le L:=by cases L<;>simp[Loc.le]
theorem Loc.le_trans{a b c:Loc}(h:a.le b)(h':b.le c):a.le c:=by
 cases a with
 |dead=>simp only[Loc.le]at h;subst h;exact h'
 |lp x=>simp only[Loc.le]at h;subst h;exact h'
 |mp x=>simp only[Loc.le]at h;subst h;exact h'
 |it x =>
  simp only[Loc.le]at h;rcases h with rfl | rfl
  ·exact h'
  ·simp only[Loc.le]at h' ⊢;exact .inr h'
 |ob x y =>
  simp only[Loc.le]at h;rcases h with⟨c,rfl⟩ | rfl
  ·exact h'
  ·simp only[Loc.le]at h' ⊢;exact .inr h'
 |kg v =>
  simp only[Loc.le]at h;rcases h with rfl | rfl | ⟨b1,o,v',s,rfl,hv⟩ | ⟨v',rfl,hv⟩
  ·exact h'
  ·simp only[Loc.le]at h' ⊢;exact .inr (.inl h')
  ·simp only[Loc.le]at h' ⊢;rcases h' with rfl | rfl | ⟨b2,o2,v2,s2,rfl,hv2⟩
   ·exact .inr (.inr (.inl ⟨_,_,_,_,rfl,hv⟩))
   ·exact .inr (.inl rfl)
   ·exact .inr (.inr (.inl ⟨_,_,_,_,rfl,by omega⟩))
  ·simp only[Loc.le]at h' ⊢;rcases h' with rfl | rfl | ⟨b2,o2,v2,s2,rfl,hv2⟩ | ⟨v2,rfl,hv2⟩
   ·exact .inr (.inr (.inr ⟨_,rfl,hv⟩))
   ·exact .inr (.inl rfl)
   ·exact .inr (.inr (.inl ⟨_,_,_,_,rfl,by omega⟩))
   ·exact .inr (.inr (.inr ⟨_,rfl,by omega⟩))
 |«at» b1 o v s =>
  simp only[Loc.le]at h;rcases h with rfl | rfl | ⟨b2,o2,v2,s2,rfl,hv⟩
  ·exact h'
  ·simp only[Loc.le]at h' ⊢;exact .inr (.inl h')
  ·simp only[Loc.le]at h' ⊢;rcases h' with rfl | rfl | ⟨b3,o3,v3,s3,rfl,hv3⟩
   ·exact .inr (.inr ⟨_,_,_,_,rfl,hv⟩)
   ·exact .inr (.inl rfl)
   ·exact .inr (.inr ⟨_,_,_,_,rfl,by omega⟩)
theorem Loc.oS{L L':Loc}{v:Nat}(h:L.D2 v)(h':L.le L'):L'.D2 v:=by
 cases L with
 |dead=>simp only[Loc.le]at h';subst h';trivial
 |lp b=>exact h.elim
 |mp b=>exact h.elim
 |it b=>exact h.elim
 |ob b c=>exact h.elim
 |kg v' =>
  simp only[Loc.le]at h';simp only[Loc.D2]at h;rcases h' with rfl | rfl | ⟨b,o,v',s,rfl,hv⟩ | ⟨v',rfl,hv⟩<;>simp only[Loc.D2]<;>omega
 |«at» b o v' s =>
  simp only[Loc.le]at h';simp only[Loc.D2]at h;rcases h' with rfl | rfl | ⟨b',o',v'',s',rfl,hv⟩<;>simp only[Loc.D2]<;>omega
structure G.le(g g':G):Prop where
 loc:∀l i L,g.loc l i=some L→∃L',g'.loc l i=some L'∧L.le L'
 jV:∀b o v,g.jV b o=some v→g'.jV b o=some v
theorem G.le_refl(g:G):g.le g:=⟨fun _ _ L h=>⟨L,h,L.le_refl⟩,fun _ _ _ h=>h⟩
theorem G.le_trans{a b c:G}(h:a.le b)(h':b.le c):a.le c :=
 ⟨fun l i L e=>let ⟨L1,e1,h1⟩:=h.loc l i L e;let ⟨L2,e2,h2⟩:=h'.loc l i L1 e1;⟨L2,e2,Loc.le_trans h1 h2⟩,
  fun x o v e=>h'.jV x o v (h.jV x o v e)⟩
theorem G.vN{g g':G}(h:g.le g'){b o:Nat}{vs:List Value}(hr:g.row b o vs):g'.row b o vs:=fun j v e=>h.jV _ _ _ (hr j v e)
theorem Loc.back{L L':Loc}{v:Nat}(h:L.D2 v)(h':L.le L'){b o s:Nat}(e:L'=.at b o v s):L=.at b o v s:=by
 subst e;cases L with
 |dead=>simp[Loc.le]at h'
 |lp b=>simp[Loc.le]at h'
 |mp b=>simp[Loc.le]at h'
 |it b=>simp[Loc.le]at h'
 |ob b c=>simp[Loc.le]at h'
 |kg v' =>
  simp only[Loc.le]at h';simp only[Loc.D2]at h;rcases h' with h' | h' | ⟨b,o,v',s,h',hv⟩ | ⟨v',h',hv⟩<;>simp_all
  omega
 |«at» b o v' s =>
  simp only[Loc.le]at h';simp only[Loc.D2]at h;rcases h' with h' | h' | ⟨b',o',v'',s',h',hv⟩<;>simp_all
  omega
theorem Loc.sU{L L':Loc}{v:Nat}(h:L.D2 v)(h':L.le L')(e:L'=.kg v):L=.kg v:=by
 subst e;cases L with
 |dead=>simp[Loc.le]at h'
 |lp b=>simp[Loc.le]at h'
 |mp b=>simp[Loc.le]at h'
 |it b=>simp[Loc.le]at h'
 |ob b c=>simp[Loc.le]at h'
 |kg v' =>
  simp only[Loc.le]at h';simp only[Loc.D2]at h;rcases h' with h' | h' | ⟨b,o,v',s,h',hv⟩ | ⟨v',h',hv⟩<;>simp_all
  omega
 |«at» b o v' s=>simp[Loc.le]at h'
mutual
theorem a8.mono{g g':G}(h:g.le g'):∀{d:D} {c:Value},a8 g d c→a8 g' d c
 |_,_,.undef c => .undef c
 |_,_,.bool b => .bool b
 |_,_,.int k n => .int k n
 |_,_,.str s => .str s
 |_,_,.agg ds cs hr h1 => .agg ds cs (aY.mono h hr) h1
 |_,_,.fj ds cs hr => .fj ds cs (aY.mono h hr)
 |_,_,.nd => .nd
 |_,_,.ref l i v off b o L e hv hc hn =>
  let ⟨L',e',hl⟩:=h.loc l i L e
  .ref l i v off b o L' e' (Loc.oS hv hl) (fun bu bo sz eq=>hc bu bo sz (Loc.back hv hl eq)) (fun eq=>hn (Loc.sU hv hl eq))
 |_,_,.aK ds b o vs hr hl => .aK ds b o vs (G.vN h hr) (aY.mono h hl)
 |_,_,.bw => .bw
 |_,_,.pN => .pN
 |_,_,.aE n ds a cap vs hn hr hs hl => .aE n ds a cap vs hn (G.vN h hr) hs (aY.mono h hl)
 |_,_,.sl l i v off n w a cap L e hv hn ha hs hc hc' =>
  let ⟨L',e',hl⟩:=h.loc l i L e
  .sl l i v off n w a cap L' e' (Loc.oS hv hl) hn ha hs (fun bu bo sz eq=>hc bu bo sz (Loc.back hv hl eq)) (fun eq=>hc' (Loc.sU hv hl eq))
 |_,_,.fn f fs cs fs' cs' h1 h2 => .fn f fs cs fs' cs' (aY.mono h h1) (aY.mono h h2)
 |_,_,.pO => .pO
 |_,_,.iN l i b e =>
  let ⟨L',e',hl⟩:=h.loc l i _ e
  .iN l i b (by rw[e',show L'=.lp b from hl])
 |_,_,.EP l i b e =>
  let ⟨L',e',hl⟩:=h.loc l i _ e
  .EP l i b (by rw[e',show L'=.mp b from hl])
 |_,_,.JY l i b L e hc =>
  let ⟨L',e',hl⟩:=h.loc l i L e
  .JY l i b L' e' (by
   rcases hc with rfl | rfl
   ·exact hl
   ·exact .inr hl)
 |_,_,.Fa l i b L e hc =>
  let ⟨L',e',hl⟩:=h.loc l i L e
  .Fa l i b L' e' (by
   rcases hc with⟨c,rfl⟩ | rfl
   ·exact hl
   ·exact .inr hl)
 |_,_,.o9 t d c h1 => .o9 t d c (a8.mono h h1)
 |_,_,.kL => .kL
theorem aY.mono{g g':G}(h:g.le g'):∀{ds:List D} {cs:List Value},aY g ds cs→aY g' ds cs
 |_,_,.nil => .nil
 |_,_,.cons d c ds cs h1 h2 => .cons d c ds cs (a8.mono h h1) (aY.mono h h2)
end
section lists
variable {g:G}
theorem aY.length{ds:List D}{cs:List Value}(h:aY g ds cs):ds.length=cs.length:=by
 induction ds generalizing cs with
 |nil=>cases h;rfl
 |cons d ds ih=>cases h with | cons _ c _ cs h1 h2=>simp[ih h2]
theorem aY.get{ds:List D}{cs:List Value}(h:aY g ds cs){j:Nat}{d:D}(e:ds[j]?=some d):∃c,cs[j]?=some c∧a8 g d c:=by
 induction ds generalizing cs j with
 |nil=>simp at e
 |cons d0 ds ih =>
  cases h with
  |cons _ c _ cs h1 h2 =>
   cases j with
   |zero=>simp at e;subst e;exact⟨c,rfl,h1⟩
   |succ j=>exact ih h2 (by simpa using e)
theorem aY.append{a b:List D}{x y:List Value}(h:aY g a x)(h':aY g b y):aY g (a++b) (x++y):=by
 induction a generalizing x with
 |nil=>cases h;exact h'
 |cons d a ih=>cases h with | cons _ c _ cs h1 h2=>exact .cons _ _ _ _ h1 (ih h2)
theorem aY.take{a:List D}{x:List Value}(h:aY g a x)(n:Nat):aY g (a.take n) (x.take n):=by
 induction a generalizing x n with
 |nil=>cases h;simpa using aY.nil
 |cons d a ih =>
  cases h with
  |cons _ c _ cs h1 h2 =>
   cases n with
   |zero=>exact .nil
   |succ n=>exact .cons _ _ _ _ h1 (ih h2 n)
theorem aY.drop{a:List D}{x:List Value}(h:aY g a x)(n:Nat):aY g (a.drop n) (x.drop n):=by
 induction a generalizing x n with
 |nil=>cases h;simpa using aY.nil
 |cons d a ih =>
  cases h with
  |cons _ c _ cs h1 h2 =>
   cases n with
   |zero=>exact .cons _ _ _ _ h1 h2
   |succ n=>exact ih h2 n
theorem aY.Vm{ds:List D}{cs:List Value}(hl:ds.length=cs.length)(h:∀(j:Nat) (d:D) (c:Value),ds[j]?=some d→cs[j]?=some c→a8 g d c):aY g ds cs:=by
 induction ds generalizing cs with
 |nil=>cases cs with
  |nil=>exact .nil
  |cons c cs=>simp at hl
 |cons d ds ih =>
  cases cs with
  |nil=>simp at hl
  |cons c cs =>
   exact .cons _ _ _ _ (h 0 d c rfl rfl) (ih (by simpa using hl) fun j d' c' e e'=>h (j+1) d' c' (by simpa using e) (by simpa using e'))
theorem a8.cells{d:D}{c:Value}(h:a8 g d c){ds:List D}(e:d.cells=some ds):aY g ds c.cells.toList∧∀x∈c.cells.toList,x.oneCell'=true:=by
 have h0:=h;cases h with
 |agg ds' cs hr h1=>simp only[D.cells,ae]at e;subst e;exact⟨hr,h1⟩
 |undef c=>simp[D.cells]at e
 |fj=>simp[D.cells]at e
 |_=>simp only[D.cells,ae]at e;subst e;exact⟨.cons _ _ _ _ h0 .nil,by simp[Value.cells,Value.oneCell']⟩
end lists
def pE(g:G)(e:Env)(tmps:Array Value):Prop:=∀t,a8 g (get e t) (tmps.getD t Go.undef)
theorem pE.mono{g g':G}(h:g.le g'){e:Env}{tmps:Array Value}(hr:pE g e tmps):pE g' e tmps:=fun t=>(hr t).mono h
structure dF where
 rel:bQ→Code→Nat→Prop
 BW:Nat→(Obj→Prop)→Prop
def ab6:Nat→LoopState
 |0 => .ready
 |1 => .busy
 |2 => .done
 |_ => .exhausted
def sF:Option Exit→Option (Option Code)
 |none=>some none
 |some (.exit id)=>some (some (.exit id))
 |some .ret=>some (some .ret)
 |some .normal=>none
 |some (.eR _)=>none
structure qI(CR:dF)(g:G)(lp:oJ)(r:Loop):Prop where
 state:r.state=ab6 lp.state
 oV:sF lp.oV=some r.pending
 env:pE g lp.env r.tmps
 params:r.params.toList=lp.params
 small:∀t∈lp.params,t<r.tmps.size
 both:CR.rel (.ite (.t 0) lp.q8 lp.body) (.cond (.tmp 0) r.assign r.body) r.tmps.size
def Du(es:List MapEntry)(clock:Nat):Prop:=es.map (·.born)=List.range es.length∧clock=es.length
def xe(CR:dF)(g:G)(w:World):aF→Loc→Prop
 |.cells v cs,.at b off v' sz=>v=v'∧∃(c:Array Value) (el:TypeId),w.heap[b]?=some (.cells c el (0,0))∧c.size=sz∧off+cs.length≤sz ∧
   ∃vs,aY g cs vs∧(∀j x,vs[j]?=some x→c[off+j]?=some x∧x.oneCell'=true)
 |.cells v cs,.kg v'=>v=v'∧cs=[]
 |.dead,.dead=>True
 |.loop lp,.lp b=>∃r,w.heap[b]?=some (.loop r)∧qI CR g lp r
 |.cells v es,.mp b=>v=0∧∃b9 clock,w.heap[b]?=some (.map b9 clock)∧aY g es (b9.toList.map fun e => .tuple #[e.key,e.val])∧Du b9.toList clock
 |.cells v cs,.it b=>v=1∧∃l i bm n,∃js:List Nat,cs=.iN l i::.int .i64 (n:Nat)::js.map (fun j:Nat=>D.int .i64 j)∧g.loc l i=some (.mp bm) ∧
   w.heap[b]?=some (.mapIter (some bm) n js.reverse.toArray n)∧js.Nodup∧∀j∈js,j<n
 |.cells v cs,.ob b c=>v=2∧∃(T e:Nat) (bs:List UInt8) (p s:Value),cs=[.int .i64 T,.int .i64 e,.str bs]∧w.heap[b]?=some (.cells #[p,s] T (0,0)) ∧
   (p=.pointer none∨p=.pointer (some ⟨b,0,none⟩))∧w.ownsRowF 0 e 1 s bs.length (bs.map fun x => .int .u8 x.toNat)∧s.ownBlock=c∧c≠some b
 |_,_=>False
structure Inv(CR:dF)(base:Nat)(g:G)(σ:SK)(w:World):Prop where
 ge:base≤w.heap.size
 o8:∀l i L,g.loc l i=some L→∃b,cM σ l i=some b∧xe CR g w b L
 jV:∀b o v,g.jV b o=some v→w.cell? ⟨b,o,none⟩=some v∧v.oneCell'=true
 sep:∀l i L b,g.loc l i=some L→L.owns b→∀o,g.jV b o=none
 inj:∀l i L l' i' L' b,g.loc l i=some L→g.loc l' i'=some L'→L.owns b→L'.owns b→l=l'∧i=i'
 lo:∀l i L b,g.loc l i=some L→L.owns b→base≤b∧b<w.heap.size
 Ee:∀l i b,cM σ l i=some b→∃L,g.loc l i=some L
 BW:∀b Q,CR.BW b Q→(∃v,g.jV b 0=some v)∧∃o,w.heap[b]?=some o∧Q o
def G.has(g:G)(b:Nat):Prop:=∃l i L,g.loc l i=some L∧L.owns b
structure Ev(g:G)(w:World)(g':G)(w':World):Prop where
 le:g.le g'
 os:w'.os=w.os
 tape:w'.tape=w.tape
 output:w'.output=w.output
 size:w.heap.size≤w'.heap.size
 kept:∀b,b<w.heap.size→¬g.has b→w'.heap[b]?=w.heap[b]?
 Fe:∀b,g'.has b→g.has b∨w.heap.size≤b
 yJ:∀b o v,g'.jV b o=some v→g.jV b o=some v∨g.has b∨w.heap.size≤b
theorem Ev.refl(g:G)(w:World):Ev g w g w:=⟨g.le_refl,rfl,rfl,rfl,aw _,fun _ _ _=>rfl,fun _ h => .inl h,fun _ _ _ h => .inl h⟩
theorem Ev.trans{g g1 g2:G}{w w1 w2:World}(h:Ev g w g1 w1)(h':Ev g1 w1 g2 w2):Ev g w g2 w2 where
 le:=G.le_trans h.le h'.le
 os:=h'.os.trans h.os
 tape:=h'.tape.trans h.tape
 output:=h'.output.trans h.output
 size:=fQ h.size h'.size
 kept b hb hn:=by
  have h1:¬g1.has b:=fun hx=>by
   rcases h.Fe b hx with hx | hx
   ·exact hn hx
   ·omega
  rw[h'.kept b (Nat.lt_of_lt_of_le hb h.size) h1,h.kept b hb hn]
 Fe b hb:=by
  rcases h'.Fe b hb with hx | hx
  ·exact h.Fe b hx
  ·exact .inr (fQ h.size hx)
 yJ b o v hv:=by
  rcases h'.yJ b o v hv with hx | hx | hx
  ·exact h.yJ b o v hx
  ·exact .inr (h.Fe b hx)
  ·exact .inr (.inr (fQ h.size hx))
section stack
theorem rI{σ:SK}{l:Nat}{s:List aF}(h:gv σ l=some s):l<σ.length:=by
 induction σ with
 |nil=>simp[gv]at h
 |cons s0 σ ih =>
  simp only[gv]at h;split at h
  ·simp;omega
  ·have:=ih h;simp;omega
theorem mr{σ:SK}{l:Nat}{s:List aF}(h:l<σ.length):gv (eP σ l s) l=some s:=by
 induction σ with
 |nil=>simp at h
 |cons s0 σ ih =>
  simp only[eP];split
  ·rename_i e;simp[gv,e]
  ·rename_i e;simp only[gv];rw[dw];rw[if_neg e];exact ih (by simp at h;omega)
where
 dw {σ:SK} {l:Nat} {s:List aF}:(eP σ l s).length=σ.length:=by
  induction σ with
  |nil=>rfl
  |cons s0 σ ih=>simp only[eP];split<;>simp[ih]
theorem dw{σ:SK}{l:Nat}{s:List aF}:(eP σ l s).length=σ.length:=mr.dw
theorem vf{σ:SK}{l l':Nat}{s:List aF}(h:l'≠l):gv (eP σ l s) l'=gv σ l':=by
 induction σ with
 |nil=>rfl
 |cons s0 σ ih =>
  simp only[eP];split
  ·rename_i e;simp only[gv];rw[if_neg (by omega),if_neg (by omega)]
  ·simp only[gv,dw];split
   ·rfl
   ·exact ih
theorem cI{σ:SK}{l i:Nat}{b:aF}:(aN σ l i b).length=σ.length:=by
 unfold aN;split
 ·exact dw
 ·rfl
theorem jx{σ:SK}{l i:Nat}{b b0:aF}(h:cM σ l i=some b0):cM (aN σ l i b) l i=some b:=by
 unfold cM at h;cases hs:gv σ l with
 |none=>simp[hs]at h
 |some s =>
  simp only[hs,Option.bind_some]at h;have hi:i<s.length:=(an.1 h).1;simp only[aN,hs,cM,mr (rI hs),Option.bind_some];simp[hi]
theorem cN{σ:SK}{l i l' i':Nat}{b:aF}(h:¬(l'=l∧i'=i)):cM (aN σ l i b) l' i'=cM σ l' i':=by
 unfold aN;cases hs:gv σ l with
 |none=>rfl
 |some s =>
  simp only[cM];by_cases hl:l'=l
  ·subst hl;rw[mr (rI hs),hs];simp only[Option.bind_some];rw[List.getElem?_set_ne];intro e;exact h ⟨rfl,e.symm⟩
  ·rw[vf hl]
theorem fh{σ σ':SK}{b:aF}{l i:Nat}(h:dP σ b=some (l,i,σ')):
  cM σ l i=none∧cM σ' l i=some b∧(∀l' i',¬(l'=l∧i'=i)→cM σ' l' i'=cM σ l' i')∧σ'.length=σ.length∧l+1=σ.length:=by
 cases σ with
 |nil=>simp[dP]at h
 |cons s σ =>
  simp only[dP,ae,ai]at h;obtain⟨rfl,rfl,rfl⟩:=h;refine⟨by simp[cM,gv],by simp[cM,gv],?_,rfl,rfl⟩;intro l' i' hn;simp only[cM,gv];split
  ·rename_i e;simp only[Option.bind_some];rw[List.getElem?_append];split
   ·rfl
   ·rename_i hlt;have:i'≠s.length:=fun e'=>hn ⟨e.symm,e'⟩
    rw[bT (by simp;omega),bT (by omega)]
  ·rfl
end stack
theorem xe.mono{CR:dF}{g g':G}{w w':World}{b:aF}{L:Loc}(h:xe CR g w b L)(hg:g.le g')
  (hw:∀x,L.owns x→w'.heap[x]?=w.heap[x]?):xe CR g' w' b L:=by
 cases b with
 |cells v cs =>
  cases L with
  |«at» x off v' sz =>
   obtain⟨rfl,c,el,hb,hsz,hlen,vs,hr,hv⟩:=h;exact⟨rfl,c,el,(hw x rfl).trans hb,hsz,hlen,vs,hr.mono hg,hv⟩
  |kg v'=>exact h
  |dead=>exact h
  |lp x=>exact h
  |mp x =>
   obtain⟨hv,b9,clock,hb,hr,hm⟩:=h;exact⟨hv,b9,clock,(hw x rfl).trans hb,hr.mono hg,hm⟩
  |it x =>
   obtain⟨hv,l,i,bm,n,js,h1,h2,h3,h4⟩:=h;obtain⟨L',e',hl⟩:=hg.loc l i _ h2;exact⟨hv,l,i,bm,n,js,h1,by rw[e',show L'=.mp bm from hl],(hw x rfl).trans h3,h4⟩
  |ob x y =>
   obtain⟨hv,T,e,bs,p,s,h1,h2,h3,h4,h5,h6⟩:=h;refine⟨hv,T,e,bs,p,s,h1,(hw x (.inl rfl)).trans h2,h3,⟨h4.1,h4.2.imp id fun⟨q,cap,cur,fz,k1,k2,k3,k4⟩=>⟨q,cap,cur,fz,k1,k2,(hw q (.inr ?_)).trans k3,k4⟩⟩,h5,h6⟩;rw[← h5,k1];rfl
 |dead=>cases L<;>exact h
 |loop lp =>
  cases L with
  |lp x =>
   obtain⟨r,hb,hr⟩:=h;exact⟨r,(hw x rfl).trans hb,{hr with env:=hr.env.mono hg }⟩
  |«at» x off v' sz=>exact h
  |kg v'=>exact h
  |dead=>exact h
  |mp x=>exact h
  |it x=>exact h
  |ob x y=>exact h
theorem Inv.vg{CR:dF}{base:Nat}{g g':G}{σ σ':SK}{w w':World}(hi:Inv CR base g σ w)(l i:Nat)
  (hle:g.le g')
  (hσ:∀l' i',¬(l'=l∧i'=i)→cM σ' l' i'=cM σ l' i')
  (hloc:∀l' i',¬(l'=l∧i'=i)→g'.loc l' i'=g.loc l' i')
  (hw:∀l' i' L b,¬(l'=l∧i'=i)→g.loc l' i'=some L→L.owns b→w'.heap[b]?=w.heap[b]?)
  (hnew:∀L,g'.loc l i=some L→∃b,cM σ' l i=some b∧xe CR g' w' b L)
  (himm:∀b o v,g'.jV b o=some v→w'.cell? ⟨b,o,none⟩=some v∧v.oneCell'=true)
  (hsep:∀l' i' L b,g'.loc l' i'=some L→L.owns b→∀o,g'.jV b o=none)
  (hinj:∀L b,g'.loc l i=some L→L.owns b→base≤b∧b<w'.heap.size∧∀l' i' L',¬(l'=l∧i'=i)→g.loc l' i'=some L'→¬L'.owns b)
  (hsize:w.heap.size≤w'.heap.size) (htot:∃L,g'.loc l i=some L) (hlow:∀b v,g.jV b 0=some v→w'.heap[b]?=w.heap[b]?):Inv CR base g' σ' w' where
 BW b Q h:=let ⟨⟨v,hb⟩,o,ho,hq⟩:=hi.BW b Q h;⟨⟨v,hle.jV _ _ _ hb⟩,o,(hlow b v hb).trans ho,hq⟩
 Ee l' i' b e:=by
  by_cases h:l'=l∧i'=i
  ·obtain⟨rfl,rfl⟩:=h;exact htot
  ·rw[hσ l' i' h]at e;rw[hloc l' i' h];exact hi.Ee l' i' b e
 ge:=fQ hi.ge hsize
 o8 l' i' L e:=by
  by_cases h:l'=l∧i'=i
  ·obtain⟨rfl,rfl⟩:=h;exact hnew L e
  ·rw[hloc l' i' h]at e;obtain⟨b,hb,hr⟩:=hi.o8 l' i' L e;exact⟨b,(hσ l' i' h).trans hb,hr.mono hle fun x hx=>hw l' i' L x h e hx⟩
 jV:=himm
 sep:=hsep
 inj l1 i1 L1 l2 i2 L2 b h1 h2 e1 e2:=by
  by_cases c1:l1=l∧i1=i
  ·obtain⟨rfl,rfl⟩:=c1;by_cases c2:l2=l1∧i2=i1
   ·exact⟨c2.1.symm,c2.2.symm⟩
   ·rw[hloc l2 i2 c2]at h2;exact absurd e2 ((hinj L1 b h1 e1).2.2 l2 i2 L2 c2 h2)
  ·rw[hloc l1 i1 c1]at h1;by_cases c2:l2=l∧i2=i
   ·obtain⟨rfl,rfl⟩:=c2;exact absurd e1 ((hinj L2 b h2 e2).2.2 l1 i1 L1 c1 h1)
   ·rw[hloc l2 i2 c2]at h2;exact hi.inj _ _ _ _ _ _ b h1 h2 e1 e2
 lo l' i' L b e eb:=by
  by_cases h:l'=l∧i'=i
  ·obtain⟨rfl,rfl⟩:=h;exact⟨(hinj L b e eb).1,(hinj L b e eb).2.1⟩
  ·rw[hloc l' i' h]at e;have:=hi.lo l' i' L b e eb;exact⟨this.1,by omega⟩
theorem ep{w w':World}{b o:Nat}(h:w'.heap[b]?=w.heap[b]?):w'.cell? ⟨b,o,none⟩=w.cell? ⟨b,o,none⟩:=by
 simp only[World.cell?,h]
theorem Inv.heap{CR:dF}{base:Nat}{g:G}{σ:SK}{w w1:World}(hi:Inv CR base g σ w)(h:w1.heap=w.heap):Inv CR base g σ w1 where
 ge:=by rw[h];exact hi.ge
 o8 l i L e:=let ⟨b,hb,hr⟩:=hi.o8 l i L e;⟨b,hb,hr.mono g.le_refl fun x _=>by rw[h]⟩
 jV b o v e:=let ⟨h1,h2⟩:=hi.jV b o v e;⟨(ep (by rw[h])).trans h1,h2⟩
 sep:=hi.sep
 inj:=hi.inj
 Ee:=hi.Ee
 BW:=by rw[h];exact hi.BW
 lo l i L b e eb:=by rw[h];exact hi.lo l i L b e eb
theorem Ev.heap(g:G){w w1:World}(h:w1.heap=w.heap)(ho:w1.os=w.os)(ht:w1.tape=w.tape)(hp:w1.output=w.output):Ev g w g w1 :=
 ⟨g.le_refl,ho,ht,hp,by rw[h];exact aw _,fun b _ _=>by rw[h],fun b hb => .inl hb,fun b o v hv => .inl hv⟩
theorem Inv.eO{CR:dF}{base:Nat}{g:G}{σ:SK}{w:World}(hi:Inv CR base g σ w){b o:Nat}{v:Value}(h:g.jV b o=some v):b<w.heap.size :=
 World.block_lt_of_cell? (a:=⟨b,o,none⟩) w (hi.jV b o v h).1
theorem Inv.I0{CR:dF}{base:Nat}{g:G}{σ:SK}{w:World}(hi:Inv CR base g σ w){b:Nat}(h:g.has b):b<w.heap.size :=
 let ⟨l,i,L,e,eb⟩:=h;(hi.lo l i L b e eb).2
def G.fH(g:G)(x:Nat)(vs:List Value):G:=⟨g.loc,fun b o=>if b=x then vs[o]? else g.jV b o⟩
theorem alloc_old{w:World}{o:Obj}{b:Nat}(h:b<w.heap.size):(w.alloc o).heap[b]?=w.heap[b]?:=by
 simp only[World.alloc,Array.getElem?_push];rw[if_neg (by omega)]
theorem mf{w:World}{o:Obj}:(w.alloc o).heap[w.heap.size]?=some o:=by
 simp only[World.alloc,Array.getElem?_push_size]
theorem Inv.xW{CR:dF}{base:Nat}{g:G}{σ:SK}{w:World}(hi:Inv CR base g σ w)(vs:List Value)(cs:Array Value)(el:TypeId)
  (hcs:∀(j:Nat) x,vs[j]?=some x→cs[j]?=some x∧x.oneCell'=true):
  Inv CR base (g.fH w.heap.size vs) σ (w.alloc (.cells cs el))∧Ev g w (g.fH w.heap.size vs) (w.alloc (.cells cs el))∧(g.fH w.heap.size vs).row w.heap.size 0 vs:=by
 have hle:g.le (g.fH w.heap.size vs):=⟨fun l i L e=>⟨L,e,L.le_refl⟩,fun b o v e=>by
  have:=hi.eO e;simp only[G.fH];rw[if_neg (by omega)];exact e⟩
 refine⟨⟨?_,?_,?_,?_,hi.inj,?_,hi.Ee,fun b Q h=>let ⟨⟨v,hb⟩,o,ho,hq⟩:=hi.BW b Q h;⟨⟨v,hle.jV _ _ _ hb⟩,o,(alloc_old (hi.eO hb)).trans ho,hq⟩⟩,⟨hle,rfl,rfl,rfl,by simp,fun b hb _=>alloc_old hb,fun b hb => .inl hb,?_⟩,?_⟩
 ·have:=hi.ge;simp;omega
 ·intro l i L e;obtain⟨b,hb,hr⟩:=hi.o8 l i L e;exact⟨b,hb,hr.mono hle fun x hx=>alloc_old (hi.lo l i L x e hx).2⟩
 ·intro b o v e;simp only[G.fH]at e;split at e
  ·rename_i hb;subst hb;obtain⟨h1,h2⟩:=hcs o v e;exact⟨by rw[World.cell?_alloc_new];exact h1,h2⟩
  ·obtain⟨h1,h2⟩:=hi.jV b o v e;exact⟨(ep (alloc_old (hi.eO e))).trans h1,h2⟩
 ·intro l i L b e eb o;have:=(hi.lo l i L b e eb).2;simp only[G.fH];rw[if_neg (by omega)];exact hi.sep l i L b e eb o
 ·intro l i L b e eb;have:=hi.lo l i L b e eb;exact⟨this.1,by simp;omega⟩
 ·intro b o v hv;simp only[G.fH]at hv;split at hv
  ·rename_i hb;exact .inr (.inr (by omega))
  ·exact .inl hv
 ·intro j v hv;simp[G.fH,hv]
def G.bK(g:G)(l i:Nat)(L:Loc):G:=⟨fun l' i'=>if l'=l∧i'=i then some L else g.loc l' i',g.jV⟩
theorem G.ao{g:G}{l i:Nat}{L:Loc}:(g.bK l i L).loc l i=some L:=by simp[G.bK]
theorem G.aU{g:G}{l i l' i':Nat}{L:Loc}(h:¬(l'=l∧i'=i)):(g.bK l i L).loc l' i'=g.loc l' i':=by simp only[G.bK];rw[if_neg h]
theorem G.gu{g:G}{l i:Nat}{L:Loc}(h:∀L0,g.loc l i=some L0→L0.le L):g.le (g.bK l i L) :=
 ⟨fun l' i' L' e=>by
  by_cases c:l'=l∧i'=i
  ·obtain⟨rfl,rfl⟩:=c;exact⟨L,G.ao,h L' e⟩
  ·exact⟨L',by rw[G.aU c];exact e,L'.le_refl⟩,fun _ _ _ e=>e⟩
theorem Inv.tb{CR:dF}{base:Nat}{g:G}{σ:SK}{w:World}(hi:Inv CR base g σ w){l i:Nat}(h:cM σ l i=none):g.loc l i=none:=by
 cases e:g.loc l i with
 |none=>rfl
 |some L=>obtain⟨b,hb,_⟩:=hi.o8 l i L e;rw[h]at hb;cases hb
theorem Inv.qB{CR:dF}{base:Nat}{g:G}{σ σ':SK}{w:World}(hi:Inv CR base g σ w){l i:Nat}{ds:List D}(hn:dP σ (.cells 0 ds)=some (l,i,σ'))
  (vs:List Value) (cs:Array Value) (el:TypeId) (hr:aY g ds vs) (hlen:vs.length≤cs.size)
  (hcs:∀(j:Nat) x,vs[j]?=some x→cs[j]?=some x∧x.oneCell'=true):
  Inv CR base (g.bK l i (.at w.heap.size 0 0 cs.size)) σ' (w.alloc (.cells cs el))∧Ev g w (g.bK l i (.at w.heap.size 0 0 cs.size)) (w.alloc (.cells cs el)):=by
 obtain⟨h1,h2,h3,_,_⟩:=fh hn;have hnone:=hi.tb h1;have hle:g.le (g.bK l i (.at w.heap.size 0 0 cs.size)):=G.gu fun L0 e=>by rw[hnone]at e;cases e
 refine⟨hi.vg l i hle h3 (fun l' i' c=>G.aU c) (fun l' i' L b c e eb=>alloc_old (hi.lo l' i' L b e eb).2) ?_ ?_ ?_ ?_ (by simp) ⟨_,G.ao⟩ (fun b v hb=>alloc_old (hi.eO hb)),⟨hle,rfl,rfl,rfl,by simp,fun b hb _=>alloc_old hb,?_,fun b o v hv => .inl hv⟩⟩
 ·intro L e;rw[G.ao]at e;cases e;exact⟨_,h2,rfl,cs,el,mf,rfl,by rw[hr.length];omega,vs,hr.mono hle,fun j x hx=>by simpa using hcs j x hx⟩
 ·intro b o v e;obtain⟨h1,h2⟩:=hi.jV b o v e;exact⟨(ep (alloc_old (hi.eO e))).trans h1,h2⟩
 ·intro l' i' L b e eb o;by_cases c:l'=l∧i'=i
  ·obtain⟨rfl,rfl⟩:=c;rw[G.ao]at e;cases e;cases eb;cases e':(g.bK l' i' (.at w.heap.size 0 0 cs.size)).jV w.heap.size o with
   |none=>rfl
   |some v=>have:=hi.eO (b:=w.heap.size) (o:=o) (v:=v) e';omega
  ·rw[G.aU c]at e;exact hi.sep l' i' L b e eb o
 ·intro L b e eb;rw[G.ao]at e;cases e;cases eb;refine⟨hi.ge,by simp,fun l' i' L' c e' eb'=>?_⟩;have:=(hi.lo l' i' L' _ e' eb').2;omega
 ·intro b hb;obtain⟨l',i',L,e,eb⟩:=hb;by_cases c:l'=l∧i'=i
  ·obtain⟨rfl,rfl⟩:=c;rw[G.ao]at e;cases e;cases eb;exact .inr (aw _)
  ·rw[G.aU c]at e;exact .inl ⟨l',i',L,e,eb⟩
theorem Inv.DX{CR:dF}{base:Nat}{g:G}{σ σ':SK}{w:World}(hi:Inv CR base g σ w){l i:Nat}(hn:dP σ (.cells 0 [])=some (l,i,σ')):
  Inv CR base (g.bK l i (.kg 0)) σ' w∧Ev g w (g.bK l i (.kg 0)) w:=by
 obtain⟨h1,h2,h3,_,_⟩:=fh hn;have hnone:=hi.tb h1;have hle:g.le (g.bK l i (.kg 0)):=G.gu fun L0 e=>by rw[hnone]at e;cases e
 refine⟨hi.vg l i hle h3 (fun l' i' c=>G.aU c) (fun _ _ _ _ _ _ _=>rfl) ?_ hi.jV ?_ ?_ (aw _) ⟨_,G.ao⟩ (fun _ _ _=>rfl),⟨hle,rfl,rfl,rfl,aw _,fun _ _ _=>rfl,?_,fun b o v hv => .inl hv⟩⟩
 ·intro L e;rw[G.ao]at e;cases e;exact⟨_,h2,rfl,rfl⟩
 ·intro l' i' L b e eb o;by_cases c:l'=l∧i'=i
  ·obtain⟨rfl,rfl⟩:=c;rw[G.ao]at e;cases e;cases eb
  ·rw[G.aU c]at e;exact hi.sep l' i' L b e eb o
 ·intro L b e eb;rw[G.ao]at e;cases e;cases eb
 ·intro b hb;obtain⟨l',i',L,e,eb⟩:=hb;by_cases c:l'=l∧i'=i
  ·obtain⟨rfl,rfl⟩:=c;rw[G.ao]at e;cases e;cases eb
  ·rw[G.aU c]at e;exact .inl ⟨l',i',L,e,eb⟩
theorem Inv.setCells{CR:dF}{base:Nat}{g:G}{σ:SK}{w w':World}(hi:Inv CR base g σ w){l i:Nat}{L0 L:Loc}{b0:aF}{v:Nat}{ds:List D}
  (h0:g.loc l i=some L0) (hb0:cM σ l i=some b0) (hL:L0.le L)
  (hrel:xe CR (g.bK l i L) w' (.cells v ds) L)
  (hkept:∀b,b<w.heap.size→¬L0.owns b→w'.heap[b]?=w.heap[b]?)
  (hos:w'.os=w.os) (htape:w'.tape=w.tape) (hout:w'.output=w.output)
  (hsize:w.heap.size≤w'.heap.size)
  (hblk:∀b,L.owns b→(L0.owns b∨(w.heap.size≤b∧b<w'.heap.size))):
  Inv CR base (g.bK l i L) (aN σ l i (.cells v ds)) w'∧Ev g w (g.bK l i L) w':=by
 have hle:g.le (g.bK l i L):=G.gu fun L1 e=>by rw[h0]at e;cases e;exact hL
 refine⟨hi.vg l i hle (fun l' i' c=>cN c) (fun l' i' c=>G.aU c) ?_ ?_ ?_ ?_ ?_ hsize ⟨_,G.ao⟩ (fun b v hb=>hkept b (World.block_lt_of_cell? (a:=⟨b,0,none⟩) w (hi.jV b 0 v hb).1) fun eb0=>by have h:=hi.sep l i L0 b h0 eb0 0;rw[hb]at h;cases h),⟨hle,hos,htape,hout,hsize,?_,?_,fun b o v hv => .inl hv⟩⟩
 ·intro l' i' L' b c e eb;refine hkept b (hi.lo l' i' L' b e eb).2 fun eb0=>c ?_
  have:=hi.inj l' i' L' l i L0 b e h0 eb eb0;exact this
 ·intro L1 e;rw[G.ao]at e;cases e;exact⟨_,jx hb0,hrel⟩
 ·intro b o x e;obtain⟨h1,h2⟩:=hi.jV b o x e;refine⟨(ep (hkept b (hi.eO e) fun eb0=>?_)).trans h1,h2⟩;have:=hi.sep l i L0 b h0 eb0 o;rw[show g.jV b o=some x from e]at this;cases this
 ·intro l' i' L' b e eb o;by_cases c:l'=l∧i'=i
  ·obtain⟨rfl,rfl⟩:=c;rw[G.ao]at e;cases e;rcases hblk b eb with h | ⟨h,_⟩
   ·exact hi.sep _ _ L0 b h0 h o
   ·cases e':(g.bK l' i' L).jV b o with
    |none=>rfl
    |some v=>have:=hi.eO (b:=b) (o:=o) (v:=v) e';omega
  ·rw[G.aU c]at e;exact hi.sep l' i' L' b e eb o
 ·intro L1 b e eb;rw[G.ao]at e;cases e;rcases hblk b eb with h | ⟨h,h'⟩
  ·have:=hi.lo l i L0 b h0 h;refine⟨this.1,by omega,fun l' i' L' c e' eb'=>c ?_⟩;exact hi.inj l' i' L' l i L0 b e' h0 eb' h
  ·exact⟨fQ hi.ge h,h',fun l' i' L' c e' eb'=>by have:=(hi.lo l' i' L' b e' eb').2;omega⟩
 ·intro b hb hn;exact hkept b hb fun e=>hn ⟨l,i,L0,h0,e⟩
 ·intro b hb;obtain⟨l',i',L',e,eb⟩:=hb;by_cases c:l'=l∧i'=i
  ·obtain⟨rfl,rfl⟩:=c;rw[G.ao]at e;cases e;rcases hblk b eb with h | ⟨h,_⟩
   ·exact .inl ⟨_,_,L0,h0,h⟩
   ·exact .inr h
  ·rw[G.aU c]at e;exact .inl ⟨l',i',L',e,eb⟩
theorem vI{l n:Nat}:∀{ds:List D} {σ:SK},D.bF ds=true→cb.frzL (cb l (n+1)) ds σ=(ds,σ)
 |[],σ,h=>rfl
 |d::ds,σ,h=>by
  simp only[D.bF,ak]at h;have h1:cb l (n+1) d σ=(d,σ):=by cases d<;>simp[cb,h.1]
  simp only[cb.frzL,h1,vI h.2]
theorem D9{e:Env}{σ:SK}{os:List Nat}{sz:Nat}{X Y:ba}{r:D×SK}(h:a7 e σ (.E3 os sz X Y)=some r):a7 e σ (.st [] sz X Y)=some r:=by
 simp only[a7]at h ⊢;cases hx:aR e X<;>rw[hx]at h<;>try (cases h;done)
 dsimp only at h ⊢;split at h
 case isFalse=>cases h
 split at h
 case h_2=>cases h
 rename_i cs hcs;split at h
 case h_2=>cases h
 rename_i p hp;split at h
 case isFalse=>cases h
 rename_i hc
 try simp only[hcs]
 try simp only[hp]
 try dsimp only
 rw[if_pos ⟨hc.1,hc.2.1⟩];split
 ·simpa[fP]using h
 ·rename_i hn;rw[show deep=15+1 from rfl,vI (hc.2.2.resolve_right hn)];exact h
end Go.Abs
