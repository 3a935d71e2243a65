import Derived.Test.YtfgljaglidhjiaaGreatDoorBase0
import Derived.AtR
import Derived.Laws.Cells
import Derived.Laws.World
import Derived.Lib.FrozenHead
set_option linter.all false
namespace Go.Abs
open Go
inductive Loc where
 |dead
 |pL (v:Nat)
 |at(bO off v sz:Nat)
 |lp (bO:Nat)
 |mp (bO:Nat)
 |it (bO:Nat)
 |ob (bO:Nat) (buf:Option Nat)
def Loc.Qp:Loc→Nat→Prop
 |.dead,_=>True
 |.pL v',v=>v≤v'
 |.at _ _ v' _,v=>v≤v'
 |.lp _,_=>False
 |.mp _,_=>False
 |.it _,_=>False
 |.ob ..,_=>False
def Loc.owns:Loc→Nat→Prop
 |.at b _ _ _,x=>b=x
 |.lp b,x=>b=x
 |.mp b,x=>b=x
 |.it b,x=>b=x
 |.ob b c,x=>b=x∨c=some x
 |_,_=>False
structure G where
 loc:Nat→Nat→Option Loc
 re:Nat→Nat→Option Value
def G.row(g:G)(b o:Nat)(vs:List Value):Prop:=∀j v,vs[j]?=some v→g.re b (o+j)=some v
mutual
inductive bI (g:G):D→Value→Prop
 |undef (c:Value):bI g .undef c
 |bool (b:Bool):bI g (.bool b) (.bool b)
 |int (k:IntKind) (n:Int):bI g (.int k n) (.int k n)
 |str (s:ByteArray):bI g (.str s.data.toList) (.string s)
 |agg (ds:List D) (cs:Array Value):bC g ds cs.toList→(∀c∈cs.toList,c.oneCell'=true)→bI g (.agg ds) (.agg cs)
 |dK (ds:List D) (cs:Array Value):bC g ds cs.toList→bI g (.dK ds) (.tuple cs)
 |xw:bI g .xw (.pointer none)
 |ref (l i v off b o:Nat) (L:Loc):g.loc l i=some L→L.Qp v →
   (∀bO bo sz,L=.at bO bo v sz→b=bO∧o=bo+off)→L ≠ .pL v→bI g (.ref l i v off) (.pointer (some ⟨b,o,none⟩))
 |bD (ds:List D) (b o:Nat) (vs:List Value):g.row b o vs→bC g ds vs→bI g (.bD ds) (.pointer (some ⟨b,o,none⟩))
 |aG:bI g .aG (.slice none 0 0)
 |xp:bI g (.aI 0 []) (.slice none 0 0)
 |aI (n:Nat) (ds:List D) (a:Addr) (cap:Nat) (vs:List Value):n≤cap→g.row a.block a.off vs→(n≠0→a.spot=none)→bC g ds vs →
   bI g (.aI n ds) (.slice (some a) n cap)
 |sl (l i v off n w:Nat) (a:Option Addr) (cap:Nat) (L:Loc):g.loc l i=some L→L.Qp v→(n≤cap∧cap<9223372036854775808)→(a=none→cap=0)→(∀x,a=some x→n≠0→x.spot=none) →
   (∀bO bo sz,L=.at bO bo v sz→(a=some ⟨bO,bo+off,none⟩∧bo+off+cap*w≤sz)∨cap=0) →
   (L=.pL v→a=none)→bI g (.sl l i v off n w) (.slice a n cap)
 |fn (f:Nat) (fs cs:List D) (fs' cs':Array Value):bC g fs fs'.toList→bC g cs cs'.toList→bI g (.fn f fs cs) (.func (.func f) fs' cs')
 |iX:bI g .iX .nilFunc
 |mH (l i b:Nat):g.loc l i=some (.lp b)→bI g (.mH l i) (.func (.yield b) #[] #[])
 |Qg (l i b:Nat):g.loc l i=some (.mp b)→bI g (.mH l i) (.map (some b))
 |itv (l i b:Nat) (L:Loc):g.loc l i=some L→(L=.it b∨L=.dead)→bI g (.mH l i) (.pointer (some ⟨b,0,none⟩))
 |Q3 (l i b:Nat) (L:Loc):g.loc l i=some L→((∃c,L=.ob b c)∨L=.dead)→bI g (.mH l i) (.pointer (some ⟨b,0,none⟩))
 |uj (t:Nat) (d:D) (c:Value):bI g d c→bI g (.uj t d) (.iface t c)
 |pr:bI g .pr .nilIface
inductive bC (g:G):List D→List Value→Prop
 |nil:bC g [] []
 |cons (d:D) (c:Value) (ds:List D) (cs:List Value):bI g d c→bC g ds cs→bC g (d::ds) (c::cs)
end
def Loc.le:Loc→Loc→Prop
 |.dead,L=>L=.dead
 |.lp b,L=>L=.lp b
 |.mp b,L=>L=.mp b
 |.it b,L=>L=.it b∨L=.dead
 |.ob b _,L=>(∃c,L=.ob b c)∨L=.dead
 |.pL v,L=>L=.pL v∨L=.dead∨(∃b o v' s,L=.at b o v' s∧v<v')∨∃v',L=.pL v'∧v<v'
 |.at b o v s,L=>L=.at b o v s∨L=.dead∨∃b' o' v' s',L=.at b' o' v' s'∧v<v'
theorem Loc.le_refl(L:Loc):L.le L:=by cases L<;>simp[Loc.le]
theorem Loc.le_trans{a b c:Loc}(h:a.le b)(h':b.le c):a.le c:=by
 cases a with
 |dead=>simp only[Loc.le]at h;subst h;exact h'
 |lp x=>simp only[Loc.le]at h;subst h;exact h'
 |mp x=>simp only[Loc.le]at h;subst h;exact h'
 |it x =>
  simp only[Loc.le]at h;rcases h with rfl | rfl
  ·exact h'
  ·simp only[Loc.le]at h' ⊢;exact .inr h'
 |ob x y =>
  simp only[Loc.le]at h;rcases h with⟨c,rfl⟩ | rfl
  ·exact h'
  ·simp only[Loc.le]at h' ⊢;exact .inr h'
 |pL v =>
  simp only[Loc.le]at h;rcases h with rfl | rfl | ⟨b1,o,v',s,rfl,hv⟩ | ⟨v',rfl,hv⟩
  ·exact h'
  ·simp only[Loc.le]at h' ⊢;exact .inr (.inl h')
  ·simp only[Loc.le]at h' ⊢;rcases h' with rfl | rfl | ⟨b2,o2,v2,s2,rfl,hv2⟩
   ·exact .inr (.inr (.inl ⟨_,_,_,_,rfl,hv⟩))
   ·exact .inr (.inl rfl)
   ·exact .inr (.inr (.inl ⟨_,_,_,_,rfl,by omega⟩))
  ·simp only[Loc.le]at h' ⊢;rcases h' with rfl | rfl | ⟨b2,o2,v2,s2,rfl,hv2⟩ | ⟨v2,rfl,hv2⟩
   ·exact .inr (.inr (.inr ⟨_,rfl,hv⟩))
   ·exact .inr (.inl rfl)
   ·exact .inr (.inr (.inl ⟨_,_,_,_,rfl,by omega⟩))
   ·exact .inr (.inr (.inr ⟨_,rfl,by omega⟩))
 |«at» b1 o v s =>
  simp only[Loc.le]at h;rcases h with rfl | rfl | ⟨b2,o2,v2,s2,rfl,hv⟩
  ·exact h'
  ·simp only[Loc.le]at h' ⊢;exact .inr (.inl h')
  ·simp only[Loc.le]at h' ⊢;rcases h' with rfl | rfl | ⟨b3,o3,v3,s3,rfl,hv3⟩
   ·exact .inr (.inr ⟨_,_,_,_,rfl,hv⟩)
   ·exact .inr (.inl rfl)
   ·exact .inr (.inr ⟨_,_,_,_,rfl,by omega⟩)
theorem Loc.xx{L L':Loc}{v:Nat}(h:L.Qp v)(h':L.le L'):L'.Qp v:=by
 cases L with
 |dead=>simp only[Loc.le]at h';subst h';trivial
 |lp b=>exact h.elim
 |mp b=>exact h.elim
 |it b=>exact h.elim
 |ob b c=>exact h.elim
 |pL v' =>
  simp only[Loc.le]at h';simp only[Loc.Qp]at h;rcases h' with rfl | rfl | ⟨b,o,v',s,rfl,hv⟩ | ⟨v',rfl,hv⟩<;>simp only[Loc.Qp]<;>omega
 |«at» b o v' s =>
  simp only[Loc.le]at h';simp only[Loc.Qp]at h;rcases h' with rfl | rfl | ⟨b',o',v'',s',rfl,hv⟩<;>simp only[Loc.Qp]<;>omega
structure G.le(g g':G):Prop where
 loc:∀l i L,g.loc l i=some L→∃L',g'.loc l i=some L'∧L.le L'
 re:∀b o v,g.re b o=some v→g'.re b o=some v
theorem G.le_refl(g:G):g.le g:=⟨fun _ _ L h=>⟨L,h,L.le_refl⟩,fun _ _ _ h=>h⟩
theorem G.le_trans{a b c:G}(h:a.le b)(h':b.le c):a.le c :=
 ⟨fun l i L e=>let ⟨L1,e1,h1⟩:=h.loc l i L e;let ⟨L2,e2,h2⟩:=h'.loc l i L1 e1;⟨L2,e2,Loc.le_trans h1 h2⟩,
  fun x o v e=>h'.re x o v (h.re x o v e)⟩
theorem G.E9{g g':G}(h:g.le g'){b o:Nat}{vs:List Value}(hr:g.row b o vs):g'.row b o vs:=fun j v e=>h.re _ _ _ (hr j v e)
theorem Loc.back{L L':Loc}{v:Nat}(h:L.Qp v)(h':L.le L'){b o s:Nat}(e:L'=.at b o v s):L=.at b o v s:=by
 subst e;cases L with
 |dead=>simp[Loc.le]at h'
 |lp b=>simp[Loc.le]at h'
 |mp b=>simp[Loc.le]at h'
 |it b=>simp[Loc.le]at h'
 |ob b c=>simp[Loc.le]at h'
 |pL v' =>
  simp only[Loc.le]at h';simp only[Loc.Qp]at h;rcases h' with h' | h' | ⟨b,o,v',s,h',hv⟩ | ⟨v',h',hv⟩<;>simp_all
  omega
 |«at» b o v' s =>
  simp only[Loc.le]at h';simp only[Loc.Qp]at h;rcases h' with h' | h' | ⟨b',o',v'',s',h',hv⟩<;>simp_all
  omega
theorem Loc.BS{L L':Loc}{v:Nat}(h:L.Qp v)(h':L.le L')(e:L'=.pL v):L=.pL v:=by
 subst e;cases L with
 |dead=>simp[Loc.le]at h'
 |lp b=>simp[Loc.le]at h'
 |mp b=>simp[Loc.le]at h'
 |it b=>simp[Loc.le]at h'
 |ob b c=>simp[Loc.le]at h'
 |pL v' =>
  simp only[Loc.le]at h';simp only[Loc.Qp]at h;rcases h' with h' | h' | ⟨b,o,v',s,h',hv⟩ | ⟨v',h',hv⟩<;>simp_all
  omega
 |«at» b o v' s=>simp[Loc.le]at h'
mutual
theorem bI.mono{g g':G}(h:g.le g'):∀{d:D} {c:Value},bI g d c→bI g' d c
 |_,_,.undef c => .undef c
 |_,_,.bool b => .bool b
 |_,_,.int k n => .int k n
 |_,_,.str s => .str s
 |_,_,.agg ds cs hr h1 => .agg ds cs (bC.mono h hr) h1
 |_,_,.dK ds cs hr => .dK ds cs (bC.mono h hr)
 |_,_,.xw => .xw
 |_,_,.ref l i v off b o L e hv hc hn =>
  let ⟨L',e',hl⟩:=h.loc l i L e
  .ref l i v off b o L' e' (Loc.xx hv hl) (fun bO bo sz eq=>hc bO bo sz (Loc.back hv hl eq)) (fun eq=>hn (Loc.BS hv hl eq))
 |_,_,.bD ds b o vs hr hl => .bD ds b o vs (G.E9 h hr) (bC.mono h hl)
 |_,_,.aG => .aG
 |_,_,.xp => .xp
 |_,_,.aI n ds a cap vs hn hr hs hl => .aI n ds a cap vs hn (G.E9 h hr) hs (bC.mono h hl)
 |_,_,.sl l i v off n w a cap L e hv hn ha hs hc hc' =>
  let ⟨L',e',hl⟩:=h.loc l i L e
  .sl l i v off n w a cap L' e' (Loc.xx hv hl) hn ha hs (fun bO bo sz eq=>hc bO bo sz (Loc.back hv hl eq)) (fun eq=>hc' (Loc.BS hv hl eq))
 |_,_,.fn f fs cs fs' cs' h1 h2 => .fn f fs cs fs' cs' (bC.mono h h1) (bC.mono h h2)
 |_,_,.iX => .iX
 |_,_,.mH l i b e =>
  let ⟨L',e',hl⟩:=h.loc l i _ e
  .mH l i b (by rw[e',show L'=.lp b from hl])
 |_,_,.Qg l i b e =>
  let ⟨L',e',hl⟩:=h.loc l i _ e
  .Qg l i b (by rw[e',show L'=.mp b from hl])
 |_,_,.itv l i b L e hc =>
  let ⟨L',e',hl⟩:=h.loc l i L e
  .itv l i b L' e' (by
   rcases hc with rfl | rfl
   ·exact hl
   ·exact .inr hl)
 |_,_,.Q3 l i b L e hc =>
  let ⟨L',e',hl⟩:=h.loc l i L e
  .Q3 l i b L' e' (by
   rcases hc with⟨c,rfl⟩ | rfl
   ·exact hl
   ·exact .inr hl)
 |_,_,.uj t d c h1 => .uj t d c (bI.mono h h1)
 |_,_,.pr => .pr
theorem bC.mono{g g':G}(h:g.le g'):∀{ds:List D} {cs:List Value},bC g ds cs→bC g' ds cs
 |_,_,.nil => .nil
 |_,_,.cons d c ds cs h1 h2 => .cons d c ds cs (bI.mono h h1) (bC.mono h h2)
end
section lists
variable {g:G}
theorem bC.length{ds:List D}{cs:List Value}(h:bC g ds cs):ds.length=cs.length:=by
 induction ds generalizing cs with
 |nil=>cases h;rfl
 |cons d ds ih=>cases h with | cons _ c _ cs h1 h2=>simp[ih h2]
theorem bC.get{ds:List D}{cs:List Value}(h:bC g ds cs){j:Nat}{d:D}(e:ds[j]?=some d):∃c,cs[j]?=some c∧bI g d c:=by
 induction ds generalizing cs j with
 |nil=>simp at e
 |cons d0 ds ih =>
  cases h with
  |cons _ c _ cs h1 h2 =>
   cases j with
   |zero=>simp at e;subst e;exact⟨c,rfl,h1⟩
   |succ j=>exact ih h2 (by simpa using e)
theorem bC.append{a b:List D}{x y:List Value}(h:bC g a x)(h':bC g b y):bC g (a++b) (x++y):=by
 induction a generalizing x with
 |nil=>cases h;exact h'
 |cons d a ih=>cases h with | cons _ c _ cs h1 h2=>exact .cons _ _ _ _ h1 (ih h2)
theorem bC.take{a:List D}{x:List Value}(h:bC g a x)(n:Nat):bC g (a.take n) (x.take n):=by
 induction a generalizing x n with
 |nil=>cases h;simpa using bC.nil
 |cons d a ih =>
  cases h with
  |cons _ c _ cs h1 h2 =>
   cases n with
   |zero=>exact .nil
   |succ n=>exact .cons _ _ _ _ h1 (ih h2 n)
theorem bC.drop{a:List D}{x:List Value}(h:bC g a x)(n:Nat):bC g (a.drop n) (x.drop n):=by
 induction a generalizing x n with
 |nil=>cases h;simpa using bC.nil
 |cons d a ih =>
  cases h with
  |cons _ c _ cs h1 h2 =>
   cases n with
   |zero=>exact .cons _ _ _ _ h1 h2
   |succ n=>exact ih h2 n
theorem bC.arO{ds:List D}{cs:List Value}(hl:ds.length=cs.length)(h:∀(j:Nat) (d:D) (c:Value),ds[j]?=some d→cs[j]?=some c→bI g d c):bC g ds cs:=by
 induction ds generalizing cs with
 |nil=>cases cs with
  |nil=>exact .nil
  |cons c cs=>simp at hl
 |cons d ds ih =>
  cases cs with
  |nil=>simp at hl
  |cons c cs =>
   exact .cons _ _ _ _ (h 0 d c rfl rfl) (ih (by simpa using hl) fun j d' c' e e'=>h (j+1) d' c' (by simpa using e) (by simpa using e'))
theorem bI.cells{d:D}{c:Value}(h:bI g d c){ds:List D}(e:d.cells=some ds):bC g ds c.cells.toList∧∀x∈c.cells.toList,x.oneCell'=true:=by
 have h0:=h;cases h with
 |agg ds' cs hr h1=>simp only[D.cells,ae]at e;subst e;exact⟨hr,h1⟩
 |undef c=>simp[D.cells]at e
 |dK=>simp[D.cells]at e
 |_=>simp only[D.cells,ae]at e;subst e;exact⟨.cons _ _ _ _ h0 .nil,by simp[Value.cells,Value.oneCell']⟩
end lists
def yF(g:G)(e:Env)(tmps:Array Value):Prop:=∀t,bI g (get e t) (tmps.getD t Go.undef)
theorem yF.mono{g g':G}(h:g.le g'){e:Env}{tmps:Array Value}(hr:yF g e tmps):yF g' e tmps:=fun t=>(hr t).mono h
structure fZ where
 rel:cH→Code→Nat→Prop
 Kt:Nat→(Obj→Prop)→Prop
def ay0:Nat→LoopState
 |0 => .ready
 |1 => .busy
 |2 => .done
 |_ => .exhausted
def BG:Option Exit→Option (Option Code)
 |none=>some none
 |some (.exit id)=>some (some (.exit id))
 |some .ret=>some (some .ret)
 |some .normal=>none
 |some (.fY _)=>none
structure zM(CR:fZ)(g:G)(lp:wU)(r:Loop):Prop where
 state:r.state=ay0 lp.state
 xA:BG lp.xA=some r.pending
 env:yF g lp.env r.tmps
 params:r.params.toList=lp.params
 small:∀t∈lp.params,t<r.tmps.size
 both:CR.rel (.ite (.t 0) lp.zW lp.body) (.cond (.tmp 0) r.assign r.body) r.tmps.size
def N7(es:List MapEntry)(clock:Nat):Prop:=es.map (·.born)=List.range es.length∧clock=es.length
def FQ(CR:fZ)(g:G)(w:World):aE→Loc→Prop
 |.cells v cs,.at b off v' sz=>v=v'∧∃(c:Array Value) (el:TypeId),w.heap[b]?=some (.cells c el (0,0))∧c.size=sz∧off+cs.length≤sz ∧
   ∃vs,bC g cs vs∧(∀j x,vs[j]?=some x→c[off+j]?=some x∧x.oneCell'=true)
 |.cells v cs,.pL v'=>v=v'∧cs=[]
 |.dead,.dead=>True
 |.loop lp,.lp b=>∃r,w.heap[b]?=some (.loop r)∧zM CR g lp r
 |.cells v es,.mp b=>v=0∧∃dG clock,w.heap[b]?=some (.map dG clock)∧bC g es (dG.toList.map fun e => .tuple #[e.key,e.val])∧N7 dG.toList clock
 |.cells v cs,.it b=>v=1∧∃l i bm n,∃js:List Nat,cs=.mH l i::.int .i64 (n:Nat)::js.map (fun j:Nat=>D.int .i64 j)∧g.loc l i=some (.mp bm) ∧
   w.heap[b]?=some (.mapIter (some bm) n js.reverse.toArray n)∧js.Nodup∧∀j∈js,j<n
 |.cells v cs,.ob b c=>v=2∧∃(T e:Nat) (bs:List UInt8) (p s:Value),cs=[.int .i64 T,.int .i64 e,.str bs]∧w.heap[b]?=some (.cells #[p,s] T (0,0)) ∧
   (p=.pointer none∨p=.pointer (some ⟨b,0,none⟩))∧w.ownsRowF 0 e 1 s bs.length (bs.map fun x => .int .u8 x.toNat)∧s.ownBlock=c∧c≠some b
 |_,_=>False
structure Inv(CR:fZ)(base:Nat)(g:G)(σ:SK)(w:World):Prop where
 ge:base≤w.heap.size
 wP:∀l i L,g.loc l i=some L→∃b,eo σ l i=some b∧FQ CR g w b L
 re:∀b o v,g.re b o=some v→w.cell? ⟨b,o,none⟩=some v∧v.oneCell'=true
 sep:∀l i L b,g.loc l i=some L→L.owns b→∀o,g.re b o=none
 inj:∀l i L l' i' L' b,g.loc l i=some L→g.loc l' i'=some L'→L.owns b→L'.owns b→l=l'∧i=i'
 lo:∀l i L b,g.loc l i=some L→L.owns b→base≤b∧b<w.heap.size
 Sa:∀l i b,eo σ l i=some b→∃L,g.loc l i=some L
 Kt:∀b Q,CR.Kt b Q→(∃v,g.re b 0=some v)∧∃o,w.heap[b]?=some o∧Q o
def G.has(g:G)(b:Nat):Prop:=∃l i L,g.loc l i=some L∧L.owns b
structure Ev(g:G)(w:World)(g':G)(w':World):Prop where
 le:g.le g'
 os:w'.os=w.os
 tape:w'.tape=w.tape
 output:w'.output=w.output
 size:w.heap.size≤w'.heap.size
 kept:∀b,b<w.heap.size→¬g.has b→w'.heap[b]?=w.heap[b]?
 img:∀b,g'.has b→g.has b∨w.heap.size≤b
 JQ:∀b o v,g'.re b o=some v→g.re b o=some v∨g.has b∨w.heap.size≤b
theorem Ev.refl(g:G)(w:World):Ev g w g w:=⟨g.le_refl,rfl,rfl,rfl,aK _,fun _ _ _=>rfl,fun _ h => .inl h,fun _ _ _ h => .inl h⟩
theorem Ev.trans{g g1 g2:G}{w w1 w2:World}(h:Ev g w g1 w1)(h':Ev g1 w1 g2 w2):Ev g w g2 w2 where
 le:=G.le_trans h.le h'.le
 os:=h'.os.trans h.os
 tape:=h'.tape.trans h.tape
 output:=h'.output.trans h.output
 size:=jP h.size h'.size
 kept b hb hn:=by
  have h1:¬g1.has b:=fun hx=>by
   rcases h.img b hx with hx | hx
   ·exact hn hx
   ·omega
  rw[h'.kept b (Nat.lt_of_lt_of_le hb h.size) h1,h.kept b hb hn]
 img b hb:=by
  rcases h'.img b hb with hx | hx
  ·exact h.img b hx
  ·exact .inr (jP h.size hx)
 JQ b o v hv:=by
  rcases h'.JQ b o v hv with hx | hx | hx
  ·exact h.JQ b o v hx
  ·exact .inr (h.img b hx)
  ·exact .inr (.inr (jP h.size hx))
section stack
theorem Ap{σ:SK}{l:Nat}{s:List aE}(h:fX σ l=some s):l<σ.length:=by
 induction σ with
 |nil=>simp[fX]at h
 |cons s0 σ ih =>
  simp only[fX]at h;split at h
  ·simp;omega
  ·have:=ih h;simp;omega
theorem tz{σ:SK}{l:Nat}{s:List aE}(h:l<σ.length):fX (iN σ l s) l=some s:=by
 induction σ with
 |nil=>simp at h
 |cons s0 σ ih =>
  simp only[iN];split
  ·rename_i e;simp[fX,e]
  ·rename_i e;simp only[fX];rw[gC];rw[if_neg e];exact ih (by simp at h;omega)
where
 gC {σ:SK} {l:Nat} {s:List aE}:(iN σ l s).length=σ.length:=by
  induction σ with
  |nil=>rfl
  |cons s0 σ ih=>simp only[iN];split<;>simp[ih]
theorem gC{σ:SK}{l:Nat}{s:List aE}:(iN σ l s).length=σ.length:=tz.gC
theorem Eh{σ:SK}{l l':Nat}{s:List aE}(h:l'≠l):fX (iN σ l s) l'=fX σ l':=by
 induction σ with
 |nil=>rfl
 |cons s0 σ ih =>
  simp only[iN];split
  ·rename_i e;simp only[fX];rw[if_neg (by omega),if_neg (by omega)]
  ·simp only[fX,gC];split
   ·rfl
   ·exact ih
theorem dB{σ:SK}{l i:Nat}{b:aE}:(aV σ l i b).length=σ.length:=by
 unfold aV;split
 ·exact gC
 ·rfl
theorem oJ{σ:SK}{l i:Nat}{b b0:aE}(h:eo σ l i=some b0):eo (aV σ l i b) l i=some b:=by
 unfold eo at h;cases hs:fX σ l with
 |none=>simp[hs]at h
 |some s =>
  simp only[hs,Option.bind_some]at h;have hi:i<s.length:=(au.1 h).1;simp only[aV,hs,eo,tz (Ap hs),Option.bind_some];simp[hi]
theorem eW{σ:SK}{l i l' i':Nat}{b:aE}(h:¬(l'=l∧i'=i)):eo (aV σ l i b) l' i'=eo σ l' i':=by
 unfold aV;cases hs:fX σ l with
 |none=>rfl
 |some s =>
  simp only[eo];by_cases hl:l'=l
  ·subst hl;rw[tz (Ap hs),hs];simp only[Option.bind_some];rw[List.getElem?_set_ne];intro e;exact h ⟨rfl,e.symm⟩
  ·rw[Eh hl]
theorem kg{σ σ':SK}{b:aE}{l i:Nat}(h:ie σ b=some (l,i,σ')):
  eo σ l i=none∧eo σ' l i=some b∧(∀l' i',¬(l'=l∧i'=i)→eo σ' l' i'=eo σ l' i')∧σ'.length=σ.length∧l+1=σ.length:=by
 cases σ with
 |nil=>simp[ie]at h
 |cons s σ =>
  simp only[ie,ae,ak]at h;obtain⟨rfl,rfl,rfl⟩:=h;refine⟨by simp[eo,fX],by simp[eo,fX],?_,rfl,rfl⟩;intro l' i' hn;simp only[eo,fX];split
  ·rename_i e;simp only[Option.bind_some];rw[List.getElem?_append];split
   ·rfl
   ·rename_i hlt;have:i'≠s.length:=fun e'=>hn ⟨e.symm,e'⟩
    rw[eR (by simp;omega),eR (by omega)]
  ·rfl
end stack
theorem FQ.mono{CR:fZ}{g g':G}{w w':World}{b:aE}{L:Loc}(h:FQ CR g w b L)(hg:g.le g')
  (hw:∀x,L.owns x→w'.heap[x]?=w.heap[x]?):FQ CR g' w' b L:=by
 cases b with
 |cells v cs =>
  cases L with
  |«at» x off v' sz =>
   obtain⟨rfl,c,el,hb,hsz,hlen,vs,hr,hv⟩:=h;exact⟨rfl,c,el,(hw x rfl).trans hb,hsz,hlen,vs,hr.mono hg,hv⟩
  |pL v'=>exact h
  |dead=>exact h
  |lp x=>exact h
  |mp x =>
   obtain⟨hv,dG,clock,hb,hr,hm⟩:=h;exact⟨hv,dG,clock,(hw x rfl).trans hb,hr.mono hg,hm⟩
  |it x =>
   obtain⟨hv,l,i,bm,n,js,h1,h2,h3,h4⟩:=h;obtain⟨L',e',hl⟩:=hg.loc l i _ h2;exact⟨hv,l,i,bm,n,js,h1,by rw[e',show L'=.mp bm from hl],(hw x rfl).trans h3,h4⟩
  |ob x y =>
   obtain⟨hv,T,e,bs,p,s,h1,h2,h3,h4,h5,h6⟩:=h;refine⟨hv,T,e,bs,p,s,h1,(hw x (.inl rfl)).trans h2,h3,⟨h4.1,h4.2.imp id fun⟨q,cap,cur,fz,k1,k2,k3,k4⟩=>⟨q,cap,cur,fz,k1,k2,(hw q (.inr ?_)).trans k3,k4⟩⟩,h5,h6⟩;rw[← h5,k1];rfl
 |dead=>cases L<;>exact h
 |loop lp =>
  cases L with
  |lp x =>
   obtain⟨r,hb,hr⟩:=h;exact⟨r,(hw x rfl).trans hb,{hr with env:=hr.env.mono hg }⟩
  |«at» x off v' sz=>exact h
  |pL v'=>exact h
  |dead=>exact h
  |mp x=>exact h
  |it x=>exact h
  |ob x y=>exact h
theorem Inv.Em{CR:fZ}{base:Nat}{g g':G}{σ σ':SK}{w w':World}(hi:Inv CR base g σ w)(l i:Nat)
  (hle:g.le g')
  (hσ:∀l' i',¬(l'=l∧i'=i)→eo σ' l' i'=eo σ l' i')
  (hloc:∀l' i',¬(l'=l∧i'=i)→g'.loc l' i'=g.loc l' i')
  (hw:∀l' i' L b,¬(l'=l∧i'=i)→g.loc l' i'=some L→L.owns b→w'.heap[b]?=w.heap[b]?)
  (hnew:∀L,g'.loc l i=some L→∃b,eo σ' l i=some b∧FQ CR g' w' b L)
  (himm:∀b o v,g'.re b o=some v→w'.cell? ⟨b,o,none⟩=some v∧v.oneCell'=true)
  (hsep:∀l' i' L b,g'.loc l' i'=some L→L.owns b→∀o,g'.re b o=none)
  (hinj:∀L b,g'.loc l i=some L→L.owns b→base≤b∧b<w'.heap.size∧∀l' i' L',¬(l'=l∧i'=i)→g.loc l' i'=some L'→¬L'.owns b)
  (hsize:w.heap.size≤w'.heap.size) (htot:∃L,g'.loc l i=some L) (hlow:∀b v,g.re b 0=some v→w'.heap[b]?=w.heap[b]?):Inv CR base g' σ' w' where
 Kt b Q h:=let ⟨⟨v,hb⟩,o,ho,hq⟩:=hi.Kt b Q h;⟨⟨v,hle.re _ _ _ hb⟩,o,(hlow b v hb).trans ho,hq⟩
 Sa l' i' b e:=by
  by_cases h:l'=l∧i'=i
  ·obtain⟨rfl,rfl⟩:=h;exact htot
  ·rw[hσ l' i' h]at e;rw[hloc l' i' h];exact hi.Sa l' i' b e
 ge:=jP hi.ge hsize
 wP l' i' L e:=by
  by_cases h:l'=l∧i'=i
  ·obtain⟨rfl,rfl⟩:=h;exact hnew L e
  ·rw[hloc l' i' h]at e;obtain⟨b,hb,hr⟩:=hi.wP l' i' L e;exact⟨b,(hσ l' i' h).trans hb,hr.mono hle fun x hx=>hw l' i' L x h e hx⟩
 re:=himm
 sep:=hsep
 inj l1 i1 L1 l2 i2 L2 b h1 h2 e1 e2:=by
  by_cases c1:l1=l∧i1=i
  ·obtain⟨rfl,rfl⟩:=c1;by_cases c2:l2=l1∧i2=i1
   ·exact⟨c2.1.symm,c2.2.symm⟩
   ·rw[hloc l2 i2 c2]at h2;exact absurd e2 ((hinj L1 b h1 e1).2.2 l2 i2 L2 c2 h2)
  ·rw[hloc l1 i1 c1]at h1;by_cases c2:l2=l∧i2=i
   ·obtain⟨rfl,rfl⟩:=c2;exact absurd e1 ((hinj L2 b h2 e2).2.2 l1 i1 L1 c1 h1)
   ·rw[hloc l2 i2 c2]at h2;exact hi.inj _ _ _ _ _ _ b h1 h2 e1 e2
 lo l' i' L b e eb:=by
  by_cases h:l'=l∧i'=i
  ·obtain⟨rfl,rfl⟩:=h;exact⟨(hinj L b e eb).1,(hinj L b e eb).2.1⟩
  ·rw[hloc l' i' h]at e;have:=hi.lo l' i' L b e eb;exact⟨this.1,by omega⟩
theorem iZ{w w':World}{b o:Nat}(h:w'.heap[b]?=w.heap[b]?):w'.cell? ⟨b,o,none⟩=w.cell? ⟨b,o,none⟩:=by
 simp only[World.cell?,h]
theorem Inv.heap{CR:fZ}{base:Nat}{g:G}{σ:SK}{w w1:World}(hi:Inv CR base g σ w)(h:w1.heap=w.heap):Inv CR base g σ w1 where
 ge:=by rw[h];exact hi.ge
 wP l i L e:=let ⟨b,hb,hr⟩:=hi.wP l i L e;⟨b,hb,hr.mono g.le_refl fun x _=>by rw[h]⟩
 re b o v e:=let ⟨h1,h2⟩:=hi.re b o v e;⟨(iZ (by rw[h])).trans h1,h2⟩
 sep:=hi.sep
 inj:=hi.inj
 Sa:=hi.Sa
 Kt:=by rw[h];exact hi.Kt
 lo l i L b e eb:=by rw[h];exact hi.lo l i L b e eb
theorem Ev.heap(g:G){w w1:World}(h:w1.heap=w.heap)(ho:w1.os=w.os)(ht:w1.tape=w.tape)(hp:w1.output=w.output):Ev g w g w1 :=
 ⟨g.le_refl,ho,ht,hp,by rw[h];exact aK _,fun b _ _=>by rw[h],fun b hb => .inl hb,fun b o v hv => .inl hv⟩
theorem Inv.jK{CR:fZ}{base:Nat}{g:G}{σ:SK}{w:World}(hi:Inv CR base g σ w){b o:Nat}{v:Value}(h:g.re b o=some v):b<w.heap.size :=
 World.block_lt_of_cell? (a:=⟨b,o,none⟩) w (hi.re b o v h).1
theorem Inv.adZ{CR:fZ}{base:Nat}{g:G}{σ:SK}{w:World}(hi:Inv CR base g σ w){b:Nat}(h:g.has b):b<w.heap.size :=
 let ⟨l,i,L,e,eb⟩:=h;(hi.lo l i L b e eb).2
def G.oP(g:G)(x:Nat)(vs:List Value):G:=⟨g.loc,fun b o=>if b=x then vs[o]? else g.re b o⟩
theorem alloc_old{w:World}{o:Obj}{b:Nat}(h:b<w.heap.size):(w.alloc o).heap[b]?=w.heap[b]?:=by
 simp only[World.alloc,Array.getElem?_push];rw[if_neg (by omega)]
theorem tn{w:World}{o:Obj}:(w.alloc o).heap[w.heap.size]?=some o:=by
 simp only[World.alloc,Array.getElem?_push_size]
theorem Inv.E6{CR:fZ}{base:Nat}{g:G}{σ:SK}{w:World}(hi:Inv CR base g σ w)(vs:List Value)(cs:Array Value)(el:TypeId)
  (hcs:∀(j:Nat) x,vs[j]?=some x→cs[j]?=some x∧x.oneCell'=true):
  Inv CR base (g.oP w.heap.size vs) σ (w.alloc (.cells cs el))∧Ev g w (g.oP w.heap.size vs) (w.alloc (.cells cs el))∧(g.oP w.heap.size vs).row w.heap.size 0 vs:=by
 have hle:g.le (g.oP w.heap.size vs):=⟨fun l i L e=>⟨L,e,L.le_refl⟩,fun b o v e=>by
  have:=hi.jK e;simp only[G.oP];rw[if_neg (by omega)];exact e⟩
 refine⟨⟨?_,?_,?_,?_,hi.inj,?_,hi.Sa,fun b Q h=>let ⟨⟨v,hb⟩,o,ho,hq⟩:=hi.Kt b Q h;⟨⟨v,hle.re _ _ _ hb⟩,o,(alloc_old (hi.jK hb)).trans ho,hq⟩⟩,⟨hle,rfl,rfl,rfl,by simp,fun b hb _=>alloc_old hb,fun b hb => .inl hb,?_⟩,?_⟩
 ·have:=hi.ge;simp;omega
 ·intro l i L e;obtain⟨b,hb,hr⟩:=hi.wP l i L e;exact⟨b,hb,hr.mono hle fun x hx=>alloc_old (hi.lo l i L x e hx).2⟩
 ·intro b o v e;simp only[G.oP]at e;split at e
  ·rename_i hb;subst hb;obtain⟨h1,h2⟩:=hcs o v e;exact⟨by rw[World.cell?_alloc_new];exact h1,h2⟩
  ·obtain⟨h1,h2⟩:=hi.re b o v e;exact⟨(iZ (alloc_old (hi.jK e))).trans h1,h2⟩
 ·intro l i L b e eb o;have:=(hi.lo l i L b e eb).2;simp only[G.oP];rw[if_neg (by omega)];exact hi.sep l i L b e eb o
 ·intro l i L b e eb;have:=hi.lo l i L b e eb;exact⟨this.1,by simp;omega⟩
 ·intro b o v hv;simp only[G.oP]at hv;split at hv
  ·rename_i hb;exact .inr (.inr (by omega))
  ·exact .inl hv
 ·intro j v hv;simp[G.oP,hv]
def G.cG(g:G)(l i:Nat)(L:Loc):G:=⟨fun l' i'=>if l'=l∧i'=i then some L else g.loc l' i',g.re⟩
theorem G.aH{g:G}{l i:Nat}{L:Loc}:(g.cG l i L).loc l i=some L:=by simp[G.cG]
theorem G.bB{g:G}{l i l' i':Nat}{L:Loc}(h:¬(l'=l∧i'=i)):(g.cG l i L).loc l' i'=g.loc l' i':=by simp only[G.cG];rw[if_neg h]
theorem G.kJ{g:G}{l i:Nat}{L:Loc}(h:∀L0,g.loc l i=some L0→L0.le L):g.le (g.cG l i L) :=
 ⟨fun l' i' L' e=>by
  by_cases c:l'=l∧i'=i
  ·obtain⟨rfl,rfl⟩:=c;exact⟨L,G.aH,h L' e⟩
  ·exact⟨L',by rw[G.bB c];exact e,L'.le_refl⟩,fun _ _ _ e=>e⟩
theorem Inv.B6{CR:fZ}{base:Nat}{g:G}{σ:SK}{w:World}(hi:Inv CR base g σ w){l i:Nat}(h:eo σ l i=none):g.loc l i=none:=by
 cases e:g.loc l i with
 |none=>rfl
 |some L=>obtain⟨b,hb,_⟩:=hi.wP l i L e;rw[h]at hb;cases hb
theorem Inv.zw{CR:fZ}{base:Nat}{g:G}{σ σ':SK}{w:World}(hi:Inv CR base g σ w){l i:Nat}{ds:List D}(hn:ie σ (.cells 0 ds)=some (l,i,σ'))
  (vs:List Value) (cs:Array Value) (el:TypeId) (hr:bC g ds vs) (hlen:vs.length≤cs.size)
  (hcs:∀(j:Nat) x,vs[j]?=some x→cs[j]?=some x∧x.oneCell'=true):
  Inv CR base (g.cG l i (.at w.heap.size 0 0 cs.size)) σ' (w.alloc (.cells cs el))∧Ev g w (g.cG l i (.at w.heap.size 0 0 cs.size)) (w.alloc (.cells cs el)):=by
 obtain⟨h1,h2,h3,_,_⟩:=kg hn;have hnone:=hi.B6 h1;have hle:g.le (g.cG l i (.at w.heap.size 0 0 cs.size)):=G.kJ fun L0 e=>by rw[hnone]at e;cases e
 refine⟨hi.Em l i hle h3 (fun l' i' c=>G.bB c) (fun l' i' L b c e eb=>alloc_old (hi.lo l' i' L b e eb).2) ?_ ?_ ?_ ?_ (by simp) ⟨_,G.aH⟩ (fun b v hb=>alloc_old (hi.jK hb)),⟨hle,rfl,rfl,rfl,by simp,fun b hb _=>alloc_old hb,?_,fun b o v hv => .inl hv⟩⟩
 ·intro L e;rw[G.aH]at e;cases e;exact⟨_,h2,rfl,cs,el,tn,rfl,by rw[hr.length];omega,vs,hr.mono hle,fun j x hx=>by simpa using hcs j x hx⟩
 ·intro b o v e;obtain⟨h1,h2⟩:=hi.re b o v e;exact⟨(iZ (alloc_old (hi.jK e))).trans h1,h2⟩
 ·intro l' i' L b e eb o;by_cases c:l'=l∧i'=i
  ·obtain⟨rfl,rfl⟩:=c;rw[G.aH]at e;cases e;cases eb;cases e':(g.cG l' i' (.at w.heap.size 0 0 cs.size)).re w.heap.size o with
   |none=>rfl
   |some v=>have:=hi.jK (b:=w.heap.size) (o:=o) (v:=v) e';omega
  ·rw[G.bB c]at e;exact hi.sep l' i' L b e eb o
 ·intro L b e eb;rw[G.aH]at e;cases e;cases eb;refine⟨hi.ge,by simp,fun l' i' L' c e' eb'=>?_⟩;have:=(hi.lo l' i' L' _ e' eb').2;omega
 ·intro b hb;obtain⟨l',i',L,e,eb⟩:=hb;by_cases c:l'=l∧i'=i
  ·obtain⟨rfl,rfl⟩:=c;rw[G.aH]at e;cases e;cases eb;exact .inr (aK _)
  ·rw[G.bB c]at e;exact .inl ⟨l',i',L,e,eb⟩
theorem Inv.Qj{CR:fZ}{base:Nat}{g:G}{σ σ':SK}{w:World}(hi:Inv CR base g σ w){l i:Nat}(hn:ie σ (.cells 0 [])=some (l,i,σ')):
  Inv CR base (g.cG l i (.pL 0)) σ' w∧Ev g w (g.cG l i (.pL 0)) w:=by
 obtain⟨h1,h2,h3,_,_⟩:=kg hn;have hnone:=hi.B6 h1;have hle:g.le (g.cG l i (.pL 0)):=G.kJ fun L0 e=>by rw[hnone]at e;cases e
 refine⟨hi.Em l i hle h3 (fun l' i' c=>G.bB c) (fun _ _ _ _ _ _ _=>rfl) ?_ hi.re ?_ ?_ (aK _) ⟨_,G.aH⟩ (fun _ _ _=>rfl),⟨hle,rfl,rfl,rfl,aK _,fun _ _ _=>rfl,?_,fun b o v hv => .inl hv⟩⟩
 ·intro L e;rw[G.aH]at e;cases e;exact⟨_,h2,rfl,rfl⟩
 ·intro l' i' L b e eb o;by_cases c:l'=l∧i'=i
  ·obtain⟨rfl,rfl⟩:=c;rw[G.aH]at e;cases e;cases eb
  ·rw[G.bB c]at e;exact hi.sep l' i' L b e eb o
 ·intro L b e eb;rw[G.aH]at e;cases e;cases eb
 ·intro b hb;obtain⟨l',i',L,e,eb⟩:=hb;by_cases c:l'=l∧i'=i
  ·obtain⟨rfl,rfl⟩:=c;rw[G.aH]at e;cases e;cases eb
  ·rw[G.bB c]at e;exact .inl ⟨l',i',L,e,eb⟩
theorem Inv.setCells{CR:fZ}{base:Nat}{g:G}{σ:SK}{w w':World}(hi:Inv CR base g σ w){l i:Nat}{L0 L:Loc}{b0:aE}{v:Nat}{ds:List D}
  (h0:g.loc l i=some L0) (hb0:eo σ l i=some b0) (hL:L0.le L)
  (hrel:FQ CR (g.cG l i L) w' (.cells v ds) L)
  (hkept:∀b,b<w.heap.size→¬L0.owns b→w'.heap[b]?=w.heap[b]?)
  (hos:w'.os=w.os) (htape:w'.tape=w.tape) (hout:w'.output=w.output)
  (hsize:w.heap.size≤w'.heap.size)
  (hblk:∀b,L.owns b→(L0.owns b∨(w.heap.size≤b∧b<w'.heap.size))):
  Inv CR base (g.cG l i L) (aV σ l i (.cells v ds)) w'∧Ev g w (g.cG l i L) w':=by
 have hle:g.le (g.cG l i L):=G.kJ fun L1 e=>by rw[h0]at e;cases e;exact hL
 refine⟨hi.Em l i hle (fun l' i' c=>eW c) (fun l' i' c=>G.bB c) ?_ ?_ ?_ ?_ ?_ hsize ⟨_,G.aH⟩ (fun b v hb=>hkept b (World.block_lt_of_cell? (a:=⟨b,0,none⟩) w (hi.re b 0 v hb).1) fun eb0=>by have h:=hi.sep l i L0 b h0 eb0 0;rw[hb]at h;cases h),⟨hle,hos,htape,hout,hsize,?_,?_,fun b o v hv => .inl hv⟩⟩
 ·intro l' i' L' b c e eb;refine hkept b (hi.lo l' i' L' b e eb).2 fun eb0=>c ?_
  have:=hi.inj l' i' L' l i L0 b e h0 eb eb0;exact this
 ·intro L1 e;rw[G.aH]at e;cases e;exact⟨_,oJ hb0,hrel⟩
 ·intro b o x e;obtain⟨h1,h2⟩:=hi.re b o x e;refine⟨(iZ (hkept b (hi.jK e) fun eb0=>?_)).trans h1,h2⟩;have:=hi.sep l i L0 b h0 eb0 o;rw[show g.re b o=some x from e]at this;cases this
 ·intro l' i' L' b e eb o;by_cases c:l'=l∧i'=i
  ·obtain⟨rfl,rfl⟩:=c;rw[G.aH]at e;cases e;rcases hblk b eb with h | ⟨h,_⟩
   ·exact hi.sep _ _ L0 b h0 h o
   ·cases e':(g.cG l' i' L).re b o with
    |none=>rfl
    |some v=>have:=hi.jK (b:=b) (o:=o) (v:=v) e';omega
  ·rw[G.bB c]at e;exact hi.sep l' i' L' b e eb o
 ·intro L1 b e eb;rw[G.aH]at e;cases e;rcases hblk b eb with h | ⟨h,h'⟩
  ·have:=hi.lo l i L0 b h0 h;refine⟨this.1,by omega,fun l' i' L' c e' eb'=>c ?_⟩;exact hi.inj l' i' L' l i L0 b e' h0 eb' h
  ·exact⟨jP hi.ge h,h',fun l' i' L' c e' eb'=>by have:=(hi.lo l' i' L' b e' eb').2;omega⟩
 ·intro b hb hn;exact hkept b hb fun e=>hn ⟨l,i,L0,h0,e⟩
 ·intro b hb;obtain⟨l',i',L',e,eb⟩:=hb;by_cases c:l'=l∧i'=i
  ·obtain⟨rfl,rfl⟩:=c;rw[G.aH]at e;cases e;rcases hblk b eb with h | ⟨h,_⟩
   ·exact .inl ⟨_,_,L0,h0,h⟩
   ·exact .inr h
  ·rw[G.bB c]at e;exact .inl ⟨l',i',L',e,eb⟩
theorem EV{l n:Nat}:∀{ds:List D} {σ:SK},D.bg ds=true→cr.frzL (cr l (n+1)) ds σ=(ds,σ)
 |[],σ,h=>rfl
 |d::ds,σ,h=>by
  simp only[D.bg,af]at h;have h1:cr l (n+1) d σ=(d,σ):=by cases d<;>simp[cr,h.1]
  simp only[cr.frzL,h1,EV h.2]
theorem Qy{e:Env}{σ:SK}{os:List Nat}{sz:Nat}{X Y:bK}{r:D×SK}(h:bL e σ (.R5 os sz X Y)=some r):bL e σ (.st [] sz X Y)=some r:=by
 simp only[bL]at h ⊢;cases hx:bj e X<;>rw[hx]at h<;>try (cases h;done)
 dsimp only at h ⊢;split at h
 case isFalse=>cases h
 split at h
 case h_2=>cases h
 rename_i cs hcs;split at h
 case h_2=>cases h
 rename_i p hp;split at h
 case isFalse=>cases h
 rename_i hc
 try simp only[hcs]
 try simp only[hp]
 try dsimp only
 rw[if_pos ⟨hc.1,hc.2.1⟩];split
 ·simpa[lf]using h
 ·rename_i hn;rw[show deep=15+1 from rfl,EV (hc.2.2.resolve_right hn)];exact h
end Go.Abs
