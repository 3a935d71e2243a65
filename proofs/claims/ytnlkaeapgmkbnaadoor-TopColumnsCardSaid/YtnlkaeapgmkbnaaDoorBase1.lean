import Derived.Test.YtnlkaeapgmkbnaaDoorBase0
import Derived.AtR
import Derived.Laws.Cells
import Derived.Laws.World
import Derived.Lib.FrozenHead
set_option linter.all false
namespace Go.Abs
open Go
inductive Loc where
 |dead
 |fI (v:Nat)
 |at(aR off v sz:Nat)
 |lp (aR:Nat)
 |mp (aR:Nat)
 |it (aR:Nat)
 |ob (aR:Nat) (buf:Option Nat)
def Loc.vx:Loc→Nat→Prop
 |.dead,_=>True
 |.fI v',v=>v≤v'
 |.at _ _ v' _,v=>v≤v'
 |.lp _,_=>False
 |.mp _,_=>False
 |.it _,_=>False
 |.ob ..,_=>False
def Loc.owns:Loc→Nat→Prop
 |.at b _ _ _,x=>b=x
 |.lp b,x=>b=x
 |.mp b,x=>b=x
 |.it b,x=>b=x
 |.ob b c,x=>b=x∨c=some x
 |_,_=>False
structure G where
 loc:Nat→Nat→Option Loc
 fp:Nat→Nat→Option Value
def G.row(g:G)(b o:Nat)(vs:List Value):Prop:=∀j v,vs[j]?=some v→g.fp b (o+j)=some v
mutual
inductive aI (g:G):D→Value→Prop
 |undef (c:Value):aI g .undef c
 |bool (b:Bool):aI g (.bool b) (.bool b)
 |int (k:IntKind) (n:Int):aI g (.int k n) (.int k n)
 |str (s:ByteArray):aI g (.str s.data.toList) (.string s)
 |agg (ds:List D) (cs:Array Value):aH g ds cs.toList→(∀c∈cs.toList,c.oneCell'=true)→aI g (.agg ds) (.agg cs)
 |er (ds:List D) (cs:Array Value):aH g ds cs.toList→aI g (.er ds) (.tuple cs)
 |j3:aI g .j3 (.pointer none)
 |ref (l i v off b o:Nat) (L:Loc):g.loc l i=some L→L.vx v →
   (∀aR bo sz,L=.at aR bo v sz→b=aR∧o=bo+off)→L ≠ .fI v→aI g (.ref l i v off) (.pointer (some ⟨b,o,none⟩))
 |bE (ds:List D) (b o:Nat) (vs:List Value):g.row b o vs→aH g ds vs→aI g (.bE ds) (.pointer (some ⟨b,o,none⟩))
 |cH:aI g .cH (.slice none 0 0)
 |kE:aI g (.ch 0 []) (.slice none 0 0)
 |ch (n:Nat) (ds:List D) (a:Addr) (cap:Nat) (vs:List Value):n≤cap→g.row a.block a.off vs→(n≠0→a.spot=none)→aH g ds vs →
   aI g (.ch n ds) (.slice (some a) n cap)
 |sl (l i v off n w:Nat) (a:Option Addr) (cap:Nat) (L:Loc):g.loc l i=some L→L.vx v→(n≤cap∧cap<9223372036854775808)→(a=none→cap=0)→(∀x,a=some x→n≠0→x.spot=none) →
   (∀aR bo sz,L=.at aR bo v sz→(a=some ⟨aR,bo+off,none⟩∧bo+off+cap*w≤sz)∨cap=0) →
   (L=.fI v→a=none)→aI g (.sl l i v off n w) (.slice a n cap)
 |fn (f:Nat) (fs cs:List D) (fs' cs':Array Value):aH g fs fs'.toList→aH g cs cs'.toList→aI g (.fn f fs cs) (.func (.func f) fs' cs')
 |lL:aI g .lL .nilFunc
 |fJ (l i b:Nat):g.loc l i=some (.lp b)→aI g (.fJ l i) (.func (.yield b) #[] #[])
 |wc (l i b:Nat):g.loc l i=some (.mp b)→aI g (.fJ l i) (.map (some b))
 |zh (l i b:Nat) (L:Loc):g.loc l i=some L→(L=.it b∨L=.dead)→aI g (.fJ l i) (.pointer (some ⟨b,0,none⟩))
 |wE (l i b:Nat) (L:Loc):g.loc l i=some L→((∃c,L=.ob b c)∨L=.dead)→aI g (.fJ l i) (.pointer (some ⟨b,0,none⟩))
 |nu (t:Nat) (d:D) (c:Value):aI g d c→aI g (.nu t d) (.iface t c)
 |ia:aI g .ia .nilIface
inductive aH (g:G):List D→List Value→Prop
 |nil:aH g [] []
 |cons (d:D) (c:Value) (ds:List D) (cs:List Value):aI g d c→aH g ds cs→aH g (d::ds) (c::cs)
end
def Loc.le:Loc→Loc→Prop
 |.dead,L=>L=.dead
 |.lp b,L=>L=.lp b
 |.mp b,L=>L=.mp b
 |.it b,L=>L=.it b∨L=.dead
 |.ob b _,L=>(∃c,L=.ob b c)∨L=.dead
 |.fI v,L=>L=.fI v∨L=.dead∨(∃b o v' s,L=.at b o v' s∧v<v')∨∃v',L=.fI v'∧v<v'
 |.at b o v s,L=>L=.at b o v s∨L=.dead∨∃b' o' v' s',L=.at b' o' v' s'∧v<v'
theorem Loc.le_refl(L:Loc):L.le L:=by cases L<;>simp[Loc.le]
theorem Loc.le_trans{a b c:Loc}(h:a.le b)(h':b.le c):a.le c:=by
 cases a with
 |dead=>simp only[Loc.le]at h;subst h;exact h'
 |lp x=>simp only[Loc.le]at h;subst h;exact h'
 |mp x=>simp only[Loc.le]at h;subst h;exact h'
 |it x =>
  simp only[Loc.le]at h;rcases h with rfl | rfl
  ·exact h'
  ·simp only[Loc.le]at h' ⊢;exact .inr h'
 |ob x y =>
  simp only[Loc.le]at h;rcases h with⟨c,rfl⟩ | rfl
  ·exact h'
  ·simp only[Loc.le]at h' ⊢;exact .inr h'
 |fI v =>
  simp only[Loc.le]at h;rcases h with rfl | rfl | ⟨b1,o,v',s,rfl,hv⟩ | ⟨v',rfl,hv⟩
  ·exact h'
  ·simp only[Loc.le]at h' ⊢;exact .inr (.inl h')
  ·simp only[Loc.le]at h' ⊢;rcases h' with rfl | rfl | ⟨b2,o2,v2,s2,rfl,hv2⟩
   ·exact .inr (.inr (.inl ⟨_,_,_,_,rfl,hv⟩))
   ·exact .inr (.inl rfl)
   ·exact .inr (.inr (.inl ⟨_,_,_,_,rfl,by omega⟩))
  ·simp only[Loc.le]at h' ⊢;rcases h' with rfl | rfl | ⟨b2,o2,v2,s2,rfl,hv2⟩ | ⟨v2,rfl,hv2⟩
   ·exact .inr (.inr (.inr ⟨_,rfl,hv⟩))
   ·exact .inr (.inl rfl)
   ·exact .inr (.inr (.inl ⟨_,_,_,_,rfl,by omega⟩))
   ·exact .inr (.inr (.inr ⟨_,rfl,by omega⟩))
 |«at» b1 o v s =>
  simp only[Loc.le]at h;rcases h with rfl | rfl | ⟨b2,o2,v2,s2,rfl,hv⟩
  ·exact h'
  ·simp only[Loc.le]at h' ⊢;exact .inr (.inl h')
  ·simp only[Loc.le]at h' ⊢;rcases h' with rfl | rfl | ⟨b3,o3,v3,s3,rfl,hv3⟩
   ·exact .inr (.inr ⟨_,_,_,_,rfl,hv⟩)
   ·exact .inr (.inl rfl)
   ·exact .inr (.inr ⟨_,_,_,_,rfl,by omega⟩)
theorem Loc.jT{L L':Loc}{v:Nat}(h:L.vx v)(h':L.le L'):L'.vx v:=by
 cases L with
 |dead=>simp only[Loc.le]at h';subst h';trivial
 |lp b=>exact h.elim
 |mp b=>exact h.elim
 |it b=>exact h.elim
 |ob b c=>exact h.elim
 |fI v' =>
  simp only[Loc.le]at h';simp only[Loc.vx]at h;rcases h' with rfl | rfl | ⟨b,o,v',s,rfl,hv⟩ | ⟨v',rfl,hv⟩<;>simp only[Loc.vx]<;>omega
 |«at» b o v' s =>
  simp only[Loc.le]at h';simp only[Loc.vx]at h;rcases h' with rfl | rfl | ⟨b',o',v'',s',rfl,hv⟩<;>simp only[Loc.vx]<;>omega
structure G.le(g g':G):Prop where
 loc:∀l i L,g.loc l i=some L→∃L',g'.loc l i=some L'∧L.le L'
 fp:∀b o v,g.fp b o=some v→g'.fp b o=some v
theorem G.le_refl(g:G):g.le g:=⟨fun _ _ L h=>⟨L,h,L.le_refl⟩,fun _ _ _ h=>h⟩
theorem G.le_trans{a b c:G}(h:a.le b)(h':b.le c):a.le c :=
 ⟨fun l i L e=>let ⟨L1,e1,h1⟩:=h.loc l i L e;let ⟨L2,e2,h2⟩:=h'.loc l i L1 e1;⟨L2,e2,Loc.le_trans h1 h2⟩,
  fun x o v e=>h'.fp x o v (h.fp x o v e)⟩
theorem G.n9{g g':G}(h:g.le g'){b o:Nat}{vs:List Value}(hr:g.row b o vs):g'.row b o vs:=fun j v e=>h.fp _ _ _ (hr j v e)
theorem Loc.back{L L':Loc}{v:Nat}(h:L.vx v)(h':L.le L'){b o s:Nat}(e:L'=.at b o v s):L=.at b o v s:=by
 subst e;cases L with
 |dead=>simp[Loc.le]at h'
 |lp b=>simp[Loc.le]at h'
 |mp b=>simp[Loc.le]at h'
 |it b=>simp[Loc.le]at h'
 |ob b c=>simp[Loc.le]at h'
 |fI v' =>
  simp only[Loc.le]at h';simp only[Loc.vx]at h;rcases h' with h' | h' | ⟨b,o,v',s,h',hv⟩ | ⟨v',h',hv⟩<;>simp_all
  omega
 |«at» b o v' s =>
  simp only[Loc.le]at h';simp only[Loc.vx]at h;rcases h' with h' | h' | ⟨b',o',v'',s',h',hv⟩<;>simp_all
  omega
theorem Loc.l9{L L':Loc}{v:Nat}(h:L.vx v)(h':L.le L')(e:L'=.fI v):L=.fI v:=by
 subst e;cases L with
 |dead=>simp[Loc.le]at h'
 |lp b=>simp[Loc.le]at h'
 |mp b=>simp[Loc.le]at h'
 |it b=>simp[Loc.le]at h'
 |ob b c=>simp[Loc.le]at h'
 |fI v' =>
  simp only[Loc.le]at h';simp only[Loc.vx]at h;rcases h' with h' | h' | ⟨b,o,v',s,h',hv⟩ | ⟨v',h',hv⟩<;>simp_all
  omega
 |«at» b o v' s=>simp[Loc.le]at h'
mutual
theorem aI.mono{g g':G}(h:g.le g'):∀{d:D} {c:Value},aI g d c→aI g' d c
 |_,_,.undef c => .undef c
 |_,_,.bool b => .bool b
 |_,_,.int k n => .int k n
 |_,_,.str s => .str s
 |_,_,.agg ds cs hr h1 => .agg ds cs (aH.mono h hr) h1
 |_,_,.er ds cs hr => .er ds cs (aH.mono h hr)
 |_,_,.j3 => .j3
 |_,_,.ref l i v off b o L e hv hc hn =>
  let ⟨L',e',hl⟩:=h.loc l i L e
  .ref l i v off b o L' e' (Loc.jT hv hl) (fun aR bo sz eq=>hc aR bo sz (Loc.back hv hl eq)) (fun eq=>hn (Loc.l9 hv hl eq))
 |_,_,.bE ds b o vs hr hl => .bE ds b o vs (G.n9 h hr) (aH.mono h hl)
 |_,_,.cH => .cH
 |_,_,.kE => .kE
 |_,_,.ch n ds a cap vs hn hr hs hl => .ch n ds a cap vs hn (G.n9 h hr) hs (aH.mono h hl)
 |_,_,.sl l i v off n w a cap L e hv hn ha hs hc hc' =>
  let ⟨L',e',hl⟩:=h.loc l i L e
  .sl l i v off n w a cap L' e' (Loc.jT hv hl) hn ha hs (fun aR bo sz eq=>hc aR bo sz (Loc.back hv hl eq)) (fun eq=>hc' (Loc.l9 hv hl eq))
 |_,_,.fn f fs cs fs' cs' h1 h2 => .fn f fs cs fs' cs' (aH.mono h h1) (aH.mono h h2)
 |_,_,.lL => .lL
 |_,_,.fJ l i b e =>
  let ⟨L',e',hl⟩:=h.loc l i _ e
  .fJ l i b (by rw[e',show L'=.lp b from hl])
 |_,_,.wc l i b e =>
  let ⟨L',e',hl⟩:=h.loc l i _ e
  .wc l i b (by rw[e',show L'=.mp b from hl])
 |_,_,.zh l i b L e hc =>
  let ⟨L',e',hl⟩:=h.loc l i L e
  .zh l i b L' e' (by
   rcases hc with rfl | rfl
   ·exact hl
   ·exact .inr hl)
 |_,_,.wE l i b L e hc =>
  let ⟨L',e',hl⟩:=h.loc l i L e
  .wE l i b L' e' (by
   rcases hc with⟨c,rfl⟩ | rfl
   ·exact hl
   ·exact .inr hl)
 |_,_,.nu t d c h1 => .nu t d c (aI.mono h h1)
 |_,_,.ia => .ia
theorem aH.mono{g g':G}(h:g.le g'):∀{ds:List D} {cs:List Value},aH g ds cs→aH g' ds cs
 |_,_,.nil => .nil
 |_,_,.cons d c ds cs h1 h2 => .cons d c ds cs (aI.mono h h1) (aH.mono h h2)
end
section lists
variable {g:G}
theorem aH.length{ds:List D}{cs:List Value}(h:aH g ds cs):ds.length=cs.length:=by
 induction ds generalizing cs with
 |nil=>cases h;rfl
 |cons d ds ih=>cases h with | cons _ c _ cs h1 h2=>simp[ih h2]
theorem aH.get{ds:List D}{cs:List Value}(h:aH g ds cs){j:Nat}{d:D}(e:ds[j]?=some d):∃c,cs[j]?=some c∧aI g d c:=by
 induction ds generalizing cs j with
 |nil=>simp at e
 |cons d0 ds ih =>
  cases h with
  |cons _ c _ cs h1 h2 =>
   cases j with
   |zero=>simp at e;subst e;exact⟨c,rfl,h1⟩
   |succ j=>exact ih h2 (by simpa using e)
theorem aH.append{a b:List D}{x y:List Value}(h:aH g a x)(h':aH g b y):aH g (a++b) (x++y):=by
 induction a generalizing x with
 |nil=>cases h;exact h'
 |cons d a ih=>cases h with | cons _ c _ cs h1 h2=>exact .cons _ _ _ _ h1 (ih h2)
theorem aH.take{a:List D}{x:List Value}(h:aH g a x)(n:Nat):aH g (a.take n) (x.take n):=by
 induction a generalizing x n with
 |nil=>cases h;simpa using aH.nil
 |cons d a ih =>
  cases h with
  |cons _ c _ cs h1 h2 =>
   cases n with
   |zero=>exact .nil
   |succ n=>exact .cons _ _ _ _ h1 (ih h2 n)
theorem aH.drop{a:List D}{x:List Value}(h:aH g a x)(n:Nat):aH g (a.drop n) (x.drop n):=by
 induction a generalizing x n with
 |nil=>cases h;simpa using aH.nil
 |cons d a ih =>
  cases h with
  |cons _ c _ cs h1 h2 =>
   cases n with
   |zero=>exact .cons _ _ _ _ h1 h2
   |succ n=>exact ih h2 n
theorem aH.Gz{ds:List D}{cs:List Value}(hl:ds.length=cs.length)(h:∀(j:Nat) (d:D) (c:Value),ds[j]?=some d→cs[j]?=some c→aI g d c):aH g ds cs:=by
 induction ds generalizing cs with
 |nil=>cases cs with
  |nil=>exact .nil
  |cons c cs=>simp at hl
 |cons d ds ih =>
  cases cs with
  |nil=>simp at hl
  |cons c cs =>
   exact .cons _ _ _ _ (h 0 d c rfl rfl) (ih (by simpa using hl) fun j d' c' e e'=>h (j+1) d' c' (by simpa using e) (by simpa using e'))
theorem aI.cells{d:D}{c:Value}(h:aI g d c){ds:List D}(e:d.cells=some ds):aH g ds c.cells.toList∧∀x∈c.cells.toList,x.oneCell'=true:=by
 have h0:=h;cases h with
 |agg ds' cs hr h1=>simp only[D.cells,ad]at e;subst e;exact⟨hr,h1⟩
 |undef c=>simp[D.cells]at e
 |er=>simp[D.cells]at e
 |_=>simp only[D.cells,ad]at e;subst e;exact⟨.cons _ _ _ _ h0 .nil,by simp[Value.cells,Value.oneCell']⟩
end lists
def ku(g:G)(e:Env)(tmps:Array Value):Prop:=∀t,aI g (get e t) (tmps.getD t Go.undef)
theorem ku.mono{g g':G}(h:g.le g'){e:Env}{tmps:Array Value}(hr:ku g e tmps):ku g' e tmps:=fun t=>(hr t).mono h
structure cm where
 rel:bC→Code→Nat→Prop
 sT:Nat→(Obj→Prop)→Prop
def NR:Nat→LoopState
 |0 => .ready
 |1 => .busy
 |2 => .done
 |_ => .exhausted
def l4:Option Exit→Option (Option Code)
 |none=>some none
 |some (.exit id)=>some (some (.exit id))
 |some .ret=>some (some .ret)
 |some .normal=>none
 |some (.eO _)=>none
structure kT(CR:cm)(g:G)(lp:kq)(r:Loop):Prop where
 state:r.state=NR lp.state
 j4:l4 lp.j4=some r.pending
 env:ku g lp.env r.tmps
 params:r.params.toList=lp.params
 small:∀t∈lp.params,t<r.tmps.size
 both:CR.rel (.ite (.t 0) lp.lK lp.body) (.cond (.tmp 0) r.assign r.body) r.tmps.size
def u0(es:List MapEntry)(clock:Nat):Prop:=es.map (·.born)=List.range es.length∧clock=es.length
def o6(CR:cm)(g:G)(w:World):b8→Loc→Prop
 |.cells v cs,.at b off v' sz=>v=v'∧∃(c:Array Value) (el:TypeId),w.heap[b]?=some (.cells c el (0,0))∧c.size=sz∧off+cs.length≤sz ∧
   ∃vs,aH g cs vs∧(∀j x,vs[j]?=some x→c[off+j]?=some x∧x.oneCell'=true)
 |.cells v cs,.fI v'=>v=v'∧cs=[]
 |.dead,.dead=>True
 |.loop lp,.lp b=>∃r,w.heap[b]?=some (.loop r)∧kT CR g lp r
 |.cells v es,.mp b=>v=0∧∃bA clock,w.heap[b]?=some (.map bA clock)∧aH g es (bA.toList.map fun e => .tuple #[e.key,e.val])∧u0 bA.toList clock
 |.cells v cs,.it b=>v=1∧∃l i bm n,∃js:List Nat,cs=.fJ l i::.int .i64 (n:Nat)::js.map (fun j:Nat=>D.int .i64 j)∧g.loc l i=some (.mp bm) ∧
   w.heap[b]?=some (.mapIter (some bm) n js.reverse.toArray n)∧js.Nodup∧∀j∈js,j<n
 |.cells v cs,.ob b c=>v=2∧∃(T e:Nat) (bs:List UInt8) (p s:Value),cs=[.int .i64 T,.int .i64 e,.str bs]∧w.heap[b]?=some (.cells #[p,s] T (0,0)) ∧
   (p=.pointer none∨p=.pointer (some ⟨b,0,none⟩))∧w.ownsRowF 0 e 1 s bs.length (bs.map fun x => .int .u8 x.toNat)∧s.ownBlock=c∧c≠some b
 |_,_=>False
structure Inv(CR:cm)(base:Nat)(g:G)(σ:SK)(w:World):Prop where
 ge:base≤w.heap.size
 jZ:∀l i L,g.loc l i=some L→∃b,bS σ l i=some b∧o6 CR g w b L
 fp:∀b o v,g.fp b o=some v→w.cell? ⟨b,o,none⟩=some v∧v.oneCell'=true
 sep:∀l i L b,g.loc l i=some L→L.owns b→∀o,g.fp b o=none
 inj:∀l i L l' i' L' b,g.loc l i=some L→g.loc l' i'=some L'→L.owns b→L'.owns b→l=l'∧i=i'
 lo:∀l i L b,g.loc l i=some L→L.owns b→base≤b∧b<w.heap.size
 vH:∀l i b,bS σ l i=some b→∃L,g.loc l i=some L
 sT:∀b Q,CR.sT b Q→(∃v,g.fp b 0=some v)∧∃o,w.heap[b]?=some o∧Q o
def G.has(g:G)(b:Nat):Prop:=∃l i L,g.loc l i=some L∧L.owns b
structure Ev(g:G)(w:World)(g':G)(w':World):Prop where
 le:g.le g'
 os:w'.os=w.os
 tape:w'.tape=w.tape
 output:w'.output=w.output
 size:w.heap.size≤w'.heap.size
 kept:∀b,b<w.heap.size→¬g.has b→w'.heap[b]?=w.heap[b]?
 wF:∀b,g'.has b→g.has b∨w.heap.size≤b
 q4:∀b o v,g'.fp b o=some v→g.fp b o=some v∨g.has b∨w.heap.size≤b
theorem Ev.refl(g:G)(w:World):Ev g w g w:=⟨g.le_refl,rfl,rfl,rfl,al _,fun _ _ _=>rfl,fun _ h => .inl h,fun _ _ _ h => .inl h⟩
theorem Ev.trans{g g1 g2:G}{w w1 w2:World}(h:Ev g w g1 w1)(h':Ev g1 w1 g2 w2):Ev g w g2 w2 where
 le:=G.le_trans h.le h'.le
 os:=h'.os.trans h.os
 tape:=h'.tape.trans h.tape
 output:=h'.output.trans h.output
 size:=gv h.size h'.size
 kept b hb hn:=by
  have h1:¬g1.has b:=fun hx=>by
   rcases h.wF b hx with hx | hx
   ·exact hn hx
   ·omega
  rw[h'.kept b (Nat.lt_of_lt_of_le hb h.size) h1,h.kept b hb hn]
 wF b hb:=by
  rcases h'.wF b hb with hx | hx
  ·exact h.wF b hx
  ·exact .inr (gv h.size hx)
 q4 b o v hv:=by
  rcases h'.q4 b o v hv with hx | hx | hx
  ·exact h.q4 b o v hx
  ·exact .inr (h.wF b hx)
  ·exact .inr (.inr (gv h.size hx))
section stack
theorem lu{σ:SK}{l:Nat}{s:List b8}(h:gq σ l=some s):l<σ.length:=by
 induction σ with
 |nil=>simp[gq]at h
 |cons s0 σ ih =>
  simp only[gq]at h;split at h
  ·simp;omega
  ·have:=ih h;simp;omega
theorem iq{σ:SK}{l:Nat}{s:List b8}(h:l<σ.length):gq (dj σ l s) l=some s:=by
 induction σ with
 |nil=>simp at h
 |cons s0 σ ih =>
  simp only[dj];split
  ·rename_i e;simp[gq,e]
  ·rename_i e;simp only[gq];rw[cl];rw[if_neg e];exact ih (by simp at h;omega)
where
 cl {σ:SK} {l:Nat} {s:List b8}:(dj σ l s).length=σ.length:=by
  induction σ with
  |nil=>rfl
  |cons s0 σ ih=>simp only[dj];split<;>simp[ih]
theorem cl{σ:SK}{l:Nat}{s:List b8}:(dj σ l s).length=σ.length:=iq.cl
theorem nH{σ:SK}{l l':Nat}{s:List b8}(h:l'≠l):gq (dj σ l s) l'=gq σ l':=by
 induction σ with
 |nil=>rfl
 |cons s0 σ ih =>
  simp only[dj];split
  ·rename_i e;simp only[gq];rw[if_neg (by omega),if_neg (by omega)]
  ·simp only[gq,cl];split
   ·rfl
   ·exact ih
theorem bP{σ:SK}{l i:Nat}{b:b8}:(az σ l i b).length=σ.length:=by
 unfold az;split
 ·exact cl
 ·rfl
theorem e6{σ:SK}{l i:Nat}{b b0:b8}(h:bS σ l i=some b0):bS (az σ l i b) l i=some b:=by
 unfold bS at h;cases hs:gq σ l with
 |none=>simp[hs]at h
 |some s =>
  simp only[hs,Option.bind_some]at h;have hi:i<s.length:=(ar.1 h).1;simp only[az,hs,bS,iq (lu hs),Option.bind_some];simp[hi]
theorem bT{σ:SK}{l i l' i':Nat}{b:b8}(h:¬(l'=l∧i'=i)):bS (az σ l i b) l' i'=bS σ l' i':=by
 unfold az;cases hs:gq σ l with
 |none=>rfl
 |some s =>
  simp only[bS];by_cases hl:l'=l
  ·subst hl;rw[iq (lu hs),hs];simp only[Option.bind_some];rw[List.getElem?_set_ne];intro e;exact h ⟨rfl,e.symm⟩
  ·rw[nH hl]
theorem du{σ σ':SK}{b:b8}{l i:Nat}(h:cG σ b=some (l,i,σ')):
  bS σ l i=none∧bS σ' l i=some b∧(∀l' i',¬(l'=l∧i'=i)→bS σ' l' i'=bS σ l' i')∧σ'.length=σ.length∧l+1=σ.length:=by
 cases σ with
 |nil=>simp[cG]at h
 |cons s σ =>
  simp only[cG,ad,af]at h;obtain⟨rfl,rfl,rfl⟩:=h;refine⟨by simp[bS,gq],by simp[bS,gq],?_,rfl,rfl⟩;intro l' i' hn;simp only[bS,gq];split
  ·rename_i e;simp only[Option.bind_some];rw[List.getElem?_append];split
   ·rfl
   ·rename_i hlt;have:i'≠s.length:=fun e'=>hn ⟨e.symm,e'⟩
    rw[bQ (by simp;omega),bQ (by omega)]
  ·rfl
end stack
theorem o6.mono{CR:cm}{g g':G}{w w':World}{b:b8}{L:Loc}(h:o6 CR g w b L)(hg:g.le g')
  (hw:∀x,L.owns x→w'.heap[x]?=w.heap[x]?):o6 CR g' w' b L:=by
 cases b with
 |cells v cs =>
  cases L with
  |«at» x off v' sz =>
   obtain⟨rfl,c,el,hb,hsz,hlen,vs,hr,hv⟩:=h;exact⟨rfl,c,el,(hw x rfl).trans hb,hsz,hlen,vs,hr.mono hg,hv⟩
  |fI v'=>exact h
  |dead=>exact h
  |lp x=>exact h
  |mp x =>
   obtain⟨hv,bA,clock,hb,hr,hm⟩:=h;exact⟨hv,bA,clock,(hw x rfl).trans hb,hr.mono hg,hm⟩
  |it x =>
   obtain⟨hv,l,i,bm,n,js,h1,h2,h3,h4⟩:=h;obtain⟨L',e',hl⟩:=hg.loc l i _ h2;exact⟨hv,l,i,bm,n,js,h1,by rw[e',show L'=.mp bm from hl],(hw x rfl).trans h3,h4⟩
  |ob x y =>
   obtain⟨hv,T,e,bs,p,s,h1,h2,h3,h4,h5,h6⟩:=h;refine⟨hv,T,e,bs,p,s,h1,(hw x (.inl rfl)).trans h2,h3,⟨h4.1,h4.2.imp id fun⟨q,cap,cur,fz,k1,k2,k3,k4⟩=>⟨q,cap,cur,fz,k1,k2,(hw q (.inr ?_)).trans k3,k4⟩⟩,h5,h6⟩;rw[← h5,k1];rfl
 |dead=>cases L<;>exact h
 |loop lp =>
  cases L with
  |lp x =>
   obtain⟨r,hb,hr⟩:=h;exact⟨r,(hw x rfl).trans hb,{hr with env:=hr.env.mono hg }⟩
  |«at» x off v' sz=>exact h
  |fI v'=>exact h
  |dead=>exact h
  |mp x=>exact h
  |it x=>exact h
  |ob x y=>exact h
theorem Inv.nI{CR:cm}{base:Nat}{g g':G}{σ σ':SK}{w w':World}(hi:Inv CR base g σ w)(l i:Nat)
  (hle:g.le g')
  (hσ:∀l' i',¬(l'=l∧i'=i)→bS σ' l' i'=bS σ l' i')
  (hloc:∀l' i',¬(l'=l∧i'=i)→g'.loc l' i'=g.loc l' i')
  (hw:∀l' i' L b,¬(l'=l∧i'=i)→g.loc l' i'=some L→L.owns b→w'.heap[b]?=w.heap[b]?)
  (hnew:∀L,g'.loc l i=some L→∃b,bS σ' l i=some b∧o6 CR g' w' b L)
  (himm:∀b o v,g'.fp b o=some v→w'.cell? ⟨b,o,none⟩=some v∧v.oneCell'=true)
  (hsep:∀l' i' L b,g'.loc l' i'=some L→L.owns b→∀o,g'.fp b o=none)
  (hinj:∀L b,g'.loc l i=some L→L.owns b→base≤b∧b<w'.heap.size∧∀l' i' L',¬(l'=l∧i'=i)→g.loc l' i'=some L'→¬L'.owns b)
  (hsize:w.heap.size≤w'.heap.size) (htot:∃L,g'.loc l i=some L) (hlow:∀b v,g.fp b 0=some v→w'.heap[b]?=w.heap[b]?):Inv CR base g' σ' w' where
 sT b Q h:=let ⟨⟨v,hb⟩,o,ho,hq⟩:=hi.sT b Q h;⟨⟨v,hle.fp _ _ _ hb⟩,o,(hlow b v hb).trans ho,hq⟩
 vH l' i' b e:=by
  by_cases h:l'=l∧i'=i
  ·obtain⟨rfl,rfl⟩:=h;exact htot
  ·rw[hσ l' i' h]at e;rw[hloc l' i' h];exact hi.vH l' i' b e
 ge:=gv hi.ge hsize
 jZ l' i' L e:=by
  by_cases h:l'=l∧i'=i
  ·obtain⟨rfl,rfl⟩:=h;exact hnew L e
  ·rw[hloc l' i' h]at e;obtain⟨b,hb,hr⟩:=hi.jZ l' i' L e;exact⟨b,(hσ l' i' h).trans hb,hr.mono hle fun x hx=>hw l' i' L x h e hx⟩
 fp:=himm
 sep:=hsep
 inj l1 i1 L1 l2 i2 L2 b h1 h2 e1 e2:=by
  by_cases c1:l1=l∧i1=i
  ·obtain⟨rfl,rfl⟩:=c1;by_cases c2:l2=l1∧i2=i1
   ·exact⟨c2.1.symm,c2.2.symm⟩
   ·rw[hloc l2 i2 c2]at h2;exact absurd e2 ((hinj L1 b h1 e1).2.2 l2 i2 L2 c2 h2)
  ·rw[hloc l1 i1 c1]at h1;by_cases c2:l2=l∧i2=i
   ·obtain⟨rfl,rfl⟩:=c2;exact absurd e1 ((hinj L2 b h2 e2).2.2 l1 i1 L1 c1 h1)
   ·rw[hloc l2 i2 c2]at h2;exact hi.inj _ _ _ _ _ _ b h1 h2 e1 e2
 lo l' i' L b e eb:=by
  by_cases h:l'=l∧i'=i
  ·obtain⟨rfl,rfl⟩:=h;exact⟨(hinj L b e eb).1,(hinj L b e eb).2.1⟩
  ·rw[hloc l' i' h]at e;have:=hi.lo l' i' L b e eb;exact⟨this.1,by omega⟩
theorem cQ{w w':World}{b o:Nat}(h:w'.heap[b]?=w.heap[b]?):w'.cell? ⟨b,o,none⟩=w.cell? ⟨b,o,none⟩:=by
 simp only[World.cell?,h]
theorem Inv.heap{CR:cm}{base:Nat}{g:G}{σ:SK}{w w1:World}(hi:Inv CR base g σ w)(h:w1.heap=w.heap):Inv CR base g σ w1 where
 ge:=by rw[h];exact hi.ge
 jZ l i L e:=let ⟨b,hb,hr⟩:=hi.jZ l i L e;⟨b,hb,hr.mono g.le_refl fun x _=>by rw[h]⟩
 fp b o v e:=let ⟨h1,h2⟩:=hi.fp b o v e;⟨(cQ (by rw[h])).trans h1,h2⟩
 sep:=hi.sep
 inj:=hi.inj
 vH:=hi.vH
 sT:=by rw[h];exact hi.sT
 lo l i L b e eb:=by rw[h];exact hi.lo l i L b e eb
theorem Ev.heap(g:G){w w1:World}(h:w1.heap=w.heap)(ho:w1.os=w.os)(ht:w1.tape=w.tape)(hp:w1.output=w.output):Ev g w g w1 :=
 ⟨g.le_refl,ho,ht,hp,by rw[h];exact al _,fun b _ _=>by rw[h],fun b hb => .inl hb,fun b o v hv => .inl hv⟩
theorem Inv.di{CR:cm}{base:Nat}{g:G}{σ:SK}{w:World}(hi:Inv CR base g σ w){b o:Nat}{v:Value}(h:g.fp b o=some v):b<w.heap.size :=
 World.block_lt_of_cell? (a:=⟨b,o,none⟩) w (hi.fp b o v h).1
theorem Inv.ya{CR:cm}{base:Nat}{g:G}{σ:SK}{w:World}(hi:Inv CR base g σ w){b:Nat}(h:g.has b):b<w.heap.size :=
 let ⟨l,i,L,e,eb⟩:=h;(hi.lo l i L b e eb).2
def G.dG(g:G)(x:Nat)(vs:List Value):G:=⟨g.loc,fun b o=>if b=x then vs[o]? else g.fp b o⟩
theorem alloc_old{w:World}{o:Obj}{b:Nat}(h:b<w.heap.size):(w.alloc o).heap[b]?=w.heap[b]?:=by
 simp only[World.alloc,Array.getElem?_push];rw[if_neg (by omega)]
theorem ic{w:World}{o:Obj}:(w.alloc o).heap[w.heap.size]?=some o:=by
 simp only[World.alloc,Array.getElem?_push_size]
theorem Inv.pP{CR:cm}{base:Nat}{g:G}{σ:SK}{w:World}(hi:Inv CR base g σ w)(vs:List Value)(cs:Array Value)(el:TypeId)
  (hcs:∀(j:Nat) x,vs[j]?=some x→cs[j]?=some x∧x.oneCell'=true):
  Inv CR base (g.dG w.heap.size vs) σ (w.alloc (.cells cs el))∧Ev g w (g.dG w.heap.size vs) (w.alloc (.cells cs el))∧(g.dG w.heap.size vs).row w.heap.size 0 vs:=by
 have hle:g.le (g.dG w.heap.size vs):=⟨fun l i L e=>⟨L,e,L.le_refl⟩,fun b o v e=>by
  have:=hi.di e;simp only[G.dG];rw[if_neg (by omega)];exact e⟩
 refine⟨⟨?_,?_,?_,?_,hi.inj,?_,hi.vH,fun b Q h=>let ⟨⟨v,hb⟩,o,ho,hq⟩:=hi.sT b Q h;⟨⟨v,hle.fp _ _ _ hb⟩,o,(alloc_old (hi.di hb)).trans ho,hq⟩⟩,⟨hle,rfl,rfl,rfl,by simp,fun b hb _=>alloc_old hb,fun b hb => .inl hb,?_⟩,?_⟩
 ·have:=hi.ge;simp;omega
 ·intro l i L e;obtain⟨b,hb,hr⟩:=hi.jZ l i L e;exact⟨b,hb,hr.mono hle fun x hx=>alloc_old (hi.lo l i L x e hx).2⟩
 ·intro b o v e;simp only[G.dG]at e;split at e
  ·rename_i hb;subst hb;obtain⟨h1,h2⟩:=hcs o v e;exact⟨by rw[World.cell?_alloc_new];exact h1,h2⟩
  ·obtain⟨h1,h2⟩:=hi.fp b o v e;exact⟨(cQ (alloc_old (hi.di e))).trans h1,h2⟩
 ·intro l i L b e eb o;have:=(hi.lo l i L b e eb).2;simp only[G.dG];rw[if_neg (by omega)];exact hi.sep l i L b e eb o
 ·intro l i L b e eb;have:=hi.lo l i L b e eb;exact⟨this.1,by simp;omega⟩
 ·intro b o v hv;simp only[G.dG]at hv;split at hv
  ·rename_i hb;exact .inr (.inr (by omega))
  ·exact .inl hv
 ·intro j v hv;simp[G.dG,hv]
def G.bf(g:G)(l i:Nat)(L:Loc):G:=⟨fun l' i'=>if l'=l∧i'=i then some L else g.loc l' i',g.fp⟩
theorem G.aj{g:G}{l i:Nat}{L:Loc}:(g.bf l i L).loc l i=some L:=by simp[G.bf]
theorem G.aD{g:G}{l i l' i':Nat}{L:Loc}(h:¬(l'=l∧i'=i)):(g.bf l i L).loc l' i'=g.loc l' i':=by simp only[G.bf];rw[if_neg h]
theorem G.dX{g:G}{l i:Nat}{L:Loc}(h:∀L0,g.loc l i=some L0→L0.le L):g.le (g.bf l i L) :=
 ⟨fun l' i' L' e=>by
  by_cases c:l'=l∧i'=i
  ·obtain⟨rfl,rfl⟩:=c;exact⟨L,G.aj,h L' e⟩
  ·exact⟨L',by rw[G.aD c];exact e,L'.le_refl⟩,fun _ _ _ e=>e⟩
theorem Inv.mi{CR:cm}{base:Nat}{g:G}{σ:SK}{w:World}(hi:Inv CR base g σ w){l i:Nat}(h:bS σ l i=none):g.loc l i=none:=by
 cases e:g.loc l i with
 |none=>rfl
 |some L=>obtain⟨b,hb,_⟩:=hi.jZ l i L e;rw[h]at hb;cases hb
theorem Inv.kO{CR:cm}{base:Nat}{g:G}{σ σ':SK}{w:World}(hi:Inv CR base g σ w){l i:Nat}{ds:List D}(hn:cG σ (.cells 0 ds)=some (l,i,σ'))
  (vs:List Value) (cs:Array Value) (el:TypeId) (hr:aH g ds vs) (hlen:vs.length≤cs.size)
  (hcs:∀(j:Nat) x,vs[j]?=some x→cs[j]?=some x∧x.oneCell'=true):
  Inv CR base (g.bf l i (.at w.heap.size 0 0 cs.size)) σ' (w.alloc (.cells cs el))∧Ev g w (g.bf l i (.at w.heap.size 0 0 cs.size)) (w.alloc (.cells cs el)):=by
 obtain⟨h1,h2,h3,_,_⟩:=du hn;have hnone:=hi.mi h1;have hle:g.le (g.bf l i (.at w.heap.size 0 0 cs.size)):=G.dX fun L0 e=>by rw[hnone]at e;cases e
 refine⟨hi.nI l i hle h3 (fun l' i' c=>G.aD c) (fun l' i' L b c e eb=>alloc_old (hi.lo l' i' L b e eb).2) ?_ ?_ ?_ ?_ (by simp) ⟨_,G.aj⟩ (fun b v hb=>alloc_old (hi.di hb)),⟨hle,rfl,rfl,rfl,by simp,fun b hb _=>alloc_old hb,?_,fun b o v hv => .inl hv⟩⟩
 ·intro L e;rw[G.aj]at e;cases e;exact⟨_,h2,rfl,cs,el,ic,rfl,by rw[hr.length];omega,vs,hr.mono hle,fun j x hx=>by simpa using hcs j x hx⟩
 ·intro b o v e;obtain⟨h1,h2⟩:=hi.fp b o v e;exact⟨(cQ (alloc_old (hi.di e))).trans h1,h2⟩
 ·intro l' i' L b e eb o;by_cases c:l'=l∧i'=i
  ·obtain⟨rfl,rfl⟩:=c;rw[G.aj]at e;cases e;cases eb;cases e':(g.bf l' i' (.at w.heap.size 0 0 cs.size)).fp w.heap.size o with
   |none=>rfl
   |some v=>have:=hi.di (b:=w.heap.size) (o:=o) (v:=v) e';omega
  ·rw[G.aD c]at e;exact hi.sep l' i' L b e eb o
 ·intro L b e eb;rw[G.aj]at e;cases e;cases eb;refine⟨hi.ge,by simp,fun l' i' L' c e' eb'=>?_⟩;have:=(hi.lo l' i' L' _ e' eb').2;omega
 ·intro b hb;obtain⟨l',i',L,e,eb⟩:=hb;by_cases c:l'=l∧i'=i
  ·obtain⟨rfl,rfl⟩:=c;rw[G.aj]at e;cases e;cases eb;exact .inr (al _)
  ·rw[G.aD c]at e;exact .inl ⟨l',i',L,e,eb⟩
theorem Inv.vu{CR:cm}{base:Nat}{g:G}{σ σ':SK}{w:World}(hi:Inv CR base g σ w){l i:Nat}(hn:cG σ (.cells 0 [])=some (l,i,σ')):
  Inv CR base (g.bf l i (.fI 0)) σ' w∧Ev g w (g.bf l i (.fI 0)) w:=by
 obtain⟨h1,h2,h3,_,_⟩:=du hn;have hnone:=hi.mi h1;have hle:g.le (g.bf l i (.fI 0)):=G.dX fun L0 e=>by rw[hnone]at e;cases e
 refine⟨hi.nI l i hle h3 (fun l' i' c=>G.aD c) (fun _ _ _ _ _ _ _=>rfl) ?_ hi.fp ?_ ?_ (al _) ⟨_,G.aj⟩ (fun _ _ _=>rfl),⟨hle,rfl,rfl,rfl,al _,fun _ _ _=>rfl,?_,fun b o v hv => .inl hv⟩⟩
 ·intro L e;rw[G.aj]at e;cases e;exact⟨_,h2,rfl,rfl⟩
 ·intro l' i' L b e eb o;by_cases c:l'=l∧i'=i
  ·obtain⟨rfl,rfl⟩:=c;rw[G.aj]at e;cases e;cases eb
  ·rw[G.aD c]at e;exact hi.sep l' i' L b e eb o
 ·intro L b e eb;rw[G.aj]at e;cases e;cases eb
 ·intro b hb;obtain⟨l',i',L,e,eb⟩:=hb;by_cases c:l'=l∧i'=i
  ·obtain⟨rfl,rfl⟩:=c;rw[G.aj]at e;cases e;cases eb
  ·rw[G.aD c]at e;exact .inl ⟨l',i',L,e,eb⟩
theorem Inv.setCells{CR:cm}{base:Nat}{g:G}{σ:SK}{w w':World}(hi:Inv CR base g σ w){l i:Nat}{L0 L:Loc}{b0:b8}{v:Nat}{ds:List D}
  (h0:g.loc l i=some L0) (hb0:bS σ l i=some b0) (hL:L0.le L)
  (hrel:o6 CR (g.bf l i L) w' (.cells v ds) L)
  (hkept:∀b,b<w.heap.size→¬L0.owns b→w'.heap[b]?=w.heap[b]?)
  (hos:w'.os=w.os) (htape:w'.tape=w.tape) (hout:w'.output=w.output)
  (hsize:w.heap.size≤w'.heap.size)
  (hblk:∀b,L.owns b→(L0.owns b∨(w.heap.size≤b∧b<w'.heap.size))):
  Inv CR base (g.bf l i L) (az σ l i (.cells v ds)) w'∧Ev g w (g.bf l i L) w':=by
 have hle:g.le (g.bf l i L):=G.dX fun L1 e=>by rw[h0]at e;cases e;exact hL
 refine⟨hi.nI l i hle (fun l' i' c=>bT c) (fun l' i' c=>G.aD c) ?_ ?_ ?_ ?_ ?_ hsize ⟨_,G.aj⟩ (fun b v hb=>hkept b (World.block_lt_of_cell? (a:=⟨b,0,none⟩) w (hi.fp b 0 v hb).1) fun eb0=>by have h:=hi.sep l i L0 b h0 eb0 0;rw[hb]at h;cases h),⟨hle,hos,htape,hout,hsize,?_,?_,fun b o v hv => .inl hv⟩⟩
 ·intro l' i' L' b c e eb;refine hkept b (hi.lo l' i' L' b e eb).2 fun eb0=>c ?_
  have:=hi.inj l' i' L' l i L0 b e h0 eb eb0;exact this
 ·intro L1 e;rw[G.aj]at e;cases e;exact⟨_,e6 hb0,hrel⟩
 ·intro b o x e;obtain⟨h1,h2⟩:=hi.fp b o x e;refine⟨(cQ (hkept b (hi.di e) fun eb0=>?_)).trans h1,h2⟩;have:=hi.sep l i L0 b h0 eb0 o;rw[show g.fp b o=some x from e]at this;cases this
 ·intro l' i' L' b e eb o;by_cases c:l'=l∧i'=i
  ·obtain⟨rfl,rfl⟩:=c;rw[G.aj]at e;cases e;rcases hblk b eb with h | ⟨h,_⟩
   ·exact hi.sep _ _ L0 b h0 h o
   ·cases e':(g.bf l' i' L).fp b o with
    |none=>rfl
    |some v=>have:=hi.di (b:=b) (o:=o) (v:=v) e';omega
  ·rw[G.aD c]at e;exact hi.sep l' i' L' b e eb o
 ·intro L1 b e eb;rw[G.aj]at e;cases e;rcases hblk b eb with h | ⟨h,h'⟩
  ·have:=hi.lo l i L0 b h0 h;refine⟨this.1,by omega,fun l' i' L' c e' eb'=>c ?_⟩;exact hi.inj l' i' L' l i L0 b e' h0 eb' h
  ·exact⟨gv hi.ge h,h',fun l' i' L' c e' eb'=>by have:=(hi.lo l' i' L' b e' eb').2;omega⟩
 ·intro b hb hn;exact hkept b hb fun e=>hn ⟨l,i,L0,h0,e⟩
 ·intro b hb;obtain⟨l',i',L',e,eb⟩:=hb;by_cases c:l'=l∧i'=i
  ·obtain⟨rfl,rfl⟩:=c;rw[G.aj]at e;cases e;rcases hblk b eb with h | ⟨h,_⟩
   ·exact .inl ⟨_,_,L0,h0,h⟩
   ·exact .inr h
  ·rw[G.aD c]at e;exact .inl ⟨l',i',L',e,eb⟩
theorem nZ{l n:Nat}:∀{ds:List D} {σ:SK},D.bp ds=true→bB.frzL (bB l (n+1)) ds σ=(ds,σ)
 |[],σ,h=>rfl
 |d::ds,σ,h=>by
  simp only[D.bp,ah]at h;have h1:bB l (n+1) d σ=(d,σ):=by cases d<;>simp[bB,h.1]
  simp only[bB.frzL,h1,nZ h.2]
theorem vE{e:Env}{σ:SK}{os:List Nat}{sz:Nat}{X Y:aM}{r:D×SK}(h:aK e σ (.wA os sz X Y)=some r):aK e σ (.st [] sz X Y)=some r:=by
 simp only[aK]at h ⊢;cases hx:aC e X<;>rw[hx]at h<;>try (cases h;done)
 dsimp only at h ⊢;split at h
 case isFalse=>cases h
 split at h
 case h_2=>cases h
 rename_i cs hcs;split at h
 case h_2=>cases h
 rename_i p hp;split at h
 case isFalse=>cases h
 rename_i hc
 try simp only[hcs]
 try simp only[hp]
 try dsimp only
 rw[if_pos ⟨hc.1,hc.2.1⟩];split
 ·simpa[dJ]using h
 ·rename_i hn;rw[show deep=15+1 from rfl,nZ (hc.2.2.resolve_right hn)];exact h
end Go.Abs
