import Derived.Test.YtklfdfnoebnciaaGreatDoorBase9
import Derived.RangeFuncNested
set_option linter.all false
namespace Go.az
open Go
section steps
variable {P:Program} {b:Frame} {a:Act} {k:List Item} {cs:List Frame} {w w':World} {ops:Array Oper} {i:Nat} {rest:List Nat} {o:Oper}
theorem Bl(ho:ops[i]?=some o)(v:Value):(b.atR a (.inRegion ops (i::rest)::k)).finish v=b.atR (a.put o.dst v) (.inRegion ops rest::k):=by
 rw[Frame.finish_atR,ho];rfl
theorem wW{x:Next}{c:Value}(ho:ops[i]?=some o)(hw:Region.wanted o (yielded ops a.tmps)=true)(hd:∀c,o.op ≠ .defer c)
  (hr:(execOp a.eval o).run P w=.ok x w') (hx:W9 x=some c):
  step P (lone (b.atR a (.inRegion ops (i::rest)::k)) cs w)=.next (lone (b.atR (a.put o.dst c) (.inRegion ops rest::k)) cs w'):=by
 have hg:=stepGR_op (P:=P) (b:=b) (k:=k) (cs:=cs) (w:=w) (rest:=rest) ho hw;rw[Oper.semAt_eq _ _ _ hd]at hg;have hfin:=Bl (b:=b) (a:=a) (rest:=rest) (k:=k) ho c;cases x<;>simp only[W9,ad,reduceCtorEq]at hx
 .subst hx;exact step_lone_go (by rw[hg,<- hfin];simp[stepG.apply,hr])
 .subst hx;exact step_lone_go (by rw[hg,<- hfin];simp[stepG.apply,hr])
theorem G2{f:FuncId}{args:Array Value}(ho:ops[i]?=some o)(hw:Region.wanted o (yielded ops a.tmps)=true)(hd:∀c,o.op ≠ .defer c)
  (hr:(execOp a.eval o).run P w=.ok (.enter f args) w'):
  step P (lone (b.atR a (.inRegion ops (i::rest)::k)) cs w)=.next (lone (Frame.enter P f args .normal) (b.atR a (.inRegion ops (i::rest)::k)::cs) w'):=by
 have hg:=stepGR_op (P:=P) (b:=b) (k:=k) (cs:=cs) (w:=w) (rest:=rest) ho hw;rw[Oper.semAt_eq _ _ _ hd]at hg;exact step_lone_go (by rw[hg];simp[stepG.apply,hr,Frame.atR])
theorem MH{l:Nat}{f:FuncId}{tmps:Array Value}{zh body:Code}(ho:ops[i]?=some o)(hw:Region.wanted o (yielded ops a.tmps)=true)(hd:∀c,o.op ≠ .defer c)
  (hr:(execOp a.eval o).run P w=.ok (.round l f tmps zh body) w'):
  step P (lone (b.atR a (.inRegion ops (i::rest)::k)) cs w)=.next (lone (Frame.round l f tmps zh body .normal) (b.atR a (.inRegion ops (i::rest)::k)::cs) w'):=by
 have hg:=stepGR_op (P:=P) (b:=b) (k:=k) (cs:=cs) (w:=w) (rest:=rest) ho hw;rw[Oper.semAt_eq _ _ _ hd]at hg;exact step_lone_go (by rw[hg];simp[stepG.apply,hr,Frame.atR])
end steps
theorem G.le.trans'{a b c:G}(h:a.le b)(h':b.le c):a.le c:=G.le_trans h h'
def mark(r:Nat):Deferred:={target:=.collected r,args := #[] }
structure yy(fb:Nat)(g:G)(w:World)(r:Nat):Prop where
 lo:fb<=r
 free:¬g.has r
 rz:∀o,g.oc r o=none
 cT:w.heap[r]?=some (.deferred (some []))
theorem yy.lt{fb:Nat}{g:G}{w:World}{r:Nat}(h:yy fb g w r):r<w.heap.size:=(dR.1 h.cT).1
theorem yy.ev{fb:Nat}{g g':G}{w w':World}{r:Nat}(h:yy fb g w r)(he:Ev g w g' w'):yy fb g' w' r where
 lo:=h.lo
 free:=λhb=>by
  rcases he.PC r hb with h1 | h1
  .exact h.free h1
  .have:=h.lt;omega
 rz o:=by
  cases e:g'.oc r o with
  |none=>rfl
  |some v =>
   rcases he.Ht r o v e with h1 | h1 | h1
   .rw[h.rz o]at h1;cases h1
   .exact absurd h1 h.free
   .have:=h.lt;omega
 cT:=(he.kept r h.lt h.free).trans h.cT
def ua:List Deferred->List Nat
 |[]=>[]
 |d::ds=>match d.target with
  |.collected r=>r::ua ds
  |_=>ua ds
theorem xd:∀(rs:List Nat) (ds:List Deferred),ua (rs.map mark++ds)=rs++ua ds
 |[],ds=>rfl
 |r::rs,ds=>by simp only[aN,fg,ua,mark];rw[<- xd rs ds]
structure Marks(fb:Nat)(g:G)(w:World)(df df0:List Deferred)(rs:List Nat):Prop where
 eq:df=rs.map mark++df0
 nodup:(rs++ua df0).Nodup
 all:∀r∈rs++ua df0,yy fb g w r
theorem Marks.ev{fb:Nat}{g g':G}{w w':World}{df df0:List Deferred}{rs:List Nat}(h:Marks fb g w df df0 rs)(he:Ev g w g' w'):Marks fb g' w' df df0 rs :=
 ⟨h.eq,h.nodup,λr hr=>(h.all r hr).ev he⟩
structure At(CR:eJ)(base:Nat)(V:List Nat)(g0:G)(w0:World)(n:Nat)(b:Frame)(g:G)(w:World)(B:Nat->Nat)(e:Env)(J:SK)(a:Act):Prop where
 fr:Fr w0.heap.size V g w B e a.tmps
 ev:Ev g0 w0 g w
 inv:Inv CR base g J w
 low:pV J
 pos:0<J.length
 size:a.tmps.size=n
 marks:∃rs,Marks w0.heap.size g w a.defers b.defers rs
 round:b.roundOf=none\/∃r l i,b.roundOf=some r/\g.loc l i=some (.lp r)
theorem Loc.NB{L:Loc}{r:Nat}(h:Loc.le (.lp r) L):L=.lp r:=h
theorem uy{b:Frame}{g g':G}(h:b.roundOf=none\/∃r l i,b.roundOf=some r/\g.loc l i=some (.lp r))(hle:g.le g'):
  b.roundOf=none\/∃r l i,b.roundOf=some r/\g'.loc l i=some (.lp r):=by
 rcases h with h | ⟨r,l,i,h1,h2⟩
 .exact .inl h
 .obtain⟨L,h3,h4⟩:=hle.loc l i _ h2;rw[Loc.NB h4]at h3;exact .inr ⟨r,l,i,h1,h3⟩
theorem G9.imp{g g':G}{B B':Nat->Nat}{e e':Env}{d:D}{c:Value}(h:∀d c,ch g B e d c->ch g' B' e' d c)(h0:G9 g B e d c):G9 g' B' e' d c:=by
 cases d<;>simp only[G9]at h0 ⊢ <;> exact h _ _ h0
section put
variable {fb:Nat} {V:List Nat} {g g':G} {w w':World} {B:Nat->Nat} {e:Env} {tmps:Array Value}
theorem Ja{dst:Option Nat}{d:D}{t:Nat}:get (put dst d e) t=if dst=some t then d else get e t:=by
 cases dst with
 |none=>simp[put]
 |some t'=>simp[put,get]
theorem Dn{dst:Option Nat}{c:Value}{df:List Deferred}{t:Nat}(h:∀d,dst=some d->d<tmps.size):
  ((Act.mk tmps df).put dst c).tmps.getD t Go.undef=if dst=some t then c else tmps.getD t Go.undef:=by
 cases dst with
 |none=>simp[Act.put]
 |some d =>
  have:=h d rfl;simp only[Act.put,ad,bU];split
  .rename_i hd;subst hd;simp[this]
  .rename_i hd;rw[Array.getElem?_setIfInBounds_ne hd]
theorem Fr.put(hf:Fr fb V g w B e tmps){dst:Option Nat}{d:D}{c:Value}{df:List Deferred}(hr:ch g B e d c)(hV:∀t,dst=some t->t ∉ V)(hn:∀t,dst=some t->t<tmps.size):
  Fr fb V g w B (put dst d e) ((Act.mk tmps df).put dst c).tmps:=by
 have hown:∀t s cs,get (az.put dst d e) t=.own s cs->get e t=.own s cs/\dst≠some t:=by
  intro t s cs h;rw[Ja]at h;split at h
  .subst h;exact hr.elim
  .exact⟨h,by assumption⟩
 have hkeep:∀x s cs,get e x=.own s cs->get (az.put dst d e) x=.own s cs:=by
  intro x s cs h;rw[Ja,if_neg]
  .exact h
  .intro hx;exact hV x hx (hf.own x s cs h).1
 have hT:∀d0 c0,ch g B e d0 c0->ch g B (az.put dst d e) d0 c0:=by
  intro d0 c0 h0;cases d0<;>first | exact h0 | skip
  rename_i x s off;obtain⟨s',cs,b,o,e1,e2⟩:=h0;exact⟨s',cs,b,o,hkeep _ _ _ e1,e2⟩
 refine⟨λt=>?_,λt s cs h=>?_,λt t' s s' cs cs' h h'=>?_⟩
 .rw[Ja,Dn hn];split
  .have:=hT _ _ hr;cases d<;>first | exact this | exact this.elim
  .exact(hf.rel t).imp hT
 .obtain⟨h1,h2⟩:=hown t s cs h;rw[Dn hn,if_neg h2];exact hf.own t s cs h1
 .exact hf.inj t t' s s' cs cs' (hown _ _ _ h).1 (hown _ _ _ h').1
theorem Fr.RW(hf:Fr fb V g w B e tmps){v:Nat}{d:D}(hr:ch g B e d (tmps.getD v Go.undef))(h0:∀s cs,get e v ≠ .own s cs):
  Fr fb V g w B ((v,d)::e) tmps:=by
 have hg:∀t,get ((v,d)::e) t=if v=t then d else get e t:=λt=>rfl
 have hown:∀t s cs,get ((v,d)::e) t=.own s cs->get e t=.own s cs:=by
  intro t s cs h;rw[hg]at h;split at h
  .subst h;exact hr.elim
  .exact h
 have hkeep:∀x s cs,get e x=.own s cs->get ((v,d)::e) x=.own s cs:=by
  intro x s cs h;rw[hg,if_neg]
  .exact h
  .intro hx;subst hx;exact h0 _ _ h
 have hT:∀d0 c0,ch g B e d0 c0->ch g B ((v,d)::e) d0 c0:=by
  intro d0 c0 h0;cases d0<;>first | exact h0 | skip
  rename_i x s off;obtain⟨s',cs,b,o,e1,e2⟩:=h0;exact⟨s',cs,b,o,hkeep _ _ _ e1,e2⟩
 refine⟨λt=>?_,λt s cs h=>hf.own t s cs (hown t s cs h),λt t' s s' cs cs' h h'=>hf.inj t t' s s' cs cs' (hown _ _ _ h) (hown _ _ _ h')⟩;rw[hg];split
 .rename_i hv;subst hv;have:=hT _ _ hr;cases d<;>first | exact this | exact this.elim
 .exact(hf.rel t).imp hT
theorem Fr.Xe(hf:Fr fb V g w B e tmps){v:Nat}{cs:List D}{df:List Deferred}(hV:v∈V)(hn:v<tmps.size){b:Nat}
  (hob:G8 fb g w b cs) (hnew:∀t s cs,get e t=.own s cs->B t≠b):
  Fr fb V g w (λt=>if t=v then b else B t) ((v,.own (tT e v) cs)::e) ((Act.mk tmps df).put (some v) (.pointer (some ⟨b,0,none⟩))).tmps:=by
 have hg:∀t,get ((v,D.own (tT e v) cs)::e) t=if v=t then .own (tT e v) cs else get e t:=λt=>rfl
 refine⟨λt=>?_,λt s cs' h=>?_,λt t' s s' cs1 cs2 h h' hB=>?_⟩
 .rw[hg,Dn (by simpa using hn)];by_cases hv:v=t
  .subst hv;simp[G9]
  .rw[if_neg hv,if_neg (by simpa using hv)];have h0:=hf.rel t;cases hd:get e t<;>rw[hd]at h0<;>first | trivial | exact h0 | skip
   rename_i x s off;obtain⟨s',cs',b',o,e1,e2,e3,e4⟩:=h0;by_cases hx:v=x
   .subst hx;refine⟨_,_,b',o,by rw[hg,if_pos rfl],?_,e3,λhs=>?_⟩
    .simp only[tT,e1];omega
    .simp only[tT,e1]at hs;omega
   .exact⟨s',cs',b',o,by rw[hg,if_neg hx];exact e1,e2,e3,λhs=>by show b'=(if x=v then b else B x)/\_;rw[if_neg (by omega)];exact e4 hs⟩
 .rw[hg]at h;rw[Dn (by simpa using hn)];by_cases hv:v=t
  .subst hv;rw[if_pos rfl]at h;cases h;exact⟨hV,by simp,by simpa using hob⟩
  .rw[if_neg hv]at h;rw[if_neg (by simpa using hv),if_neg (by omega)];exact hf.own t s cs' h
 .rw[hg]at h h'
  replace hB:(if t=v then b else B t)=(if t'=v then b else B t'):=hB
  by_cases hv:v=t
  .by_cases hv':v=t'
   .omega
   .rw[if_neg hv']at h';rw[if_pos hv.symm,if_neg (by omega)]at hB;exact absurd hB.symm (hnew t' _ _ h')
  .rw[if_neg hv]at h;by_cases hv':v=t'
   .rw[if_neg (by omega),if_pos hv'.symm]at hB;exact absurd hB (hnew t _ _ h)
   .rw[if_neg hv']at h';rw[if_neg (by omega),if_neg (by omega)]at hB;exact hf.inj _ _ _ _ _ _ h h' hB
theorem Fr.rq(hf:Fr fb V g w B e tmps){v x s off:Nat}{cs:List D}(hin:rq e v x=some (s,cs,off)):
  get e v=.own s cs/\tmps.getD x Go.undef=.pointer (some ⟨B v,off,none⟩):=by
 unfold az.rq at hin;split at hin
 .rename_i s' cs' hg;obtain⟨_,hp,_⟩:=hf.own v s' cs' hg;split at hin
  .rename_i hxv;subst hxv;cases hin;exact⟨hg,hp⟩
  .split at hin
   .rename_i x' s2 off2 hg2;split at hin
    .rename_i hc;obtain⟨rfl,rfl⟩:=hc;cases hin;have:=hf.rel x;rw[hg2]at this;obtain⟨s3,cs3,b3,o3,e1,_,e2,e3⟩:=this;rw[hg]at e1;cases e1;obtain⟨rfl,rfl⟩:=e3 rfl;exact⟨hg,e2⟩
    .cases hin
   .cases hin
 .cases hin
theorem Fr.My(hf:Fr fb V g w B e tmps){v s:Nat}{cs cs':List D}(hv:get e v=.own s cs)
  (hob:G8 fb g w' (B v) cs') (hoth:∀b,b<w.heap.size->b≠B v->w'.heap[b]?=w.heap[b]?):
  Fr fb V g w' B ((v,.own s cs')::e) tmps:=by
 have hg:∀t,get ((v,D.own s cs')::e) t=if v=t then .own s cs' else get e t:=λt=>rfl
 refine⟨λt=>?_,λt s1 cs1 h=>?_,λt t' s1 s2 cs1 cs2 h h' hB=>?_⟩
 .rw[hg];by_cases hvt:v=t
  .subst hvt;simp[G9]
  .rw[if_neg hvt];have h0:=hf.rel t;cases hd:get e t<;>rw[hd]at h0<;>first | trivial | exact h0 | skip
   rename_i x s1 off;obtain⟨s2,cs2,b2,o2,e1,e2,e3,e4⟩:=h0;by_cases hx:v=x
   .subst hx;rw[hv]at e1;cases e1;exact⟨s,cs',b2,o2,by rw[hg,if_pos rfl],e2,e3,e4⟩
   .exact⟨s2,cs2,b2,o2,by rw[hg,if_neg hx];exact e1,e2,e3,e4⟩
 .rw[hg]at h;by_cases hvt:v=t
  .subst hvt;rw[if_pos rfl]at h;cases h;obtain⟨h1,h2,h3⟩:=hf.own v s cs hv;exact⟨h1,h2,hob⟩
  .rw[if_neg hvt]at h;obtain⟨h1,h2,h3⟩:=hf.own t s1 cs1 h;refine⟨h1,h2,h3.lo,h3.free,h3.rz,?_⟩;obtain⟨c,el,hb,hr,h5⟩:=h3.cT;exact⟨c,el,(hoth _ h3.lt λhB=>hvt (hf.inj _ _ _ _ _ _ hv h hB.symm)).trans hb,hr,h5⟩
 .rw[hg]at h h';by_cases hvt:v=t
  .subst hvt;by_cases hvt':v=t'
   .exact hvt'
   .rw[if_neg hvt']at h';exact hf.inj _ _ _ _ _ _ hv h' hB
  .rw[if_neg hvt]at h;by_cases hvt':v=t'
   .subst hvt';exact hf.inj _ _ _ _ _ _ h hv hB
   .rw[if_neg hvt']at h';exact hf.inj _ _ _ _ _ _ h h' hB
end put
theorem Inv.Fw{CR:eJ}{base:Nat}{g:G}{J:SK}{w w':World}(hi:Inv CR base g J w)
  (hk:∀b,b<w.heap.size->(g.has b\/∃o v,g.oc b o=some v)->w'.heap[b]?=w.heap[b]?) (hs:w.heap.size<=w'.heap.size):Inv CR base g J w' where
 ge:=iB hi.ge hs
 vQ l i L e:=let ⟨b,hb,hr⟩:=hi.vQ l i L e;⟨b,hb,hr.mono g.le_refl λx hx=>hk x (hi.lo l i L x e hx).2 (.inl ⟨l,i,L,e,hx⟩)⟩
 oc b o v e:=let ⟨h1,h2⟩:=hi.oc b o v e;⟨(gq (hk b (hi.ir e) (.inr ⟨o,v,e⟩))).trans h1,h2⟩
 sep:=hi.sep
 inj:=hi.inj
 N8:=hi.N8
 Jb b Q h:=let ⟨⟨v,hb⟩,o,ho,hq⟩:=hi.Jb b Q h;⟨⟨v,hb⟩,o,(hk b (hi.ir hb) (.inr ⟨0,v,hb⟩)).trans ho,hq⟩
 lo l i L b e eb:=⟨(hi.lo l i L b e eb).1,Nat.lt_of_lt_of_le (hi.lo l i L b e eb).2 hs⟩
theorem Inv.alloc{CR:eJ}{base:Nat}{g:G}{J:SK}{w:World}(hi:Inv CR base g J w)(o:Obj):Inv CR base g J (w.alloc o) :=
 hi.Fw (λb hb _=>alloc_old hb) (by simp)
theorem Ev.alloc(g:G)(w:World)(o:Obj):Ev g w g (w.alloc o) :=
 ⟨g.le_refl,rfl,rfl,rfl,by simp,λb hb _=>alloc_old hb,λ_ h => .inl h,λ_ _ _ h => .inl h⟩
end Go.az
