import Derived.Test.YtklfdfnoebnciaaGreatDoorBase2
import Derived.Laws.Entries
set_option linter.all false
namespace Go.az
open Go
structure G8(base:Nat)(g:G)(w:World)(b:Nat)(cs:List D):Prop where
 lo:base<=b
 free:¬g.has b
 rz:∀o,g.oc b o=none
 cT:∃(c:Array Value) (el:TypeId),w.heap[b]?=some (.cells c el (0,0))/\bA g cs c.toList/\∀x∈c.toList,x.oneCell'=true
theorem G8.lt{base:Nat}{g:G}{w:World}{b:Nat}{cs:List D}(h:G8 base g w b cs):b<w.heap.size:=by
 obtain⟨c,el,hb,_⟩:=h.cT;exact(dR.1 hb).1
theorem G8.ev{base:Nat}{g g':G}{w w':World}{b:Nat}{cs:List D}(h:G8 base g w b cs)(he:Ev g w g' w'):G8 base g' w' b cs where
 lo:=h.lo
 free:=λhb=>by
  rcases he.PC b hb with h1 | h1
  .exact h.free h1
  .have:=h.lt;omega
 rz o:=by
  cases e:g'.oc b o with
  |none=>rfl
  |some v =>
   rcases he.Ht b o v e with h1 | h1 | h1
   .rw[h.rz o]at h1;cases h1
   .exact absurd h1 h.free
   .have:=h.lt;omega
 cT:=by
  obtain⟨c,el,hb,hr,h1⟩:=h.cT;exact⟨c,el,(he.kept b h.lt h.free).trans hb,hr.mono he.le,h1⟩
def ch(g:G)(B:Nat->Nat)(e:Env):D->Value->Prop
 |.own ..,_=>False
 |.vr x s off,c=>∃s' cs b o,get e x=.own s' cs/\s<=s'/\c=.pointer (some ⟨b,o,none⟩)/\(s=s'->b=B x/\o=off)
 |.emp,c=>∃a,c=.slice a 0 0
 |d,c=>bB g d c
def G9(g:G)(B:Nat->Nat)(e:Env):D->Value->Prop
 |.own ..,_=>True
 |d,c=>ch g B e d c
structure Fr(base:Nat)(V:List Nat)(g:G)(w:World)(B:Nat->Nat)(e:Env)(tmps:Array Value):Prop where
 rel:∀t,G9 g B e (get e t) (tmps.getD t Go.undef)
 own:∀t s cs,get e t=.own s cs->t∈V/\tmps.getD t Go.undef=.pointer (some ⟨B t,0,none⟩)/\G8 base g w (B t) cs
 inj:∀t t' s s' cs cs',get e t=.own s cs->get e t'=.own s' cs'->B t=B t'->t=t'
theorem ch.ev{g g':G}(h:g.le g'){B:Nat->Nat}{e:Env}{d:D}{c:Value}(hr:ch g B e d c):ch g' B e d c:=by
 cases d<;>first | exact hr | exact bB.mono h hr
theorem G9.ev{g g':G}(h:g.le g'){B:Nat->Nat}{e:Env}{d:D}{c:Value}(hr:G9 g B e d c):G9 g' B e d c:=by
 cases d<;>first | exact hr | exact(bB.mono h (by exact hr):bB g' _ c)
theorem Fr.ev{base:Nat}{V:List Nat}{g g':G}{w w':World}{B:Nat->Nat}{e:Env}{tmps:Array Value}(h:Fr base V g w B e tmps)(he:Ev g w g' w'):Fr base V g' w' B e tmps where
 rel t:=(h.rel t).ev he.le
 own t s cs e1:=let ⟨h1,h2,h3⟩:=h.own t s cs e1;⟨h1,h2,h3.ev he⟩
 inj:=h.inj
section
variable {base fb:Nat} {V:List Nat} {g:G} {w:World} {B:Nat->Nat} {e:Env} {tmps:Array Value} {df:List Deferred}
theorem Fr.strip(h:Fr base V g w B e tmps)(t:Nat):bB g (get e t).strip (tmps.getD t Go.undef):=by
 have:=h.rel t;cases hd:get e t<;>rw[hd]at this<;>simp only[D.strip]<;>first | exact this | exact .undef _
theorem Fr.ba(h:Fr base V g w B e tmps){x:Operand}{X:bD}(hx:bC x=some X):bB g (ba e X) ((Act.mk tmps df).eval x):=by
 cases x with
 |tmp t=>simp only[bC,ad]at hx;subst hx;exact h.strip t
 |const v =>
  simp only[bC,ab]at hx;obtain⟨d,hd,rfl⟩:=hx;exact Gk g hd
 |global n=>simp[bC]at hx
 |func f=>simp only[bC,ad]at hx;subst hx;exact .fn f [] [] #[] #[] .nil .nil
theorem Fr.W8(h:Fr base V g w B e tmps){xs:List Operand}{Xs:List bD}(hx:vF xs=some Xs):bA g (Xs.map (az.ba e)) (xs.map (Act.mk tmps df).eval):=by
 induction xs generalizing Xs with
 |nil=>simp only[vF,ad]at hx;subst hx;exact .nil
 |cons x xs ih =>
  simp only[vF]at hx;split at hx
  .rename_i y ys h1 h2;cases hx;exact .cons _ _ _ _ (h.ba h1) (ih h2)
  .cases hx
end
def W9:Next->Option Value
 |.value v=>some v
 |.skip=>some Go.undef
 |_=>none
def ep(P:Program)(CR:eJ)(base:Nat)(g:G)(w:World)(B:Nat->Nat)(e:Env)(ρ:Operand->Value)(o:Oper)(d:D)(J':SK):Prop :=
 ∃x c g' w',(execOp ρ o).run P w=.ok x w'/\W9 x=some c/\Ev g w g' w'/\Inv CR base g' J' w'/\ch g' B e d c
theorem ep.pure{P:Program}{CR:eJ}{base:Nat}{g:G}{w:World}{B:Nat->Nat}{e:Env}{ρ:Operand->Value}{o:Oper}{d:D}{J:SK}{c:Value}
  (hi:Inv CR base g J w) (h:(execOp ρ o).run P w=.ok (.value c) w) (hr:ch g B e d c):ep P CR base g w B e ρ o d J :=
 ⟨_,c,g,w,h,rfl,Ev.refl g w,hi,hr⟩
theorem ep.val{P:Program}{CR:eJ}{base:Nat}{g:G}{w:World}{B:Nat->Nat}{e:Env}{ρ:Operand->Value}{o:Oper}{d:D}{J':SK}(c:Value){g':G}{w':World}
  (h:(execOp ρ o).run P w=.ok (.value c) w') (he:Ev g w g' w') (hi:Inv CR base g' J' w') (hr:ch g' B e d c):ep P CR base g w B e ρ o d J' :=
 ⟨_,c,g',w',h,rfl,he,hi,hr⟩
theorem ch.of{g:G}{B:Nat->Nat}{e:Env}{d:D}{c:Value}(h:bB g d c):ch g B e d c:=by
 cases h<;>(simp only[ch];first | (constructor<;>assumption) | (exact .Oz _ _ _ _ (by assumption) (by assumption)))
section inv
variable {g:G}
theorem bB.dQ{k:IntKind}{n:Int}{c:Value}(h:bB g (.int k n) c):c=.int k n:=by cases h;rfl
theorem bB.od{b:Bool}{c:Value}(h:bB g (.bool b) c):c=.bool b:=by cases h;rfl
theorem AN{d:D}{n:Int}{c:Value}(h:bB g d c)(hn:Ds d=some n):∃k,c=.int k n:=by
 unfold Ds at hn;split at hn
 .cases hn;exact⟨_,h.dQ⟩
 .cases hn
end inv
section ops
variable {P:Program} {CR:eJ} {base fb:Nat} {V:List Nat} {g:G} {J J':SK} {w:World} {B:Nat->Nat} {e:Env} {tmps:Array Value} {df:List Deferred}
 {a:tW} {ops:Array Oper} {key:Nat} {k:K} {d:D} {dst:Option Tmp} {ty:TypeId} {pos:String} {after:Array Edge} {CE:Option (Nat×Bool)}
theorem Mw(hf:Fr fb V g w B e tmps)(hi:Inv CR base g J w){x:Operand}{X:bD}(hx:bC x=some X)(h:bG e J (.mv X)=some (d,J'))(o:Oper)(ho:o.op=.move x\/o.op=.assign x):
  ep P CR base g w B e (Act.mk tmps df).eval o d J':=by
 simp only[bG,ad,aj]at h;obtain⟨rfl,rfl⟩:=h;refine .pure hi (c:=(Act.mk tmps df).eval x) ?_ (ch.of (hf.ba hx));rcases ho with ho | ho<;>simp[execOp,ho]
theorem XU(hi:Inv CR base g J w){n:Nat}(h:bG e J (.GJ n)=some (d,J'))(o:Oper)(ho:o.op=.assign (.const (.slice none 0 0))):
  ep P CR base g w B e (Act.mk tmps df).eval o d J':=by
 simp only[bG,aM]at h;cases hn:fJ J (.cells 0 [])with
 |none=>simp[hn]at h
 |some x =>
  obtain⟨l,i,J1⟩:=x;simp only[hn,Option.bind_some,ad,aj]at h;obtain⟨rfl,rfl⟩:=h;obtain⟨h1,h2⟩:=hi.NI hn;refine .val (.slice none 0 0) (by simp[execOp,ho,Act.eval]) h2 h1 ?_;exact .sl l i 0 0 0 n none 0 (.oG 0) G.aE (aH _) (by omega) (λ_=>rfl) (λ_ hh=>by cases hh) (λ_ _ _ hh=>by cases hh) (λ_=>rfl)
theorem XV(hf:Fr fb V g w B e tmps)(hi:Inv CR base g J w){c x y:Operand}{C X Y:bD}(hc:bC c=some C)(hx:bC x=some X)(hy:bC y=some Y)
  (h:bG e J (.pick C X Y)=some (d,J')) (o:Oper) (ho:o.op=.pick c x y):ep P CR base g w B e (Act.mk tmps df).eval o d J':=by
 simp only[bG]at h;split at h
 .rename_i t ht;simp only[ad,aj]at h;obtain⟨rfl,rfl⟩:=h;have h1:=hf.ba (df:=df) hc;rw[ht]at h1;have h2:=h1.od;cases t
  .exact .pure hi (c:=(Act.mk tmps df).eval y) (by simp[execOp,ho,h2,asBool]) (ch.of (hf.ba hy))
  .exact .pure hi (c:=(Act.mk tmps df).eval x) (by simp[execOp,ho,h2,asBool]) (ch.of (hf.ba hx))
 .cases h
theorem XK(hf:Fr fb V g w B e tmps)(hi:Inv CR base g J w){x:Operand}{X:bD}{t:TypeId}(hx:bC x=some X)(h:bG e J (.Hn X)=some (d,J'))(o:Oper)(ho:o.op=.box t x):
  ep P CR base g w B e (Act.mk tmps df).eval o d J':=by
 simp only[bG,ab]at h;obtain⟨cs,hcs,h⟩:=h;simp only[aj]at h;obtain⟨rfl,rfl⟩:=h;obtain⟨hr,h1⟩:=(hf.ba (df:=df) hx).cells hcs;obtain⟨i1,i2,i3⟩:=hi.En ((Act.mk tmps df).eval x).cells.toList ((Act.mk tmps df).eval x).cells t (λj y hy=>⟨by simpa using hy,h1 y (ai hy)⟩);refine .val (.pointer (some ⟨w.heap.size,0,none⟩)) (by simp[execOp,ho,Instr.box,newVar,newRow]) i2 i1 ?_;exact .bu cs _ _ _ i3 (hr.mono i2.le)
theorem XL(hf:Fr fb V g w B e tmps)(hi:Inv CR base g J w){x:Operand}{X:bD}{t:TypeId}(hx:bC x=some X)(h:bG e J (.Ho X)=some (d,J'))(o:Oper)(ho:o.op=.box t x):
  ep P CR base g w B e (Act.mk tmps df).eval o d J':=by
 simp only[bG,aM,af]at h;obtain⟨cs,hcs,⟨l,i,J1⟩,hn,h⟩:=h;simp only[ad,aj]at h;obtain⟨rfl,rfl⟩:=h;obtain⟨hr,h1⟩:=(hf.ba (df:=df) hx).cells hcs;obtain⟨i1,i2⟩:=hi.yN hn ((Act.mk tmps df).eval x).cells.toList ((Act.mk tmps df).eval x).cells t hr (by simp) (λj y hy=>⟨by simpa using hy,h1 y (ai hy)⟩);refine .val (.pointer (some ⟨w.heap.size,0,none⟩)) (by simp[execOp,ho,Instr.box,newVar,newRow]) i2 i1 ?_;exact .ref l i 0 0 _ _ _ G.aE (aH _) (λcT bo sz hh=>by cases hh;exact⟨rfl,rfl⟩) (by simp)
theorem Ng{g:G}{CR:eJ}{base:Nat}{J:SK}{w:World}(hi:Inv CR base g J w){d:D}{c:Value}(hr:bB g d c){cs:List D}
  (h:Eo J d=some cs):
  cs=[]\/∃b o vs,c=.pointer (some ⟨b,o,none⟩)/\Rd w b o vs/\bA g cs vs/\∀x∈vs,x.oneCell'=true:=by
 cases d with
 |bu cs' =>
  simp only[Eo,ad]at h;subst h;cases hr with
  |bu _ b o vs h1 h2 =>
   refine .inr ⟨b,o,vs,rfl,λj x e=>(hi.oc _ _ _ (h1 j x e)).1,h2,λx hx=>?_⟩;obtain⟨j,hj⟩:=fh hx;exact(hi.oc _ _ _ (h1 j x hj)).2
 |ref l i v off =>
  simp only[Eo,ab]at h;obtain⟨cs0,h0,rfl⟩:=h;cases hr with
  |ref _ _ _ _ b1 o1 L hl hv hc hnv =>
   unfold cells? at h0;split at h0
   .rename_i v' cs1 hb;split at h0
    .rename_i hv';subst hv';cases h0;obtain⟨b,hb',hrel⟩:=hi.vQ l i L hl;rw[hb]at hb';cases hb';cases L with
     |«at» cT bo ver sz =>
      obtain⟨rfl,ca,el,hheap,hsz,hlen,vs,hrl,hvs⟩:=hrel;obtain⟨rfl,rfl⟩:=hc cT bo sz rfl;refine .inr ⟨b1,bo+off,vs.drop off,rfl,?_,hrl.drop off,λx hx=>?_⟩
      .refine Rd.drop (λj x e=>?_) off;simp only[World.cell?,hheap];simpa using(hvs j x e).1
      .obtain⟨j,hj⟩:=fh (da hx);exact(hvs j x hj).2
     |oG ver =>
      obtain⟨_,rfl⟩:=hrel;exact .inl (by simp)
     |dead=>exact hrel.elim
     |lp x=>exact hrel.elim
     |mp x=>exact hv.elim
     |it x=>exact hv.elim
     |ob x _=>exact hv.elim
    .cases h0
   .cases h0
 |_=>simp[Eo]at h
theorem XQ(hf:Fr fb V g w B e tmps)(hi:Inv CR base g J w){x:Operand}{X:bD}{t:TypeId}{ag:Bool}{sz:Nat}(hx:bC x=some X)
  (hag:uh P t=some ag) (hsz:cH P t=some sz) (hone:(ag || sz == 1)=true) (hpos:0<sz) (h:bG e J (.ld ag sz X)=some (d,J')) (o:Oper) (ho:o.op=.load t x):
  ep P CR base g w B e (Act.mk tmps df).eval o d J':=by
 simp only[bG]at h;split at h
 case h_2=>cases h
 rename_i cs hcs;split at h
 .rename_i hlen;rcases Ng hi (hf.ba (df:=df) hx) hcs with rfl | ⟨b,off,vs,hc,hrd,hrl,h1⟩
  .simp at hlen;omega
  .obtain⟨v,hv,hv2⟩:=AY hag hsz hone hrd (by rw[<- hrl.length];exact hlen);have hrun:(execOp (Act.mk tmps df).eval o).run P w=.ok (.value v) w:=by
    simp[execOp,ho,hc,Instr.loadAt,Instr.sureAddr,hv]
   cases ag with
   |true =>
    simp only[if_true,ad,aj]at h;obtain⟨rfl,rfl⟩:=h;simp only[if_true]at hv2;subst hv2;refine .pure hi hrun (ch.of (.agg _ _ (by simpa using hrl.take sz) λy hy=>h1 y (db (by simpa using hy))))
   |false =>
    simp only[ar,if_false]at h hv2;obtain⟨y,r,rfl,rfl⟩:=hv2;cases cs with
    |nil=>simp at hlen;omega
    |cons d0 cs =>
     simp only[ad,aj]at h;obtain⟨rfl,rfl⟩:=h;cases hrl with
     |cons _ _ _ _ ha hb=>exact .pure hi hrun (ch.of ha)
 .cases h
theorem aaP(hf:Fr fb V g w B e tmps)(hi:Inv CR base g J w){v x:Nat}{t:TypeId}{ag:Bool}{sz:Nat}
  (hag:uh P t=some ag) (hsz:cH P t=some sz) (hone:(ag || sz == 1)=true) (hpos:0<sz) (h:bG e J (.PE v ag sz x)=some (d,J')) (o:Oper) (ho:o.op=.load t (.tmp x)):
  ep P CR base g w B e (Act.mk tmps df).eval o d J':=by
 simp only[bG]at h;split at h
 .rename_i s cs off hin;have hvar:get e v=.own s cs/\tmps.getD x Go.undef=.pointer (some ⟨B v,off,none⟩):=by
   unfold rq at hin;split at hin
   .rename_i s' cs' hg;obtain⟨_,hp,_⟩:=hf.own v s' cs' hg;split at hin
    .rename_i hxv;subst hxv;cases hin;exact⟨hg,hp⟩
    .split at hin
     .rename_i x' s2 off2 hg2;split at hin
      .rename_i hc;obtain⟨rfl,rfl⟩:=hc;cases hin;have:=hf.rel x;rw[hg2]at this;obtain⟨s3,cs3,b3,o3,e1,_,e2,e3⟩:=this;rw[hg]at e1;cases e1;obtain⟨rfl,rfl⟩:=e3 rfl;exact⟨hg,e2⟩
      .cases hin
     .cases hin
   .cases hin
  obtain⟨hg,hp⟩:=hvar;obtain⟨_,_,hob⟩:=hf.own v s cs hg;obtain⟨ca,el,hheap,hrl,h1⟩:=hob.cT;have hrd:Rd w (B v) off (ca.toList.drop off):=by
   have:Rd w (B v) 0 ca.toList:=λj y ey=>by simp only[World.cell?,hheap];simpa using ey
   simpa using this.drop off
  have hrl':=hrl.drop off;split at h
  .rename_i hlen;obtain⟨u,hv,hv2⟩:=AY hag hsz hone hrd (by rw[<- hrl'.length];exact hlen);have hrun:(execOp (Act.mk tmps df).eval o).run P w=.ok (.value u) w:=by
    simp only[execOp,ho,Act.eval,hp];simp[Instr.loadAt,Instr.sureAddr,hv]
   cases ag with
   |true =>
    simp only[if_true,ad,aj]at h;obtain⟨rfl,rfl⟩:=h;simp only[if_true]at hv2;subst hv2;exact .pure hi hrun (ch.of (.agg _ _ (by simpa using hrl'.take sz) λy hy=>h1 y (da (db (by simpa using hy)))))
   |false =>
    simp only[ar,if_false]at h hv2;obtain⟨y,r,hy,rfl⟩:=hv2;rw[hy]at hrl';revert h hlen hrl';generalize cs.drop off=cs';intro hlen h hrl';cases cs' with
    |nil=>simp at hlen;omega
    |cons d0 cs' =>
     simp only[ad,aj]at h;obtain⟨rfl,rfl⟩:=h;cases hrl' with
     |cons _ _ _ _ ha hb=>exact .pure hi hrun (ch.of ha)
  .cases h
 .cases h
theorem ac5(hf:Fr fb V g w B e tmps)(hi:Inv CR base g J w){x:Operand}{X:bD}{t:TypeId}{b:UnOp}(hx:bC x=some X)(h:bG e J (.un b X)=some (d,J'))(o:Oper)(ho:o.op=.unOp b t x):
  ep P CR base g w B e (Act.mk tmps df).eval o d J':=by
 have hr:=hf.ba (df:=df) hx;simp only[bG]at h;split at h
 .rename_i b' hb;cases h;rw[hb]at hr;have hc:=hr.od;exact .pure hi (c:=.bool !b') (by simp[execOp,ho,hc,Op.unary]) (ch.of (.bool _))
 .rename_i k n hb;cases h;rw[hb]at hr;have hc:=hr.dQ;exact .pure hi (c:=.int k (k.wrap (0-n))) (by simp[execOp,ho,hc,Op.unary,Op.intArith]) (ch.of (.int _ _))
 .rename_i k n hb;cases h;rw[hb]at hr;have hc:=hr.dQ;exact .pure hi (c:=.int k (k.wrap ((BitVec.ofInt k.bits (if k.signed then -1 else k.max) ^^^ BitVec.ofInt k.bits n).toNat:Int))) (by simp[execOp,ho,hc,Op.unary,Op.intBits]) (ch.of (.int _ _))
 .cases h
theorem aaH(hf:Fr fb V g w B e tmps)(hi:Inv CR base g J w){x:Operand}{X:bD}{s t:TypeId}{k0 k:IntKind}(hx:bC x=some X)(hs:P.underlying s=some (.int k0))(ht:P.underlying t=some (.int k))
  (h:bG e J (.QN k X)=some (d,J')) (o:Oper) (ho:o.op=.convert s t x):ep P CR base g w B e (Act.mk tmps df).eval o d J':=by
 have hr:=hf.ba (df:=df) hx;simp only[bG]at h;split at h
 .rename_i k' n hb;cases h;rw[hb]at hr;have hc:=hr.dQ;exact .pure hi (c:=.int k (k.wrap n)) (by simp[execOp,ho,hc,convert,bf hs,bf ht,Conv.intToInt]) (ch.of (.int _ _))
 .cases h
theorem aaS(hf:Fr fb V g w B e tmps)(hi:Inv CR base g J w){f:FuncId}{xs ys:Array Operand}{Xs Ys:List bD}(hx:vF xs.toList=some Xs)(hy:vF ys.toList=some Ys)
  (h:bG e J (.Rz f Xs Ys)=some (d,J')) (o:Oper) (ho:o.op=.makeFunc (.func f) xs ys):ep P CR base g w B e (Act.mk tmps df).eval o d J':=by
 simp only[bG]at h;cases h;refine .pure hi (c:=.func (.func f) (xs.map (Act.mk tmps df).eval) (ys.map (Act.mk tmps df).eval)) (by simp[execOp,ho,Instr.makeFunc]) (ch.of (.fn f _ _ _ _ ?_ ?_))
 .simpa using hf.W8 (df:=df) hx
 .simpa using hf.W8 (df:=df) hy
theorem aaK(hf:Fr fb V g w B e tmps)(hi:Inv CR base g J w){x:Operand}{X:bD}{i:Nat}(hx:bC x=some X)(h:bG e J (.ext X i)=some (d,J'))(o:Oper)(ho:o.op=.extract x i):
  ep P CR base g w B e (Act.mk tmps df).eval o d J':=by
 have hr:=hf.ba (df:=df) hx;simp only[bG]at h;split at h
 .rename_i ds hb;simp only[ab]at h;obtain⟨d0,hd,h⟩:=h;cases h;rw[hb]at hr;generalize hcv:(Act.mk tmps df).eval x=cv at hr;cases hr with
  |dj _ cs hrl =>
   obtain⟨c,hc,hrc⟩:=hrl.get hd;refine .pure hi (c:=c) ?_ (ch.of hrc);have:cs[i]?=some c:=by simpa using hc
   simp[execOp,ho,hcv,Instr.extract,this]
 .cases h
theorem aaQ(hf:Fr fb V g w B e tmps)(hi:Inv CR base g J w){x:Operand}{X:bD}{t el:TypeId}{args:Array Operand}{ts:Array TypeId}{r:List Operand}{tr:List TypeId}(hx:bC x=some X)
  (ht:P.underlying t=some (.slice el)) (ha:args.toList=x::r) (hts:ts.toList=t::tr)
  (h:bG e J (.Hv X)=some (d,J')) (o:Oper) (ho:o.op=.call {callee:=.builtin .len,args,argTypes:=ts }):ep P CR base g w B e (Act.mk tmps df).eval o d J':=by
 have hr:=hf.ba (df:=df) hx;obtain rfl:args=(x::r).toArray:=by rw[<- ha]
 obtain rfl:ts=(t::tr).toArray:=by rw[<- hts]
 have key:∀(a0:Option Addr) (n c:Nat),(Act.mk tmps df).eval x=.slice a0 n c->(execOp (Act.mk tmps df).eval o).run P w=.ok (.value (.int .i64 n)) w:=by
  intro a0 n c he;simp[execOp,ho,resolve,invoke,builtin,Builtin.len_,he,bf ht,goInt]
 simp only[bG]at h;split at h
 .rename_i hb;cases h;rw[hb]at hr;generalize hcv:(Act.mk tmps df).eval x=cv at hr;cases hr;exact .pure hi (key _ _ _ hcv) (ch.of (.int _ _))
 .rename_i n cs hb;cases h;rw[hb]at hr;generalize hcv:(Act.mk tmps df).eval x=cv at hr;cases hr with
  |yp=>exact .pure hi (key _ _ _ hcv) (ch.of (.int _ _))
  |aG _ _ a0 cap vs=>exact .pure hi (key _ _ _ hcv) (ch.of (.int _ _))
 .rename_i l i v off n w' hb;cases h;rw[hb]at hr;generalize hcv:(Act.mk tmps df).eval x=cv at hr;cases hr;exact .pure hi (key _ _ _ hcv) (ch.of (.int _ _))
 .cases h
end ops
section ops
variable {P:Program} {CR:eJ} {base fb:Nat} {V:List Nat} {g:G} {J J':SK} {w:World} {B:Nat->Nat} {e:Env} {tmps:Array Value} {df:List Deferred}
 {d:D}
theorem aaB(hf:Fr fb V g w B e tmps)(hi:Inv CR base g J w){x y:Operand}{X Y:bD}{t u:TypeId}{b:BinOp}(hx:bC x=some X)(hy:bC y=some Y)
  (h:bG e J (.bin b X Y)=some (d,J')) (o:Oper) (ho:o.op=.binOp b t x y u):ep P CR base g w B e (Act.mk tmps df).eval o d J':=by
 have hr:=hf.ba (df:=df) hx;have hr':=hf.ba (df:=df) hy;simp only[bG,ab]at h;obtain⟨d0,hb,h⟩:=h;cases h;generalize hX:ba e X=dx at hr hb;generalize hY:ba e Y=dy at hr' hb;unfold u7 at hb;split at hb
 .rename_i k a k' c;have e1:=hr.dQ;have e2:=hr'.dQ;cases b<;>simp only[]at hb<;>(try split at hb)<;>first
   |(cases hb;done)
   |(rename_i hc;first | (obtain⟨rfl,hc0⟩:=hc) | (subst hc) | skip
     cases hb;refine .pure hi ?_ (ch.of (by constructor));simp[execOp,ho,e1,e2,eqGuard,binOp,Op.intArith,Op.intDiv,Op.intBits,Op.intCmp,Op.shift, *]<;>omega)
   |(rename_i hc;first | (obtain⟨rfl,hc0⟩:=hc) | (subst hc) | skip
     cases hb;refine .pure hi ?_ (ch.of (by constructor));simp[execOp,ho,e1,e2,eqGuard,binOp,Op.intArith,Op.intDiv,Op.intBits,Op.intCmp,Op.shift, *])
 .cases hb
theorem XM(hf:Fr fb V g w B e tmps)(hi:Inv CR base g J w){x:Operand}{X:bD}{s:TypeId}{fs:Array Field}{i off sz:Nat}(hx:bC x=some X)(hs:P.underlying s=some (.struct fs))
  (hfc:zq P fs i=some (off,sz)) (hsz:0<sz) (h:bG e J (.Hq off X)=some (d,J')) (o:Oper) (ho:o.op=.fieldAddr s x i):ep P CR base g w B e (Act.mk tmps df).eval o d J':=by
 unfold zq at hfc;split at hfc
 case h_2=>cases hfc
 rename_i f hfi;simp only[ab,aj]at hfc;obtain⟨sz',hsz',rfl,rfl⟩:=hfc;have hrun:∀(b o':Nat),(Act.mk tmps df).eval x=.pointer (some ⟨b,o',none⟩)->(execOp (Act.mk tmps df).eval o).run P w=.ok (.value (.pointer (some ⟨b,o'+f.offset,none⟩))) w:=by
  intro b o' he;have:sz'≠0:=by omega
  simp[execOp,ho,Instr.fieldAt,bf hs,hfi,he,Instr.sureAddr,fieldPlace,run_sizeOf hsz',this,add_eq]
 simp only[bG]at h;split at h
 case h_2=>cases h
 rename_i n;cases x with
 |tmp t =>
  simp only[bC,ad,bD.t.injEq]at hx;subst hx;have hr:=hf.rel t;split at h
  .rename_i cs hg;cases h;rw[hg]at hr;generalize hcv:tmps.getD t Go.undef=cv at hr;cases hr with
   |bu _ b o' vs h1 h2 =>
    refine .pure hi (hrun b o' hcv) (ch.of (.bu _ b (o'+f.offset) (vs.drop f.offset) ?_ (h2.drop _)));intro j v hj;rw[gY]at hj;have:=h1 _ v hj;rwa[show o'+f.offset+j=o'+(f.offset+j)from by omega]
  .rename_i l j v o' hg;cases h;rw[hg]at hr;generalize hcv:tmps.getD t Go.undef=cv at hr;cases hr with
   |ref _ _ _ _ b o1 L h1 h2 h3 h4 =>
    refine .pure hi (hrun b o1 hcv) (ch.of (.ref l j v _ b _ L h1 h2 (λcT bo sz hL=>?_) h4));obtain⟨rfl,rfl⟩:=h3 cT bo sz hL;exact⟨rfl,by omega⟩
  .rename_i s' cs hg;cases h;obtain⟨_,hp,_⟩:=hf.own t s' cs hg;exact .pure hi (hrun (B t) 0 hp) ⟨s',cs,_,_,hg,aH _,rfl,λ_=>by simp⟩
  .rename_i v s' o' hg;cases h;rw[hg]at hr;obtain⟨s2,cs,b1,o1,hg2,hle,hp,hv⟩:=hr;refine .pure hi (hrun b1 o1 hp) ⟨s2,cs,_,_,hg2,hle,rfl,λhss=>?_⟩;obtain⟨rfl,rfl⟩:=hv hss;exact⟨rfl,rfl⟩
  .cases h
 |const v=>simp only[bC,ab]at hx;obtain⟨_,_,hx⟩:=hx;cases hx
 |global n=>cases hx
 |func f=>cases hx
theorem yS{g:G}{b o:Nat}{vs:List Value}(h:g.row b o vs)(n:Nat):g.row b (o+n) (vs.drop n):=λj v e=>by
 rw[gY]at e;have:=h _ v e;rwa[show o+n+j=o+(n+j)from by omega]
theorem wS{g:G}{b o:Nat}{vs:List Value}(h:g.row b o vs)(n:Nat):g.row b o (vs.take n):=λj v e=>by
 rw[dS]at e;split at e
 .exact h _ v e
 .cases e
theorem XN(hf:Fr fb V g w B e tmps)(hi:Inv CR base g J w){x y:Operand}{X Y:bD}{t el:TypeId}{n wd:Nat}(hx:bC x=some X)(hy:bC y=some Y)(ht:P.underlying t=some (.array n el))
  (hw:cH P el=some wd) (h:bG e J (.Fh n wd X Y)=some (d,J')) (o:Oper) (ho:o.op=.indexAddr t x y):ep P CR base g w B e (Act.mk tmps df).eval o d J':=by
 simp only[bG]at h;split at h
 case h_2=>cases h
 rename_i m iv hiv;obtain⟨k,hky⟩:=AN (hf.ba (df:=df) hy) hiv;split at h
 case isFalse=>cases h
 rename_i hb;have hrun:∀(b o':Nat),(Act.mk tmps df).eval x=.pointer (some ⟨b,o',none⟩)->(execOp (Act.mk tmps df).eval o).run P w=.ok (.value (.pointer (some ⟨b,o'+iv.toNat*wd,none⟩))) w:=by
  intro b o' he;simp[execOp,ho,Instr.indexAt,hky,asIntOf,he,Instr.sureAddr,bf ht,hb,run_sizeOf hw,add_eq]
 cases x with
 |tmp t' =>
  simp only[bC,ad,bD.t.injEq]at hx;subst hx;have hr:=hf.rel t';split at h
  .rename_i cs hg;cases h;rw[hg]at hr;generalize hcv:tmps.getD t' Go.undef=cv at hr;cases hr with
   |bu _ b o' vs h1 h2=>exact .pure hi (hrun b o' hcv) (ch.of (.bu _ b _ _ (wS (yS h1 _) _) ((h2.drop _).take _)))
  .rename_i l j v o' hg;cases h;rw[hg]at hr;generalize hcv:tmps.getD t' Go.undef=cv at hr;cases hr with
   |ref _ _ _ _ b o1 L h1 h2 h3 h4 =>
    refine .pure hi (hrun b o1 hcv) (ch.of (.ref l j v _ b _ L h1 h2 (λcT bo sz hL=>?_) h4));obtain⟨rfl,rfl⟩:=h3 cT bo sz hL;exact⟨rfl,by omega⟩
  .rename_i s' cs hg;cases h;obtain⟨_,hp,_⟩:=hf.own t' s' cs hg;exact .pure hi (hrun (B t') 0 hp) ⟨s',cs,_,_,hg,aH _,rfl,λ_=>by simp⟩
  .rename_i v s' o' hg;cases h;rw[hg]at hr;obtain⟨s2,cs,b1,o1,hg2,hle,hp,hv⟩:=hr;refine .pure hi (hrun b1 o1 hp) ⟨s2,cs,_,_,hg2,hle,rfl,λhss=>?_⟩;obtain⟨rfl,rfl⟩:=hv hss;exact⟨rfl,rfl⟩
  .cases h
 |const v=>simp only[bC,ab]at hx;obtain⟨_,_,hx⟩:=hx;cases hx
 |global n=>cases hx
 |func f=>cases hx
theorem XO(hf:Fr fb V g w B e tmps)(hi:Inv CR base g J w){x y:Operand}{X Y:bD}{t el:TypeId}{wd:Nat}(hx:bC x=some X)(hy:bC y=some Y)(ht:P.underlying t=some (.slice el))
  (hw:cH P el=some wd) (h:bG e J (.Fi wd X Y)=some (d,J')) (o:Oper) (ho:o.op=.indexAddr t x y):ep P CR base g w B e (Act.mk tmps df).eval o d J':=by
 have hr:=hf.ba (df:=df) hx;have hrun:∀(a:Addr) (n c:Nat) (iv:Int) (k:IntKind),(Act.mk tmps df).eval y=.int k iv->(Act.mk tmps df).eval x=.slice (some a) n c->a.spot=none->0<=iv/\iv<n ->
   (execOp (Act.mk tmps df).eval o).run P w=.ok (.value (.pointer (some ⟨a.block,a.off+iv.toNat*wd,none⟩))) w:=by
  intro a n c iv k hy he hs hb;obtain⟨b,o',sp⟩:=a;simp only at hs;subst hs;simp[execOp,ho,Instr.indexAt,hy,asIntOf,he,bf ht,hb,run_sizeOf hw,add_eq]
 simp only[bG]at h;split at h
 .rename_i m cs iv hX hiv;obtain⟨k,hky⟩:=AN (hf.ba (df:=df) hy) hiv;split at h
  case isFalse=>cases h
  rename_i hb;cases h;rw[hX]at hr;generalize hcv:(Act.mk tmps df).eval x=cv at hr;cases hr with
  |yp=>omega
  |aG _ _ a cap vs h1 h2 h3 h4 =>
   exact .pure hi (hrun _ _ _ _ _ hky hcv (h3 (by omega)) hb) (ch.of (.bu _ _ _ _ (wS (yS h2 _) _) ((h4.drop _).take _)))
 .rename_i l j v off m w' iv hX hiv;obtain⟨k,hky⟩:=AN (hf.ba (df:=df) hy) hiv;split at h
  case isFalse=>cases h
  rename_i hb;obtain⟨hb1,hb2,rfl⟩:=hb;cases h;rw[hX]at hr;generalize hcv:(Act.mk tmps df).eval x=cv at hr;cases hr with
  |sl _ _ _ _ _ _ a cap L h1 h2 h3 h4 h5 h6 h7 =>
   cases a with
   |none=>have:=h4 rfl;omega
   |some a =>
    have hsp:=h5 a rfl (by omega);refine .pure hi (hrun _ _ _ _ _ hky hcv hsp ⟨hb1,hb2⟩) (ch.of (.ref l j v _ _ _ L h1 h2 (λcT bo sz hL=>?_) (λhL=>by cases h7 hL)));rcases h6 cT bo sz hL with⟨h8,_⟩ | h8
    .cases h8;exact⟨rfl,by simp only[];omega⟩
    .omega
 .cases h
theorem DC{t:TypeId}{ag:Bool}{sz:Nat}{cs:Array Value}{off:Nat}(hag:uh P t=some ag)(hsz:cH P t=some sz){ds:List D}(hr:bA g ds cs.toList)(h1:∀x∈cs.toList,x.oneCell'=true)
  (hlen:off+sz<=ds.length) (hd:(if ag then some (.agg ((ds.drop off).take sz))else ds[off]?)=some d):∃c,(part t cs off).run P w=.ok c w/\bB g d c:=by
 cases ag with
 |true =>
  simp only[if_true,ad]at hd;subst hd;refine⟨.agg (cs.extract off (off+sz)),by simp[part,By hag,run_sizeOf hsz],.agg _ _ ?_ ?_⟩
  .have:(cs.extract off (off+sz)).toList=(cs.toList.drop off).take sz:=by simp[List.drop_take]
   rw[this];exact(hr.drop off).take sz
  .intro x hx;have:(cs.extract off (off+sz)).toList=(cs.toList.drop off).take sz:=by simp[List.drop_take]
   rw[this]at hx;exact h1 x (da (db hx))
 |false =>
  simp only[ar,if_false]at hd;obtain⟨c,hc,hrc⟩:=hr.get hd;have:cs[off]?=some c:=by simpa using hc
  exact⟨c,by simp[part,By hag,this],hrc⟩
theorem aaL(hf:Fr fb V g w B e tmps)(hi:Inv CR base g J w){x:Operand}{X:bD}{s:TypeId}{fs:Array Field}{f:Field}{i:Nat}{ag:Bool}{sz:Nat}(hx:bC x=some X)
  (hs:P.underlying s=some (.struct fs)) (hfi:fs[i]?=some f) (hag:uh P f.type=some ag) (hsz:cH P f.type=some sz)
  (h:bG e J (.Yr ag f.offset sz X)=some (d,J')) (o:Oper) (ho:o.op=.field s x i):ep P CR base g w B e (Act.mk tmps df).eval o d J':=by
 have hr:=hf.ba (df:=df) hx;simp only[bG]at h;split at h
 .rename_i cs hX;rw[hX]at hr;generalize hcv:(Act.mk tmps df).eval x=cv at hr;cases hr with
  |agg _ ca hrl h1 =>
   split at h
   case isFalse=>cases h
   rename_i hlen;have h2:(if ag then some (.agg ((cs.drop f.offset).take sz))else cs[f.offset]?)=some d/\J=J':=by
    cases ag with
    |true=>simp_all
    |false =>
     simp only[ar,if_false,ab,aj]at h;obtain⟨a,h3,rfl,rfl⟩:=h;exact⟨h3,rfl⟩
   obtain⟨h2,rfl⟩:=h2;obtain⟨c,hrun,hrc⟩:=DC (P:=P) (w:=w) hag hsz hrl h1 hlen h2;exact .pure hi (c:=c) (by simp[execOp,ho,Instr.field,bf hs,hfi,hcv,asAgg,hrun]) (ch.of hrc)
 .cases h
theorem XP(hf:Fr fb V g w B e tmps)(hi:Inv CR base g J w){x y:Operand}{X Y:bD}{t el:TypeId}{n wd:Nat}{ag:Bool}(hx:bC x=some X)(hy:bC y=some Y)
  (ht:P.underlying t=some (.array n el)) (hag:uh P el=some ag) (hsz:cH P el=some wd)
  (h:bG e J (.Je ag n wd X Y)=some (d,J')) (o:Oper) (ho:o.op=.index t x y):ep P CR base g w B e (Act.mk tmps df).eval o d J':=by
 have hr:=hf.ba (df:=df) hx;simp only[bG]at h;split at h
 .rename_i cs iv hX hiv;obtain⟨k,hky⟩:=AN (hf.ba (df:=df) hy) hiv;rw[hX]at hr;generalize hcv:(Act.mk tmps df).eval x=cv at hr;cases hr with
  |agg _ ca hrl h1 =>
   split at h
   case isFalse=>cases h
   rename_i hb;have h2:(if ag then some (.agg ((cs.drop (iv.toNat*wd)).take wd))else cs[iv.toNat*wd]?)=some d/\J=J':=by
    cases ag with
    |true=>simp_all
    |false =>
     simp only[ar,if_false,ab,aj]at h;obtain⟨a,h3,rfl,rfl⟩:=h;exact⟨h3,rfl⟩
   obtain⟨h2,rfl⟩:=h2;obtain⟨c,hrun,hrc⟩:=DC (P:=P) (w:=w) hag hsz hrl h1 (by have:=hb.2.2;rw[iG]at this;omega) h2;exact .pure hi (c:=c) (by simp[execOp,ho,Instr.index,bf ht,hky,asIntOf,hcv,hb.1,hb.2.1,run_sizeOf hsz,hrun]) (ch.of hrc)
 .cases h
theorem Se(hi:Inv CR base g J w){n:Nat}{args:Array Operand}{ts:Array TypeId}{x:Operand}{r:List Operand}{t:TypeId}{tr:List TypeId}{ρ:Operand->Value}
  (ht:(∃el,P.underlying t=some (.array n el))\/∃u el,P.underlying t=some (.pointer u)/\P.underlying u=some (.array n el)) (ha:args.toList=x::r) (hts:ts.toList=t::tr)
  (h:bG e J (.Mf n)=some (d,J')) (o:Oper) (ho:o.op=.call {callee:=.builtin .len,args,argTypes:=ts }):ep P CR base g w B e ρ o d J':=by
 simp only[bG]at h;cases h;obtain rfl:args=(x::r).toArray:=by rw[<- ha]
 obtain rfl:ts=(t::tr).toArray:=by rw[<- hts]
 refine .pure hi (c:=.int .i64 n) ?_ (ch.of (.int _ _));rcases ht with⟨el,ht⟩ | ⟨u,el,ht,hu⟩
 .simp[execOp,ho,resolve,invoke,builtin,Builtin.len_,bf ht,goInt]
 .simp[execOp,ho,resolve,invoke,builtin,Builtin.len_,bf ht,bf hu,goInt]
theorem ac3(hf:Fr fb V g w B e tmps)(hi:Inv CR base g J w){x y:Operand}{X Y:bD}{args:Array Operand}{ts:Array TypeId}(hx:bC x=some X)(hy:bC y=some Y)(ha:args.toList=[x,y])
  (h:bG e J (.mn X Y)=some (d,J')) (o:Oper) (ho:o.op=.call {callee:=.builtin .min,args,argTypes:=ts }):ep P CR base g w B e (Act.mk tmps df).eval o d J':=by
 have hr:=hf.ba (df:=df) hx;have hr':=hf.ba (df:=df) hy;obtain rfl:args = #[x,y]:=by rw[<- fe,ha]
 simp only[bG]at h;split at h
 .rename_i k a k' b hX hY;cases h;rw[hX]at hr;rw[hY]at hr';have e1:=hr.dQ;have e2:=hr'.dQ;refine .pure hi (c:=.int k (min a b)) ?_ (ch.of (.int _ _));simp[execOp,ho,resolve,invoke,builtin,Builtin.min_,Builtin.min2,e1,e2];omega
 .cases h
theorem ac4(hf:Fr fb V g w B e tmps)(hi:Inv CR base g J w){x y:Operand}{X Y:bD}{args:Array Operand}{ts:Array TypeId}(hx:bC x=some X)(hy:bC y=some Y)(ha:args.toList=[x,y])
  (h:bG e J (.mx X Y)=some (d,J')) (o:Oper) (ho:o.op=.call {callee:=.builtin .max,args,argTypes:=ts }):ep P CR base g w B e (Act.mk tmps df).eval o d J':=by
 have hr:=hf.ba (df:=df) hx;have hr':=hf.ba (df:=df) hy;obtain rfl:args = #[x,y]:=by rw[<- fe,ha]
 simp only[bG]at h;split at h
 .rename_i k a k' b hX hY;cases h;rw[hX]at hr;rw[hY]at hr';have e1:=hr.dQ;have e2:=hr'.dQ;refine .pure hi (c:=.int k (max a b)) ?_ (ch.of (.int _ _));simp[execOp,ho,resolve,invoke,builtin,Builtin.max_,Builtin.max2,e1,e2];omega
 .cases h
theorem run_sliceBound{n:Nat}{iv:Int}{k:IntKind}{code:BoundsCode}(h:0<=iv/\iv<=n):(Instr.sliceBound (.int k iv) n code).run P w=.ok iv.toNat w:=by
 simp[Instr.sliceBound,asIntOf,h]
theorem uz{isSlice:Bool}(hf:Fr fb V g w B e tmps){lo hi mx:Option Operand}{Lo Hi Mx:Option bD}(hlo:wP lo=some Lo)(hhi:wP hi=some Hi)(hmx:wP mx=some Mx){n cap l h:Nat}(hn:n<=cap)
  (hb:bounds n e Lo Hi Mx=some (l,h)):
  ∃m,(Instr.sliceBounds isSlice n cap (lo.map (Act.mk tmps df).eval) (hi.map (Act.mk tmps df).eval) (mx.map (Act.mk tmps df).eval)).run P w=.ok (l,h,m) w/\l<=h/\h<=n/\h<=m/\m<=cap:=by
 have hopt:∀{x:Option Operand} {X:Option bD},wP x=some X->(x=none/\X=none)\/∃y Y,x=some y/\X=some Y/\bC y=some Y:=by
  intro x X hx;cases x with
  |none=>simp[wP]at hx;exact .inl ⟨rfl,hx.symm⟩
  |some y=>simp only[wP,ab]at hx;obtain⟨Y,h1,rfl⟩:=hx;exact .inr ⟨y,Y,rfl,rfl,h1⟩
 simp only[bounds,af,ab]at hb;obtain⟨m,hm,h',hh,l',hl,hb⟩:=hb;cases hb;have hbnd:∀{x:Option Operand} {X:Option bD} {m:Nat} {dfl:Option Nat} {r:Nat},wP x=some X->Bi e m dfl X=some r ->
   (x=none/\X=none/\dfl=some r)\/∃(y:Operand) (k:IntKind) (iv:Int),x=some y/\X.isSome=true/\(Act.mk tmps df).eval y=.int k iv/\0<=iv/\iv<=m/\r=iv.toNat:=by
  intro x X m dfl r hx hb;rcases hopt hx with⟨rfl,rfl⟩ | ⟨y,Y,rfl,rfl,hy⟩
  .exact .inl ⟨rfl,rfl,hb⟩
  .simp only[Bi]at hb;split at hb
   .rename_i iv hiv;obtain⟨k,hk⟩:=AN (hf.ba (df:=df) hy) hiv;split at hb
    .rename_i hc;cases hb;exact .inr ⟨y,k,iv,rfl,rfl,hk,hc.1,hc.2,rfl⟩
    .cases hb
   .cases hb
 have h3:(mx=none/\Mx=none/\m=n)\/∃(y:Operand) (k:IntKind) (iv:Int),mx=some y/\Mx.isSome=true/\(Act.mk tmps df).eval y=.int k iv/\0<=iv/\iv<=n/\m=iv.toNat:=by
  rcases hbnd hmx hm with⟨a1,a2,a3⟩ | a
  .cases a3;exact .inl ⟨a1,a2,rfl⟩
  .exact .inr a
 have h2:(hi=none/\Mx.isSome=false/\h=n)\/∃(y:Operand) (k:IntKind) (iv:Int),hi=some y/\(Act.mk tmps df).eval y=.int k iv/\0<=iv/\iv<=m/\h=iv.toNat:=by
  rcases hbnd hhi hh with⟨a1,a2,a3⟩ | ⟨y,k,iv,a1,_,a2⟩
  .split at a3
   .cases a3
   .rename_i hc;cases a3;exact .inl ⟨a1,by simpa using hc,rfl⟩
  .exact .inr ⟨y,k,iv,a1,a2⟩
 have h1:(lo=none/\l=0)\/∃(y:Operand) (k:IntKind) (iv:Int),lo=some y/\(Act.mk tmps df).eval y=.int k iv/\0<=iv/\iv<=h/\l=iv.toNat:=by
  rcases hbnd hlo hl with⟨a1,a2,a3⟩ | ⟨y,k,iv,a1,_,a2⟩
  .cases a3;exact .inl ⟨a1,rfl⟩
  .exact .inr ⟨y,k,iv,a1,a2⟩
 rcases h3 with⟨rfl,rfl,rfl⟩ | ⟨y3,k3,i3,rfl,hs3,e3,a3,b3,rfl⟩
 .refine⟨cap,?_,?_,?_,?_,aH _⟩
  .rcases h2 with⟨rfl,_,rfl⟩ | ⟨y2,k2,i2,rfl,e2,a2,b2,rfl⟩<;>rcases h1 with⟨rfl,rfl⟩ | ⟨y1,k1,i1,rfl,e1,a1,b1,rfl⟩
   .simp[Instr.sliceBounds]
   .simp[Instr.sliceBounds,e1,run_sliceBound (P:=P) (w:=w) (n:=h) (k:=k1) (iv:=i1) ⟨a1,b1⟩]
   .simp[Instr.sliceBounds,e2,run_sliceBound (P:=P) (w:=w) (n:=cap) (k:=k2) (iv:=i2) ⟨a2,by omega⟩]
   .simp[Instr.sliceBounds,e1,e2,run_sliceBound (P:=P) (w:=w) (n:=cap) (k:=k2) (iv:=i2) ⟨a2,by omega⟩,run_sliceBound (P:=P) (w:=w) (n:=i2.toNat) (k:=k1) (iv:=i1) ⟨a1,b1⟩]
  .rcases h1 with⟨_,rfl⟩ | ⟨y1,k1,i1,_,e1,a1,b1,rfl⟩<;>omega
  .rcases h2 with⟨_,_,rfl⟩ | ⟨y2,k2,i2,_,e2,a2,b2,rfl⟩<;>omega
  .rcases h2 with⟨_,_,rfl⟩ | ⟨y2,k2,i2,_,e2,a2,b2,rfl⟩<;>omega
 .rcases h2 with⟨_,h2,_⟩ | ⟨y2,k2,i2,rfl,e2,a2,b2,rfl⟩
  .rw[hs3]at h2;cases h2
  .refine⟨i3.toNat,?_,?_,by omega,by omega,by omega⟩
   .rcases h1 with⟨rfl,rfl⟩ | ⟨y1,k1,i1,rfl,e1,a1,b1,rfl⟩
    .simp[Instr.sliceBounds,e2,e3,run_sliceBound (P:=P) (w:=w) (n:=cap) (k:=k3) (iv:=i3) ⟨a3,by omega⟩,run_sliceBound (P:=P) (w:=w) (n:=i3.toNat) (k:=k2) (iv:=i2) ⟨a2,b2⟩]
    .simp[Instr.sliceBounds,e1,e2,e3,run_sliceBound (P:=P) (w:=w) (n:=cap) (k:=k3) (iv:=i3) ⟨a3,by omega⟩,run_sliceBound (P:=P) (w:=w) (n:=i3.toNat) (k:=k2) (iv:=i2) ⟨a2,b2⟩,
      run_sliceBound (P:=P) (w:=w) (n:=i2.toNat) (k:=k1) (iv:=i1) ⟨a1,b1⟩]
   .rcases h1 with⟨_,rfl⟩ | ⟨y1,k1,i1,_,e1,a1,b1,rfl⟩<;>omega
end ops
end Go.az
