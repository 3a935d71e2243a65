import Derived.Test.YtpapbbojmclkgaaGreatDoorBase2
import Derived.Laws.Entries
set_option linter.all false
namespace Go.aw
open Go
structure Ml(base:Nat)(g:G)(w:World)(b:Nat)(cs:List D):Prop where
 lo:base<=b
 free:¬g.has b
 pM:∀o,g.nB b o=none
 dR:∃(c:Array Value) (el:TypeId),w.heap[b]?=some (.cells c el (0,0))/\bS g cs c.toList/\∀x∈c.toList,x.oneCell'=true
theorem Ml.lt{base:Nat}{g:G}{w:World}{b:Nat}{cs:List D}(h:Ml base g w b cs):b<w.heap.size:=by
 obtain⟨c,el,hb,_⟩:=h.dR;exact(du.1 hb).1
theorem Ml.ev{base:Nat}{g g':G}{w w':World}{b:Nat}{cs:List D}(h:Ml base g w b cs)(he:Ev g w g' w'):Ml base g' w' b cs where
 lo:=h.lo
 free:=λhb=>by
  rcases he.WW b hb with h1 | h1
  .exact h.free h1
  .have:=h.lt;omega
 pM o:=by
  cases e:g'.nB b o with
  |none=>rfl
  |some v =>
   rcases he.Mz b o v e with h1 | h1 | h1
   .rw[h.pM o]at h1;cases h1
   .exact absurd h1 h.free
   .have:=h.lt;omega
 dR:=by
  obtain⟨c,el,hb,hr,h1⟩:=h.dR;exact⟨c,el,(he.kept b h.lt h.free).trans hb,hr.mono he.le,h1⟩
def de(g:G)(B:Nat->Nat)(e:Env):D->Value->Prop
 |.own ..,_=>False
 |.vr x s off,c=>∃s' cs b o,get e x=.own s' cs/\s<=s'/\c=.pointer (some ⟨b,o,none⟩)/\(s=s'->b=B x/\o=off)
 |.emp,c=>∃a,c=.slice a 0 0
 |d,c=>bW g d c
def Mm(g:G)(B:Nat->Nat)(e:Env):D->Value->Prop
 |.own ..,_=>True
 |d,c=>de g B e d c
structure Fr(base:Nat)(V:List Nat)(g:G)(w:World)(B:Nat->Nat)(e:Env)(tmps:Array Value):Prop where
 rel:∀t,Mm g B e (get e t) (tmps.getD t Go.undef)
 own:∀t s cs,get e t=.own s cs->t∈V/\tmps.getD t Go.undef=.pointer (some ⟨B t,0,none⟩)/\Ml base g w (B t) cs
 inj:∀t t' s s' cs cs',get e t=.own s cs->get e t'=.own s' cs'->B t=B t'->t=t'
theorem de.ev{g g':G}(h:g.le g'){B:Nat->Nat}{e:Env}{d:D}{c:Value}(hr:de g B e d c):de g' B e d c:=by
 cases d<;>first | exact hr | exact bW.mono h hr
theorem Mm.ev{g g':G}(h:g.le g'){B:Nat->Nat}{e:Env}{d:D}{c:Value}(hr:Mm g B e d c):Mm g' B e d c:=by
 cases d<;>first | exact hr | exact(bW.mono h (by exact hr):bW g' _ c)
theorem Fr.ev{base:Nat}{V:List Nat}{g g':G}{w w':World}{B:Nat->Nat}{e:Env}{tmps:Array Value}(h:Fr base V g w B e tmps)(he:Ev g w g' w'):Fr base V g' w' B e tmps where
 rel t:=(h.rel t).ev he.le
 own t s cs e1:=let ⟨h1,h2,h3⟩:=h.own t s cs e1;⟨h1,h2,h3.ev he⟩
 inj:=h.inj
section
variable {base fb:Nat} {V:List Nat} {g:G} {w:World} {B:Nat->Nat} {e:Env} {tmps:Array Value} {df:List Deferred}
theorem Fr.strip(h:Fr base V g w B e tmps)(t:Nat):bW g (get e t).strip (tmps.getD t Go.undef):=by
 have:=h.rel t;cases hd:get e t<;>rw[hd]at this<;>simp only[D.strip]<;>first | exact this | exact .undef _
theorem Fr.bG(h:Fr base V g w B e tmps){x:Operand}{X:bU}(hx:bT x=some X):bW g (bG e X) ((Act.mk tmps df).eval x):=by
 cases x with
 |tmp t=>simp only[bT,ae]at hx;subst hx;exact h.strip t
 |const v =>
  simp only[bT,ad]at hx;obtain⟨d,hd,rfl⟩:=hx;exact La g hd
 |global n=>simp[bT]at hx
 |func f=>simp only[bT,ae]at hx;subst hx;exact .fn f [] [] #[] #[] .nil .nil
theorem Fr.afO(h:Fr base V g w B e tmps){xs:List Operand}{Xs:List bU}(hx:yh xs=some Xs):bS g (Xs.map (aw.bG e)) (xs.map (Act.mk tmps df).eval):=by
 induction xs generalizing Xs with
 |nil=>simp only[yh,ae]at hx;subst hx;exact .nil
 |cons x xs ih =>
  simp only[yh]at hx;split at hx
  .rename_i y ys h1 h2;cases hx;exact .cons _ _ _ _ (h.bG h1) (ih h2)
  .cases hx
end
def afP:Next->Option Value
 |.value v=>some v
 |.skip=>some Go.undef
 |_=>none
def fx(P:Program)(CR:fw)(base:Nat)(g:G)(w:World)(B:Nat->Nat)(e:Env)(ρ:Operand->Value)(o:Oper)(d:D)(J':SK):Prop :=
 ∃x c g' w',(execOp ρ o).run P w=.ok x w'/\afP x=some c/\Ev g w g' w'/\Inv CR base g' J' w'/\de g' B e d c
theorem fx.pure{P:Program}{CR:fw}{base:Nat}{g:G}{w:World}{B:Nat->Nat}{e:Env}{ρ:Operand->Value}{o:Oper}{d:D}{J:SK}{c:Value}
  (hi:Inv CR base g J w) (h:(execOp ρ o).run P w=.ok (.value c) w) (hr:de g B e d c):fx P CR base g w B e ρ o d J :=
 ⟨_,c,g,w,h,rfl,Ev.refl g w,hi,hr⟩
theorem fx.val{P:Program}{CR:fw}{base:Nat}{g:G}{w:World}{B:Nat->Nat}{e:Env}{ρ:Operand->Value}{o:Oper}{d:D}{J':SK}(c:Value){g':G}{w':World}
  (h:(execOp ρ o).run P w=.ok (.value c) w') (he:Ev g w g' w') (hi:Inv CR base g' J' w') (hr:de g' B e d c):fx P CR base g w B e ρ o d J' :=
 ⟨_,c,g',w',h,rfl,he,hi,hr⟩
theorem de.of{g:G}{B:Nat->Nat}{e:Env}{d:D}{c:Value}(h:bW g d c):de g B e d c:=by
 cases h<;>(simp only[de];first | (constructor<;>assumption) | (exact .VR _ _ _ _ (by assumption) (by assumption)))
section inv
variable {g:G}
theorem bW.fe{k:IntKind}{n:Int}{c:Value}(h:bW g (.int k n) c):c=.int k n:=by cases h;rfl
theorem bW.nF{b:Bool}{c:Value}(h:bW g (.bool b) c):c=.bool b:=by cases h;rfl
theorem EN{d:D}{n:Int}{c:Value}(h:bW g d c)(hn:HP d=some n):∃k,c=.int k n:=by
 unfold HP at hn;split at hn
 .cases hn;exact⟨_,h.fe⟩
 .cases hn
end inv
section ops
variable {P:Program} {CR:fw} {base fb:Nat} {V:List Nat} {g:G} {J J':SK} {w:World} {B:Nat->Nat} {e:Env} {tmps:Array Value} {df:List Deferred}
 {a:sS} {ops:Array Oper} {key:Nat} {k:K} {d:D} {dst:Option Tmp} {ty:TypeId} {pos:String} {after:Array Edge} {GJ:Option (Nat×Bool)}
theorem Tg(hf:Fr fb V g w B e tmps)(hi:Inv CR base g J w){x:Operand}{X:bU}(hx:bT x=some X)(h:bY e J (.mv X)=some (d,J'))(o:Oper)(ho:o.op=.move x\/o.op=.assign x):
  fx P CR base g w B e (Act.mk tmps df).eval o d J':=by
 simp only[bY,ae,ak]at h;obtain⟨rfl,rfl⟩:=h;refine .pure hi (c:=(Act.mk tmps df).eval x) ?_ (de.of (hf.bG hx));rcases ho with ho | ho<;>simp[execOp,ho]
theorem agC(hi:Inv CR base g J w){n:Nat}(h:bY e J (.LL n)=some (d,J'))(o:Oper)(ho:o.op=.assign (.const (.slice none 0 0))):
  fx P CR base g w B e (Act.mk tmps df).eval o d J':=by
 simp only[bY,aX]at h;cases hn:fT J (.cells 0 [])with
 |none=>simp[hn]at h
 |some x =>
  obtain⟨l,i,J1⟩:=x;simp only[hn,Option.bind_some,ae,ak]at h;obtain⟨rfl,rfl⟩:=h;obtain⟨h1,h2⟩:=hi.UP hn;refine .val (.slice none 0 0) (by simp[execOp,ho,Act.eval]) h2 h1 ?_;exact .sl l i 0 0 0 n none 0 (.nP 0) G.aM (aO _) (by omega) (λ_=>rfl) (λ_ hh=>by cases hh) (λ_ _ _ hh=>by cases hh) (λ_=>rfl)
theorem agD(hf:Fr fb V g w B e tmps)(hi:Inv CR base g J w){c x y:Operand}{C X Y:bU}(hc:bT c=some C)(hx:bT x=some X)(hy:bT y=some Y)
  (h:bY e J (.pick C X Y)=some (d,J')) (o:Oper) (ho:o.op=.pick c x y):fx P CR base g w B e (Act.mk tmps df).eval o d J':=by
 simp only[bY]at h;split at h
 .rename_i t ht;simp only[ae,ak]at h;obtain⟨rfl,rfl⟩:=h;have h1:=hf.bG (df:=df) hc;rw[ht]at h1;have h2:=h1.nF;cases t
  .exact .pure hi (c:=(Act.mk tmps df).eval y) (by simp[execOp,ho,h2,asBool]) (de.of (hf.bG hy))
  .exact .pure hi (c:=(Act.mk tmps df).eval x) (by simp[execOp,ho,h2,asBool]) (de.of (hf.bG hx))
 .cases h
theorem ags(hf:Fr fb V g w B e tmps)(hi:Inv CR base g J w){x:Operand}{X:bU}{t:TypeId}(hx:bT x=some X)(h:bY e J (.Mq X)=some (d,J'))(o:Oper)(ho:o.op=.box t x):
  fx P CR base g w B e (Act.mk tmps df).eval o d J':=by
 simp only[bY,ad]at h;obtain⟨cs,hcs,h⟩:=h;simp only[ak]at h;obtain⟨rfl,rfl⟩:=h;obtain⟨hr,h1⟩:=(hf.bG (df:=df) hx).cells hcs;obtain⟨i1,i2,i3⟩:=hi.IY ((Act.mk tmps df).eval x).cells.toList ((Act.mk tmps df).eval x).cells t (λj y hy=>⟨by simpa using hy,h1 y (ah hy)⟩);refine .val (.pointer (some ⟨w.heap.size,0,none⟩)) (by simp[execOp,ho,Instr.box,newVar,newRow]) i2 i1 ?_;exact .bq cs _ _ _ i3 (hr.mono i2.le)
theorem agt(hf:Fr fb V g w B e tmps)(hi:Inv CR base g J w){x:Operand}{X:bU}{t:TypeId}(hx:bT x=some X)(h:bY e J (.Mr X)=some (d,J'))(o:Oper)(ho:o.op=.box t x):
  fx P CR base g w B e (Act.mk tmps df).eval o d J':=by
 simp only[bY,aX,aj]at h;obtain⟨cs,hcs,⟨l,i,J1⟩,hn,h⟩:=h;simp only[ae,ak]at h;obtain⟨rfl,rfl⟩:=h;obtain⟨hr,h1⟩:=(hf.bG (df:=df) hx).cells hcs;obtain⟨i1,i2⟩:=hi.CA hn ((Act.mk tmps df).eval x).cells.toList ((Act.mk tmps df).eval x).cells t hr (by simp) (λj y hy=>⟨by simpa using hy,h1 y (ah hy)⟩);refine .val (.pointer (some ⟨w.heap.size,0,none⟩)) (by simp[execOp,ho,Instr.box,newVar,newRow]) i2 i1 ?_;exact .ref l i 0 0 _ _ _ G.aM (aO _) (λdR bo sz hh=>by cases hh;exact⟨rfl,rfl⟩) (by simp)
theorem Um{g:G}{CR:fw}{base:Nat}{J:SK}{w:World}(hi:Inv CR base g J w){d:D}{c:Value}(hr:bW g d c){cs:List D}
  (h:I1 J d=some cs):
  cs=[]\/∃b o vs,c=.pointer (some ⟨b,o,none⟩)/\Rd w b o vs/\bS g cs vs/\∀x∈vs,x.oneCell'=true:=by
 cases d with
 |bq cs' =>
  simp only[I1,ae]at h;subst h;cases hr with
  |bq _ b o vs h1 h2 =>
   refine .inr ⟨b,o,vs,rfl,λj x e=>(hi.nB _ _ _ (h1 j x e)).1,h2,λx hx=>?_⟩;obtain⟨j,hj⟩:=fW hx;exact(hi.nB _ _ _ (h1 j x hj)).2
 |ref l i v off =>
  simp only[I1,ad]at h;obtain⟨cs0,h0,rfl⟩:=h;cases hr with
  |ref _ _ _ _ b1 o1 L hl hv hc hnv =>
   unfold cells? at h0;split at h0
   .rename_i v' cs1 hb;split at h0
    .rename_i hv';subst hv';cases h0;obtain⟨b,hb',hrel⟩:=hi.yr l i L hl;rw[hb]at hb';cases hb';cases L with
     |«at» dR bo ver sz =>
      obtain⟨rfl,ca,el,hheap,hsz,hlen,vs,hrl,hvs⟩:=hrel;obtain⟨rfl,rfl⟩:=hc dR bo sz rfl;refine .inr ⟨b1,bo+off,vs.drop off,rfl,?_,hrl.drop off,λx hx=>?_⟩
      .refine Rd.drop (λj x e=>?_) off;simp only[World.cell?,hheap];simpa using(hvs j x e).1
      .obtain⟨j,hj⟩:=fW (dH hx);exact(hvs j x hj).2
     |nP ver =>
      obtain⟨_,rfl⟩:=hrel;exact .inl (by simp)
     |dead=>exact hrel.elim
     |lp x=>exact hrel.elim
     |mp x=>exact hv.elim
     |it x=>exact hv.elim
     |ob x _=>exact hv.elim
    .cases h0
   .cases h0
 |_=>simp[I1]at h
theorem agy(hf:Fr fb V g w B e tmps)(hi:Inv CR base g J w){x:Operand}{X:bU}{t:TypeId}{ag:Bool}{sz:Nat}(hx:bT x=some X)
  (hag:uS P t=some ag) (hsz:dL P t=some sz) (hone:(ag || sz == 1)=true) (hpos:0<sz) (h:bY e J (.ld ag sz X)=some (d,J')) (o:Oper) (ho:o.op=.load t x):
  fx P CR base g w B e (Act.mk tmps df).eval o d J':=by
 simp only[bY]at h;split at h
 case h_2=>cases h
 rename_i cs hcs;split at h
 .rename_i hlen;rcases Um hi (hf.bG (df:=df) hx) hcs with rfl | ⟨b,off,vs,hc,hrd,hrl,h1⟩
  .simp at hlen;omega
  .obtain⟨v,hv,hv2⟩:=E5 hag hsz hone hrd (by rw[<- hrl.length];exact hlen);have hrun:(execOp (Act.mk tmps df).eval o).run P w=.ok (.value v) w:=by
    simp[execOp,ho,hc,Instr.loadAt,Instr.sureAddr,hv]
   cases ag with
   |true =>
    simp only[if_true,ae,ak]at h;obtain⟨rfl,rfl⟩:=h;simp only[if_true]at hv2;subst hv2;refine .pure hi hrun (de.of (.agg _ _ (by simpa using hrl.take sz) λy hy=>h1 y (dj (by simpa using hy))))
   |false =>
    simp only[aC,if_false]at h hv2;obtain⟨y,r,rfl,rfl⟩:=hv2;cases cs with
    |nil=>simp at hlen;omega
    |cons d0 cs =>
     simp only[ae,ak]at h;obtain⟨rfl,rfl⟩:=h;cases hrl with
     |cons _ _ _ _ ha hb=>exact .pure hi hrun (de.of ha)
 .cases h
theorem ajz(hf:Fr fb V g w B e tmps)(hi:Inv CR base g J w){v x:Nat}{t:TypeId}{ag:Bool}{sz:Nat}
  (hag:uS P t=some ag) (hsz:dL P t=some sz) (hone:(ag || sz == 1)=true) (hpos:0<sz) (h:bY e J (.WZ v ag sz x)=some (d,J')) (o:Oper) (ho:o.op=.load t (.tmp x)):
  fx P CR base g w B e (Act.mk tmps df).eval o d J':=by
 simp only[bY]at h;split at h
 .rename_i s cs off hin;have hvar:get e v=.own s cs/\tmps.getD x Go.undef=.pointer (some ⟨B v,off,none⟩):=by
   unfold pL at hin;split at hin
   .rename_i s' cs' hg;obtain⟨_,hp,_⟩:=hf.own v s' cs' hg;split at hin
    .rename_i hxv;subst hxv;cases hin;exact⟨hg,hp⟩
    .split at hin
     .rename_i x' s2 off2 hg2;split at hin
      .rename_i hc;obtain⟨rfl,rfl⟩:=hc;cases hin;have:=hf.rel x;rw[hg2]at this;obtain⟨s3,cs3,b3,o3,e1,_,e2,e3⟩:=this;rw[hg]at e1;cases e1;obtain⟨rfl,rfl⟩:=e3 rfl;exact⟨hg,e2⟩
      .cases hin
     .cases hin
   .cases hin
  obtain⟨hg,hp⟩:=hvar;obtain⟨_,_,hob⟩:=hf.own v s cs hg;obtain⟨ca,el,hheap,hrl,h1⟩:=hob.dR;have hrd:Rd w (B v) off (ca.toList.drop off):=by
   have:Rd w (B v) 0 ca.toList:=λj y ey=>by simp only[World.cell?,hheap];simpa using ey
   simpa using this.drop off
  have hrl':=hrl.drop off;split at h
  .rename_i hlen;obtain⟨u,hv,hv2⟩:=E5 hag hsz hone hrd (by rw[<- hrl'.length];exact hlen);have hrun:(execOp (Act.mk tmps df).eval o).run P w=.ok (.value u) w:=by
    simp only[execOp,ho,Act.eval,hp];simp[Instr.loadAt,Instr.sureAddr,hv]
   cases ag with
   |true =>
    simp only[if_true,ae,ak]at h;obtain⟨rfl,rfl⟩:=h;simp only[if_true]at hv2;subst hv2;exact .pure hi hrun (de.of (.agg _ _ (by simpa using hrl'.take sz) λy hy=>h1 y (dH (dj (by simpa using hy)))))
   |false =>
    simp only[aC,if_false]at h hv2;obtain⟨y,r,hy,rfl⟩:=hv2;rw[hy]at hrl';revert h hlen hrl';generalize cs.drop off=cs';intro hlen h hrl';cases cs' with
    |nil=>simp at hlen;omega
    |cons d0 cs' =>
     simp only[ae,ak]at h;obtain⟨rfl,rfl⟩:=h;cases hrl' with
     |cons _ _ _ _ ha hb=>exact .pure hi hrun (de.of ha)
  .cases h
 .cases h
theorem alY(hf:Fr fb V g w B e tmps)(hi:Inv CR base g J w){x:Operand}{X:bU}{t:TypeId}{b:UnOp}(hx:bT x=some X)(h:bY e J (.un b X)=some (d,J'))(o:Oper)(ho:o.op=.unOp b t x):
  fx P CR base g w B e (Act.mk tmps df).eval o d J':=by
 have hr:=hf.bG (df:=df) hx;simp only[bY]at h;split at h
 .rename_i b' hb;cases h;rw[hb]at hr;have hc:=hr.nF;exact .pure hi (c:=.bool !b') (by simp[execOp,ho,hc,Op.unary]) (de.of (.bool _))
 .rename_i k n hb;cases h;rw[hb]at hr;have hc:=hr.fe;exact .pure hi (c:=.int k (k.wrap (0-n))) (by simp[execOp,ho,hc,Op.unary,Op.intArith]) (de.of (.int _ _))
 .rename_i k n hb;cases h;rw[hb]at hr;have hc:=hr.fe;exact .pure hi (c:=.int k (k.wrap ((BitVec.ofInt k.bits (if k.signed then -1 else k.max) ^^^ BitVec.ofInt k.bits n).toNat:Int))) (by simp[execOp,ho,hc,Op.unary,Op.intBits]) (de.of (.int _ _))
 .cases h
theorem ajr(hf:Fr fb V g w B e tmps)(hi:Inv CR base g J w){x:Operand}{X:bU}{s t:TypeId}{k0 k:IntKind}(hx:bT x=some X)(hs:P.underlying s=some (.int k0))(ht:P.underlying t=some (.int k))
  (h:bY e J (.YI k X)=some (d,J')) (o:Oper) (ho:o.op=.convert s t x):fx P CR base g w B e (Act.mk tmps df).eval o d J':=by
 have hr:=hf.bG (df:=df) hx;simp only[bY]at h;split at h
 .rename_i k' n hb;cases h;rw[hb]at hr;have hc:=hr.fe;exact .pure hi (c:=.int k (k.wrap n)) (by simp[execOp,ho,hc,convert,bJ hs,bJ ht,Conv.intToInt]) (de.of (.int _ _))
 .cases h
theorem ajC(hf:Fr fb V g w B e tmps)(hi:Inv CR base g J w){f:FuncId}{xs ys:Array Operand}{Xs Ys:List bU}(hx:yh xs.toList=some Xs)(hy:yh ys.toList=some Ys)
  (h:bY e J (.Zp f Xs Ys)=some (d,J')) (o:Oper) (ho:o.op=.makeFunc (.func f) xs ys):fx P CR base g w B e (Act.mk tmps df).eval o d J':=by
 simp only[bY]at h;cases h;refine .pure hi (c:=.func (.func f) (xs.map (Act.mk tmps df).eval) (ys.map (Act.mk tmps df).eval)) (by simp[execOp,ho,Instr.makeFunc]) (de.of (.fn f _ _ _ _ ?_ ?_))
 .simpa using hf.afO (df:=df) hx
 .simpa using hf.afO (df:=df) hy
theorem aju(hf:Fr fb V g w B e tmps)(hi:Inv CR base g J w){x:Operand}{X:bU}{i:Nat}(hx:bT x=some X)(h:bY e J (.ext X i)=some (d,J'))(o:Oper)(ho:o.op=.extract x i):
  fx P CR base g w B e (Act.mk tmps df).eval o d J':=by
 have hr:=hf.bG (df:=df) hx;simp only[bY]at h;split at h
 .rename_i ds hb;simp only[ad]at h;obtain⟨d0,hd,h⟩:=h;cases h;rw[hb]at hr;generalize hcv:(Act.mk tmps df).eval x=cv at hr;cases hr with
  |cS _ cs hrl =>
   obtain⟨c,hc,hrc⟩:=hrl.get hd;refine .pure hi (c:=c) ?_ (de.of hrc);have:cs[i]?=some c:=by simpa using hc
   simp[execOp,ho,hcv,Instr.extract,this]
 .cases h
theorem ajA(hf:Fr fb V g w B e tmps)(hi:Inv CR base g J w){x:Operand}{X:bU}{t el:TypeId}{args:Array Operand}{ts:Array TypeId}{r:List Operand}{tr:List TypeId}(hx:bT x=some X)
  (ht:P.underlying t=some (.slice el)) (ha:args.toList=x::r) (hts:ts.toList=t::tr)
  (h:bY e J (.MB X)=some (d,J')) (o:Oper) (ho:o.op=.call {callee:=.builtin .len,args,argTypes:=ts }):fx P CR base g w B e (Act.mk tmps df).eval o d J':=by
 have hr:=hf.bG (df:=df) hx;obtain rfl:args=(x::r).toArray:=by rw[<- ha]
 obtain rfl:ts=(t::tr).toArray:=by rw[<- hts]
 have key:∀(a0:Option Addr) (n c:Nat),(Act.mk tmps df).eval x=.slice a0 n c->(execOp (Act.mk tmps df).eval o).run P w=.ok (.value (.int .i64 n)) w:=by
  intro a0 n c he;simp[execOp,ho,resolve,invoke,builtin,Builtin.len_,he,bJ ht,goInt]
 simp only[bY]at h;split at h
 .rename_i hb;cases h;rw[hb]at hr;generalize hcv:(Act.mk tmps df).eval x=cv at hr;cases hr;exact .pure hi (key _ _ _ hcv) (de.of (.int _ _))
 .rename_i n cs hb;cases h;rw[hb]at hr;generalize hcv:(Act.mk tmps df).eval x=cv at hr;cases hr with
  |Aj=>exact .pure hi (key _ _ _ hcv) (de.of (.int _ _))
  |bZ _ _ a0 cap vs=>exact .pure hi (key _ _ _ hcv) (de.of (.int _ _))
 .rename_i l i v off n w' hb;cases h;rw[hb]at hr;generalize hcv:(Act.mk tmps df).eval x=cv at hr;cases hr;exact .pure hi (key _ _ _ hcv) (de.of (.int _ _))
 .cases h
end ops
section ops
variable {P:Program} {CR:fw} {base fb:Nat} {V:List Nat} {g:G} {J J':SK} {w:World} {B:Nat->Nat} {e:Env} {tmps:Array Value} {df:List Deferred}
 {d:D}
theorem ajl(hf:Fr fb V g w B e tmps)(hi:Inv CR base g J w){x y:Operand}{X Y:bU}{t u:TypeId}{b:BinOp}(hx:bT x=some X)(hy:bT y=some Y)
  (h:bY e J (.bin b X Y)=some (d,J')) (o:Oper) (ho:o.op=.binOp b t x y u):fx P CR base g w B e (Act.mk tmps df).eval o d J':=by
 have hr:=hf.bG (df:=df) hx;have hr':=hf.bG (df:=df) hy;simp only[bY,ad]at h;obtain⟨d0,hb,h⟩:=h;cases h;generalize hX:bG e X=dx at hr hb;generalize hY:bG e Y=dy at hr' hb;unfold sU at hb;split at hb
 .rename_i k a k' c;have e1:=hr.fe;have e2:=hr'.fe;cases b<;>simp only[]at hb<;>(try split at hb)<;>first
   |(cases hb;done)
   |(rename_i hc;first | (obtain⟨rfl,hc0⟩:=hc) | (subst hc) | skip
     cases hb;refine .pure hi ?_ (de.of (by constructor));simp[execOp,ho,e1,e2,eqGuard,binOp,Op.intArith,Op.intDiv,Op.intBits,Op.intCmp,Op.shift, *]<;>omega)
   |(rename_i hc;first | (obtain⟨rfl,hc0⟩:=hc) | (subst hc) | skip
     cases hb;refine .pure hi ?_ (de.of (by constructor));simp[execOp,ho,e1,e2,eqGuard,binOp,Op.intArith,Op.intDiv,Op.intBits,Op.intCmp,Op.shift, *])
 .cases hb
theorem agu(hf:Fr fb V g w B e tmps)(hi:Inv CR base g J w){x:Operand}{X:bU}{s:TypeId}{fs:Array Field}{i off sz:Nat}(hx:bT x=some X)(hs:P.underlying s=some (.struct fs))
  (hfc:C6 P fs i=some (off,sz)) (hsz:0<sz) (h:bY e J (.Mt off X)=some (d,J')) (o:Oper) (ho:o.op=.fieldAddr s x i):fx P CR base g w B e (Act.mk tmps df).eval o d J':=by
 unfold C6 at hfc;split at hfc
 case h_2=>cases hfc
 rename_i f hfi;simp only[ad,ak]at hfc;obtain⟨sz',hsz',rfl,rfl⟩:=hfc;have hrun:∀(b o':Nat),(Act.mk tmps df).eval x=.pointer (some ⟨b,o',none⟩)->(execOp (Act.mk tmps df).eval o).run P w=.ok (.value (.pointer (some ⟨b,o'+f.offset,none⟩))) w:=by
  intro b o' he;have:sz'≠0:=by omega
  simp[execOp,ho,Instr.fieldAt,bJ hs,hfi,he,Instr.sureAddr,fieldPlace,run_sizeOf hsz',this,add_eq]
 simp only[bY]at h;split at h
 case h_2=>cases h
 rename_i n;cases x with
 |tmp t =>
  simp only[bT,ae,bU.t.injEq]at hx;subst hx;have hr:=hf.rel t;split at h
  .rename_i cs hg;cases h;rw[hg]at hr;generalize hcv:tmps.getD t Go.undef=cv at hr;cases hr with
   |bq _ b o' vs h1 h2 =>
    refine .pure hi (hrun b o' hcv) (de.of (.bq _ b (o'+f.offset) (vs.drop f.offset) ?_ (h2.drop _)));intro j v hj;rw[dN]at hj;have:=h1 _ v hj;rwa[show o'+f.offset+j=o'+(f.offset+j)from by omega]
  .rename_i l j v o' hg;cases h;rw[hg]at hr;generalize hcv:tmps.getD t Go.undef=cv at hr;cases hr with
   |ref _ _ _ _ b o1 L h1 h2 h3 h4 =>
    refine .pure hi (hrun b o1 hcv) (de.of (.ref l j v _ b _ L h1 h2 (λdR bo sz hL=>?_) h4));obtain⟨rfl,rfl⟩:=h3 dR bo sz hL;exact⟨rfl,by omega⟩
  .rename_i s' cs hg;cases h;obtain⟨_,hp,_⟩:=hf.own t s' cs hg;exact .pure hi (hrun (B t) 0 hp) ⟨s',cs,_,_,hg,aO _,rfl,λ_=>by simp⟩
  .rename_i v s' o' hg;cases h;rw[hg]at hr;obtain⟨s2,cs,b1,o1,hg2,hle,hp,hv⟩:=hr;refine .pure hi (hrun b1 o1 hp) ⟨s2,cs,_,_,hg2,hle,rfl,λhss=>?_⟩;obtain⟨rfl,rfl⟩:=hv hss;exact⟨rfl,rfl⟩
  .cases h
 |const v=>simp only[bT,ad]at hx;obtain⟨_,_,hx⟩:=hx;cases hx
 |global n=>cases hx
 |func f=>cases hx
theorem CH{g:G}{b o:Nat}{vs:List Value}(h:g.row b o vs)(n:Nat):g.row b (o+n) (vs.drop n):=λj v e=>by
 rw[dN]at e;have:=h _ v e;rwa[show o+n+j=o+(n+j)from by omega]
theorem zY{g:G}{b o:Nat}{vs:List Value}(h:g.row b o vs)(n:Nat):g.row b o (vs.take n):=λj v e=>by
 rw[dw]at e;split at e
 .exact h _ v e
 .cases e
theorem agv(hf:Fr fb V g w B e tmps)(hi:Inv CR base g J w){x y:Operand}{X Y:bU}{t el:TypeId}{n wd:Nat}(hx:bT x=some X)(hy:bT y=some Y)(ht:P.underlying t=some (.array n el))
  (hw:dL P el=some wd) (h:bY e J (.My n wd X Y)=some (d,J')) (o:Oper) (ho:o.op=.indexAddr t x y):fx P CR base g w B e (Act.mk tmps df).eval o d J':=by
 simp only[bY]at h;split at h
 case h_2=>cases h
 rename_i m iv hiv;obtain⟨k,hky⟩:=EN (hf.bG (df:=df) hy) hiv;split at h
 case isFalse=>cases h
 rename_i hb;have hrun:∀(b o':Nat),(Act.mk tmps df).eval x=.pointer (some ⟨b,o',none⟩)->(execOp (Act.mk tmps df).eval o).run P w=.ok (.value (.pointer (some ⟨b,o'+iv.toNat*wd,none⟩))) w:=by
  intro b o' he;simp[execOp,ho,Instr.indexAt,hky,asIntOf,he,Instr.sureAddr,bJ ht,hb,run_sizeOf hw,add_eq]
 cases x with
 |tmp t' =>
  simp only[bT,ae,bU.t.injEq]at hx;subst hx;have hr:=hf.rel t';split at h
  .rename_i cs hg;cases h;rw[hg]at hr;generalize hcv:tmps.getD t' Go.undef=cv at hr;cases hr with
   |bq _ b o' vs h1 h2=>exact .pure hi (hrun b o' hcv) (de.of (.bq _ b _ _ (zY (CH h1 _) _) ((h2.drop _).take _)))
  .rename_i l j v o' hg;cases h;rw[hg]at hr;generalize hcv:tmps.getD t' Go.undef=cv at hr;cases hr with
   |ref _ _ _ _ b o1 L h1 h2 h3 h4 =>
    refine .pure hi (hrun b o1 hcv) (de.of (.ref l j v _ b _ L h1 h2 (λdR bo sz hL=>?_) h4));obtain⟨rfl,rfl⟩:=h3 dR bo sz hL;exact⟨rfl,by omega⟩
  .rename_i s' cs hg;cases h;obtain⟨_,hp,_⟩:=hf.own t' s' cs hg;exact .pure hi (hrun (B t') 0 hp) ⟨s',cs,_,_,hg,aO _,rfl,λ_=>by simp⟩
  .rename_i v s' o' hg;cases h;rw[hg]at hr;obtain⟨s2,cs,b1,o1,hg2,hle,hp,hv⟩:=hr;refine .pure hi (hrun b1 o1 hp) ⟨s2,cs,_,_,hg2,hle,rfl,λhss=>?_⟩;obtain⟨rfl,rfl⟩:=hv hss;exact⟨rfl,rfl⟩
  .cases h
 |const v=>simp only[bT,ad]at hx;obtain⟨_,_,hx⟩:=hx;cases hx
 |global n=>cases hx
 |func f=>cases hx
theorem agw(hf:Fr fb V g w B e tmps)(hi:Inv CR base g J w){x y:Operand}{X Y:bU}{t el:TypeId}{wd:Nat}(hx:bT x=some X)(hy:bT y=some Y)(ht:P.underlying t=some (.slice el))
  (hw:dL P el=some wd) (h:bY e J (.IQ wd X Y)=some (d,J')) (o:Oper) (ho:o.op=.indexAddr t x y):fx P CR base g w B e (Act.mk tmps df).eval o d J':=by
 have hr:=hf.bG (df:=df) hx;have hrun:∀(a:Addr) (n c:Nat) (iv:Int) (k:IntKind),(Act.mk tmps df).eval y=.int k iv->(Act.mk tmps df).eval x=.slice (some a) n c->a.spot=none->0<=iv/\iv<n ->
   (execOp (Act.mk tmps df).eval o).run P w=.ok (.value (.pointer (some ⟨a.block,a.off+iv.toNat*wd,none⟩))) w:=by
  intro a n c iv k hy he hs hb;obtain⟨b,o',sp⟩:=a;simp only at hs;subst hs;simp[execOp,ho,Instr.indexAt,hy,asIntOf,he,bJ ht,hb,run_sizeOf hw,add_eq]
 simp only[bY]at h;split at h
 .rename_i m cs iv hX hiv;obtain⟨k,hky⟩:=EN (hf.bG (df:=df) hy) hiv;split at h
  case isFalse=>cases h
  rename_i hb;cases h;rw[hX]at hr;generalize hcv:(Act.mk tmps df).eval x=cv at hr;cases hr with
  |Aj=>omega
  |bZ _ _ a cap vs h1 h2 h3 h4 =>
   exact .pure hi (hrun _ _ _ _ _ hky hcv (h3 (by omega)) hb) (de.of (.bq _ _ _ _ (zY (CH h2 _) _) ((h4.drop _).take _)))
 .rename_i l j v off m w' iv hX hiv;obtain⟨k,hky⟩:=EN (hf.bG (df:=df) hy) hiv;split at h
  case isFalse=>cases h
  rename_i hb;obtain⟨hb1,hb2,rfl⟩:=hb;cases h;rw[hX]at hr;generalize hcv:(Act.mk tmps df).eval x=cv at hr;cases hr with
  |sl _ _ _ _ _ _ a cap L h1 h2 h3 h4 h5 h6 h7 =>
   cases a with
   |none=>have:=h4 rfl;omega
   |some a =>
    have hsp:=h5 a rfl (by omega);refine .pure hi (hrun _ _ _ _ _ hky hcv hsp ⟨hb1,hb2⟩) (de.of (.ref l j v _ _ _ L h1 h2 (λdR bo sz hL=>?_) (λhL=>by cases h7 hL)));rcases h6 dR bo sz hL with⟨h8,_⟩ | h8
    .cases h8;exact⟨rfl,by simp only[];omega⟩
    .omega
 .cases h
theorem H2{t:TypeId}{ag:Bool}{sz:Nat}{cs:Array Value}{off:Nat}(hag:uS P t=some ag)(hsz:dL P t=some sz){ds:List D}(hr:bS g ds cs.toList)(h1:∀x∈cs.toList,x.oneCell'=true)
  (hlen:off+sz<=ds.length) (hd:(if ag then some (.agg ((ds.drop off).take sz))else ds[off]?)=some d):∃c,(part t cs off).run P w=.ok c w/\bW g d c:=by
 cases ag with
 |true =>
  simp only[if_true,ae]at hd;subst hd;refine⟨.agg (cs.extract off (off+sz)),by simp[part,FC hag,run_sizeOf hsz],.agg _ _ ?_ ?_⟩
  .have:(cs.extract off (off+sz)).toList=(cs.toList.drop off).take sz:=by simp[List.drop_take]
   rw[this];exact(hr.drop off).take sz
  .intro x hx;have:(cs.extract off (off+sz)).toList=(cs.toList.drop off).take sz:=by simp[List.drop_take]
   rw[this]at hx;exact h1 x (dH (dj hx))
 |false =>
  simp only[aC,if_false]at hd;obtain⟨c,hc,hrc⟩:=hr.get hd;have:cs[off]?=some c:=by simpa using hc
  exact⟨c,by simp[part,FC hag,this],hrc⟩
theorem ajv(hf:Fr fb V g w B e tmps)(hi:Inv CR base g J w){x:Operand}{X:bU}{s:TypeId}{fs:Array Field}{f:Field}{i:Nat}{ag:Bool}{sz:Nat}(hx:bT x=some X)
  (hs:P.underlying s=some (.struct fs)) (hfi:fs[i]?=some f) (hag:uS P f.type=some ag) (hsz:dL P f.type=some sz)
  (h:bY e J (.fld ag f.offset sz X)=some (d,J')) (o:Oper) (ho:o.op=.field s x i):fx P CR base g w B e (Act.mk tmps df).eval o d J':=by
 have hr:=hf.bG (df:=df) hx;simp only[bY]at h;split at h
 .rename_i cs hX;rw[hX]at hr;generalize hcv:(Act.mk tmps df).eval x=cv at hr;cases hr with
  |agg _ ca hrl h1 =>
   split at h
   case isFalse=>cases h
   rename_i hlen;have h2:(if ag then some (.agg ((cs.drop f.offset).take sz))else cs[f.offset]?)=some d/\J=J':=by
    cases ag with
    |true=>simp_all
    |false =>
     simp only[aC,if_false,ad,ak]at h;obtain⟨a,h3,rfl,rfl⟩:=h;exact⟨h3,rfl⟩
   obtain⟨h2,rfl⟩:=h2;obtain⟨c,hrun,hrc⟩:=H2 (P:=P) (w:=w) hag hsz hrl h1 hlen h2;exact .pure hi (c:=c) (by simp[execOp,ho,Instr.field,bJ hs,hfi,hcv,asAgg,hrun]) (de.of hrc)
 .cases h
theorem agx(hf:Fr fb V g w B e tmps)(hi:Inv CR base g J w){x y:Operand}{X Y:bU}{t el:TypeId}{n wd:Nat}{ag:Bool}(hx:bT x=some X)(hy:bT y=some Y)
  (ht:P.underlying t=some (.array n el)) (hag:uS P el=some ag) (hsz:dL P el=some wd)
  (h:bY e J (.OF ag n wd X Y)=some (d,J')) (o:Oper) (ho:o.op=.index t x y):fx P CR base g w B e (Act.mk tmps df).eval o d J':=by
 have hr:=hf.bG (df:=df) hx;simp only[bY]at h;split at h
 .rename_i cs iv hX hiv;obtain⟨k,hky⟩:=EN (hf.bG (df:=df) hy) hiv;rw[hX]at hr;generalize hcv:(Act.mk tmps df).eval x=cv at hr;cases hr with
  |agg _ ca hrl h1 =>
   split at h
   case isFalse=>cases h
   rename_i hb;have h2:(if ag then some (.agg ((cs.drop (iv.toNat*wd)).take wd))else cs[iv.toNat*wd]?)=some d/\J=J':=by
    cases ag with
    |true=>simp_all
    |false =>
     simp only[aC,if_false,ad,ak]at h;obtain⟨a,h3,rfl,rfl⟩:=h;exact⟨h3,rfl⟩
   obtain⟨h2,rfl⟩:=h2;obtain⟨c,hrun,hrc⟩:=H2 (P:=P) (w:=w) hag hsz hrl h1 (by have:=hb.2.2;rw[gT]at this;omega) h2;exact .pure hi (c:=c) (by simp[execOp,ho,Instr.index,bJ ht,hky,asIntOf,hcv,hb.1,hb.2.1,run_sizeOf hsz,hrun]) (de.of hrc)
 .cases h
theorem Z3(hi:Inv CR base g J w){n:Nat}{args:Array Operand}{ts:Array TypeId}{x:Operand}{r:List Operand}{t:TypeId}{tr:List TypeId}{ρ:Operand->Value}
  (ht:(∃el,P.underlying t=some (.array n el))\/∃u el,P.underlying t=some (.pointer u)/\P.underlying u=some (.array n el)) (ha:args.toList=x::r) (hts:ts.toList=t::tr)
  (h:bY e J (.SU n)=some (d,J')) (o:Oper) (ho:o.op=.call {callee:=.builtin .len,args,argTypes:=ts }):fx P CR base g w B e ρ o d J':=by
 simp only[bY]at h;cases h;obtain rfl:args=(x::r).toArray:=by rw[<- ha]
 obtain rfl:ts=(t::tr).toArray:=by rw[<- hts]
 refine .pure hi (c:=.int .i64 n) ?_ (de.of (.int _ _));rcases ht with⟨el,ht⟩ | ⟨u,el,ht,hu⟩
 .simp[execOp,ho,resolve,invoke,builtin,Builtin.len_,bJ ht,goInt]
 .simp[execOp,ho,resolve,invoke,builtin,Builtin.len_,bJ ht,bJ hu,goInt]
theorem alW(hf:Fr fb V g w B e tmps)(hi:Inv CR base g J w){x y:Operand}{X Y:bU}{args:Array Operand}{ts:Array TypeId}(hx:bT x=some X)(hy:bT y=some Y)(ha:args.toList=[x,y])
  (h:bY e J (.mn X Y)=some (d,J')) (o:Oper) (ho:o.op=.call {callee:=.builtin .min,args,argTypes:=ts }):fx P CR base g w B e (Act.mk tmps df).eval o d J':=by
 have hr:=hf.bG (df:=df) hx;have hr':=hf.bG (df:=df) hy;obtain rfl:args = #[x,y]:=by rw[<- fV,ha]
 simp only[bY]at h;split at h
 .rename_i k a k' b hX hY;cases h;rw[hX]at hr;rw[hY]at hr';have e1:=hr.fe;have e2:=hr'.fe;refine .pure hi (c:=.int k (min a b)) ?_ (de.of (.int _ _));simp[execOp,ho,resolve,invoke,builtin,Builtin.min_,Builtin.min2,e1,e2];omega
 .cases h
theorem alX(hf:Fr fb V g w B e tmps)(hi:Inv CR base g J w){x y:Operand}{X Y:bU}{args:Array Operand}{ts:Array TypeId}(hx:bT x=some X)(hy:bT y=some Y)(ha:args.toList=[x,y])
  (h:bY e J (.mx X Y)=some (d,J')) (o:Oper) (ho:o.op=.call {callee:=.builtin .max,args,argTypes:=ts }):fx P CR base g w B e (Act.mk tmps df).eval o d J':=by
 have hr:=hf.bG (df:=df) hx;have hr':=hf.bG (df:=df) hy;obtain rfl:args = #[x,y]:=by rw[<- fV,ha]
 simp only[bY]at h;split at h
 .rename_i k a k' b hX hY;cases h;rw[hX]at hr;rw[hY]at hr';have e1:=hr.fe;have e2:=hr'.fe;refine .pure hi (c:=.int k (max a b)) ?_ (de.of (.int _ _));simp[execOp,ho,resolve,invoke,builtin,Builtin.max_,Builtin.max2,e1,e2];omega
 .cases h
theorem run_sliceBound{n:Nat}{iv:Int}{k:IntKind}{code:BoundsCode}(h:0<=iv/\iv<=n):(Instr.sliceBound (.int k iv) n code).run P w=.ok iv.toNat w:=by
 simp[Instr.sliceBound,asIntOf,h]
theorem vM{isSlice:Bool}(hf:Fr fb V g w B e tmps){lo hi mx:Option Operand}{Lo Hi Mx:Option bU}(hlo:zX lo=some Lo)(hhi:zX hi=some Hi)(hmx:zX mx=some Mx){n cap l h:Nat}(hn:n<=cap)
  (hb:bounds n e Lo Hi Mx=some (l,h)):
  ∃m,(Instr.sliceBounds isSlice n cap (lo.map (Act.mk tmps df).eval) (hi.map (Act.mk tmps df).eval) (mx.map (Act.mk tmps df).eval)).run P w=.ok (l,h,m) w/\l<=h/\h<=n/\h<=m/\m<=cap:=by
 have hopt:∀{x:Option Operand} {X:Option bU},zX x=some X->(x=none/\X=none)\/∃y Y,x=some y/\X=some Y/\bT y=some Y:=by
  intro x X hx;cases x with
  |none=>simp[zX]at hx;exact .inl ⟨rfl,hx.symm⟩
  |some y=>simp only[zX,ad]at hx;obtain⟨Y,h1,rfl⟩:=hx;exact .inr ⟨y,Y,rfl,rfl,h1⟩
 simp only[bounds,aj,ad]at hb;obtain⟨m,hm,h',hh,l',hl,hb⟩:=hb;cases hb;have hbnd:∀{x:Option Operand} {X:Option bU} {m:Nat} {dfl:Option Nat} {r:Nat},zX x=some X->CM e m dfl X=some r ->
   (x=none/\X=none/\dfl=some r)\/∃(y:Operand) (k:IntKind) (iv:Int),x=some y/\X.isSome=true/\(Act.mk tmps df).eval y=.int k iv/\0<=iv/\iv<=m/\r=iv.toNat:=by
  intro x X m dfl r hx hb;rcases hopt hx with⟨rfl,rfl⟩ | ⟨y,Y,rfl,rfl,hy⟩
  .exact .inl ⟨rfl,rfl,hb⟩
  .simp only[CM]at hb;split at hb
   .rename_i iv hiv;obtain⟨k,hk⟩:=EN (hf.bG (df:=df) hy) hiv;split at hb
    .rename_i hc;cases hb;exact .inr ⟨y,k,iv,rfl,rfl,hk,hc.1,hc.2,rfl⟩
    .cases hb
   .cases hb
 have h3:(mx=none/\Mx=none/\m=n)\/∃(y:Operand) (k:IntKind) (iv:Int),mx=some y/\Mx.isSome=true/\(Act.mk tmps df).eval y=.int k iv/\0<=iv/\iv<=n/\m=iv.toNat:=by
  rcases hbnd hmx hm with⟨a1,a2,a3⟩ | a
  .cases a3;exact .inl ⟨a1,a2,rfl⟩
  .exact .inr a
 have h2:(hi=none/\Mx.isSome=false/\h=n)\/∃(y:Operand) (k:IntKind) (iv:Int),hi=some y/\(Act.mk tmps df).eval y=.int k iv/\0<=iv/\iv<=m/\h=iv.toNat:=by
  rcases hbnd hhi hh with⟨a1,a2,a3⟩ | ⟨y,k,iv,a1,_,a2⟩
  .split at a3
   .cases a3
   .rename_i hc;cases a3;exact .inl ⟨a1,by simpa using hc,rfl⟩
  .exact .inr ⟨y,k,iv,a1,a2⟩
 have h1:(lo=none/\l=0)\/∃(y:Operand) (k:IntKind) (iv:Int),lo=some y/\(Act.mk tmps df).eval y=.int k iv/\0<=iv/\iv<=h/\l=iv.toNat:=by
  rcases hbnd hlo hl with⟨a1,a2,a3⟩ | ⟨y,k,iv,a1,_,a2⟩
  .cases a3;exact .inl ⟨a1,rfl⟩
  .exact .inr ⟨y,k,iv,a1,a2⟩
 rcases h3 with⟨rfl,rfl,rfl⟩ | ⟨y3,k3,i3,rfl,hs3,e3,a3,b3,rfl⟩
 .refine⟨cap,?_,?_,?_,?_,aO _⟩
  .rcases h2 with⟨rfl,_,rfl⟩ | ⟨y2,k2,i2,rfl,e2,a2,b2,rfl⟩<;>rcases h1 with⟨rfl,rfl⟩ | ⟨y1,k1,i1,rfl,e1,a1,b1,rfl⟩
   .simp[Instr.sliceBounds]
   .simp[Instr.sliceBounds,e1,run_sliceBound (P:=P) (w:=w) (n:=h) (k:=k1) (iv:=i1) ⟨a1,b1⟩]
   .simp[Instr.sliceBounds,e2,run_sliceBound (P:=P) (w:=w) (n:=cap) (k:=k2) (iv:=i2) ⟨a2,by omega⟩]
   .simp[Instr.sliceBounds,e1,e2,run_sliceBound (P:=P) (w:=w) (n:=cap) (k:=k2) (iv:=i2) ⟨a2,by omega⟩,run_sliceBound (P:=P) (w:=w) (n:=i2.toNat) (k:=k1) (iv:=i1) ⟨a1,b1⟩]
  .rcases h1 with⟨_,rfl⟩ | ⟨y1,k1,i1,_,e1,a1,b1,rfl⟩<;>omega
  .rcases h2 with⟨_,_,rfl⟩ | ⟨y2,k2,i2,_,e2,a2,b2,rfl⟩<;>omega
  .rcases h2 with⟨_,_,rfl⟩ | ⟨y2,k2,i2,_,e2,a2,b2,rfl⟩<;>omega
 .rcases h2 with⟨_,h2,_⟩ | ⟨y2,k2,i2,rfl,e2,a2,b2,rfl⟩
  .rw[hs3]at h2;cases h2
  .refine⟨i3.toNat,?_,?_,by omega,by omega,by omega⟩
   .rcases h1 with⟨rfl,rfl⟩ | ⟨y1,k1,i1,rfl,e1,a1,b1,rfl⟩
    .simp[Instr.sliceBounds,e2,e3,run_sliceBound (P:=P) (w:=w) (n:=cap) (k:=k3) (iv:=i3) ⟨a3,by omega⟩,run_sliceBound (P:=P) (w:=w) (n:=i3.toNat) (k:=k2) (iv:=i2) ⟨a2,b2⟩]
    .simp[Instr.sliceBounds,e1,e2,e3,run_sliceBound (P:=P) (w:=w) (n:=cap) (k:=k3) (iv:=i3) ⟨a3,by omega⟩,run_sliceBound (P:=P) (w:=w) (n:=i3.toNat) (k:=k2) (iv:=i2) ⟨a2,b2⟩,
      run_sliceBound (P:=P) (w:=w) (n:=i2.toNat) (k:=k1) (iv:=i1) ⟨a1,b1⟩]
   .rcases h1 with⟨_,rfl⟩ | ⟨y1,k1,i1,_,e1,a1,b1,rfl⟩<;>omega
