import Derived.Test.YtpapbbojmclkgaaGreatDoorBase7
import Derived.MapKept
import Derived.WideKeyRuns
import Derived.Maps.RangeRun
import Derived.Test.YtpapbbojmclkgaaGreatDoorBase6
set_option linter.all false
namespace Go.Abs
open Go
theorem Pe{J:SK}{d:D}{l i:Nat}{es:List D}(h:CV J d=some (l,i,es)):d=.kV l i/\cells? J l i 0=some es:=by
 unfold CV at h;split at h
 .simp only[ad,ar]at h;obtain⟨cs,h1,rfl,rfl,rfl⟩:=h;exact⟨rfl,h1⟩
 .cases h
theorem Lw{ky:Ky}{k:D}:∀{es:List D} {j:Nat} {v:D},pc ky k es=some (some (j,v))->∃k',es[j]?=some (.cV [k',v])/\so ky k k'=some true
 |[],j,v,h=>by simp[pc]at h
 |x::es,j,v,h=>by
  unfold pc at h;split at h
  .rename_i heq;cases heq
  .rename_i k' v' es' heq;cases heq;split at h
   .rename_i hq;cases h;exact⟨k',rfl,hq⟩
   .simp only[ad]at h;obtain⟨x1,h1,x2,rfl,h2⟩:=h;cases h2;obtain⟨j0,v0⟩:=x2;obtain⟨k0,h3,h4⟩:=Lw h1;exact⟨k0,by simpa using h3,h4⟩
   .cases h
  .cases h
section
variable {P:Program} {g:G} {w:World}
theorem JL:∀{ks:List (Option IntKind)} {p q:List D},BS ks p q=some true->p=q
 |[],p,q,h=>by obtain⟨rfl,rfl,_⟩:=ve h;rfl
 |some k::ks,p,q,h=>by
  obtain⟨a,x,c,y,b0,rfl,rfl,h0,hb⟩:=td h;simp only[Bool.true_eq,af,beq_iff_eq]at hb;obtain⟨rfl,rfl⟩:=hb;rw[JL h0]
 |none::ks,p,q,h=>by
  obtain⟨a,x,c,y,b0,rfl,rfl,h0,hb⟩:=xL h;simp only[Bool.true_eq,af,beq_iff_eq]at hb;obtain⟨rfl,rfl⟩:=hb;rw[JL h0]
theorem FX(n:Nat):∀{ks:List (Option IntKind)} {p q:List D} {b:Bool},BS ks p q=some b->∀{xs ys:List Value},bN g p xs->bN g p ys->xs=ys/\(xs.zip ys).all (λz=>Instr.sameBits n z.1 z.2)=true
 |[],p,q,b,h,xs,ys,hx,hy=>by
  obtain⟨rfl,rfl,_⟩:=ve h;cases hx;cases hy;exact⟨rfl,rfl⟩
 |some k::ks,p,q,b,h,xs,ys,hx,hy=>by
  obtain⟨a,x,c,y,b0,rfl,rfl,h0,hb⟩:=td h;cases hx with
  |cons _ v1 _ vs1 h1 h2 =>
   cases hy with
   |cons _ v2 _ vs2 h3 h4 =>
    obtain rfl:=h1.eK;obtain rfl:=h3.eK;obtain⟨h5,h6⟩:=FX n h0 h2 h4;subst h5;exact⟨rfl,by simp only[List.zip_cons_cons,jl,h6,Instr.sameBits,BEq.rfl,Bool.and_self]⟩
 |none::ks,p,q,b,h,xs,ys,hx,hy=>by
  obtain⟨a,x,c,y,b0,rfl,rfl,h0,hb⟩:=xL h;cases hx with
  |cons _ v1 _ vs1 h1 h2 =>
   cases hy with
   |cons _ v2 _ vs2 h3 h4 =>
    obtain rfl:=h1.nU;obtain rfl:=h3.nU;obtain⟨h5,h6⟩:=FX n h0 h2 h4;subst h5;exact⟨rfl,by simp only[List.zip_cons_cons,jl,h6,Instr.sameBits,BEq.rfl,Bool.and_self]⟩
theorem acy{a b:ByteArray}(h:a.data.toList=b.data.toList):a=b:=by
 apply ByteArray.ext;exact fU.1 h
theorem WN{ky:Ky}{a b:D}{x y:Value}(h:so ky a b=some true)(hx:bQ g a x)(hy:bQ g b y):x=y/\Instr.sameBits 10000 y x=true:=by
 unfold so at h;split at h
 .split at h
  .rename_i s1 s2;simp only[ae,beq_iff_eq]at h;subst h;obtain⟨b1,rfl,h1⟩:=hx.kT;obtain⟨b2,rfl,h2⟩:=hy.kT;obtain rfl:=acy (h1.trans h2.symm);exact⟨rfl,by rw[Instr.sameBits,beq_toListBytes];exact beq_self_eq_true _⟩
  .cases h
 .rename_i ag ks;split at h
  .rename_i p q hp hq;obtain rfl:=JL h;have h1:=vm hx hp;have h2:=vm hy hq;cases ag with
   |true =>
    simp only[vp,if_true]at h1 h2;obtain⟨xs,rfl,h3,_⟩:=h1;obtain⟨ys,rfl,h4,_⟩:=h2;obtain⟨h5,h6⟩:=FX 9999 h h4 h3;obtain rfl:=fU.1 h5;exact⟨rfl,by simp only[Instr.sameBits,BEq.rfl,Bool.true_and];exact h6⟩
   |false =>
    simp only[vp,aC,if_false]at h1 h2;obtain⟨h5,h6⟩:=FX 10000 h h2 h1;simp only[jM,and_true]at h5;subst h5;exact⟨rfl,by simpa using h6⟩
  .cases h
theorem J6{t:TypeId}{ky:Ky}(h:J5 P t=some ky):(P.underlying t=some .string/\ky=none)\/(∃k,P.underlying t=some (.int k)/\ky=some (false,[some k])) \/
  ∃fs ks,P.underlying t=some (.struct fs)/\lq P 20 t=some ks/\ky=some (true,ks)/\fs.toList.all (λf=>match P.underlying f.type with | some (.int _)=>true | some .bool=>true | _=>false)=true:=by
 unfold J5 at h;split at h
 .rename_i hu;cases h;exact .inl ⟨hu,rfl⟩
 .rename_i k hu;cases h;exact .inr (.inl ⟨k,hu,rfl⟩)
 .rename_i fs hu;split at h
  .rename_i hall;obtain⟨ks,hks,rfl⟩:=ad.1 h;exact .inr (.inr ⟨fs,ks,hu,hks,rfl,hall⟩)
  .cases h
 .cases h
theorem LI{t:TypeId}{ky:Ky}(hk:J5 P t=some ky){a b:D}{c:Bool}{x y:Value}(h:so ky a b=some c)(hx:bQ g a x)(hy:bQ g b y):(Op.equal t x y).run P w=.ok c w:=by
 have key:∀ag ks,lq P 20 t=some ks->uK P t=some ag->so (some (ag,ks)) a b=some c->(Op.equal t x y).run P w=.ok c w:=by
  intro ag ks hks hag hq;simp only[so]at hq;split at hq
  case h_2=>cases hq
  rename_i p q hp hq2;obtain⟨ag',hag',_,hEq⟩:=Gx (P:=P) (g:=g) (w:=w) 20 t ks hks;rw[hag]at hag';cases hag';exact hEq 10000 (by omega) p q x y c (vm hx hp) (vm hy hq2) hq
 rcases J6 hk with⟨hu,rfl⟩ | ⟨k,hu,rfl⟩ | ⟨fs,ks,hu,hks,rfl,_⟩
 .simp only[so]at h;split at h
  case h_2=>cases h
  rename_i s1 s2;cases h;obtain⟨b1,rfl,h1⟩:=hx.kT;obtain⟨b2,rfl,h2⟩:=hy.kT;have:=run_equalIn_string (P:=P) w 9999 t b1 b2 hu;simp only[Op.equal,Op.maxDepth];rw[this,ByteArray.toList_eq,ByteArray.toList_eq,h1,h2]
 .exact key false [some k] (by simp[lq,hu]) (by simp[uK,hu]) h
 .exact key true ks hks (by simp[uK,hu]) h
def Found(dF:List MapEntry)(r:Option (Nat×D))(g:G)(o:Option (Nat×Value))(i:Nat):Prop :=
 match r with
 |none=>o=none
 |some (j,v)=>∃e,dF[j]?=some e/\o=some (i+j,e.val)/\bQ g v e.val
theorem NB{k v:D}{a b:Value}(h:bQ g (.cV [k,v]) (.tuple #[a,b])):bQ g k a/\bQ g v b:=by
 cases h with
 |cV _ _ hr =>
  cases hr with
  |cons _ _ _ _ h1 h2=>cases h2 with | cons _ _ _ _ h3 h4=>exact⟨h1,h3⟩
theorem Ju{t:TypeId}{ky:Ky}(hk:J5 P t=some ky){k:D}{x:Value}(hx:bQ g k x):∀(es:List D) (dF:List MapEntry) (r:Option (Nat×D)) (i:Nat),bN g es (dF.map λe => .tuple #[e.key,e.val])->pc ky k es=some r ->
  ∃o,(Instr.findAsking t x dF i).run P w=.ok o w/\Found dF r g o i
 |[],dF,r,i,hr,h=>by
  cases dF with
  |nil=>simp only[pc,ae]at h;subst h;exact⟨none,by simp[Instr.findAsking],rfl⟩
  |cons e dF=>cases hr
 |d::es,dF,r,i,hr,h=>by
  cases dF with
  |nil=>cases hr
  |cons e dF =>
   rw[aN]at hr;cases hr with
   |cons _ _ _ _ hr1 hr2 =>
   unfold pc at h;split at h
   .rename_i heq;cases heq
   .rename_i k' v es' heq;cases heq;obtain⟨hk1,hv1⟩:=NB hr1;split at h
    .rename_i hq;cases h;have he:=LI (w:=w) hk hq hx hk1;refine⟨some (i,e.val),by simp[Instr.findAsking,he],e,rfl,by simp,hv1⟩
    .rename_i hq;simp only[ad]at h;obtain⟨r1,h1,rfl⟩:=h;have he:=LI (w:=w) hk hq hx hk1;obtain⟨o,ho,hf⟩:=Ju hk hx es dF r1 (i+1) hr2 h1;refine⟨o,by simp[Instr.findAsking,he,ho],?_⟩;cases r1 with
     |none=>exact hf
     |some y =>
      obtain⟨e1,h3,h4,h5⟩:=hf;exact⟨e1,by simpa using h3,by rw[h4];congr 2;omega,h5⟩
    .cases h
   .cases h
theorem M0{t:TypeId}{ky:Ky}{dsc:TypeDesc}{k:D}{x:Value}(hs:∀k' y c,so ky k k'=some c->bQ g k' y->Instr.sameNow dsc x y=some c):∀(es:List D) (dF:List MapEntry) (r:Option (Nat×D)) (i:Nat),bN g es (dF.map λe => .tuple #[e.key,e.val])->pc ky k es=some r ->
  ∃o,Instr.findNow dsc x dF i=some o/\Found dF r g o i
 |[],dF,r,i,hr,h=>by
  cases dF with
  |nil=>simp only[pc,ae]at h;subst h;exact⟨none,by simp[Instr.findNow],rfl⟩
  |cons e dF=>cases hr
 |d::es,dF,r,i,hr,h=>by
  cases dF with
  |nil=>cases hr
  |cons e dF =>
   rw[aN]at hr;cases hr with
   |cons _ _ _ _ hr1 hr2 =>
   unfold pc at h;split at h
   .rename_i heq;cases heq
   .rename_i k' v es' heq;cases heq;obtain⟨hk1,hv1⟩:=NB hr1;split at h
    .rename_i hq;cases h;exact⟨some (i,e.val),by simp[Instr.findNow,hs _ _ _ hq hk1],e,rfl,by simp,hv1⟩
    .rename_i hq;simp only[ad]at h;obtain⟨r1,h1,rfl⟩:=h;obtain⟨o,ho,hf⟩:=M0 (t:=t) hs es dF r1 (i+1) hr2 h1;refine⟨o,by simp[Instr.findNow,hs _ _ _ hq hk1,ho],?_⟩;cases r1 with
     |none=>exact hf
     |some y =>
      obtain⟨e1,h3,h4,h5⟩:=hf;exact⟨e1,by simpa using h3,by rw[h4];congr 2;omega,h5⟩
    .cases h
   .cases h
theorem zF{t:TypeId}{ky:Ky}(hk:J5 P t=some ky){k:D}{x:Value}(hx:bQ g k x){es:List D}{dF:List MapEntry}{r:Option (Nat×D)}(hr:bN g es (dF.map λe => .tuple #[e.key,e.val]))(h:pc ky k es=some r)
  (hself:(so ky k k).isSome=true):∃o,(Instr.findKey t x dF).run P w=.ok o w/\Found dF r g o 0:=by
 rcases J6 hk with⟨hu,rfl⟩ | ⟨kk,hu,rfl⟩ | ⟨fs,ks,hu,hks,rfl,_⟩
 .obtain⟨o,h1,h2⟩:=M0 (t:=t) (ky:=none) (k:=k) (x:=x) (dsc:=.string) (λk' y c hq hy=>by
   simp only[so]at hq;split at hq
   case h_2=>cases hq
   cases hq;obtain⟨b1,rfl,h1⟩:=hx.kT;obtain⟨b2,rfl,h2⟩:=hy.kT;simp only[Instr.sameNow];rw[beq_toListBytes,ByteArray.toList_eq,ByteArray.toList_eq,h1,h2]) es dF r 0 hr h
  exact⟨o,MapKept.run_findKey hu h1,h2⟩
 .obtain⟨o,h1,h2⟩:=M0 (t:=t) (ky:=some (false,[some kk])) (k:=k) (x:=x) (dsc:=.int kk) (λk' y c hq hy=>by
   simp only[so]at hq;split at hq
   case h_2=>cases hq
   rename_i p q hp hq2;have hx1:=vm hx hp;have hy1:=vm hy hq2;simp only[vp,aC,if_false]at hx1 hy1;obtain⟨a,xs,b,ys,b0,rfl,rfl,h0,rfl⟩:=td hq;obtain⟨rfl,rfl,rfl⟩:=ve h0;cases hx1 with
   |cons _ _ _ _ g1 _ =>
    cases hy1 with
    |cons _ _ _ _ g2 _ =>
     obtain rfl:=g1.eK;obtain rfl:=g2.eK;simp[Instr.sameNow]) es dF r 0 hr h
  exact⟨o,MapKept.run_findKey hu h1,h2⟩
 .obtain⟨o,h1,h2⟩:=Ju (w:=w) hk hx es dF r 0 hr h;refine⟨o,?_,h2⟩;rw[run_findKey_eq w (by simp[hu])];exact h1
theorem Cy(em:Bool){xs:Array Value}{p:List D}(hx:bN g p xs.toList)(h1x:∀y∈xs.toList,y.oneCell'=true):
  ∀(fs:List Field) (o:Nat) (ks:List (Option IntKind)) (q:List D) (b:Bool),lq.kindsF P (lq P 19) o fs=some ks->fs.all (λf=>match P.underlying f.type with | some (.int _)=>true | some .bool=>true | _=>false)=true ->
   BS ks (p.drop o) q=some b ->
   (forIn (m:=Sem) fs PUnit.unit λf _=>do
    if f.name ≠ "_" then Instr.checkKey em 9999 f.type (<- part f.type xs f.offset)
    pure (ForInStep.yield PUnit.unit)).run P w=.ok PUnit.unit w
 |[],o,ks,q,b,hk,ha,he=>by simp
 |f::fs,o,ks,q,b,hk,ha,he=>by
  simp only[lq.kindsF]at hk;split at hk
  case h_2=>cases hk
  rename_i k1 hk1;split at hk
  case isFalse=>cases hk
  rename_i hc;obtain⟨hname,hoff,hsz,hpos⟩:=hc;simp only[ad]at hk;obtain⟨k2,hk2,rfl⟩:=hk;simp only[jl,af]at ha;obtain⟨l1,l2⟩:=D4 _ _ _ _ he;obtain⟨b1,b2,e1,e2,rfl⟩:=xK _ _ _ _ _ he;simp only[bB,List.length_drop]at l1 l2;have ih:=Cy em hx h1x fs (o+k1.length) k2 (q.drop k1.length) b2 hk2 ha.2 (by simpa[cS]using e2);have one:∃a,(part f.type xs o).run P w=.ok a w/\(Instr.checkKey em 9999 f.type a).run P w=.ok () w:=by
   have h0:=ha.1;split at h0
   .rename_i k hu;have hk1':k1=[some k]:=by simp[lq,hu]at hk1;exact hk1.symm
    subst hk1';obtain⟨a,hpa,hra⟩:=Ec (P:=P) (w:=w) (ag:=false) (n:=1) (o:=o) (by simp[uK,hu]) hsz (λ_=>rfl) hx h1x (by simp only[aK,bx]at l1 ⊢;omega);simp only[vp,aC,if_false]at hra;obtain⟨a0,x0,c0,y0,b0,e3,_,_,_⟩:=td e1;simp only[aK,bx,ck]at e3;rw[e3]at hra;cases hra with
    |cons _ _ _ _ g1 g2 =>
     obtain rfl:=g1.eK;exact⟨_,hpa,MapKept.run_checkKey (d:=.int k) hu (by simp[MapKept.IsKey]) em 9998⟩
   .rename_i hu;have hk1':k1=[none]:=by simp[lq,hu]at hk1;exact hk1.symm
    subst hk1';obtain⟨a,hpa,hra⟩:=Ec (P:=P) (w:=w) (ag:=false) (n:=1) (o:=o) (by simp[uK,hu]) hsz (λ_=>rfl) hx h1x (by simp only[aK,bx]at l1 ⊢;omega);simp only[vp,aC,if_false]at hra;obtain⟨a0,x0,c0,y0,b0,e3,_,_,_⟩:=xL e1;simp only[aK,bx,ck]at e3;rw[e3]at hra;cases hra with
    |cons _ _ _ _ g1 g2 =>
     obtain rfl:=g1.nU;exact⟨_,hpa,MapKept.run_checkKey (d:=.bool) hu (by simp[MapKept.IsKey]) em 9998⟩
   .cases h0
  obtain⟨a,h1,h2⟩:=one;rw[List.forIn_cons];rw[hoff];simp only[hname,ne_eq,not_false_eq_true,if_true,Sem.run_bind,h1,h2,Result.andThen_ok,Sem.run_pure];exact ih
theorem FV{t:TypeId}{ky:Ky}(hk:J5 P t=some ky){k:D}{x:Value}(hx:bQ g k x)(hself:(so ky k k).isSome=true)(em:Bool):(Instr.checkKey em 10000 t x).run P w=.ok () w:=by
 rcases J6 hk with⟨hu,rfl⟩ | ⟨kk,hu,rfl⟩ | ⟨fs,ks,hu,hks,rfl,hall⟩
 .refine MapKept.run_checkKey (d:=.string) hu ?_ em 9999;obtain⟨c,hc⟩:=dB.1 hself;simp only[so]at hc;split at hc
  case h_2=>cases hc
  obtain⟨b1,rfl,h1⟩:=hx.kT;simp[MapKept.IsKey]
 .refine MapKept.run_checkKey (d:=.int kk) hu ?_ em 9999;obtain⟨c,hc⟩:=dB.1 hself;simp only[so]at hc;split at hc
  case h_2=>cases hc
  rename_i p q hp hq2;have hx1:=vm hx hp;simp only[vp,aC,if_false]at hx1;obtain⟨a,xs,b,ys,b0,rfl,_,h0,rfl⟩:=td hc;obtain⟨rfl,_,rfl⟩:=ve h0;cases hx1 with
  |cons _ _ _ _ g1 _ =>
   obtain rfl:=g1.eK;simp[MapKept.IsKey]
 .obtain⟨c,hc⟩:=dB.1 hself;simp only[so]at hc;split at hc
  case h_2=>cases hc
  rename_i p q hp hq2;have hx1:=vm hx hp;simp only[vp,if_true]at hx1;obtain⟨xs,rfl,hxr,h1x⟩:=hx1;have hks':lq.kindsF P (lq P 19) 0 fs.toList=some ks:=by
   have:=hks;rw[lq,hu]at this;dsimp only at this;split at this
   .cases this
   .exact this
  have hrun:=Cy (P:=P) (w:=w) em hxr h1x fs.toList 0 ks q c hks' hall (by simpa using hc);rw[show(10000:Nat)=9999+1 from rfl,Instr.checkKey];simp only[Sem.run_bind,run_underlying hu,Result.andThen_ok];rw[<- Array.forIn_toList];simp at hrun ⊢;rw[hrun];rfl
end
section
variable {P:Program} {CR:fe} {base fb:Nat} {V:List Nat} {g:G} {J J':SK} {w:World} {B:Nat->Nat} {e:Env} {tmps:Array Value} {df:List Deferred} {d:D}
theorem Inv.Xf(hi:Inv CR base g J w){l i:Nat}(hn:gA J (.cells 0 [])=some (l,i,J')):
  Inv CR base (g.cN l i (.mp w.heap.size)) J' (w.alloc (.map #[] 0))/\Ev g w (g.cN l i (.mp w.heap.size)) (w.alloc (.map #[] 0)):=by
 obtain⟨h1,h2,h3,_,_⟩:=jF hn;have hnone:=hi.Ea h1;have hle:g.le (g.cN l i (.mp w.heap.size)):=G.jJ λL0 e=>by rw[hnone]at e;cases e
 refine⟨hi.GQ l i hle h3 (λl' i' c=>G.bK c) (λl' i' L b c e eb=>alloc_old (hi.lo l' i' L b e eb).2) ?_ ?_ ?_ ?_ (by simp) ⟨_,G.aM⟩ (λb v hb=>alloc_old (hi.jf hb)),⟨hle,rfl,rfl,rfl,by simp,λb hb _=>alloc_old hb,?_,λb o v hv => .inl hv⟩⟩
 .intro L e;rw[G.aM]at e;cases e;exact⟨_,h2,rfl,#[],0,sy,.nil,by simp[RZ]⟩
 .intro b o v e;obtain⟨h1,h2⟩:=hi.nP b o v e;exact⟨(ig (alloc_old (hi.jf e))).trans h1,h2⟩
 .intro l' i' L b e eb o;by_cases c:l'=l/\i'=i
  .obtain⟨rfl,rfl⟩:=c;rw[G.aM]at e;cases e;cases eb;cases e':(g.cN l' i' (.mp w.heap.size)).nP w.heap.size o with
   |none=>rfl
   |some v=>have:=hi.jf (b:=w.heap.size) (o:=o) (v:=v) e';omega
  .rw[G.bK c]at e;exact hi.sep l' i' L b e eb o
 .intro L b e eb;rw[G.aM]at e;cases e;cases eb;refine⟨hi.ge,by simp,λl' i' L' c e' eb'=>?_⟩;have:=(hi.lo l' i' L' _ e' eb').2;omega
 .intro b hb;obtain⟨l',i',L,e,eb⟩:=hb;by_cases c:l'=l/\i'=i
  .obtain⟨rfl,rfl⟩:=c;rw[G.aM]at e;cases e;cases eb;exact .inr (aL _)
  .rw[G.bK c]at e;exact .inl ⟨l',i',L,e,eb⟩
theorem Inv.adb(hi:Inv CR base g J w){l i T ee:Nat}(hn:gA J (.cells 2 [.int .i64 (T:Nat),.int .i64 (ee:Nat),.str []])=some (l,i,J')):
  Inv CR base (g.cN l i (.ob w.heap.size none)) J' (w.alloc (.cells #[.pointer none,.slice none 0 0] T))/\Ev g w (g.cN l i (.ob w.heap.size none)) (w.alloc (.cells #[.pointer none,.slice none 0 0] T)):=by
 obtain⟨h1,h2,h3,_,_⟩:=jF hn;have hnone:=hi.Ea h1;have hle:g.le (g.cN l i (.ob w.heap.size none)):=G.jJ λL0 e=>by rw[hnone]at e;cases e
 have hown:∀b,(Loc.ob w.heap.size none).owns b->w.heap.size=b:=λb h=>by
  rcases h with h | h
  .exact h
  .cases h
 refine⟨hi.GQ l i hle h3 (λl' i' c=>G.bK c) (λl' i' L b c e eb=>alloc_old (hi.lo l' i' L b e eb).2) ?_ ?_ ?_ ?_ (by simp) ⟨_,G.aM⟩ (λb v hb=>alloc_old (hi.jf hb)),⟨hle,rfl,rfl,rfl,by simp,λb hb _=>alloc_old hb,?_,λb o v hv => .inl hv⟩⟩
 .intro L e;rw[G.aM]at e;cases e;exact⟨_,h2,rfl,T,ee,[],.pointer none,.slice none 0 0,rfl,sy,.inl rfl,World.ownsRowF_nil _ _ _ _,rfl,by simp⟩
 .intro b o v e;obtain⟨h1,h2⟩:=hi.nP b o v e;exact⟨(ig (alloc_old (hi.jf e))).trans h1,h2⟩
 .intro l' i' L b e eb o;by_cases c:l'=l/\i'=i
  .obtain⟨rfl,rfl⟩:=c;rw[G.aM]at e;cases e;obtain rfl:=hown b eb;cases e':(g.cN l' i' (.ob w.heap.size none)).nP w.heap.size o with
   |none=>rfl
   |some v=>have:=hi.jf (b:=w.heap.size) (o:=o) (v:=v) e';omega
  .rw[G.bK c]at e;exact hi.sep l' i' L b e eb o
 .intro L b e eb;rw[G.aM]at e;cases e;obtain rfl:=hown b eb;refine⟨hi.ge,by simp,λl' i' L' c e' eb'=>?_⟩;have:=(hi.lo l' i' L' _ e' eb').2;omega
 .intro b hb;obtain⟨l',i',L,e,eb⟩:=hb;by_cases c:l'=l/\i'=i
  .obtain⟨rfl,rfl⟩:=c;rw[G.aM]at e;cases e;obtain rfl:=hown b eb;exact .inr (aL _)
  .rw[G.bK c]at e;exact .inl ⟨l',i',L,e,eb⟩
theorem Inv.XH(hi:Inv CR base g J w){l i b:Nat}{b0:aD}{es:List D}(hL:g.loc l i=some (.mp b))(hb:ea J l i=some b0){dF:Array MapEntry}{clock:Nat}
  (hr:bN g es (dF.toList.map λe => .tuple #[e.key,e.val])) (hm:RZ dF.toList clock) {w':World} (hw:w'={w with heap:=w.heap.setIfInBounds b (.map dF clock) }):
  Inv CR base (g.cN l i (.mp b)) (bh J l i (.cells 0 es)) w'/\Ev g w (g.cN l i (.mp b)) w':=by
 subst hw;have hlt:=(hi.lo l i _ b hL rfl).2;have hle:g.le (g.cN l i (.mp b)):=G.jJ λL0 e=>by rw[hL]at e;cases e;exact Loc.le_refl _
 refine hi.setCells hL hb (Loc.le_refl _) ⟨rfl,dF,clock,by simp[hlt],hr.mono hle,hm⟩ (λb' hb' hne=>?_) rfl rfl rfl (by simp) (λb' hb' => .inl hb');have:b≠b':=λhh=>hne (by rw[hh];rfl)
 simp[this]
theorem Bq(hi:Inv CR base g J w){m:D}{c:Value}(hr:bQ g m c){l i:Nat}{es:List D}(h:CV J m=some (l,i,es)):
  ∃b dF clock v,c=.map (some b)/\g.loc l i=some (.mp b)/\ea J l i=some (.cells v es)/\w.heap[b]?=some (.map dF clock)/\bN g es (dF.toList.map λe => .tuple #[e.key,e.val])/\RZ dF.toList clock:=by
 obtain⟨rfl,hcs⟩:=Pe h;unfold cells? at hcs;split at hcs
 case h_2=>cases hcs
 rename_i v' cs' hblk;split at hcs
 case isFalse=>cases hcs
 cases hcs;cases hr with
 |kV _ _ b hl =>
  obtain⟨b0,hb0,hrel⟩:=hi.xm l i _ hl;rw[hblk]at hb0;cases hb0;exact hrel.elim
 |SA _ _ b hl =>
  obtain⟨b0,hb0,hrel⟩:=hi.xm l i _ hl;rw[hblk]at hb0;cases hb0;obtain⟨_,dF,clock,h1,h2,h3⟩:=hrel;exact⟨b,dF,clock,v',rfl,hl,hblk,h1,h2,h3⟩
 |WI _ _ b L hl hc =>
  obtain⟨b0,hb0,hrel⟩:=hi.xm l i _ hl;rw[hblk]at hb0;cases hb0;rcases hc with rfl | rfl
  .rename_i hv0;obtain⟨hv1,_⟩:=hrel;omega
  .exact hrel.elim
 |TH _ _ b L hl hc =>
  obtain⟨b0,hb0,hrel⟩:=hi.xm l i _ hl;rw[hblk]at hb0;cases hb0;rcases hc with⟨c,rfl⟩ | rfl
  .rename_i hv0;obtain⟨hv1,_⟩:=hrel;omega
  .exact hrel.elim
theorem ag1(hi:Inv CR base g J w){t:TypeId}{ρ:Operand->Value}(h:bR e J (.mp .make [])=some (d,J'))(o:Oper)(ho:o.op=.makeMap t none):ff P CR base g w B e ρ o d J':=by
 simp only[bR,bW,CW,ad,ar,Prod.exists]at h;obtain⟨l,i,J1,hn,rfl,rfl⟩:=h;obtain⟨i1,e1⟩:=hi.Xf hn;exact .val (.map (some w.heap.size)) (by
  have hrun:(Instr.makeMap t none).run P w=.ok (.map (some w.heap.size)) (w.alloc (.map #[] 0)):=rfl;simp only[execOp,ho,Option.map_none,Sem.run_bind,hrun,Result.andThen_ok,Sem.run_pure]) e1 i1 (.SA l i _ G.aM)
theorem agY(hi:Inv CR base g J w){el ee:TypeId}{ρ:Operand->Value}(hz:pX P el=some [.yM,.aW])
  (h:bR e J (.mp (.Ln el ee) [])=some (d,J')) (o:Oper) (ho:o.op=.alloc el):ff P CR base g w B e ρ o d J':=by
 obtain⟨i0,v,hinfo,hzero,hrz,h1⟩:=sO g hz;simp only[bR,bW,CW,ad,ar,Prod.exists]at h;obtain⟨l,i,J1,hn,rfl,rfl⟩:=h;obtain⟨i1,e1⟩:=hi.adb hn;have hv:v.cells = #[.pointer none,.slice none 0 0]:=by
  generalize v.cells=a at hrz;obtain⟨a⟩:=a;dsimp only at hrz;cases hrz with
  |cons _ c _ cs k1 k2 =>
   cases k2 with
   |cons _ c2 _ cs2 k3 k4 =>
    cases k4;cases k1;cases k3;rfl
 have hrun:=HA (w:=w) hinfo hzero;rw[hv]at hrun;exact .val (.pointer (some ⟨w.heap.size,0,none⟩)) (by simp[execOp,ho,hrun]) e1 i1 (.TH l i _ _ G.aM (.inl ⟨_,rfl⟩))
theorem ad8(hi:Inv CR base g J w){t kt et:TypeId}{ik:IntKind}{n:Int}(h:bR e J (.mp .make [])=some (d,J'))(ht:P.underlying t=some (.map kt et))(o:Oper)(ho:o.op=.makeMap t (some (.const (.int ik n)))):ff P CR base g w B e (Act.mk tmps df).eval o d J':=by
 simp only[bR,bW,CW,ad,ar,Prod.exists]at h;obtain⟨l,i,J1,hn,rfl,rfl⟩:=h;obtain⟨i1,e1⟩:=hi.Xf hn;exact .val (.map (some w.heap.size)) (by
  have hrun:(Instr.makeMap t (some (.int ik n))).run P w=.ok (.map (some w.heap.size)) (w.alloc (.map #[] 0)):=by
   simp only[Instr.makeMap,Sem.run_bind,bC ht,Result.andThen_ok];rfl
  have hev:(Act.mk tmps df).eval (.const (.int ik n))=.int ik n:=rfl;simp only[execOp,ho,aZ,hev,Sem.run_bind,hrun,Result.andThen_ok,Sem.run_pure]) e1 i1 (.SA l i _ G.aM)
theorem ad9(hf:Fr fb V g w B e tmps)(hi:Inv CR base g J w){x:Operand}{X:bP}{t kt et:TypeId}{args:Array Operand}{ts:Array TypeId}{r:List Operand}{tr:List TypeId}(hx:bO x=some X)
  (ht:P.underlying t=some (.map kt et)) (ha:args.toList=x::r) (hts:ts.toList=t::tr)
  (h:bR e J (.mp .len [X])=some (d,J')) (o:Oper) (ho:o.op=.call {callee:=.builtin .len,args,argTypes:=ts }):ff P CR base g w B e (Act.mk tmps df).eval o d J':=by
 have hr:=hf.bz (df:=df) hx;obtain rfl:args=(x::r).toArray:=by rw[<- ha]
 obtain rfl:ts=(t::tr).toArray:=by rw[<- hts]
 simp only[bR,aN,bW,CW,ad,ar,Prod.exists]at h;obtain⟨l,i,es,hm,rfl,rfl⟩:=h;obtain⟨b,dF,clock,v,hc,hl,hblk,hheap,hrel,hok⟩:=Bq hi hr hm;have hlen:=hrel.length;simp only[bE,Array.length_toList]at hlen;refine .pure hi (c:=.int .i64 dF.size) ?_ (by rw[hlen];exact cQ.of (.int _ _));simp[execOp,ho,resolve,invoke,builtin,Builtin.len_,hc,bC ht,goInt,MapKept.run_getObj_map hheap]
theorem ND{t:TypeId}{z:D}(g:G)(h:zvC P t=some z):∃i v,P.info? t=some i/\i.zero=some v/\bQ g z v:=by
 unfold zvC at h;split at h
 .rename_i i hi;split at h
  .rename_i v hv;exact⟨i,v,hi,hv,JB g h⟩
  .cases h
 .cases h
theorem ad7(hf:Fr fb V g w B e tmps)(hi:Inv CR base g J w){x y:Operand}{X Y:bP}{t kt et:TypeId}{ky:Ky}{z:D}{ok:Bool}(hx:bO x=some X)(hy:bO y=some Y)
  (ht:P.underlying t=some (.map kt et)) (hk:J5 P kt=some ky) (hz:zvC P et=some z)
  (h:bR e J (.mp (.get ky z ok) [X,Y])=some (d,J')) (o:Oper) (ho:o.op=.lookup t x y ok):ff P CR base g w B e (Act.mk tmps df).eval o d J':=by
 have hr:=hf.bz (df:=df) hx;have hr':=hf.bz (df:=df) hy;simp only[bR,aN,bW,CW]at h;split at h
 case h_2=>cases h
 rename_i l i es hm;split at h
 case isFalse=>cases h
 rename_i hself;obtain⟨b,dF,clock,v,hc,hl,hblk,hheap,hrel,hok⟩:=Bq hi hr hm;have hck:=FV (w:=w) hk hr' hself dF.isEmpty;obtain⟨iz,zv,hz1,hz2,hz3⟩:=ND g hz;split at h
 .rename_i j v1 hfk;cases h;obtain⟨o1,ho1,e1,_,rfl,hv1⟩:=zF (w:=w) hk hr' hrel hfk hself;cases ok
  .refine .pure hi (c:=e1.val) ?_ (cQ.of (by simpa using hv1));simp[execOp,ho,Instr.lookup,bC ht,hc,MapKept.run_getObj_map hheap,hck,ho1]
  .refine .pure hi (c:=.tuple #[e1.val,.bool true]) ?_ (cQ.of (by simpa using bQ.cV _ #[e1.val,.bool true] (.cons _ _ _ _ hv1 (.cons _ _ _ _ (.bool true) .nil))));simp[execOp,ho,Instr.lookup,bC ht,hc,MapKept.run_getObj_map hheap,hck,ho1]
 .rename_i hfk;cases h;obtain⟨o1,ho1,hf1⟩:=zF (w:=w) hk hr' hrel hfk hself;obtain rfl:o1=none:=hf1;cases ok
  .refine .pure hi (c:=zv) ?_ (cQ.of (by simpa using hz3));simp[execOp,ho,Instr.lookup,bC ht,hc,MapKept.run_getObj_map hheap,hck,ho1,gB hz1 hz2]
  .refine .pure hi (c:=.tuple #[zv,.bool false]) ?_ (cQ.of (by simpa using bQ.cV _ #[zv,.bool false] (.cons _ _ _ _ hz3 (.cons _ _ _ _ (.bool false) .nil))));simp[execOp,ho,Instr.lookup,bC ht,hc,MapKept.run_getObj_map hheap,hck,ho1,gB hz1 hz2]
 .cases h
theorem bN.set{g:G}:∀{ds:List D} {cs:List Value} {j:Nat} {d:D} {c:Value},bN g ds cs->bQ g d c->bN g (ds.set j d) (cs.set j c)
 |[],[],_,_,_,_,_=>by simpa using bN.nil
 |_::_,_::_,0,_,_,.cons _ _ _ _ h1 h2,h => .cons _ _ _ _ h h2
 |_::_,_::_,j+1,_,_,.cons _ _ _ _ h1 h2,h => .cons _ _ _ _ h1 (h2.set h)
theorem XG(hf:Fr fb V g w B e tmps)(hi:Inv CR base g J w){x y u:Operand}{X Y U:bP}{t kt et:TypeId}{ky:Ky}(hx:bO x=some X)(hy:bO y=some Y)(hu:bO u=some U)
  (ht:P.underlying t=some (.map kt et)) (hk:J5 P kt=some ky)
  (h:bR e J (.mp (.put ky) [X,Y,U])=some (d,J')) (o:Oper) (ho:o.op=.mapUpdate t x y u\/o.op=.insert t x y u):ff P CR base g w B e (Act.mk tmps df).eval o d J':=by
 have hr:=hf.bz (df:=df) hx;have hr':=hf.bz (df:=df) hy;have hru:=hf.bz (df:=df) hu;simp only[bR,aN,bW,CW]at h;split at h
 case h_2=>cases h
 rename_i l i es hm;split at h
 case isFalse=>cases h
 rename_i hself;obtain⟨b,dF,clock,v,hc,hl,hblk,hheap,hrel,hok⟩:=Bq hi hr hm;have hck:=FV (w:=w) hk hr' hself.1 false;generalize hkv:(Act.mk tmps df).eval y=kv at *
 generalize huv:(Act.mk tmps df).eval u=uv at *
 have hnew:bQ g (.cV [bz e Y,bz e U]) (.tuple #[kv,uv]):=.cV _ _ (.cons _ _ _ _ hr' (.cons _ _ _ _ hru .nil));split at h
 .rename_i j v1 hfk;cases h;obtain⟨o1,ho1,e1,he1,rfl,hv1⟩:=zF (w:=w) hk hr' hrel hfk hself.1;obtain⟨k',hk',hkq⟩:=Lw hfk;have hj:dF[j]?=some e1:=by simpa using he1
  have hold:bQ g k' e1.key:=by
   obtain⟨c0,hc0,hr0⟩:=hrel.get hk';rw[lB,he1]at hc0;cases hc0;exact(NB hr0).1
  obtain⟨hsame,hbits⟩:=WN hkq hr' hold;have hlist:(dF.modify j λe=>{e with key:=kv,val:=uv }).toList=dF.toList.set j {e1 with key:=kv,val:=uv }:=by
   rw[Array.toList_modify];apply ez;intro n;rw[List.getElem?_modify,List.getElem?_set];by_cases hn:j=n
   .subst hn;have hlt:=(aA.1 he1).1;have hlt2:j<dF.size:=by simpa using hlt
    have hje:dF[j]=e1:=(cZ.1 hj).2;simp[he1,hlt2,hje]
   .simp[hn]
  obtain⟨i1,ev1⟩:=hi.XH (es:=es.set j (.cV [bz e Y,bz e U])) (dF:=dF.modify j λe=>{e with key:=kv,val:=uv }) (clock:=clock) (w':={w with heap:=w.heap.setIfInBounds b (.map (dF.modify j λe=>{e with key:=kv,val:=uv }) clock) }) hl hblk (by
    rw[hlist,List.map_set];exact hrel.set hnew) (by
    have hlt:=(aA.1 he1);rw[hlist];refine⟨?_,by rw[List.length_set];exact hok.2⟩;rw[List.map_set,List.length_set];have:(dF.toList.map (·.born)).set j e1.born=dF.toList.map (·.born):=by
     apply ez;intro n;rw[List.getElem?_set];by_cases hn:j=n
     .subst hn;have hlt2:j<dF.size:=by simpa using hlt.1
      have hje:dF[j]=e1:=(cZ.1 hj).2;simp[he1,hlt2,hje]
     .simp[hn]
    rw[this];exact hok.1) rfl
  refine⟨.skip,Go.undef,_,_,?_,rfl,ev1,i1,.undef _⟩;have hkts:∀w:World,(Instr.keyThatStays e1.key kv).run P w=.ok kv w:=λw=>by simp[Instr.keyThatStays,hbits]
  rcases ho with ho | ho<;>simp[execOp,ho,Instr.mapUpdate,bC ht,hc,hkv,huv,MapKept.run_getObj_map hheap,hck,ho1,hj,hkts,MapKept.run_setObj_map _ hheap]
 .rename_i hfk;cases h;obtain⟨o1,ho1,hf1⟩:=zF (w:=w) hk hr' hrel hfk hself.1;obtain rfl:o1=none:=hf1;obtain⟨i1,ev1⟩:=hi.XH (es:=es++[.cV [bz e Y,bz e U]]) (dF:=dF.push {key:=kv,val:=uv,born:=clock }) (clock:=clock+1) (w':={w with heap:=w.heap.setIfInBounds b (.map (dF.push {key:=kv,val:=uv,born:=clock }) (clock+1)) }) hl hblk (by
    rw[Array.toList_push,List.map_append];exact hrel.append (.cons _ _ _ _ hnew .nil)) (by
    rw[Array.toList_push];have h2:=hok.2;refine⟨?_,by simp only[bB,aK,bx];omega⟩;rw[List.map_append,hok.1,bB,aK,bx,ck,List.range_succ];simp only[aN,bW,h2]) rfl
  refine⟨.skip,Go.undef,_,_,?_,rfl,ev1,i1,.undef _⟩;rcases ho with ho | ho<;>simp[execOp,ho,Instr.mapUpdate,bC ht,hc,hkv,huv,MapKept.run_getObj_map hheap,hck,ho1,MapKept.run_setObj_map _ hheap]
 .cases h
theorem Inv.ZU(hi:Inv CR base g J w){l i lm im bm n:Nat}(hn:gA J (.cells 1 [.kV lm im,.int .i64 (n:Nat)])=some (l,i,J'))(hm:g.loc lm im=some (.mp bm)):
  Inv CR base (g.cN l i (.it w.heap.size)) J' (w.alloc (.mapIter (some bm) n #[] n))/\Ev g w (g.cN l i (.it w.heap.size)) (w.alloc (.mapIter (some bm) n #[] n)):=by
 obtain⟨h1,h2,h3,_,_⟩:=jF hn;have hnone:=hi.Ea h1;have hle:g.le (g.cN l i (.it w.heap.size)):=G.jJ λL0 e=>by rw[hnone]at e;cases e
 refine⟨hi.GQ l i hle h3 (λl' i' c=>G.bK c) (λl' i' L b c e eb=>alloc_old (hi.lo l' i' L b e eb).2) ?_ ?_ ?_ ?_ (by simp) ⟨_,G.aM⟩ (λb v hb=>alloc_old (hi.jf hb)),⟨hle,rfl,rfl,rfl,by simp,λb hb _=>alloc_old hb,?_,λb o v hv => .inl hv⟩⟩
 .intro L e;rw[G.aM]at e;cases e;have hm2:(g.cN l i (.it w.heap.size)).loc lm im=some (.mp bm):=by
   rw[G.bK λhh=>by rw[hh.1,hh.2,hnone]at hm;cases hm];exact hm
  exact⟨_,h2,rfl,lm,im,bm,n,[],rfl,hm2,sy,List.nodup_nil,by simp⟩
 .intro b o v e;obtain⟨h1,h2⟩:=hi.nP b o v e;exact⟨(ig (alloc_old (hi.jf e))).trans h1,h2⟩
 .intro l' i' L b e eb o;by_cases c:l'=l/\i'=i
  .obtain⟨rfl,rfl⟩:=c;rw[G.aM]at e;cases e;cases eb;cases e':(g.cN l' i' (.it w.heap.size)).nP w.heap.size o with
   |none=>rfl
   |some v=>have:=hi.jf (b:=w.heap.size) (o:=o) (v:=v) e';omega
  .rw[G.bK c]at e;exact hi.sep l' i' L b e eb o
 .intro L b e eb;rw[G.aM]at e;cases e;cases eb;refine⟨hi.ge,by simp,λl' i' L' c e' eb'=>?_⟩;have:=(hi.lo l' i' L' _ e' eb').2;omega
 .intro b hb;obtain⟨l',i',L,e,eb⟩:=hb;by_cases c:l'=l/\i'=i
  .obtain⟨rfl,rfl⟩:=c;rw[G.aM]at e;cases e;cases eb;exact .inr (aL _)
  .rw[G.bK c]at e;exact .inl ⟨l',i',L,e,eb⟩
theorem ag4(hf:Fr fb V g w B e tmps)(hi:Inv CR base g J w){x:Operand}{X:bP}{t kt et:TypeId}(hx:bO x=some X)(ht:P.underlying t=some (.map kt et))
  (h:bR e J (.mp .rng [X])=some (d,J')) (o:Oper) (ho:o.op=.range t x):ff P CR base g w B e (Act.mk tmps df).eval o d J':=by
 have hr:=hf.bz (df:=df) hx;simp only[bR,aN,bW,CW]at h;split at h
 case h_2=>cases h
 rename_i lm im es hm;obtain⟨b,dF,clock,v,hc,hl,hblk,hheap,hrel,hok⟩:=Bq hi hr hm;simp only[ad,ar,Prod.exists]at h;obtain⟨l,i,J1,hn,rfl,rfl⟩:=h;have hlen:=hrel.length;simp only[bE]at hlen;have hck:clock=es.length:=by rw[hlen];exact hok.2
 obtain⟨i1,e1⟩:=hi.ZU hn hl;have hrun:=run_range_map (P:=P) w t kt et b dF clock ht hheap;rw[hck]at hrun;exact .val (.pointer (some ⟨w.heap.size,0,none⟩)) (by simp[execOp,ho,hc,hrun]) e1 i1 (.WI l i _ _ G.aM (.inl rfl))
theorem agQ(hf:Fr fb V g w B e tmps)(hi:Inv CR base g J w){x:Operand}{X:bP}(hx:bO x=some X)
  (h:bR e J (.mp .ent [X])=some (d,J')) (o:Oper) (ho:o.op=.entry x):ff P CR base g w B e (Act.mk tmps df).eval o d J':=by
 have hr:=hf.bz (df:=df) hx;simp only[bR,aN,bW]at h;generalize bz e X=dx at hr h;cases dx<;>simp only[CW,reduceCtorEq]at h;rename_i l i;split at h
 case h_2=>cases h
 rename_i m n j rest hcs;split at h
 case h_2=>cases h
 rename_i lm im es hm;split at h
 case isFalse=>cases h
 rename_i hlen;split at h
 case h_2=>cases h
 rename_i k v hj;cases h;unfold cells? at hcs;split at hcs
 case h_2=>cases hcs
 rename_i v' cs' hblk;split at hcs
 case isFalse=>cases hcs
 rename_i hv1;cases hcs;generalize hcv:(Act.mk tmps df).eval x=cv at hr;cases hr with
 |kV _ _ b hl =>
  obtain⟨b0,hb0,hrel⟩:=hi.xm l i _ hl;rw[hblk]at hb0;cases hb0;exact hrel.elim
 |SA _ _ b hl =>
  obtain⟨b0,hb0,hrel⟩:=hi.xm l i _ hl;rw[hblk]at hb0;cases hb0;have:=hrel.1;omega
 |TH _ _ b L hl hc =>
  obtain⟨b0,hb0,hrel⟩:=hi.xm l i _ hl;rw[hblk]at hb0;cases hb0;rcases hc with⟨c,rfl⟩ | rfl
  .have:=hrel.1;omega
  .exact hrel.elim
 |WI _ _ b L hl hc =>
  obtain⟨b0,hb0,hrel⟩:=hi.xm l i _ hl;rw[hblk]at hb0;cases hb0;rcases hc with rfl | rfl
  rotate_left
  .exact hrel.elim
  obtain⟨_,lm',im',bm,n',js,hcs,hlm,hheap,hnd,hlt⟩:=hrel;cases js with
  |nil=>simp at hcs
  |cons j' js =>
   simp only[aN,jM,D.int.injEq,true_and]at hcs;obtain⟨rfl,rfl,rfl,_⟩:=hcs;obtain⟨b2,dF,clock,v2,hc2,hl2,hblk2,hheap2,hrel2,hok⟩:=Bq hi (.SA lm' im' bm hlm) hm;cases hc2;have hlen2:=hrel2.length;simp only[bE]at hlen2;obtain⟨c0,hc0,hr0⟩:=hrel2.get hj;rw[lB]at hc0;simp only[Int.toNat_natCast]at hc0;obtain⟨e1,he1,rfl⟩:=ad.1 hc0;have hborn:e1.born=j':=by
    have h1:=congrArg (λl=>l[j']?) hok.1;simp only[lB,he1,aZ]at h1;have h2:=(aA.1 he1).1;rw[List.getElem?_range h2]at h1;exact Option.some.inj h1
   have hck:clock=n':=by have:=hok.2;omega
   have hnd2:(dF.toList.map (·.born)).Nodup:=by rw[hok.1];exact List.nodup_range
   have hit:w.heap[b]?=some (.mapIter (some bm) n' (js.reverse.toArray.push e1.born) clock):=by
    rw[hheap,hborn,hck];simp
   have hrun:=run_entry_at (P:=P) w b bm n' js.reverse.toArray dF clock e1 hit hheap2 (aj he1) hnd2;refine .pure hi (c:=.tuple #[e1.key,e1.val]) ?_ (cQ.of hr0);simp[execOp,ho,hcv,hrun]
end
variable {P:Program} {CR:fe} {base fb:Nat} {V:List Nat} {g:G} {J J':SK} {w:World} {B:Nat->Nat} {e:Env} {tmps:Array Value} {df:List Deferred} {d:D}
theorem ag0(hf:Fr fb V g w B e tmps)(hi:Inv CR base g J w){x:Operand}{X:bP}{t:TypeId}(hx:bO x=some X)(hc:P.concrete t=true)
  (h:bR e J (.W5 t X)=some (d,J')) (o:Oper) (ho:o.op=.makeInterface t x):ff P CR base g w B e (Act.mk tmps df).eval o d J':=by
 have hr:=hf.bz (df:=df) hx;simp only[bR,ae,ar]at h;obtain⟨rfl,rfl⟩:=h;exact .pure hi (c:=.iface t ((Act.mk tmps df).eval x)) (by simp[execOp,ho,run_makeInterface w t _ hc]) (cQ.of (.tP t _ _ hr))
theorem abx(hf:Fr fb V g w B e tmps)(hi:Inv CR base g J w){x:Operand}{X:bP}{t xt:TypeId}{dsc:TypeDesc}{ok:Bool}{z:Option D}(hx:bO x=some X)(ht:P.underlying t=some dsc)(hn:∀ms,dsc ≠ .interface ms)
  (hz:if ok then ∃z0,z=some z0/\zvC P t=some z0 else z=none)
  (h:bR e J (.Yd t z X)=some (d,J')) (o:Oper) (ho:o.op=.typeAssert x xt t ok):ff P CR base g w B e (Act.mk tmps df).eval o d J':=by
 have hr:=hf.bz (df:=df) hx;simp only[bR,ad,ar]at h;obtain⟨d0,h,rfl,rfl⟩:=h;generalize hcx:(Act.mk tmps df).eval x=cx at hr;generalize bz e X=dx at hr h;cases hr with
 |tP t' d1 c h1 =>
  simp only[Rk]at h;cases ok with
  |true =>
   simp only[if_true]at hz;obtain⟨z0,rfl,hz⟩:=hz;obtain⟨iz,zv,hz1,hz2,hz3⟩:=ND g hz;simp only[ae]at h;by_cases htt:t'=t
   .rw[if_pos htt]at h;subst h;refine .pure hi (c:=.tuple #[c,.bool true]) ?_ (cQ.of (.cV _ #[c,.bool true] (.cons _ _ _ _ h1 (.cons _ _ _ _ (.bool true) .nil))));simp only[execOp,ho,hcx,Instr.typeAssert,Sem.run_bind,run_underlying ht,Result.andThen_ok];cases dsc<;>first | exact absurd rfl (hn _) | simp[htt]
   .rw[if_neg htt]at h;subst h;refine .pure hi (c:=.tuple #[zv,.bool false]) ?_ (cQ.of (.cV _ #[zv,.bool false] (.cons _ _ _ _ hz3 (.cons _ _ _ _ (.bool false) .nil))));simp only[execOp,ho,hcx,Instr.typeAssert,Sem.run_bind,run_underlying ht,Result.andThen_ok];cases dsc<;>first | exact absurd rfl (hn _) | simp[htt,gB hz1 hz2]
  |false =>
   simp only[aC,if_false]at hz;subst hz;simp only at h;split at h
   case isFalse=>cases h
   rename_i htt;cases h;refine .pure hi (c:=c) ?_ (cQ.of h1);simp only[execOp,ho,hcx,Instr.typeAssert,Sem.run_bind,run_underlying ht,Result.andThen_ok];cases dsc<;>first | exact absurd rfl (hn _) | simp[htt]
 |nQ =>
  simp only[Rk,ad]at h;obtain⟨z1,rfl,rfl⟩:=h;cases ok with
  |true =>
   simp only[if_true]at hz;obtain⟨z0,hz0,hz⟩:=hz;cases hz0;obtain⟨iz,zv,hz1,hz2,hz3⟩:=ND g hz;refine .pure hi (c:=.tuple #[zv,.bool false]) ?_ (cQ.of (.cV _ #[zv,.bool false] (.cons _ _ _ _ hz3 (.cons _ _ _ _ (.bool false) .nil))));simp only[execOp,ho,hcx,Instr.typeAssert,Sem.run_bind,run_underlying ht,Result.andThen_ok];cases dsc<;>first | exact absurd rfl (hn _) | simp[gB hz1 hz2]
  |false=>simp at hz
 |_=>simp[Rk]at h
theorem HB{t:TypeId}{ms:Array (String×TypeId)}(n:Nat)(ht:P.underlying t=some (.interface ms))(w:World):(Op.equalIn (n+1) t .nilIface .nilIface).run P w=.ok true w:=by
 rw[Op.equalIn];simp[run_underlying ht]
theorem IE{t t':TypeId}{c:Value}{ms:Array (String×TypeId)}(n:Nat)(ht:P.underlying t=some (.interface ms))(w:World):(Op.equalIn (n+1) t (.iface t' c) .nilIface).run P w=.ok false w:=by
 rw[Op.equalIn];simp[run_underlying ht]
theorem Kn{t:TypeId}{ms:Array (String×TypeId)}(ht:P.underlying t=some (.interface ms))(w:World):(Op.equal t .nilIface .nilIface).run P w=.ok true w:=HB 9999 ht w
theorem KY{t t':TypeId}{c:Value}{ms:Array (String×TypeId)}(ht:P.underlying t=some (.interface ms))(w:World):(Op.equal t (.iface t' c) .nilIface).run P w=.ok false w:=IE 9999 ht w
theorem abu(hf:Fr fb V g w B e tmps)(hi:Inv CR base g J w){x:Operand}{X:bP}{t u:TypeId}{ms:Array (String×TypeId)}{neg:Bool}(hx:bO x=some X)(ht:P.underlying t=some (.interface ms))
  (h:bR e J (.ZA neg X)=some (d,J')) (o:Oper) (ho:o.op=.binOp (if neg then .neq else .eql) t x (.const .nilIface) u):ff P CR base g w B e (Act.mk tmps df).eval o d J':=by
 have hr:=hf.bz (df:=df) hx;simp only[bR,ad,ar]at h;obtain⟨b,h,rfl,rfl⟩:=h;have hev:(Act.mk tmps df).eval (.const .nilIface)=.nilIface:=rfl;generalize hcx:(Act.mk tmps df).eval x=cx at hr;generalize bz e X=dx at hr h;cases hr with
 |nQ =>
  cases h;refine .pure hi (c:=.bool (if neg then false else true)) ?_ (cQ.of (by cases neg<;>exact .bool _));cases neg<;>simp[execOp,ho,hcx,hev,eqGuard,binOp,Kn ht]
 |tP t' d1 c h1 =>
  cases h;refine .pure hi (c:=.bool (if neg then true else false)) ?_ (cQ.of (by cases neg<;>exact .bool _));cases neg<;>simp[execOp,ho,hcx,hev,eqGuard,binOp,KY ht]
 |_=>cases h
section
variable {P:Program} {CR:fe} {base fb:Nat} {V:List Nat} {g:G} {J J':SK} {w:World} {B:Nat->Nat} {e:Env} {tmps:Array Value} {df:List Deferred}
 {a:sS} {ops:Array Oper} {key:Nat} {k:K} {d:D}
theorem Qx(hf:Fr fb V g w B e tmps)(hi:Inv CR base g J w){x y:Operand}{X Y:bP}{t u:TypeId}{b:BinOp}(hx:bO x=some X)(hy:bO y=some Y)
  (hk:eqC P b t X Y=some k) (h:bR e J k=some (d,J')) (o:Oper) (ho:o.op=.binOp b t x y u):ff P CR base g w B e (Act.mk tmps df).eval o d J':=by
 unfold eqC at hk;split at hk
 case h_2=>cases hk
 rename_i ks hks;split at hk
 .cases hk
 rename_i hg;have hg':P.eqGuardType P.depth t=false:=by simpa using hg
 split at hk
 .obtain⟨ag,hag,rfl⟩:=ad.1 hk;exact abt hf hi hx hy hks hag hg' h o (by simpa using ho)
 .obtain⟨ag,hag,rfl⟩:=ad.1 hk;exact abt hf hi hx hy hks hag hg' h o (by simpa using ho)
 .cases hk
theorem aal{ag:Bool}{sz:Nat}{X:bP}{r:D×SK}(h:bR e J (.UK ag sz X)=some r):bR e J (.ld ag sz X)=some r:=by
 simp only[bR]at h ⊢;cases hx:bz e X<;>rw[hx]at h<;>try (cases h;done)
 simpa[Hw]using h
theorem aak{ag:Bool}{sz:Nat}{X:bP}{r:D×SK}(h:bR e J (.UJ ag sz X)=some r):bR e J (.ld ag sz X)=some r:=by
 simp only[bR]at h ⊢;cases hr:UM J (bz e X)with
 |none=>rw[hr]at h;cases h
 |some cs =>
  rw[hr]at h;have:Hw J (bz e X)=some cs:=by
   generalize bz e X=dx at hr;unfold UM at hr;split at hr
   .exact hr
   .cases hr
  rw[this];exact h
theorem Eu{w:World}(d:Nat){t el:TypeId}{a:Option Addr}(h:P.underlying t=some (.pointer el)):(Op.equalIn (d+1) t (.pointer a) (.pointer none)).run P w=.ok a.isNone w:=by
 cases a<;>simp[Op.equalIn,bC h]
theorem CX{w:World}(d:Nat){t el:TypeId}{a:Option Addr}{n c:Nat}(h:P.underlying t=some (.slice el)):(Op.equalIn (d+1) t (.slice a n c) (.slice none 0 0)).run P w=.ok a.isNone w:=by
 cases a<;>simp[Op.equalIn,bC h]
theorem agT(hi:Inv CR base g J w){x y:Operand}{X:bP}{t u:TypeId}{b:BinOp}{ps bo:Bool}{cx cy:Value}(e1:(Act.mk tmps df).eval x=cx)(e2:(Act.mk tmps df).eval y=cy)
  (hg:∀b,(eqGuard b t x y cx cy).run P w=.ok () w) (hb:binOp .eql t cx cy=(do pure (.bool (<- Op.equal t cx cy)))) (hb':binOp .neq t cx cy=(do pure (.bool (!(<- Op.equal t cx cy)))))
  (heq:(Op.equal t cx cy).run P w=.ok bo w) (hn:KT ps (bz e X)=some bo)
  (hk:X7 ps b X=some k) (h:bR e J k=some (d,J')) (o:Oper) (ho:o.op=.binOp b t x y u):ff P CR base g w B e (Act.mk tmps df).eval o d J':=by
 unfold X7 at hk;split at hk
 .cases hk;simp only[bR,hn,aZ,ae,ar]at h;obtain⟨rfl,rfl⟩:=h;refine .pure hi ?_ (cQ.of (.bool _));simp[execOp,ho,e1,e2,hg,hb,heq]
 .cases hk;simp only[bR,hn,aZ,ae,ar]at h;obtain⟨rfl,rfl⟩:=h;refine .pure hi ?_ (cQ.of (.bool _));simp[execOp,ho,e1,e2,hg,hb',heq]
 .cases hk
theorem O4{ps:Bool}{b:BinOp}{X:bP}(hk:X7 ps b X=some k)(h:bR e J k=some (d,J')):∃bo,KT ps (bz e X)=some bo:=by
 unfold X7 at hk;split at hk<;>cases hk<;>simp only[bR,ad]at h<;>obtain⟨b,hb,_⟩:=h<;>exact⟨b,hb⟩
theorem agU(hf:Fr fb V g w B e tmps)(hi:Inv CR base g J w){x y:Operand}{X:bP}{t u el:TypeId}{b:BinOp}(hx:bO x=some X)(hy:bO y=some (.c .yM))(ht:P.underlying t=some (.pointer el))
  (hk:X7 true b X=some k) (h:bR e J k=some (d,J')) (o:Oper) (ho:o.op=.binOp b t x y u):ff P CR base g w B e (Act.mk tmps df).eval o d J':=by
 have hr:=hf.bz (df:=df) hx;have hr':=hf.bz (df:=df) hy;have e2:(Act.mk tmps df).eval y=.pointer none:=by
  generalize (Act.mk tmps df).eval y=c at hr';cases hr';rfl
 obtain⟨bo,hn⟩:=O4 hk h;have:∃a,(Act.mk tmps df).eval x=.pointer a/\bo=a.isNone:=by
  generalize bz e X=dx at hr hn;generalize (Act.mk tmps df).eval x=cx at hr;cases hr<;>simp[KT]at hn
  .exact⟨none,rfl,by simp[<- hn]⟩
  .exact⟨_,rfl,by simp[<- hn]⟩
  .exact⟨_,rfl,by simp[<- hn]⟩
 obtain⟨a,e1,rfl⟩:=this;refine agT hi e1 e2 (λb=>by simp[eqGuard]) rfl rfl (Eu 9999 ht) hn hk h o ho
theorem agV(hf:Fr fb V g w B e tmps)(hi:Inv CR base g J w){x y:Operand}{X:bP}{t u el:TypeId}{b:BinOp}(hx:bO x=some X)(hy:bO y=some (.c .aW))(ht:P.underlying t=some (.slice el))
  (hk:X7 false b X=some k) (h:bR e J k=some (d,J')) (o:Oper) (ho:o.op=.binOp b t x y u):ff P CR base g w B e (Act.mk tmps df).eval o d J':=by
 have hr:=hf.bz (df:=df) hx;have hr':=hf.bz (df:=df) hy;have e2:(Act.mk tmps df).eval y=.slice none 0 0:=by
  generalize (Act.mk tmps df).eval y=c at hr';cases hr';rfl
 obtain⟨bo,hn⟩:=O4 hk h;have:∃a n c,(Act.mk tmps df).eval x=.slice a n c/\bo=a.isNone:=by
  generalize bz e X=dx at hr hn;generalize (Act.mk tmps df).eval x=cx at hr;cases hr<;>simp[KT]at hn
  .exact⟨none,_,_,rfl,by simp[<- hn]⟩
  .exact⟨_,_,_,rfl,by simp[<- hn.2]⟩
  .rename_i l i v off n w a cap L h1 h2 h3 h4 h5 h6 h7;refine⟨a,n,cap,rfl,?_⟩;cases a with
   |none=>have:=h4 rfl;omega
   |some a=>simp[<- hn.2]
 obtain⟨a,n,c,e1,rfl⟩:=this;refine agT hi e1 e2 (λb=>by simp[eqGuard]) rfl rfl (CX 9999 ht) hn hk h o ho
theorem ag3(hf:Fr fb V g w B e tmps)(hi:Inv CR base g J w){x:Operand}{X:bP}(hx:bO x=some X)(h:bR e J (.ZS X)=some (d,J'))(o:Oper)(ho:o.op=.nilCheck x):
  ff P CR base g w B e (Act.mk tmps df).eval o d J':=by
 have hr:=hf.bz (df:=df) hx;simp only[bR]at h;generalize bz e X=dx at hr h;have key:(∃a,(Act.mk tmps df).eval x=.pointer (some a))/\d=dx/\J'=J:=by
  generalize (Act.mk tmps df).eval x=cx at hr;cases hr<;>simp at h
  .exact⟨⟨_,rfl⟩,h.1.symm,h.2.symm⟩
  .exact⟨⟨_,rfl⟩,h.1.symm,h.2.symm⟩
 obtain⟨⟨a,e1⟩,rfl,rfl⟩:=key;rw[e1]at hr;exact .pure hi (c:=.pointer (some a)) (by simp[execOp,ho,e1]) (cQ.of hr)
theorem LG{x:Operand}(h:Cg x=true):x=.const (.slice none 0 0):=by
 unfold Cg at h;split at h
 .rfl
 .cases h
theorem aei(hf:Fr fb V g w B e tmps)(hi:Inv CR base g J w){o:Oper}(hk:kC P a ops key o=some k)(h:bR e J k=some (d,J')):
  ff P CR base g w B e (Act.mk tmps df).eval o d J':=by
 unfold kC at hk;split at hk
 .rename_i x ho;obtain⟨X,hX,rfl⟩:=ad.1 hk;exact Q2 hf hi hX h o (.inl ho)
 .rename_i x ho;split at hk
  .rename_i hnil _ _;split at hk
   .obtain⟨X,hX,rfl⟩:=ad.1 hk;exact aea hi h o (by rw[ho,LG hnil])
   .obtain⟨X,hX,rfl⟩:=ad.1 hk;exact Q2 hf hi hX h o (.inr ho)
  .obtain⟨X,hX,rfl⟩:=ad.1 hk;exact Q2 hf hi hX h o (.inr ho)
 .rename_i c x y ho;split at hk
  .rename_i c' x' y' h1 h2 h3;cases hk;exact aeb hf hi h1 h2 h3 h o ho
  .cases hk
 .rename_i el ho;split at hk
  .rename_i z d0 hz _;split at hk
   .split at hk
    case h_2=>cases hk
    split at hk
    case h_2=>cases hk
    split at hk
    case h_2=>cases hk
    cases hk;exact agY hi hz h o ho
   cases hk;split at h
   .cases h
   .exact agE hi hz h o ho
  .cases hk
 .rename_i t x ho;split at hk
  .rename_i x' d0 hx _;cases hk;split at h
   .cases h
   split at h
   .split at h
    .exact ad1 hf hi hx h o ho
    .exact agM hf hi hx h o ho
   .exact ad0 hf hi hx h o ho
  .cases hk
 .rename_i t ps ho;split at hk
  .rename_i fs z ht hz;split at hk
   .rename_i hall;obtain⟨parts,hp,rfl⟩:=ad.1 hk;exact Nn hf hi ht hz hall hp h o ho
   .cases hk
  .rename_i n el z ht hz;split at hk
   .rename_i wd hw;obtain⟨parts,hp,rfl⟩:=ad.1 hk;exact PC hf hi ht hw hz hp h o ho
   .cases hk
  .cases hk
 .rename_i t n ps ho;split at hk
  .rename_i el ht;split at hk
   .rename_i wd z d0 hw hz _;split at hk
    .rename_i hc;obtain⟨parts,hp,rfl⟩:=ad.1 hk;dsimp only at h;split at h
     .rename_i hn;simp only[af,aw]at hn;obtain⟨⟨rfl,hpe⟩,_⟩:=hn;exact agJ hf hi ht hw hz hc.1 hc.2.1 hc.2.2 hp (by simpa using hpe) h o ho
     split at h
     .exact agL hf hi ht hw hz hc.1 hc.2.1 hc.2.2 hp h o ho
     .exact agK hf hi ht hw hz hc.1 hc.2.1 hc.2.2 hp h o ho
    .cases hk
   .cases hk
  .cases hk
 .rename_i t x ho;split at hk
  .rename_i ag sz n hag hsz hx;split at hk
   .rename_i hc;simp only[af,aw]at hc;cases hk;have hxe:x=.tmp n:=by
     cases x<;>simp only[bO,ae,bP.t.injEq,reduceCtorEq,ad,and_false,exists_false]at hx;rw[hx]
    split at h
    .exact agW hf hi hag hsz hc.1 hc.2 h o (by rw[ho,hxe])
    .split at h
     .exact ad6 hf hi hx hag hsz hc.1 hc.2 (aal h) o ho
     split at h
     .exact ad6 hf hi hx hag hsz hc.1 hc.2 (aak h) o ho
     .exact ad6 hf hi hx hag hsz hc.1 hc.2 h o ho
   .cases hk
  .cases hk
 .rename_i t x y ho;split at hk
  .rename_i sz n y' hsz hx hy;cases hk;split at h
   .cases h
   .split at h
    .exact ag8 hf hi hx hy hsz (S0 h) o ho
    .exact ag8 hf hi hx hy hsz h o ho
  .cases hk
 .rename_i b t x y u ho;split at hk
  .rename_i hx hy;cases hk;exact agI hf hi hx hy h o ho
  .rename_i hx hy;exact Qx hf hi hx hy hk h o ho
  .rename_i hx hy;exact Qx hf hi hx hy hk h o ho
  .rename_i hx hy;exact Qx hf hi hx hy hk h o ho
  .rename_i ht hx hy;split at hk
   .cases hk;exact aec hf hi hx hy h o ho
   .cases hk;exact abw hf hi hx hy h o ho
   .cases hk;exact abw hf hi hx hy h o ho
   .cases hk
  .rename_i ht hx hy;exact agU hf hi hx hy ht hk h o ho
  .rename_i ht hx hy;split at hk
   .rename_i hsz;split at hk
    .cases hk;exact abv (neg:=false) hf hi hx hy ht hsz h o ho
    .cases hk;exact abv (neg:=true) hf hi hx hy ht hsz h o ho
    .cases hk
   .cases hk
  .rename_i ht hx hy;exact agV hf hi hx hy ht hk h o ho
  .rename_i ht hx hy;split at hk
   .cases hk;exact abu (neg:=false) hf hi hx ht h o ho
   .cases hk;exact abu (neg:=true) hf hi hx ht h o ho
   .cases hk
  .cases hk
 .rename_i x ho;obtain⟨X,hX,rfl⟩:=ad.1 hk;exact ag3 hf hi hX h o ho
 .rename_i b t x ho;obtain⟨X,hX,rfl⟩:=ad.1 hk;exact ajB hf hi hX h o ho
 .rename_i s t x ho;split at hk
  .rename_i hs ht hx;cases hk;exact agO hf hi hx hs ht h o ho
  .rename_i hs ht hx;split at hk
   .rename_i he hw;cases hk;exact agH hf hi hx hs he ht h o ho
   .cases hk
  .rename_i hs ht hx;split at hk
   .rename_i he hw;cases hk;exact ag6 hf hi hx hs he ht h o ho
   .cases hk
  .rename_i hs ht hx;split at hk
   .rename_i hst;subst hst;split at hk
    .rename_i he;cases hk;exact agP hf hi hx hs he h o ho
    .cases hk
   .cases hk
  .cases hk
 .rename_i t x ho;split at hk
  .rename_i ht hx;obtain⟨wd,hw,rfl⟩:=ad.1 hk;exact ag5 hf hi hx ht h o ho
  .cases hk
 .rename_i f xs ys ho;split at hk
  .rename_i hx hy;cases hk;exact agZ hf hi hx hy h o ho
  .cases hk
 .rename_i t x y ho;split at hk
  .rename_i el ht;split at hk
   .rename_i hw hb hz hx hy;split at hk
    .rename_i hc;cases hk;exact ag2 hf hi hx hy ht hw hb hz hc.1 hc.2 h o ho
    .cases hk
   .cases hk
  .cases hk
 .rename_i t x lo hh mx ho;split at hk
  .rename_i ht hx hlo hhi hmx;obtain⟨wd,hw,rfl⟩:=ad.1 hk;exact ag7 hf hi hx ht hw hlo hhi hmx h o ho
  .rename_i ht hx hlo hhi hmx;obtain⟨wd,hw,rfl⟩:=ad.1 hk;have hm:mx=none:=by
    cases mx with
    |none=>rfl
    |some m=>simp[yO,ad]at hmx
   subst hm;exact aee hf hi hx ht hw hlo hhi h o ho
  .rename_i ht hx hlo hhi hmx;cases hk;have hm:mx=none:=by
    cases mx with
    |none=>rfl
    |some m=>simp[yO,ad]at hmx
   subst hm;exact aeg hf hi hx ht hlo hhi h o ho
  .cases hk
 .rename_i s x i ho;split at hk
  .rename_i fs x' hs hx;split at hk
   .rename_i off sz hfc;split at hk
    .rename_i hpos;cases hk;exact ad2 hf hi hx hs hfc hpos h o ho
    .cases hk
   .cases hk
  .cases hk
 .rename_i s x i ho;split at hk
  .rename_i fs x' hs hx;split at hk
   .rename_i f hfi;split at hk
    .rename_i hag hsz;split at hk
     .cases hk;exact agS hf hi hx hs hfi hag hsz h o ho
     .cases hk
    .cases hk
   .cases hk
  .cases hk
 .rename_i t x y ho;split at hk
  .rename_i ht hx hy;obtain⟨wd,hw,rfl⟩:=ad.1 hk;exact ad3 hf hi hx hy ht hw h o ho
  .rename_i ht hx hy;obtain⟨wd,hw,rfl⟩:=ad.1 hk;exact ad4 hf hi hx hy ht hw h o ho
  .cases hk
 .rename_i t x y ho;split at hk
  .rename_i ht hx hy;split at hk
   .rename_i hag hsz;split at hk
    .cases hk;exact ad5 hf hi hx hy ht hag hsz h o ho
    .cases hk
   .cases hk
  .rename_i ht hx hy;cases hk;exact aed hf hi hx hy ht h o ho
  .cases hk
 .rename_i x i ho;obtain⟨X,hX,rfl⟩:=ad.1 hk;exact agR hf hi hX h o ho
 .rename_i c ho;obtain⟨callee,args,ts⟩:=c;dsimp only at hk;split at hk
  .rename_i f;split at hk
   .cases hk;cases h
   .cases hk
  .split at hk
   .rename_i t tr x r hts ha;split at hk
    .rename_i ht hx;cases hk;exact agX hf hi hx ht ha hts h o ho
    .rename_i ht hx;cases hk;exact aef hf hi hx ht ha hts h o ho
    .rename_i ht hx;cases hk;exact ad9 hf hi hx ht ha hts h o ho
    .rename_i ht;cases hk;exact XF hi (.inl ⟨_,ht⟩) ha hts h o ho
    .rename_i ht;split at hk
     .rename_i hr;cases hk;exact XF hi (.inr ⟨_,_,ht,hr⟩) ha hts h o ho
     .cases hk
    .cases hk
   .cases hk
  .cases hk;cases h
  .split at hk
   .rename_i ha;split at hk
    .rename_i hx hy;cases hk;exact ajz hf hi hx hy ha h o ho
    .cases hk
   .cases hk
  .split at hk
   .rename_i ha;split at hk
    .rename_i hx hy;cases hk;exact ajA hf hi hx hy ha h o ho
    .cases hk
   .cases hk
  .split at hk
   .rename_i t u x y hts ha;split at hk
    .rename_i uu x' y' ht hu0 hx hy;split at hk
     case isFalse=>cases hk
     rename_i huu;have hu:P.underlying u=some .string\/∃e2,P.underlying u=some (.slice e2):=by
      cases uu<;>simp[Xz]at huu
      .exact .inl hu0
      .exact .inr ⟨_,hu0⟩
     split at hk
     .rename_i hw hb hz;split at hk
      .rename_i hc;cases hk;split at h
       .rename_i hn;simp only[af]at hn;exact agN hf hi (LG hn.1) hy ha hts ht hu hw hb hz hc.2.2.2 hc.2.1 hc.2.2.1 h o ho
       .split at h
        .rename_i hn;simp only[af]at hn;obtain⟨v,rfl⟩:∃v,x=.tmp v:=by
          have:=hn.2;cases x<;>simp[XX]at this;exact⟨_,rfl⟩
         exact agF hf hi rfl hy ha hts ht hu hw hb hz hc.2.2.2 hc.2.1 hc.2.2.1 h o ho
        split at h
        .exact agG hf hi hx hy ha hts ht hu hw hb hz hc.2.2.2 hc.2.1 hc.2.2.1 h o ho
        split at h
        .exact XE hf hi hx hy ha hts ht hu hw hb hz hc.2.2.2 hc.2.1 hc.2.2.1 (SZ h) o ho
        .exact XE hf hi hx hy ha hts ht hu hw hb hz hc.2.2.2 hc.2.1 hc.2.2.1 h o ho
      .cases hk
     .cases hk
    .cases hk
   .cases hk
  .cases hk
 .rename_i t x ho;split at hk
  .rename_i hc;obtain⟨X,hX,rfl⟩:=ad.1 hk;exact ag0 hf hi hX hc h o ho
  .cases hk
 .rename_i x xt t ok ho;split at hk
  .cases hk
  .rename_i dsc x' hnot ht hx;split at hk
   .rename_i hok;subst hok;obtain⟨z,hz,rfl⟩:=ad.1 hk;exact abx hf hi hx ht (λms hms=>by subst hms;exact hnot _ rfl) (by simpa using hz) h o ho
   .rename_i hok;cases hk;exact abx hf hi hx ht (λms hms=>by subst hms;exact hnot _ rfl) (by simp[hok]) h o ho
  .cases hk
 .rename_i x ho;obtain⟨X,hX,rfl⟩:=ad.1 hk;cases h
 .rename_i t ho;cases hk;exact ag1 hi h o ho
 .rename_i t k n ho;split at hk
  .rename_i ht;cases hk;exact ad8 hi h ht o ho
  .cases hk
 .rename_i t x ho;split at hk
  .rename_i ht hx;cases hk;exact ag4 hf hi hx ht h o ho
  .cases hk
 .rename_i x ho;split at hk
  .rename_i hx;cases hk;exact agQ hf hi hx h o ho
  .cases hk
 .rename_i t x y ok ho;split at hk
  .rename_i ht hx hy;split at hk
   .rename_i hky hz;cases hk;exact ad7 hf hi hx hy ht hky hz h o ho
   .cases hk
  .cases hk
 .rename_i t m x y ho;split at hk
  .rename_i ht hm hx hy;split at hk
   .rename_i hky;cases hk;exact XG hf hi hm hx hy ht hky h o (.inl ho)
   .cases hk
  .cases hk
 .rename_i t m x y ho;split at hk
  .rename_i ht hm hx hy;split at hk
   .rename_i hky;cases hk;exact XG hf hi hm hx hy ht hky h o (.inr ho)
   .cases hk
  .cases hk
 .cases hk
end
mutual
def D.low(n:Nat):D->Bool
 |.ref l .. => decide (l<n)
 |.sl l .. => decide (l<n)
 |.kV l _=>decide (l<n)
 |.vr .. => true
 |.emp=>true
 |.own _ cs=>D.lr n cs
 |.agg cs=>D.lr n cs
 |.cV cs=>D.lr n cs
 |.bf cs=>D.lr n cs
 |.bY _ cs=>D.lr n cs
 |.fn _ a b=>D.lr n a && D.lr n b
 |.undef=>true
 |.bool _=>true
 |.int _ _=>true
 |.str _=>true
 |.yM=>true
 |.aW=>true
 |.pC=>true
 |.tP _ d=>D.low n d
 |.nQ=>true
def D.lr(n:Nat):List D->Bool
 |[]=>true
 |d::ds=>D.low n d && D.lr n ds
end
theorem DF{n:Nat}{ds:List D}:D.lr n ds=true↔∀d∈ds,d.low n=true:=by
 induction ds with
 |nil=>simp[D.lr]
 |cons d ds ih=>simp[D.lr,ih]
mutual
theorem sA{n:Nat}:∀{d:D},d.clean=true->d.low n=true
 |.ref ..,h=>by simp[D.clean]at h
 |.sl ..,h=>by simp[D.clean]at h
 |.kV ..,h=>by simp[D.clean]at h
 |.vr ..,_=>rfl
 |.emp,_=>rfl
 |.own _ cs,h=>oZ (ds:=cs) (by simpa[D.clean]using h)
 |.agg cs,h=>oZ (ds:=cs) (by simpa[D.clean]using h)
 |.cV cs,h=>oZ (ds:=cs) (by simpa[D.clean]using h)
 |.bf cs,h=>oZ (ds:=cs) (by simpa[D.clean]using h)
 |.bY _ cs,h=>oZ (ds:=cs) (by simpa[D.clean]using h)
 |.fn _ a b,h=>by
  simp only[D.clean,af]at h;simp only[D.low,af];exact⟨oZ h.1,oZ h.2⟩
 |.undef,_=>rfl
 |.bool _,_=>rfl
 |.int _ _,_=>rfl
 |.str _,_=>rfl
 |.yM,_=>rfl
 |.aW,_=>rfl
 |.pC,_=>rfl
 |.tP _ d,h=>sA (d:=d) (by simpa[D.clean]using h)
 |.nQ,_=>rfl
theorem oZ{n:Nat}:∀{ds:List D},D.bd ds=true->D.lr n ds=true
 |[],_=>rfl
 |d::ds,h=>by
  simp only[D.bd,af]at h;simp only[D.lr,af];exact⟨sA h.1,oZ h.2⟩
end
mutual
theorem bQ.low{g:G}{n:Nat}(hn:∀l i L,g.loc l i=some L->l<n):∀{d:D} {c:Value},bQ g d c->d.low n=true
 |_,_,.undef c=>rfl
 |_,_,.bool b=>rfl
 |_,_,.int k n=>rfl
 |_,_,.str s=>rfl
 |_,_,.agg ds cs hr h1=>bN.low hn hr
 |_,_,.cV ds cs hr=>bN.low hn hr
 |_,_,.yM=>rfl
 |_,_,.ref l i v off b o L e hv hc hn'=>by simp only[D.low,aw];exact hn l i L e
 |_,_,.bf ds b o vs hr hl=>bN.low hn hl
 |_,_,.aW=>rfl
 |_,_,.za=>rfl
 |_,_,.bY n' ds a cap vs hn' hr hs hl=>bN.low hn hl
 |_,_,.sl l i v off n' w a cap L e hv hn' ha hs hc hc'=>by simp only[D.low,aw];exact hn l i L e
 |_,_,.fn f fs cs fs' cs' h1 h2=>by simp only[D.low,af];exact⟨bN.low hn h1,bN.low hn h2⟩
 |_,_,.pC=>rfl
 |_,_,.kV l i b e=>by simp only[D.low,aw];exact hn l i _ e
 |_,_,.SA l i b e=>by simp only[D.low,aw];exact hn l i _ e
 |_,_,.WI l i b L e hc=>by simp only[D.low,aw];exact hn l i _ e
 |_,_,.TH l i b L e hc=>by simp only[D.low,aw];exact hn l i _ e
 |_,_,.tP t d c h1=>by rw[D.low];exact bQ.low hn h1
 |_,_,.nQ=>rfl
theorem bN.low{g:G}{n:Nat}(hn:∀l i L,g.loc l i=some L->l<n):∀{ds:List D} {cs:List Value},bN g ds cs->D.lr n ds=true
 |_,_,.nil=>rfl
 |_,_,.cons d c ds cs h1 h2=>by simp only[D.lr,af];exact⟨bQ.low hn h1,bN.low hn h2⟩
end
def G.cut(g:G)(n:Nat):G:=⟨λl i=>if l<n then g.loc l i else none,g.nP⟩
theorem G.rG{g:G}{n l i:Nat}(h:l<n):(g.cut n).loc l i=g.loc l i:=by simp[G.cut,h]
theorem G.xG{g:G}{n l i:Nat}{L:Loc}(h:(g.cut n).loc l i=some L):l<n/\g.loc l i=some L:=by
 simp only[G.cut]at h;split at h
 .exact⟨by assumption,h⟩
 .cases h
mutual
theorem bQ.cut{g:G}{n:Nat}:∀{d:D} {c:Value},bQ g d c->d.low n=true->bQ (g.cut n) d c
 |_,_,.undef c,_ => .undef c
 |_,_,.bool b,_ => .bool b
 |_,_,.int k n,_ => .int k n
 |_,_,.str s,_ => .str s
 |_,_,.agg ds cs hr h1,h => .agg ds cs (bN.cut hr h) h1
 |_,_,.cV ds cs hr,h => .cV ds cs (bN.cut hr h)
 |_,_,.yM,_ => .yM
 |_,_,.ref l i v off b o L e hv hc hn',h => .ref l i v off b o L ((G.rG (by simpa[D.low]using h)).trans e) hv hc hn'
 |_,_,.bf ds b o vs hr hl,h => .bf ds b o vs hr (bN.cut hl h)
 |_,_,.aW,_ => .aW
 |_,_,.za,_ => .za
 |_,_,.bY n' ds a cap vs hn' hr hs hl,h => .bY n' ds a cap vs hn' hr hs (bN.cut hl h)
 |_,_,.sl l i v off n' w a cap L e hv hn' ha hs hc hc',h => .sl l i v off n' w a cap L ((G.rG (by simpa[D.low]using h)).trans e) hv hn' ha hs hc hc'
 |_,_,.fn f fs cs fs' cs' h1 h2,h=>by
  simp only[D.low,af]at h;exact .fn f fs cs fs' cs' (bN.cut h1 h.1) (bN.cut h2 h.2)
 |_,_,.pC,_ => .pC
 |_,_,.kV l i b e,h => .kV l i b ((G.rG (by simpa[D.low]using h)).trans e)
 |_,_,.SA l i b e,h => .SA l i b ((G.rG (by simpa[D.low]using h)).trans e)
 |_,_,.WI l i b L e hc,h => .WI l i b L ((G.rG (by simpa[D.low]using h)).trans e) hc
 |_,_,.TH l i b L e hc,h => .TH l i b L ((G.rG (by simpa[D.low]using h)).trans e) hc
 |_,_,.tP t d c h1,h => .tP t d c (bQ.cut h1 h)
 |_,_,.nQ,_ => .nQ
theorem bN.cut{g:G}{n:Nat}:∀{ds:List D} {cs:List Value},bN g ds cs->D.lr n ds=true->bN (g.cut n) ds cs
 |_,_,.nil,_ => .nil
 |_,_,.cons d c ds cs h1 h2,h=>by
  simp only[D.lr,af]at h;exact .cons d c ds cs (bQ.cut h1 h.1) (bN.cut h2 h.2)
end
mutual
theorem DG{n m:Nat}(hm:n<=m):∀{d:D},d.low n=true->d.low m=true
 |.ref l ..,h=>by simp only[D.low,aw]at h ⊢;omega
 |.sl l ..,h=>by simp only[D.low,aw]at h ⊢;omega
 |.kV l _,h=>by simp only[D.low,aw]at h ⊢;omega
 |.vr ..,_=>rfl
 |.emp,_=>rfl
 |.own _ cs,h=>pP (ds:=cs) hm h
 |.agg cs,h=>pP (ds:=cs) hm h
 |.cV cs,h=>pP (ds:=cs) hm h
 |.bf cs,h=>pP (ds:=cs) hm h
 |.bY _ cs,h=>pP (ds:=cs) hm h
 |.fn _ a b,h=>by
  simp only[D.low,af]at h ⊢;exact⟨pP hm h.1,pP hm h.2⟩
 |.undef,_=>rfl
 |.bool _,_=>rfl
 |.int _ _,_=>rfl
 |.str _,_=>rfl
 |.yM,_=>rfl
 |.aW,_=>rfl
 |.pC,_=>rfl
 |.tP _ d,h=>DG (d:=d) hm h
 |.nQ,_=>rfl
theorem pP{n m:Nat}(hm:n<=m):∀{ds:List D},D.lr n ds=true->D.lr m ds=true
 |[],_=>rfl
 |d::ds,h=>by
  simp only[D.lr,af]at h ⊢;exact⟨DG hm h.1,pP hm h.2⟩
end
def aD.low(n:Nat):aD->Prop
 |.cells _ cs=>D.lr n cs=true
 |.dead=>True
 |.loop lp=>∀t,(get lp.env t).low n=true
def pI(J:SK):Prop:=∀l i b,ea J l i=some b->l+1<J.length->b.low (l+1)
theorem pI.set{J:SK}(h:pI J){l i:Nat}{b:aD}(hb:l+1<J.length->b.low (l+1)):pI (bh J l i b):=by
 intro l' i' b' h1 h2;rw[dD]at h2;by_cases hc:l'=l/\i'=i
 .obtain⟨rfl,rfl⟩:=hc;cases h0:ea J l' i' with
  |none =>
   have:ea (bh J l' i' b) l' i'=none:=by
    unfold bh;cases hs:fq J l' with
    |none=>exact h0
    |some s =>
     simp only[ea,sK (Co hs),Option.bind_some];simp only[ea,hs,Option.bind_some]at h0;rw[List.getElem?_eq_none_iff]at h0 ⊢;simpa using h0
   rw[this]at h1;cases h1
  |some b0=>rw[nw h0]at h1;cases h1;exact hb h2
 .rw[eD hc]at h1;exact h l' i' b' h1 h2
theorem pI.new{J J':SK}(h:pI J){l i:Nat}{b:aD}(hn:gA J b=some (l,i,J')):pI J':=by
 obtain⟨h1,h2,h3,h4,h5⟩:=jF hn;intro l' i' b' e hl;by_cases hc:l'=l/\i'=i
 .omega
 .rw[h3 l' i' hc]at e;exact h l' i' b' e (by omega)
structure fP(J J':SK):Prop where
 len:J'.length=J.length
 low:pI J->pI J'
theorem fP.refl(J:SK):fP J J:=⟨rfl,id⟩
theorem fP.trans{a b c:SK}(h:fP a b)(h':fP b c):fP a c:=⟨h'.len.trans h.len,λx=>h'.low (h.low x)⟩
theorem fP.new{J J':SK}{l i:Nat}{b:aD}(hn:gA J b=some (l,i,J')):fP J J':=⟨(jF hn).2.2.2.1,λh=>h.new hn⟩
theorem fP.set{J:SK}{l i:Nat}{b:aD}(hb:l+1<J.length->b.low (l+1)):fP J (bh J l i b):=⟨dD,λh=>h.set hb⟩
theorem su:∀(nb:List (Nat×Nat)) (cs cs':List D) (J J':SK),j7 nb cs J=some (cs',J')->fP J J'
 |[],cs,cs',J,J',h=>by simp only[j7,ae,ar]at h;obtain⟨rfl,rfl⟩:=h;exact .refl _
 |(p,w)::r,cs,cs',J,J',h=>by
  simp only[j7]at h;split at h
  .simp only[aU,ak]at h;obtain⟨⟨l,i,J1⟩,hn,h⟩:=h;exact(fP.new hn).trans (su r _ _ _ _ h)
  .exact su r _ _ _ _ h
theorem Bn(l:Nat):∀(n:Nat) (d:D) (J:SK),(cG l n d J).1.low (l+1)=true/\fP J (cG l n d J).2
 |0,d,J=>⟨rfl,.refl _⟩
 |n+1,d,J=>by
  have ih:∀(ds:List D) (J:SK),D.lr (l+1) (cG.frzL (cG l n) ds J).1=true/\fP J (cG.frzL (cG l n) ds J).2:=by
   intro ds;induction ds with
   |nil=>intro J;exact⟨rfl,.refl _⟩
   |cons d ds ihd =>
    intro J;obtain⟨h1,h2⟩:=Bn l n d J;obtain⟨h3,h4⟩:=ihd (cG l n d J).2;simp only[cG.frzL,D.lr,af];exact⟨⟨h1,h3⟩,h2.trans h4⟩
  simp only[cG];split
  .rename_i hc;exact⟨sA hc,.refl _⟩
  cases d with
  |agg cs=>exact ih cs J
  |cV cs=>exact ih cs J
  |bf cs=>exact ih cs J
  |bY m cs=>exact ih cs J
  |own s cs=>exact ih cs J
  |fn f a b =>
   obtain⟨h1,h2⟩:=ih a J;obtain⟨h3,h4⟩:=ih b (cG.frzL (cG l n) a J).2;refine⟨?_,h2.trans h4⟩;simp only[D.low,af];exact⟨h1,h3⟩
  |ref l' i v off =>
   dsimp only;split
   .refine⟨?_,.refl _⟩;simp only[D.low,aw];omega
   .exact⟨rfl,.refl _⟩
  |kV l' i =>
   dsimp only;split
   .refine⟨?_,.refl _⟩;simp only[D.low,aw];omega
   .exact⟨rfl,.refl _⟩
  |sl l' i v off m w =>
   dsimp only;split
   .refine⟨?_,.refl _⟩;simp only[D.low,aw];omega
   .split
    .rename_i cs hcs;obtain⟨h1,h2⟩:=ih ((cs.drop off).take (m*w)) (bh J l' i .dead);exact⟨h1,(fP.set (b:=.dead) λ_=>trivial).trans h2⟩
    .exact⟨rfl,.refl _⟩
  |_=>exact⟨rfl,.refl _⟩
theorem D7(l n:Nat)(ds:List D):∀(J:SK),D.lr (l+1) (cG.frzL (cG l n) ds J).1=true/\fP J (cG.frzL (cG l n) ds J).2:=by
 induction ds with
 |nil=>intro J;exact⟨rfl,.refl _⟩
 |cons d ds ihd =>
  intro J;obtain⟨h1,h2⟩:=Bn l n d J;obtain⟨h3,h4⟩:=ihd (cG l n d J).2;simp only[cG.frzL,D.lr,af];exact⟨⟨h1,h3⟩,h2.trans h4⟩
theorem Hf(l:Nat):∀(e:Env) (J:SK),(∀p∈(oV l e J).1,p.2.low (l+1)=true)/\fP J (oV l e J).2
 |[],J=>⟨by simp[oV],.refl _⟩
 |(t,d)::e,J=>by
  obtain⟨h1,h2⟩:=Bn l deep d J;obtain⟨h3,h4⟩:=Hf l e (cG l deep d J).2;simp only[oV];refine⟨?_,h2.trans h4⟩;intro p hp;rcases bj.1 hp with rfl | hp
  .exact h1
  .exact h3 p hp
theorem BO{J:SK}(h:pI J){l i v:Nat}{cs:List D}(hc:cells? J l i v=some cs)(hl:l+1<J.length):D.lr (l+1) cs=true:=by
 unfold cells? at hc;split at hc
 case h_2=>cases hc
 rename_i v' cs' hb;split at hc
 case isFalse=>cases hc
 cases hc;exact h l i _ hb hl
theorem zP{n:Nat}{a b:List D}:D.lr n (a++b)=true↔D.lr n a=true/\D.lr n b=true:=by
 simp only[DF,aX];exact⟨λh=>⟨λd hd=>h d (.inl hd),λd hd=>h d (.inr hd)⟩,λh d hd=>hd.elim (h.1 d) (h.2 d)⟩
theorem Hn{n k:Nat}{a:List D}(h:D.lr n a=true):D.lr n (a.take k)=true:=by
 rw[DF]at h ⊢;exact λd hd=>h d (dr hd)
theorem Hm{n k:Nat}{a:List D}(h:D.lr n a=true):D.lr n (a.drop k)=true:=by
 rw[DF]at h ⊢;exact λd hd=>h d (dU hd)
theorem W7{J J':SK}{d:D}{o:Mo}{ds:List D}(h:CW J o ds=some (d,J'))(hk:o.calm=true):J'=J:=by
 unfold CW at h;split at h
 .simp[Mo.calm]at hk
 .simp[Mo.calm]at hk
 .split at h
  .split at h
   .split at h<;>first | (cases h;done) | (cases h;rfl)
   .cases h
  .cases h
 .simp[Mo.calm]at hk
 .simp only[ad,ar]at h;obtain⟨_,_,_,rfl⟩:=h;rfl
 .simp[Mo.calm]at hk
 .split at h
  .split at h
   .split at h
    .split at h
     .cases h;rfl
     .cases h
    .cases h
   .cases h
  .cases h
 .cases h
theorem WY{J J':SK}{d:D}{o:Me}{ds:List D}(h:X8 J o ds=some (d,J')):J'=J:=by
 unfold X8 at h;split at h
 .cases h
 .simp only[ak,ad,ar]at h;obtain⟨_,_,_,_,_,rfl⟩:=h;rfl
 .cases h;rfl
 .split at h<;>cases h;rfl
 .split at h<;>cases h;rfl
 .cases h
theorem PI{e:Env}{J J':SK}{d:D}{k:K}(h:bR e J k=some (d,J'))(hk:k.calm=true):J'=J:=by
 by_cases hm:∃o xs,k=.mp o xs
 .obtain⟨o,xs,rfl⟩:=hm;exact W7 h hk
 by_cases hm':∃o xs,k=.me o xs
 .obtain⟨o,xs,rfl⟩:=hm';exact WY h
 cases k<;>(try (exact absurd ⟨_,_,rfl⟩ hm))<;>(try (exact absurd ⟨_,_,rfl⟩ hm'))<;>clear hm hm'<;>simp only[K.calm,aC]at hk<;>simp only[bR,aU,reduceCtorEq]at h<;>(repeat' split at h)<;>
  simp only[ad,ak,ae,ar,Prod.exists,reduceCtorEq,exists_eq_left,and_false,exists_false]at h<;>(try split at h)<;>
  simp_all<;>(try (obtain⟨_,_,h⟩:=h;simp_all))<;>(try grind)
theorem Sm{e:Env}{J J':SK}{d:D}{nb:List (Nat×Nat)}{sz:Nat}{a x:bP}(h:bR e J (.st nb sz a x)=some (d,J')):fP J J':=by
 simp only[bR]at h;split at h
 case h_2=>cases h
 split at h
 case h_2=>cases h
 rename_i l i v off hX _ cs hcs;split at h
 case h_2=>cases h
 rename_i p hcells;split at h
 case isFalse=>cases h
 rename_i hc;split at h
 .rename_i htop;split at h
  .rename_i p' J1 hnb;cases h;have hg:=su _ _ _ _ _ hnb;exact hg.trans (fP.set λhl=>by have:=hg.len;omega)
  .cases h
 .rename_i htop;cases h;obtain⟨h1,h2⟩:=D7 l deep p J;refine⟨dD.trans h2.len,λhl=>(h2.low hl).set λhlt=>?_⟩;have hcl:=BO hl hcs (by have:=h2.len;omega);simp only[aD.low,zP];exact⟨⟨Hn hcl,h1⟩,Hm hcl⟩
theorem J0{e:Env}{J J':SK}{d:D}{w bytes:Nat}{s x:bP}(h:bR e J (.app w bytes s x)=some (d,J')):fP J J':=by
 simp only[bR,aU,ak]at h;obtain⟨⟨m,xs⟩,he,h⟩:=h;dsimp only at h;split at h
 .split at h
  case isFalse=>cases h
  split at h
  .cases h;exact .refl _
  .simp only[ak]at h;obtain⟨⟨l,i,J1⟩,hn,h⟩:=h;cases h;exact .new hn
 .split at h
  case h_2=>cases h
  rename_i l i v off n w' hX _ cs hcs;split at h
  case isFalse=>cases h
  split at h
  .cases h;exact .set λhl=>by omega
  .cases h;obtain⟨h1,h2⟩:=D7 l deep xs J;refine⟨dD.trans h2.len,λhl=>(h2.low hl).set λhlt=>?_⟩;have hcl:=BO hl hcs (by have:=h2.len;omega);simp only[aD.low,zP];exact⟨Hn (Hm hcl),h1⟩
 .cases h
theorem WW{n j:Nat}{a:List D}{x:D}(h:D.lr n a=true)(hx:x.low n=true):D.lr n (a.set j x)=true:=by
 rw[DF]at h ⊢;intro d hd;rcases List.mem_or_eq_of_mem_set hd with h1 | rfl
 .exact h d h1
 .exact hx
theorem Zw{J J':SK}{d:D}{o:Mo}{ds:List D}(h:CW J o ds=some (d,J')):fP J J':=by
 unfold CW at h;split at h
 .simp only[ad,ar,Prod.exists]at h;obtain⟨l,i,J1,hn,_,rfl⟩:=h;exact .new hn
 .simp only[ad,ar,Prod.exists]at h;obtain⟨l,i,J1,hn,_,rfl⟩:=h;exact .new hn
 .split at h
  .split at h
   .split at h<;>first | (cases h;done) | (cases h;exact .refl _)
   .cases h
  .cases h
 .rename_i ky m k v;split at h
  .rename_i l i es hm;obtain⟨rfl,hcs⟩:=Pe hm;split at h
   case isFalse=>cases h
   rename_i hc;have hlow:l+1<J.length->k.low (l+1)=true/\v.low (l+1)=true:=λhl=>by
    rcases hc.2 with h1 | ⟨h1,h2⟩
    .omega
    .exact⟨sA h1,sA h2⟩
   split at h
   .cases h;refine⟨dD,λhS=>hS.set λhl=>?_⟩;have hcl:=BO hS hcs hl;obtain⟨h1,h2⟩:=hlow hl;simp only[aD.low];exact WW hcl (by simp[D.low,D.lr,h1,h2])
   .cases h;refine⟨dD,λhS=>hS.set λhl=>?_⟩;have hcl:=BO hS hcs hl;obtain⟨h1,h2⟩:=hlow hl;simp only[aD.low,zP];exact⟨hcl,by simp[D.low,D.lr,h1,h2]⟩
   .cases h
  .cases h
 .simp only[ad,ar]at h;obtain⟨_,_,_,rfl⟩:=h;exact .refl _
 .split at h
  .simp only[ad,ar,Prod.exists]at h;obtain⟨l,i,J1,hn,_,rfl⟩:=h;exact .new hn
  .cases h
 .split at h
  .split at h
   .split at h
    .split at h
     .cases h;exact .refl _
     .cases h
    .cases h
   .cases h
  .cases h
 .cases h
theorem XJ{e:Env}{J J':SK}{d:D}:∀{k:K},bR e J k=some (d,J')->fP J J'
 |.st ..,h=>Sm h
 |.app ..,h=>J0 h
 |.TD ..,h=>J0 (SZ h)
 |.apz w bytes s x,h=>by
  simp only[bR,ad,Prod.exists]at h;obtain⟨d1,J1,h1,h2⟩:=h;obtain⟨h3,h4⟩:=Bn 0 deep d1 J1;rw[h2]at h4;exact(J0 (by rw[Ns];exact h1)).trans h4
 |.cvz x,h=>by
  simp only[bR]at h;split at h
  case h_2=>cases h
  split at h
  case isFalse=>cases h
  split at h
  case h_2=>cases h
  cases h;exact .set λ_=>trivial
 |.TB nb cs,h=>by
  simp only[bR,aU,ak]at h;obtain⟨⟨cs',J1⟩,hnb,⟨l,i,J2⟩,hn,h⟩:=h;cases h;exact(su _ _ _ _ _ hnb).trans (.new hn)
 |.Kc w,h=>by
  simp only[bR,aU,ak]at h;obtain⟨⟨l,i,J2⟩,hn,h⟩:=h;cases h;exact .new hn
 |.X4 nb x,h=>by
  simp only[bR,aU,ak]at h;obtain⟨cs,_,⟨cs',J1⟩,hnb,⟨l,i,J2⟩,hn,h⟩:=h;cases h;exact(su _ _ _ _ _ hnb).trans (.new hn)
 |.KM x,h=>by
  simp only[bR,aU,ak]at h;obtain⟨cs,_,⟨l,i,J2⟩,hn,h⟩:=h;cases h;exact .new hn
 |.V5 ..,h=>by
  simp only[bR,aU,ak]at h;obtain⟨cs,_,⟨l,i,J2⟩,hn,h⟩:=h;cases h;exact .new hn
 |.X9 ..,h=>by
  simp only[bR]at h;split at h
  .split at h
   .simp only[aU,ak]at h;obtain⟨⟨l,i,J2⟩,hn,h⟩:=h;cases h;exact .new hn
   .cases h
  .cases h
 |.mv _,h=>same h rfl
 |.pick ..,h=>same h rfl
 |.BJ ..,h=>by simp[bR]at h
 |.KL _,h=>same h rfl
 |.Fl _,h=>by simp[bR]at h
 |.Ln ..,h=>same h rfl
 |.X3 ..,h=>same h rfl
 |.ld ..,h=>same h rfl
 |.UK ..,h=>same h rfl
 |.UJ ..,h=>same h rfl
 |.UA os sz a x,h=>Sm (S0 h)
 |.ZB ..,h=>same h rfl
 |.ZS ..,h=>same h rfl
 |.UL ..,h=>same h rfl
 |.HF ..,h=>by simp[bR]at h
 |.bin ..,h=>same h rfl
 |.eqv ..,h=>same h rfl
 |.un ..,h=>same h rfl
 |.Wc ..,h=>same h rfl
 |.W4 ..,h=>same h rfl
 |.Yb ..,h=>same h rfl
 |.Q5 ..,h=>same h rfl
 |.KO ..,h=>same h rfl
 |.fld ..,h=>same h rfl
 |.KR ..,h=>same h rfl
 |.Hk ..,h=>same h rfl
 |.MS ..,h=>same h rfl
 |.KU ..,h=>same h rfl
 |.QK ..,h=>same h rfl
 |.mn ..,h=>same h rfl
 |.mx ..,h=>same h rfl
 |.X5 ..,h=>same h rfl
 |.bse,h=>same h rfl
 |.ape ..,h=>same h rfl
 |.ext ..,h=>same h rfl
 |.ID ..,h=>same h rfl
 |.mp ..,h=>Zw h
 |.me ..,h=>same h rfl
 |.W5 ..,h=>same h rfl
 |.Yd ..,h=>same h rfl
 |.ZA ..,h=>same h rfl
 |.Xh _,h=>by simp[bR]at h
 |.PX,h=>by simp[bR]at h
 |.call ..,h=>by simp[bR]at h
where
 same {e:Env} {J J':SK} {d:D} {k:K} (h:bR e J k=some (d,J')) (hk:k.calm=true):fP J J':=by
  rw[PI h hk];exact .refl _
end Go.Abs
