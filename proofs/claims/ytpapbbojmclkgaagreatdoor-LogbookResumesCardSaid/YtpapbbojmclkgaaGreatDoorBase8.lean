import Derived.Test.YtpapbbojmclkgaaGreatDoorBase7
import Derived.MapKept
import Derived.WideKeyRuns
import Derived.Maps.RangeRun
import Derived.Test.YtpapbbojmclkgaaGreatDoorBase6
set_option linter.all false
namespace Go.aw
open Go
theorem Q8{J:SK}{d:D}{l i:Nat}{es:List D}(h:D3 J d=some (l,i,es)):d=.jg l i/\cells? J l i 0=some es:=by
 unfold D3 at h;split at h
 .simp only[ad,ak]at h;obtain⟨cs,h1,rfl,rfl,rfl⟩:=h;exact⟨rfl,h1⟩
 .cases h
theorem Ng{ky:Ky}{k:D}:∀{es:List D} {j:Nat} {v:D},oS ky k es=some (some (j,v))->∃k',es[j]?=some (.cS [k',v])/\sw ky k k'=some true
 |[],j,v,h=>by simp[oS]at h
 |x::es,j,v,h=>by
  unfold oS at h;split at h
  .rename_i heq;cases heq
  .rename_i k' v' es' heq;cases heq;split at h
   .rename_i hq;cases h;exact⟨k',rfl,hq⟩
   .simp only[ad]at h;obtain⟨x1,h1,x2,rfl,h2⟩:=h;cases h2;obtain⟨j0,v0⟩:=x2;obtain⟨k0,h3,h4⟩:=Ng h1;exact⟨k0,by simpa using h3,h4⟩
   .cases h
  .cases h
section
variable {P:Program} {g:G} {w:World}
theorem Lk:∀{ks:List (Option IntKind)} {p q:List D},C5 ks p q=some true->p=q
 |[],p,q,h=>by obtain⟨rfl,rfl,_⟩:=vP h;rfl
 |some k::ks,p,q,h=>by
  obtain⟨a,x,c,y,b0,rfl,rfl,h0,hb⟩:=tj h;simp only[Bool.true_eq,af,beq_iff_eq]at hb;obtain⟨rfl,rfl⟩:=hb;rw[Lk h0]
 |none::ks,p,q,h=>by
  obtain⟨a,x,c,y,b0,rfl,rfl,h0,hb⟩:=yT h;simp only[Bool.true_eq,af,beq_iff_eq]at hb;obtain⟨rfl,rfl⟩:=hb;rw[Lk h0]
theorem Hg(n:Nat):∀{ks:List (Option IntKind)} {p q:List D} {b:Bool},C5 ks p q=some b->∀{xs ys:List Value},bS g p xs->bS g p ys->xs=ys/\(xs.zip ys).all (λz=>Instr.sameBits n z.1 z.2)=true
 |[],p,q,b,h,xs,ys,hx,hy=>by
  obtain⟨rfl,rfl,_⟩:=vP h;cases hx;cases hy;exact⟨rfl,rfl⟩
 |some k::ks,p,q,b,h,xs,ys,hx,hy=>by
  obtain⟨a,x,c,y,b0,rfl,rfl,h0,hb⟩:=tj h;cases hx with
  |cons _ v1 _ vs1 h1 h2 =>
   cases hy with
   |cons _ v2 _ vs2 h3 h4 =>
    obtain rfl:=h1.fe;obtain rfl:=h3.fe;obtain⟨h5,h6⟩:=Hg n h0 h2 h4;subst h5;exact⟨rfl,by simp only[List.zip_cons_cons,jb,h6,Instr.sameBits,BEq.rfl,Bool.and_self]⟩
 |none::ks,p,q,b,h,xs,ys,hx,hy=>by
  obtain⟨a,x,c,y,b0,rfl,rfl,h0,hb⟩:=yT h;cases hx with
  |cons _ v1 _ vs1 h1 h2 =>
   cases hy with
   |cons _ v2 _ vs2 h3 h4 =>
    obtain rfl:=h1.nF;obtain rfl:=h3.nF;obtain⟨h5,h6⟩:=Hg n h0 h2 h4;subst h5;exact⟨rfl,by simp only[List.zip_cons_cons,jb,h6,Instr.sameBits,BEq.rfl,Bool.and_self]⟩
theorem ae3{a b:ByteArray}(h:a.data.toList=b.data.toList):a=b:=by
 apply ByteArray.ext;exact fV.1 h
theorem Zd{ky:Ky}{a b:D}{x y:Value}(h:sw ky a b=some true)(hx:bW g a x)(hy:bW g b y):x=y/\Instr.sameBits 10000 y x=true:=by
 unfold sw at h;split at h
 .split at h
  .rename_i s1 s2;simp only[ae,beq_iff_eq]at h;subst h;obtain⟨b1,rfl,h1⟩:=hx.kN;obtain⟨b2,rfl,h2⟩:=hy.kN;obtain rfl:=ae3 (h1.trans h2.symm);exact⟨rfl,by rw[Instr.sameBits,beq_toListBytes];exact beq_self_eq_true _⟩
  .cases h
 .rename_i ag ks;split at h
  .rename_i p q hp hq;obtain rfl:=Lk h;have h1:=vZ hx hp;have h2:=vZ hy hq;cases ag with
   |true =>
    simp only[wg,if_true]at h1 h2;obtain⟨xs,rfl,h3,_⟩:=h1;obtain⟨ys,rfl,h4,_⟩:=h2;obtain⟨h5,h6⟩:=Hg 9999 h h4 h3;obtain rfl:=fV.1 h5;exact⟨rfl,by simp only[Instr.sameBits,BEq.rfl,Bool.true_and];exact h6⟩
   |false =>
    simp only[wg,aC,if_false]at h1 h2;obtain⟨h5,h6⟩:=Hg 10000 h h2 h1;simp only[fN,and_true]at h5;subst h5;exact⟨rfl,by simpa using h6⟩
  .cases h
theorem LG{t:TypeId}{ky:Ky}(h:LF P t=some ky):(P.underlying t=some .string/\ky=none)\/(∃k,P.underlying t=some (.int k)/\ky=some (false,[some k])) \/
  ∃fs ks,P.underlying t=some (.struct fs)/\lk P 20 t=some ks/\ky=some (true,ks)/\fs.toList.all (λf=>match P.underlying f.type with | some (.int _)=>true | some .bool=>true | _=>false)=true:=by
 unfold LF at h;split at h
 .rename_i hu;cases h;exact .inl ⟨hu,rfl⟩
 .rename_i k hu;cases h;exact .inr (.inl ⟨k,hu,rfl⟩)
 .rename_i fs hu;split at h
  .rename_i hall;obtain⟨ks,hks,rfl⟩:=ad.1 h;exact .inr (.inr ⟨fs,ks,hu,hks,rfl,hall⟩)
  .cases h
 .cases h
theorem Nr{t:TypeId}{ky:Ky}(hk:LF P t=some ky){a b:D}{c:Bool}{x y:Value}(h:sw ky a b=some c)(hx:bW g a x)(hy:bW g b y):(Op.equal t x y).run P w=.ok c w:=by
 have key:∀ag ks,lk P 20 t=some ks->uS P t=some ag->sw (some (ag,ks)) a b=some c->(Op.equal t x y).run P w=.ok c w:=by
  intro ag ks hks hag hq;simp only[sw]at hq;split at hq
  case h_2=>cases hq
  rename_i p q hp hq2;obtain⟨ag',hag',_,hEq⟩:=HS (P:=P) (g:=g) (w:=w) 20 t ks hks;rw[hag]at hag';cases hag';exact hEq 10000 (by omega) p q x y c (vZ hx hp) (vZ hy hq2) hq
 rcases LG hk with⟨hu,rfl⟩ | ⟨k,hu,rfl⟩ | ⟨fs,ks,hu,hks,rfl,_⟩
 .simp only[sw]at h;split at h
  case h_2=>cases h
  rename_i s1 s2;cases h;obtain⟨b1,rfl,h1⟩:=hx.kN;obtain⟨b2,rfl,h2⟩:=hy.kN;have:=run_equalIn_string (P:=P) w 9999 t b1 b2 hu;simp only[Op.equal,Op.maxDepth];rw[this,ByteArray.toList_eq,ByteArray.toList_eq,h1,h2]
 .exact key false [some k] (by simp[lk,hu]) (by simp[uS,hu]) h
 .exact key true ks hks (by simp[uS,hu]) h
def Found(dT:List MapEntry)(r:Option (Nat×D))(g:G)(o:Option (Nat×Value))(i:Nat):Prop :=
 match r with
 |none=>o=none
 |some (j,v)=>∃e,dT[j]?=some e/\o=some (i+j,e.val)/\bW g v e.val
theorem Po{k v:D}{a b:Value}(h:bW g (.cS [k,v]) (.tuple #[a,b])):bW g k a/\bW g v b:=by
 cases h with
 |cS _ _ hr =>
  cases hr with
  |cons _ _ _ _ h1 h2=>cases h2 with | cons _ _ _ _ h3 h4=>exact⟨h1,h3⟩
theorem K3{t:TypeId}{ky:Ky}(hk:LF P t=some ky){k:D}{x:Value}(hx:bW g k x):∀(es:List D) (dT:List MapEntry) (r:Option (Nat×D)) (i:Nat),bS g es (dT.map λe => .tuple #[e.key,e.val])->oS ky k es=some r ->
  ∃o,(Instr.findAsking t x dT i).run P w=.ok o w/\Found dT r g o i
 |[],dT,r,i,hr,h=>by
  cases dT with
  |nil=>simp only[oS,ae]at h;subst h;exact⟨none,by simp[Instr.findAsking],rfl⟩
  |cons e dT=>cases hr
 |d::es,dT,r,i,hr,h=>by
  cases dT with
  |nil=>cases hr
  |cons e dT =>
   rw[aL]at hr;cases hr with
   |cons _ _ _ _ hr1 hr2 =>
   unfold oS at h;split at h
   .rename_i heq;cases heq
   .rename_i k' v es' heq;cases heq;obtain⟨hk1,hv1⟩:=Po hr1;split at h
    .rename_i hq;cases h;have he:=Nr (w:=w) hk hq hx hk1;refine⟨some (i,e.val),by simp[Instr.findAsking,he],e,rfl,by simp,hv1⟩
    .rename_i hq;simp only[ad]at h;obtain⟨r1,h1,rfl⟩:=h;have he:=Nr (w:=w) hk hq hx hk1;obtain⟨o,ho,hf⟩:=K3 hk hx es dT r1 (i+1) hr2 h1;refine⟨o,by simp[Instr.findAsking,he,ho],?_⟩;cases r1 with
     |none=>exact hf
     |some y =>
      obtain⟨e1,h3,h4,h5⟩:=hf;exact⟨e1,by simpa using h3,by rw[h4];congr 2;omega,h5⟩
    .cases h
   .cases h
theorem ON{t:TypeId}{ky:Ky}{dsc:TypeDesc}{k:D}{x:Value}(hs:∀k' y c,sw ky k k'=some c->bW g k' y->Instr.sameNow dsc x y=some c):∀(es:List D) (dT:List MapEntry) (r:Option (Nat×D)) (i:Nat),bS g es (dT.map λe => .tuple #[e.key,e.val])->oS ky k es=some r ->
  ∃o,Instr.findNow dsc x dT i=some o/\Found dT r g o i
 |[],dT,r,i,hr,h=>by
  cases dT with
  |nil=>simp only[oS,ae]at h;subst h;exact⟨none,by simp[Instr.findNow],rfl⟩
  |cons e dT=>cases hr
 |d::es,dT,r,i,hr,h=>by
  cases dT with
  |nil=>cases hr
  |cons e dT =>
   rw[aL]at hr;cases hr with
   |cons _ _ _ _ hr1 hr2 =>
   unfold oS at h;split at h
   .rename_i heq;cases heq
   .rename_i k' v es' heq;cases heq;obtain⟨hk1,hv1⟩:=Po hr1;split at h
    .rename_i hq;cases h;exact⟨some (i,e.val),by simp[Instr.findNow,hs _ _ _ hq hk1],e,rfl,by simp,hv1⟩
    .rename_i hq;simp only[ad]at h;obtain⟨r1,h1,rfl⟩:=h;obtain⟨o,ho,hf⟩:=ON (t:=t) hs es dT r1 (i+1) hr2 h1;refine⟨o,by simp[Instr.findNow,hs _ _ _ hq hk1,ho],?_⟩;cases r1 with
     |none=>exact hf
     |some y =>
      obtain⟨e1,h3,h4,h5⟩:=hf;exact⟨e1,by simpa using h3,by rw[h4];congr 2;omega,h5⟩
    .cases h
   .cases h
theorem AT{t:TypeId}{ky:Ky}(hk:LF P t=some ky){k:D}{x:Value}(hx:bW g k x){es:List D}{dT:List MapEntry}{r:Option (Nat×D)}(hr:bS g es (dT.map λe => .tuple #[e.key,e.val]))(h:oS ky k es=some r)
  (hself:(sw ky k k).isSome=true):∃o,(Instr.findKey t x dT).run P w=.ok o w/\Found dT r g o 0:=by
 rcases LG hk with⟨hu,rfl⟩ | ⟨kk,hu,rfl⟩ | ⟨fs,ks,hu,hks,rfl,_⟩
 .obtain⟨o,h1,h2⟩:=ON (t:=t) (ky:=none) (k:=k) (x:=x) (dsc:=.string) (λk' y c hq hy=>by
   simp only[sw]at hq;split at hq
   case h_2=>cases hq
   cases hq;obtain⟨b1,rfl,h1⟩:=hx.kN;obtain⟨b2,rfl,h2⟩:=hy.kN;simp only[Instr.sameNow];rw[beq_toListBytes,ByteArray.toList_eq,ByteArray.toList_eq,h1,h2]) es dT r 0 hr h
  exact⟨o,MapKept.run_findKey hu h1,h2⟩
 .obtain⟨o,h1,h2⟩:=ON (t:=t) (ky:=some (false,[some kk])) (k:=k) (x:=x) (dsc:=.int kk) (λk' y c hq hy=>by
   simp only[sw]at hq;split at hq
   case h_2=>cases hq
   rename_i p q hp hq2;have hx1:=vZ hx hp;have hy1:=vZ hy hq2;simp only[wg,aC,if_false]at hx1 hy1;obtain⟨a,xs,b,ys,b0,rfl,rfl,h0,rfl⟩:=tj hq;obtain⟨rfl,rfl,rfl⟩:=vP h0;cases hx1 with
   |cons _ _ _ _ g1 _ =>
    cases hy1 with
    |cons _ _ _ _ g2 _ =>
     obtain rfl:=g1.fe;obtain rfl:=g2.fe;simp[Instr.sameNow]) es dT r 0 hr h
  exact⟨o,MapKept.run_findKey hu h1,h2⟩
 .obtain⟨o,h1,h2⟩:=K3 (w:=w) hk hx es dT r 0 hr h;refine⟨o,?_,h2⟩;rw[run_findKey_eq w (by simp[hu])];exact h1
theorem DI(em:Bool){xs:Array Value}{p:List D}(hx:bS g p xs.toList)(h1x:∀y∈xs.toList,y.oneCell'=true):
  ∀(fs:List Field) (o:Nat) (ks:List (Option IntKind)) (q:List D) (b:Bool),lk.kindsF P (lk P 19) o fs=some ks->fs.all (λf=>match P.underlying f.type with | some (.int _)=>true | some .bool=>true | _=>false)=true ->
   C5 ks (p.drop o) q=some b ->
   (forIn (m:=Sem) fs PUnit.unit λf _=>do
    if f.name ≠ "_" then Instr.checkKey em 9999 f.type (<- part f.type xs f.offset)
    pure (ForInStep.yield PUnit.unit)).run P w=.ok PUnit.unit w
 |[],o,ks,q,b,hk,ha,he=>by simp
 |f::fs,o,ks,q,b,hk,ha,he=>by
  simp only[lk.kindsF]at hk;split at hk
  case h_2=>cases hk
  rename_i k1 hk1;split at hk
  case isFalse=>cases hk
  rename_i hc;obtain⟨hname,hoff,hsz,hpos⟩:=hc;simp only[ad]at hk;obtain⟨k2,hk2,rfl⟩:=hk;simp only[jb,af]at ha;obtain⟨l1,l2⟩:=Fk _ _ _ _ he;obtain⟨b1,b2,e1,e2,rfl⟩:=yS _ _ _ _ _ he;simp only[aP,List.length_drop]at l1 l2;have ih:=DI em hx h1x fs (o+k1.length) k2 (q.drop k1.length) b2 hk2 ha.2 (by simpa[cC]using e2);have one:∃a,(part f.type xs o).run P w=.ok a w/\(Instr.checkKey em 9999 f.type a).run P w=.ok () w:=by
   have h0:=ha.1;split at h0
   .rename_i k hu;have hk1':k1=[some k]:=by simp[lk,hu]at hk1;exact hk1.symm
    subst hk1';obtain⟨a,hpa,hra⟩:=Fw (P:=P) (w:=w) (ag:=false) (n:=1) (o:=o) (by simp[uS,hu]) hsz (λ_=>rfl) hx h1x (by simp only[aB,bd]at l1 ⊢;omega);simp only[wg,aC,if_false]at hra;obtain⟨a0,x0,c0,y0,b0,e3,_,_,_⟩:=tj e1;simp only[aB,bd,cr]at e3;rw[e3]at hra;cases hra with
    |cons _ _ _ _ g1 g2 =>
     obtain rfl:=g1.fe;exact⟨_,hpa,MapKept.run_checkKey (d:=.int k) hu (by simp[MapKept.IsKey]) em 9998⟩
   .rename_i hu;have hk1':k1=[none]:=by simp[lk,hu]at hk1;exact hk1.symm
    subst hk1';obtain⟨a,hpa,hra⟩:=Fw (P:=P) (w:=w) (ag:=false) (n:=1) (o:=o) (by simp[uS,hu]) hsz (λ_=>rfl) hx h1x (by simp only[aB,bd]at l1 ⊢;omega);simp only[wg,aC,if_false]at hra;obtain⟨a0,x0,c0,y0,b0,e3,_,_,_⟩:=yT e1;simp only[aB,bd,cr]at e3;rw[e3]at hra;cases hra with
    |cons _ _ _ _ g1 g2 =>
     obtain rfl:=g1.nF;exact⟨_,hpa,MapKept.run_checkKey (d:=.bool) hu (by simp[MapKept.IsKey]) em 9998⟩
   .cases h0
  obtain⟨a,h1,h2⟩:=one;rw[List.forIn_cons];rw[hoff];simp only[hname,ne_eq,not_false_eq_true,if_true,Sem.run_bind,h1,h2,Result.andThen_ok,Sem.run_pure];exact ih
theorem Hc{t:TypeId}{ky:Ky}(hk:LF P t=some ky){k:D}{x:Value}(hx:bW g k x)(hself:(sw ky k k).isSome=true)(em:Bool):(Instr.checkKey em 10000 t x).run P w=.ok () w:=by
 rcases LG hk with⟨hu,rfl⟩ | ⟨kk,hu,rfl⟩ | ⟨fs,ks,hu,hks,rfl,hall⟩
 .refine MapKept.run_checkKey (d:=.string) hu ?_ em 9999;obtain⟨c,hc⟩:=dP.1 hself;simp only[sw]at hc;split at hc
  case h_2=>cases hc
  obtain⟨b1,rfl,h1⟩:=hx.kN;simp[MapKept.IsKey]
 .refine MapKept.run_checkKey (d:=.int kk) hu ?_ em 9999;obtain⟨c,hc⟩:=dP.1 hself;simp only[sw]at hc;split at hc
  case h_2=>cases hc
  rename_i p q hp hq2;have hx1:=vZ hx hp;simp only[wg,aC,if_false]at hx1;obtain⟨a,xs,b,ys,b0,rfl,_,h0,rfl⟩:=tj hc;obtain⟨rfl,_,rfl⟩:=vP h0;cases hx1 with
  |cons _ _ _ _ g1 _ =>
   obtain rfl:=g1.fe;simp[MapKept.IsKey]
 .obtain⟨c,hc⟩:=dP.1 hself;simp only[sw]at hc;split at hc
  case h_2=>cases hc
  rename_i p q hp hq2;have hx1:=vZ hx hp;simp only[wg,if_true]at hx1;obtain⟨xs,rfl,hxr,h1x⟩:=hx1;have hks':lk.kindsF P (lk P 19) 0 fs.toList=some ks:=by
   have:=hks;rw[lk,hu]at this;dsimp only at this;split at this
   .cases this
   .exact this
  have hrun:=DI (P:=P) (w:=w) em hxr h1x fs.toList 0 ks q c hks' hall (by simpa using hc);rw[show(10000:Nat)=9999+1 from rfl,Instr.checkKey];simp only[Sem.run_bind,run_underlying hu,Result.andThen_ok];rw[<- Array.forIn_toList];simp at hrun ⊢;rw[hrun];rfl
end
section
variable {P:Program} {CR:fw} {base fb:Nat} {V:List Nat} {g:G} {J J':SK} {w:World} {B:Nat->Nat} {e:Env} {tmps:Array Value} {df:List Deferred} {d:D}
theorem Inv.ZA(hi:Inv CR base g J w){l i:Nat}(hn:fT J (.cells 0 [])=some (l,i,J')):
  Inv CR base (g.dc l i (.mp w.heap.size)) J' (w.alloc (.map #[] 0))/\Ev g w (g.dc l i (.mp w.heap.size)) (w.alloc (.map #[] 0)):=by
 obtain⟨h1,h2,h3,_,_⟩:=jy hn;have hnone:=hi.Fs h1;have hle:g.le (g.dc l i (.mp w.heap.size)):=G.jF λL0 e=>by rw[hnone]at e;cases e
 refine⟨hi.Ik l i hle h3 (λl' i' c=>G.bQ c) (λl' i' L b c e eb=>alloc_old (hi.lo l' i' L b e eb).2) ?_ ?_ ?_ ?_ (by simp) ⟨_,G.aM⟩ (λb v hb=>alloc_old (hi.iW hb)),⟨hle,rfl,rfl,rfl,by simp,λb hb _=>alloc_old hb,?_,λb o v hv => .inl hv⟩⟩
 .intro L e;rw[G.aM]at e;cases e;exact⟨_,h2,rfl,#[],0,sC,.nil,by simp[Ui]⟩
 .intro b o v e;obtain⟨h1,h2⟩:=hi.nB b o v e;exact⟨(gU (alloc_old (hi.iW e))).trans h1,h2⟩
 .intro l' i' L b e eb o;by_cases c:l'=l/\i'=i
  .obtain⟨rfl,rfl⟩:=c;rw[G.aM]at e;cases e;cases eb;cases e':(g.dc l' i' (.mp w.heap.size)).nB w.heap.size o with
   |none=>rfl
   |some v=>have:=hi.iW (b:=w.heap.size) (o:=o) (v:=v) e';omega
  .rw[G.bQ c]at e;exact hi.sep l' i' L b e eb o
 .intro L b e eb;rw[G.aM]at e;cases e;cases eb;refine⟨hi.ge,by simp,λl' i' L' c e' eb'=>?_⟩;have:=(hi.lo l' i' L' _ e' eb').2;omega
 .intro b hb;obtain⟨l',i',L,e,eb⟩:=hb;by_cases c:l'=l/\i'=i
  .obtain⟨rfl,rfl⟩:=c;rw[G.aM]at e;cases e;cases eb;exact .inr (aO _)
  .rw[G.bQ c]at e;exact .inl ⟨l',i',L,e,eb⟩
theorem Inv.afG(hi:Inv CR base g J w){l i T ee:Nat}(hn:fT J (.cells 2 [.int .i64 (T:Nat),.int .i64 (ee:Nat),.str []])=some (l,i,J')):
  Inv CR base (g.dc l i (.ob w.heap.size none)) J' (w.alloc (.cells #[.pointer none,.slice none 0 0] T))/\Ev g w (g.dc l i (.ob w.heap.size none)) (w.alloc (.cells #[.pointer none,.slice none 0 0] T)):=by
 obtain⟨h1,h2,h3,_,_⟩:=jy hn;have hnone:=hi.Fs h1;have hle:g.le (g.dc l i (.ob w.heap.size none)):=G.jF λL0 e=>by rw[hnone]at e;cases e
 have hown:∀b,(Loc.ob w.heap.size none).owns b->w.heap.size=b:=λb h=>by
  rcases h with h | h
  .exact h
  .cases h
 refine⟨hi.Ik l i hle h3 (λl' i' c=>G.bQ c) (λl' i' L b c e eb=>alloc_old (hi.lo l' i' L b e eb).2) ?_ ?_ ?_ ?_ (by simp) ⟨_,G.aM⟩ (λb v hb=>alloc_old (hi.iW hb)),⟨hle,rfl,rfl,rfl,by simp,λb hb _=>alloc_old hb,?_,λb o v hv => .inl hv⟩⟩
 .intro L e;rw[G.aM]at e;cases e;exact⟨_,h2,rfl,T,ee,[],.pointer none,.slice none 0 0,rfl,sC,.inl rfl,World.ownsRowF_nil _ _ _ _,rfl,by simp⟩
 .intro b o v e;obtain⟨h1,h2⟩:=hi.nB b o v e;exact⟨(gU (alloc_old (hi.iW e))).trans h1,h2⟩
 .intro l' i' L b e eb o;by_cases c:l'=l/\i'=i
  .obtain⟨rfl,rfl⟩:=c;rw[G.aM]at e;cases e;obtain rfl:=hown b eb;cases e':(g.dc l' i' (.ob w.heap.size none)).nB w.heap.size o with
   |none=>rfl
   |some v=>have:=hi.iW (b:=w.heap.size) (o:=o) (v:=v) e';omega
  .rw[G.bQ c]at e;exact hi.sep l' i' L b e eb o
 .intro L b e eb;rw[G.aM]at e;cases e;obtain rfl:=hown b eb;refine⟨hi.ge,by simp,λl' i' L' c e' eb'=>?_⟩;have:=(hi.lo l' i' L' _ e' eb').2;omega
 .intro b hb;obtain⟨l',i',L,e,eb⟩:=hb;by_cases c:l'=l/\i'=i
  .obtain⟨rfl,rfl⟩:=c;rw[G.aM]at e;cases e;obtain rfl:=hown b eb;exact .inr (aO _)
  .rw[G.bQ c]at e;exact .inl ⟨l',i',L,e,eb⟩
theorem Inv.Z6(hi:Inv CR base g J w){l i b:Nat}{b0:aF}{es:List D}(hL:g.loc l i=some (.mp b))(hb:ef J l i=some b0){dT:Array MapEntry}{clock:Nat}
  (hr:bS g es (dT.toList.map λe => .tuple #[e.key,e.val])) (hm:Ui dT.toList clock) {w':World} (hw:w'={w with heap:=w.heap.setIfInBounds b (.map dT clock) }):
  Inv CR base (g.dc l i (.mp b)) (bw J l i (.cells 0 es)) w'/\Ev g w (g.dc l i (.mp b)) w':=by
 subst hw;have hlt:=(hi.lo l i _ b hL rfl).2;have hle:g.le (g.dc l i (.mp b)):=G.jF λL0 e=>by rw[hL]at e;cases e;exact Loc.le_refl _
 refine hi.setCells hL hb (Loc.le_refl _) ⟨rfl,dT,clock,by simp[hlt],hr.mono hle,hm⟩ (λb' hb' hne=>?_) rfl rfl rfl (by simp) (λb' hb' => .inl hb');have:b≠b':=λhh=>hne (by rw[hh];rfl)
 simp[this]
theorem Cy(hi:Inv CR base g J w){m:D}{c:Value}(hr:bW g m c){l i:Nat}{es:List D}(h:D3 J m=some (l,i,es)):
  ∃b dT clock v,c=.map (some b)/\g.loc l i=some (.mp b)/\ef J l i=some (.cells v es)/\w.heap[b]?=some (.map dT clock)/\bS g es (dT.toList.map λe => .tuple #[e.key,e.val])/\Ui dT.toList clock:=by
 obtain⟨rfl,hcs⟩:=Q8 h;unfold cells? at hcs;split at hcs
 case h_2=>cases hcs
 rename_i v' cs' hblk;split at hcs
 case isFalse=>cases hcs
 cases hcs;cases hr with
 |jg _ _ b hl =>
  obtain⟨b0,hb0,hrel⟩:=hi.yr l i _ hl;rw[hblk]at hb0;cases hb0;exact hrel.elim
 |UM _ _ b hl =>
  obtain⟨b0,hb0,hrel⟩:=hi.yr l i _ hl;rw[hblk]at hb0;cases hb0;obtain⟨_,dT,clock,h1,h2,h3⟩:=hrel;exact⟨b,dT,clock,v',rfl,hl,hblk,h1,h2,h3⟩
 |Za _ _ b L hl hc =>
  obtain⟨b0,hb0,hrel⟩:=hi.yr l i _ hl;rw[hblk]at hb0;cases hb0;rcases hc with rfl | rfl
  .rename_i hv0;obtain⟨hv1,_⟩:=hrel;omega
  .exact hrel.elim
 |VR _ _ b L hl hc =>
  obtain⟨b0,hb0,hrel⟩:=hi.yr l i _ hl;rw[hblk]at hb0;cases hb0;rcases hc with⟨c,rfl⟩ | rfl
  .rename_i hv0;obtain⟨hv1,_⟩:=hrel;omega
  .exact hrel.elim
theorem ajE(hi:Inv CR base g J w){t:TypeId}{ρ:Operand->Value}(h:bY e J (.mp .make [])=some (d,J'))(o:Oper)(ho:o.op=.makeMap t none):fx P CR base g w B e ρ o d J':=by
 simp only[bY,cc,DY,ad,ak,Prod.exists]at h;obtain⟨l,i,J1,hn,rfl,rfl⟩:=h;obtain⟨i1,e1⟩:=hi.ZA hn;exact .val (.map (some w.heap.size)) (by
  have hrun:(Instr.makeMap t none).run P w=.ok (.map (some w.heap.size)) (w.alloc (.map #[] 0)):=rfl;simp only[execOp,ho,Option.map_none,Sem.run_bind,hrun,Result.andThen_ok,Sem.run_pure]) e1 i1 (.UM l i _ G.aM)
theorem ajB(hi:Inv CR base g J w){el ee:TypeId}{ρ:Operand->Value}(hz:pN P el=some [.zV,.bB])
  (h:bY e J (.mp (.Mp el ee) [])=some (d,J')) (o:Oper) (ho:o.op=.alloc el):fx P CR base g w B e ρ o d J':=by
 obtain⟨i0,v,hinfo,hzero,hrz,h1⟩:=sQ g hz;simp only[bY,cc,DY,ad,ak,Prod.exists]at h;obtain⟨l,i,J1,hn,rfl,rfl⟩:=h;obtain⟨i1,e1⟩:=hi.afG hn;have hv:v.cells = #[.pointer none,.slice none 0 0]:=by
  generalize v.cells=a at hrz;obtain⟨a⟩:=a;dsimp only at hrz;cases hrz with
  |cons _ c _ cs k1 k2 =>
   cases k2 with
   |cons _ c2 _ cs2 k3 k4 =>
    cases k4;cases k1;cases k3;rfl
 have hrun:=I5 (w:=w) hinfo hzero;rw[hv]at hrun;exact .val (.pointer (some ⟨w.heap.size,0,none⟩)) (by simp[execOp,ho,hrun]) e1 i1 (.VR l i _ _ G.aM (.inl ⟨_,rfl⟩))
theorem agA(hi:Inv CR base g J w){t kt et:TypeId}{ik:IntKind}{n:Int}(h:bY e J (.mp .make [])=some (d,J'))(ht:P.underlying t=some (.map kt et))(o:Oper)(ho:o.op=.makeMap t (some (.const (.int ik n)))):fx P CR base g w B e (Act.mk tmps df).eval o d J':=by
 simp only[bY,cc,DY,ad,ak,Prod.exists]at h;obtain⟨l,i,J1,hn,rfl,rfl⟩:=h;obtain⟨i1,e1⟩:=hi.ZA hn;exact .val (.map (some w.heap.size)) (by
  have hrun:(Instr.makeMap t (some (.int ik n))).run P w=.ok (.map (some w.heap.size)) (w.alloc (.map #[] 0)):=by
   simp only[Instr.makeMap,Sem.run_bind,bJ ht,Result.andThen_ok];rfl
  have hev:(Act.mk tmps df).eval (.const (.int ik n))=.int ik n:=rfl;simp only[execOp,ho,aZ,hev,Sem.run_bind,hrun,Result.andThen_ok,Sem.run_pure]) e1 i1 (.UM l i _ G.aM)
theorem agB(hf:Fr fb V g w B e tmps)(hi:Inv CR base g J w){x:Operand}{X:bU}{t kt et:TypeId}{args:Array Operand}{ts:Array TypeId}{r:List Operand}{tr:List TypeId}(hx:bT x=some X)
  (ht:P.underlying t=some (.map kt et)) (ha:args.toList=x::r) (hts:ts.toList=t::tr)
  (h:bY e J (.mp .len [X])=some (d,J')) (o:Oper) (ho:o.op=.call {callee:=.builtin .len,args,argTypes:=ts }):fx P CR base g w B e (Act.mk tmps df).eval o d J':=by
 have hr:=hf.bG (df:=df) hx;obtain rfl:args=(x::r).toArray:=by rw[<- ha]
 obtain rfl:ts=(t::tr).toArray:=by rw[<- hts]
 simp only[bY,aL,cc,DY,ad,ak,Prod.exists]at h;obtain⟨l,i,es,hm,rfl,rfl⟩:=h;obtain⟨b,dT,clock,v,hc,hl,hblk,hheap,hrel,hok⟩:=Cy hi hr hm;have hlen:=hrel.length;simp only[bK,Array.length_toList]at hlen;refine .pure hi (c:=.int .i64 dT.size) ?_ (by rw[hlen];exact de.of (.int _ _));simp[execOp,ho,resolve,invoke,builtin,Builtin.len_,hc,bJ ht,goInt,MapKept.run_getObj_map hheap]
theorem Pq{t:TypeId}{z:D}(g:G)(h:zvC P t=some z):∃i v,P.info? t=some i/\i.zero=some v/\bW g z v:=by
 unfold zvC at h;split at h
 .rename_i i hi;split at h
  .rename_i v hv;exact⟨i,v,hi,hv,La g h⟩
  .cases h
 .cases h
theorem agz(hf:Fr fb V g w B e tmps)(hi:Inv CR base g J w){x y:Operand}{X Y:bU}{t kt et:TypeId}{ky:Ky}{z:D}{ok:Bool}(hx:bT x=some X)(hy:bT y=some Y)
  (ht:P.underlying t=some (.map kt et)) (hk:LF P kt=some ky) (hz:zvC P et=some z)
  (h:bY e J (.mp (.get ky z ok) [X,Y])=some (d,J')) (o:Oper) (ho:o.op=.lookup t x y ok):fx P CR base g w B e (Act.mk tmps df).eval o d J':=by
 have hr:=hf.bG (df:=df) hx;have hr':=hf.bG (df:=df) hy;simp only[bY,aL,cc,DY]at h;split at h
 case h_2=>cases h
 rename_i l i es hm;split at h
 case isFalse=>cases h
 rename_i hself;obtain⟨b,dT,clock,v,hc,hl,hblk,hheap,hrel,hok⟩:=Cy hi hr hm;have hck:=Hc (w:=w) hk hr' hself dT.isEmpty;obtain⟨iz,zv,hz1,hz2,hz3⟩:=Pq g hz;split at h
 .rename_i j v1 hfk;cases h;obtain⟨o1,ho1,e1,_,rfl,hv1⟩:=AT (w:=w) hk hr' hrel hfk hself;cases ok
  .refine .pure hi (c:=e1.val) ?_ (de.of (by simpa using hv1));simp[execOp,ho,Instr.lookup,bJ ht,hc,MapKept.run_getObj_map hheap,hck,ho1]
  .refine .pure hi (c:=.tuple #[e1.val,.bool true]) ?_ (de.of (by simpa using bW.cS _ #[e1.val,.bool true] (.cons _ _ _ _ hv1 (.cons _ _ _ _ (.bool true) .nil))));simp[execOp,ho,Instr.lookup,bJ ht,hc,MapKept.run_getObj_map hheap,hck,ho1]
 .rename_i hfk;cases h;obtain⟨o1,ho1,hf1⟩:=AT (w:=w) hk hr' hrel hfk hself;obtain rfl:o1=none:=hf1;cases ok
  .refine .pure hi (c:=zv) ?_ (de.of (by simpa using hz3));simp[execOp,ho,Instr.lookup,bJ ht,hc,MapKept.run_getObj_map hheap,hck,ho1,gv hz1 hz2]
  .refine .pure hi (c:=.tuple #[zv,.bool false]) ?_ (de.of (by simpa using bW.cS _ #[zv,.bool false] (.cons _ _ _ _ hz3 (.cons _ _ _ _ (.bool false) .nil))));simp[execOp,ho,Instr.lookup,bJ ht,hc,MapKept.run_getObj_map hheap,hck,ho1,gv hz1 hz2]
 .cases h
theorem bS.set{g:G}:∀{ds:List D} {cs:List Value} {j:Nat} {d:D} {c:Value},bS g ds cs->bW g d c->bS g (ds.set j d) (cs.set j c)
 |[],[],_,_,_,_,_=>by simpa using bS.nil
 |_::_,_::_,0,_,_,.cons _ _ _ _ h1 h2,h => .cons _ _ _ _ h h2
 |_::_,_::_,j+1,_,_,.cons _ _ _ _ h1 h2,h => .cons _ _ _ _ h1 (h2.set h)
theorem Z4(hf:Fr fb V g w B e tmps)(hi:Inv CR base g J w){x y u:Operand}{X Y U:bU}{t kt et:TypeId}{ky:Ky}(hx:bT x=some X)(hy:bT y=some Y)(hu:bT u=some U)
  (ht:P.underlying t=some (.map kt et)) (hk:LF P kt=some ky)
  (h:bY e J (.mp (.put ky) [X,Y,U])=some (d,J')) (o:Oper) (ho:o.op=.mapUpdate t x y u\/o.op=.insert t x y u):fx P CR base g w B e (Act.mk tmps df).eval o d J':=by
 have hr:=hf.bG (df:=df) hx;have hr':=hf.bG (df:=df) hy;have hru:=hf.bG (df:=df) hu;simp only[bY,aL,cc,DY]at h;split at h
 case h_2=>cases h
 rename_i l i es hm;split at h
 case isFalse=>cases h
 rename_i hself;obtain⟨b,dT,clock,v,hc,hl,hblk,hheap,hrel,hok⟩:=Cy hi hr hm;have hck:=Hc (w:=w) hk hr' hself.1 false;generalize hkv:(Act.mk tmps df).eval y=kv at *
 generalize huv:(Act.mk tmps df).eval u=uv at *
 have hnew:bW g (.cS [bG e Y,bG e U]) (.tuple #[kv,uv]):=.cS _ _ (.cons _ _ _ _ hr' (.cons _ _ _ _ hru .nil));split at h
 .rename_i j v1 hfk;cases h;obtain⟨o1,ho1,e1,he1,rfl,hv1⟩:=AT (w:=w) hk hr' hrel hfk hself.1;obtain⟨k',hk',hkq⟩:=Ng hfk;have hj:dT[j]?=some e1:=by simpa using he1
  have hold:bW g k' e1.key:=by
   obtain⟨c0,hc0,hr0⟩:=hrel.get hk';rw[lr,he1]at hc0;cases hc0;exact(Po hr0).1
  obtain⟨hsame,hbits⟩:=Zd hkq hr' hold;have hlist:(dT.modify j λe=>{e with key:=kv,val:=uv }).toList=dT.toList.set j {e1 with key:=kv,val:=uv }:=by
   rw[Array.toList_modify];apply eL;intro n;rw[List.getElem?_modify,List.getElem?_set];by_cases hn:j=n
   .subst hn;have hlt:=(aA.1 he1).1;have hlt2:j<dT.size:=by simpa using hlt
    have hje:dT[j]=e1:=(du.1 hj).2;simp[he1,hlt2,hje]
   .simp[hn]
  obtain⟨i1,ev1⟩:=hi.Z6 (es:=es.set j (.cS [bG e Y,bG e U])) (dT:=dT.modify j λe=>{e with key:=kv,val:=uv }) (clock:=clock) (w':={w with heap:=w.heap.setIfInBounds b (.map (dT.modify j λe=>{e with key:=kv,val:=uv }) clock) }) hl hblk (by
    rw[hlist,List.map_set];exact hrel.set hnew) (by
    have hlt:=(aA.1 he1);rw[hlist];refine⟨?_,by rw[List.length_set];exact hok.2⟩;rw[List.map_set,List.length_set];have:(dT.toList.map (·.born)).set j e1.born=dT.toList.map (·.born):=by
     apply eL;intro n;rw[List.getElem?_set];by_cases hn:j=n
     .subst hn;have hlt2:j<dT.size:=by simpa using hlt.1
      have hje:dT[j]=e1:=(du.1 hj).2;simp[he1,hlt2,hje]
     .simp[hn]
    rw[this];exact hok.1) rfl
  refine⟨.skip,Go.undef,_,_,?_,rfl,ev1,i1,.undef _⟩;have hkts:∀w:World,(Instr.keyThatStays e1.key kv).run P w=.ok kv w:=λw=>by simp[Instr.keyThatStays,hbits]
  rcases ho with ho | ho<;>simp[execOp,ho,Instr.mapUpdate,bJ ht,hc,hkv,huv,MapKept.run_getObj_map hheap,hck,ho1,hj,hkts,MapKept.run_setObj_map _ hheap]
 .rename_i hfk;cases h;obtain⟨o1,ho1,hf1⟩:=AT (w:=w) hk hr' hrel hfk hself.1;obtain rfl:o1=none:=hf1;obtain⟨i1,ev1⟩:=hi.Z6 (es:=es++[.cS [bG e Y,bG e U]]) (dT:=dT.push {key:=kv,val:=uv,born:=clock }) (clock:=clock+1) (w':={w with heap:=w.heap.setIfInBounds b (.map (dT.push {key:=kv,val:=uv,born:=clock }) (clock+1)) }) hl hblk (by
    rw[Array.toList_push,List.map_append];exact hrel.append (.cons _ _ _ _ hnew .nil)) (by
    rw[Array.toList_push];have h2:=hok.2;refine⟨?_,by simp only[aP,aB,bd];omega⟩;rw[List.map_append,hok.1,aP,aB,bd,cr,List.range_succ];simp only[aL,cc,h2]) rfl
  refine⟨.skip,Go.undef,_,_,?_,rfl,ev1,i1,.undef _⟩;rcases ho with ho | ho<;>simp[execOp,ho,Instr.mapUpdate,bJ ht,hc,hkv,huv,MapKept.run_getObj_map hheap,hck,ho1,MapKept.run_setObj_map _ hheap]
 .cases h
theorem Inv.acp(hi:Inv CR base g J w){l i lm im bm n:Nat}(hn:fT J (.cells 1 [.jg lm im,.int .i64 (n:Nat)])=some (l,i,J'))(hm:g.loc lm im=some (.mp bm)):
  Inv CR base (g.dc l i (.it w.heap.size)) J' (w.alloc (.mapIter (some bm) n #[] n))/\Ev g w (g.dc l i (.it w.heap.size)) (w.alloc (.mapIter (some bm) n #[] n)):=by
 obtain⟨h1,h2,h3,_,_⟩:=jy hn;have hnone:=hi.Fs h1;have hle:g.le (g.dc l i (.it w.heap.size)):=G.jF λL0 e=>by rw[hnone]at e;cases e
 refine⟨hi.Ik l i hle h3 (λl' i' c=>G.bQ c) (λl' i' L b c e eb=>alloc_old (hi.lo l' i' L b e eb).2) ?_ ?_ ?_ ?_ (by simp) ⟨_,G.aM⟩ (λb v hb=>alloc_old (hi.iW hb)),⟨hle,rfl,rfl,rfl,by simp,λb hb _=>alloc_old hb,?_,λb o v hv => .inl hv⟩⟩
 .intro L e;rw[G.aM]at e;cases e;have hm2:(g.dc l i (.it w.heap.size)).loc lm im=some (.mp bm):=by
   rw[G.bQ λhh=>by rw[hh.1,hh.2,hnone]at hm;cases hm];exact hm
  exact⟨_,h2,rfl,lm,im,bm,n,[],rfl,hm2,sC,List.nodup_nil,by simp⟩
 .intro b o v e;obtain⟨h1,h2⟩:=hi.nB b o v e;exact⟨(gU (alloc_old (hi.iW e))).trans h1,h2⟩
 .intro l' i' L b e eb o;by_cases c:l'=l/\i'=i
  .obtain⟨rfl,rfl⟩:=c;rw[G.aM]at e;cases e;cases eb;cases e':(g.dc l' i' (.it w.heap.size)).nB w.heap.size o with
   |none=>rfl
   |some v=>have:=hi.iW (b:=w.heap.size) (o:=o) (v:=v) e';omega
  .rw[G.bQ c]at e;exact hi.sep l' i' L b e eb o
 .intro L b e eb;rw[G.aM]at e;cases e;cases eb;refine⟨hi.ge,by simp,λl' i' L' c e' eb'=>?_⟩;have:=(hi.lo l' i' L' _ e' eb').2;omega
 .intro b hb;obtain⟨l',i',L,e,eb⟩:=hb;by_cases c:l'=l/\i'=i
  .obtain⟨rfl,rfl⟩:=c;rw[G.aM]at e;cases e;cases eb;exact .inr (aO _)
  .rw[G.bQ c]at e;exact .inl ⟨l',i',L,e,eb⟩
theorem ajH(hf:Fr fb V g w B e tmps)(hi:Inv CR base g J w){x:Operand}{X:bU}{t kt et:TypeId}(hx:bT x=some X)(ht:P.underlying t=some (.map kt et))
  (h:bY e J (.mp .rng [X])=some (d,J')) (o:Oper) (ho:o.op=.range t x):fx P CR base g w B e (Act.mk tmps df).eval o d J':=by
 have hr:=hf.bG (df:=df) hx;simp only[bY,aL,cc,DY]at h;split at h
 case h_2=>cases h
 rename_i lm im es hm;obtain⟨b,dT,clock,v,hc,hl,hblk,hheap,hrel,hok⟩:=Cy hi hr hm;simp only[ad,ak,Prod.exists]at h;obtain⟨l,i,J1,hn,rfl,rfl⟩:=h;have hlen:=hrel.length;simp only[bK]at hlen;have hck:clock=es.length:=by rw[hlen];exact hok.2
 obtain⟨i1,e1⟩:=hi.acp hn hl;have hrun:=run_range_map (P:=P) w t kt et b dT clock ht hheap;rw[hck]at hrun;exact .val (.pointer (some ⟨w.heap.size,0,none⟩)) (by simp[execOp,ho,hc,hrun]) e1 i1 (.Za l i _ _ G.aM (.inl rfl))
theorem ajt(hf:Fr fb V g w B e tmps)(hi:Inv CR base g J w){x:Operand}{X:bU}(hx:bT x=some X)
  (h:bY e J (.mp .ent [X])=some (d,J')) (o:Oper) (ho:o.op=.entry x):fx P CR base g w B e (Act.mk tmps df).eval o d J':=by
 have hr:=hf.bG (df:=df) hx;simp only[bY,aL,cc]at h;generalize bG e X=dx at hr h;cases dx<;>simp only[DY,reduceCtorEq]at h;rename_i l i;split at h
 case h_2=>cases h
 rename_i m n j rest hcs;split at h
 case h_2=>cases h
 rename_i lm im es hm;split at h
 case isFalse=>cases h
 rename_i hlen;split at h
 case h_2=>cases h
 rename_i k v hj;cases h;unfold cells? at hcs;split at hcs
 case h_2=>cases hcs
 rename_i v' cs' hblk;split at hcs
 case isFalse=>cases hcs
 rename_i hv1;cases hcs;generalize hcv:(Act.mk tmps df).eval x=cv at hr;cases hr with
 |jg _ _ b hl =>
  obtain⟨b0,hb0,hrel⟩:=hi.yr l i _ hl;rw[hblk]at hb0;cases hb0;exact hrel.elim
 |UM _ _ b hl =>
  obtain⟨b0,hb0,hrel⟩:=hi.yr l i _ hl;rw[hblk]at hb0;cases hb0;have:=hrel.1;omega
 |VR _ _ b L hl hc =>
  obtain⟨b0,hb0,hrel⟩:=hi.yr l i _ hl;rw[hblk]at hb0;cases hb0;rcases hc with⟨c,rfl⟩ | rfl
  .have:=hrel.1;omega
  .exact hrel.elim
 |Za _ _ b L hl hc =>
  obtain⟨b0,hb0,hrel⟩:=hi.yr l i _ hl;rw[hblk]at hb0;cases hb0;rcases hc with rfl | rfl
  rotate_left
  .exact hrel.elim
  obtain⟨_,lm',im',bm,n',js,hcs,hlm,hheap,hnd,hlt⟩:=hrel;cases js with
  |nil=>simp at hcs
  |cons j' js =>
   simp only[aL,fN,D.int.injEq,true_and]at hcs;obtain⟨rfl,rfl,rfl,_⟩:=hcs;obtain⟨b2,dT,clock,v2,hc2,hl2,hblk2,hheap2,hrel2,hok⟩:=Cy hi (.UM lm' im' bm hlm) hm;cases hc2;have hlen2:=hrel2.length;simp only[bK]at hlen2;obtain⟨c0,hc0,hr0⟩:=hrel2.get hj;rw[lr]at hc0;simp only[Int.toNat_natCast]at hc0;obtain⟨e1,he1,rfl⟩:=ad.1 hc0;have hborn:e1.born=j':=by
    have h1:=congrArg (λl=>l[j']?) hok.1;simp only[lr,he1,aZ]at h1;have h2:=(aA.1 he1).1;rw[List.getElem?_range h2]at h1;exact Option.some.inj h1
   have hck:clock=n':=by have:=hok.2;omega
   have hnd2:(dT.toList.map (·.born)).Nodup:=by rw[hok.1];exact List.nodup_range
   have hit:w.heap[b]?=some (.mapIter (some bm) n' (js.reverse.toArray.push e1.born) clock):=by
    rw[hheap,hborn,hck];simp
   have hrun:=run_entry_at (P:=P) w b bm n' js.reverse.toArray dT clock e1 hit hheap2 (ah he1) hnd2;refine .pure hi (c:=.tuple #[e1.key,e1.val]) ?_ (de.of hr0);simp[execOp,ho,hcv,hrun]
end
variable {P:Program} {CR:fw} {base fb:Nat} {V:List Nat} {g:G} {J J':SK} {w:World} {B:Nat->Nat} {e:Env} {tmps:Array Value} {df:List Deferred} {d:D}
theorem ajD(hf:Fr fb V g w B e tmps)(hi:Inv CR base g J w){x:Operand}{X:bU}{t:TypeId}(hx:bT x=some X)(hc:P.concrete t=true)
  (h:bY e J (.Zq t X)=some (d,J')) (o:Oper) (ho:o.op=.makeInterface t x):fx P CR base g w B e (Act.mk tmps df).eval o d J':=by
 have hr:=hf.bG (df:=df) hx;simp only[bY,ae,ak]at h;obtain⟨rfl,rfl⟩:=h;exact .pure hi (c:=.iface t ((Act.mk tmps df).eval x)) (by simp[execOp,ho,run_makeInterface w t _ hc]) (de.of (.ua t _ _ hr))
theorem ad6(hf:Fr fb V g w B e tmps)(hi:Inv CR base g J w){x:Operand}{X:bU}{t xt:TypeId}{dsc:TypeDesc}{ok:Bool}{z:Option D}(hx:bT x=some X)(ht:P.underlying t=some dsc)(hn:∀ms,dsc ≠ .interface ms)
  (hz:if ok then ∃z0,z=some z0/\zvC P t=some z0 else z=none)
  (h:bY e J (.tas t z X)=some (d,J')) (o:Oper) (ho:o.op=.typeAssert x xt t ok):fx P CR base g w B e (Act.mk tmps df).eval o d J':=by
 have hr:=hf.bG (df:=df) hx;simp only[bY,ad,ak]at h;obtain⟨d0,h,rfl,rfl⟩:=h;generalize hcx:(Act.mk tmps df).eval x=cx at hr;generalize bG e X=dx at hr h;cases hr with
 |ua t' d1 c h1 =>
  simp only[Tz]at h;cases ok with
  |true =>
   simp only[if_true]at hz;obtain⟨z0,rfl,hz⟩:=hz;obtain⟨iz,zv,hz1,hz2,hz3⟩:=Pq g hz;simp only[ae]at h;by_cases htt:t'=t
   .rw[if_pos htt]at h;subst h;refine .pure hi (c:=.tuple #[c,.bool true]) ?_ (de.of (.cS _ #[c,.bool true] (.cons _ _ _ _ h1 (.cons _ _ _ _ (.bool true) .nil))));simp only[execOp,ho,hcx,Instr.typeAssert,Sem.run_bind,run_underlying ht,Result.andThen_ok];cases dsc<;>first | exact absurd rfl (hn _) | simp[htt]
   .rw[if_neg htt]at h;subst h;refine .pure hi (c:=.tuple #[zv,.bool false]) ?_ (de.of (.cS _ #[zv,.bool false] (.cons _ _ _ _ hz3 (.cons _ _ _ _ (.bool false) .nil))));simp only[execOp,ho,hcx,Instr.typeAssert,Sem.run_bind,run_underlying ht,Result.andThen_ok];cases dsc<;>first | exact absurd rfl (hn _) | simp[htt,gv hz1 hz2]
  |false =>
   simp only[aC,if_false]at hz;subst hz;simp only at h;split at h
   case isFalse=>cases h
   rename_i htt;cases h;refine .pure hi (c:=c) ?_ (de.of h1);simp only[execOp,ho,hcx,Instr.typeAssert,Sem.run_bind,run_underlying ht,Result.andThen_ok];cases dsc<;>first | exact absurd rfl (hn _) | simp[htt]
 |mQ =>
  simp only[Tz,ad]at h;obtain⟨z1,rfl,rfl⟩:=h;cases ok with
  |true =>
   simp only[if_true]at hz;obtain⟨z0,hz0,hz⟩:=hz;cases hz0;obtain⟨iz,zv,hz1,hz2,hz3⟩:=Pq g hz;refine .pure hi (c:=.tuple #[zv,.bool false]) ?_ (de.of (.cS _ #[zv,.bool false] (.cons _ _ _ _ hz3 (.cons _ _ _ _ (.bool false) .nil))));simp only[execOp,ho,hcx,Instr.typeAssert,Sem.run_bind,run_underlying ht,Result.andThen_ok];cases dsc<;>first | exact absurd rfl (hn _) | simp[gv hz1 hz2]
  |false=>simp at hz
 |_=>simp[Tz]at h
theorem I6{t:TypeId}{ms:Array (String×TypeId)}(n:Nat)(ht:P.underlying t=some (.interface ms))(w:World):(Op.equalIn (n+1) t .nilIface .nilIface).run P w=.ok true w:=by
 rw[Op.equalIn];simp[run_underlying ht]
theorem J6{t t':TypeId}{c:Value}{ms:Array (String×TypeId)}(n:Nat)(ht:P.underlying t=some (.interface ms))(w:World):(Op.equalIn (n+1) t (.iface t' c) .nilIface).run P w=.ok false w:=by
 rw[Op.equalIn];simp[run_underlying ht]
theorem LX{t:TypeId}{ms:Array (String×TypeId)}(ht:P.underlying t=some (.interface ms))(w:World):(Op.equal t .nilIface .nilIface).run P w=.ok true w:=I6 9999 ht w
theorem MG{t t':TypeId}{c:Value}{ms:Array (String×TypeId)}(ht:P.underlying t=some (.interface ms))(w:World):(Op.equal t (.iface t' c) .nilIface).run P w=.ok false w:=J6 9999 ht w
theorem ad3(hf:Fr fb V g w B e tmps)(hi:Inv CR base g J w){x:Operand}{X:bU}{t u:TypeId}{ms:Array (String×TypeId)}{neg:Bool}(hx:bT x=some X)(ht:P.underlying t=some (.interface ms))
  (h:bY e J (.isi neg X)=some (d,J')) (o:Oper) (ho:o.op=.binOp (if neg then .neq else .eql) t x (.const .nilIface) u):fx P CR base g w B e (Act.mk tmps df).eval o d J':=by
 have hr:=hf.bG (df:=df) hx;simp only[bY,ad,ak]at h;obtain⟨b,h,rfl,rfl⟩:=h;have hev:(Act.mk tmps df).eval (.const .nilIface)=.nilIface:=rfl;generalize hcx:(Act.mk tmps df).eval x=cx at hr;generalize bG e X=dx at hr h;cases hr with
 |mQ =>
  cases h;refine .pure hi (c:=.bool (if neg then false else true)) ?_ (de.of (by cases neg<;>exact .bool _));cases neg<;>simp[execOp,ho,hcx,hev,eqGuard,binOp,LX ht]
 |ua t' d1 c h1 =>
  cases h;refine .pure hi (c:=.bool (if neg then true else false)) ?_ (de.of (by cases neg<;>exact .bool _));cases neg<;>simp[execOp,ho,hcx,hev,eqGuard,binOp,MG ht]
 |_=>cases h
section
variable {P:Program} {CR:fw} {base fb:Nat} {V:List Nat} {g:G} {J J':SK} {w:World} {B:Nat->Nat} {e:Env} {tmps:Array Value} {df:List Deferred}
 {a:sS} {ops:Array Oper} {key:Nat} {k:K} {d:D}
theorem SG(hf:Fr fb V g w B e tmps)(hi:Inv CR base g J w){x y:Operand}{X Y:bU}{t u:TypeId}{b:BinOp}(hx:bT x=some X)(hy:bT y=some Y)
  (hk:eqC P b t X Y=some k) (h:bY e J k=some (d,J')) (o:Oper) (ho:o.op=.binOp b t x y u):fx P CR base g w B e (Act.mk tmps df).eval o d J':=by
 unfold eqC at hk;split at hk
 case h_2=>cases hk
 rename_i ks hks;split at hk
 .cases hk
 rename_i hg;have hg':P.eqGuardType P.depth t=false:=by simpa using hg
 split at hk
 .obtain⟨ag,hag,rfl⟩:=ad.1 hk;exact ad2 hf hi hx hy hks hag hg' h o (by simpa using ho)
 .obtain⟨ag,hag,rfl⟩:=ad.1 hk;exact ad2 hf hi hx hy hks hag hg' h o (by simpa using ho)
 .cases hk
theorem acP{ag:Bool}{sz:Nat}{X:bU}{r:D×SK}(h:bY e J (.WY ag sz X)=some r):bY e J (.ld ag sz X)=some r:=by
 simp only[bY]at h ⊢;cases hx:bG e X<;>rw[hx]at h<;>try (cases h;done)
 simpa[I1]using h
theorem acO{ag:Bool}{sz:Nat}{X:bU}{r:D×SK}(h:bY e J (.WX ag sz X)=some r):bY e J (.ld ag sz X)=some r:=by
 simp only[bY]at h ⊢;cases hr:W0 J (bG e X)with
 |none=>rw[hr]at h;cases h
 |some cs =>
  rw[hr]at h;have:I1 J (bG e X)=some cs:=by
   generalize bG e X=dx at hr;unfold W0 at hr;split at hr
   .exact hr
   .cases hr
  rw[this];exact h
theorem FO{w:World}(d:Nat){t el:TypeId}{a:Option Addr}(h:P.underlying t=some (.pointer el)):(Op.equalIn (d+1) t (.pointer a) (.pointer none)).run P w=.ok a.isNone w:=by
 cases a<;>simp[Op.equalIn,bJ h]
theorem D7{w:World}(d:Nat){t el:TypeId}{a:Option Addr}{n c:Nat}(h:P.underlying t=some (.slice el)):(Op.equalIn (d+1) t (.slice a n c) (.slice none 0 0)).run P w=.ok a.isNone w:=by
 cases a<;>simp[Op.equalIn,bJ h]
theorem ajw(hi:Inv CR base g J w){x y:Operand}{X:bU}{t u:TypeId}{b:BinOp}{ps bo:Bool}{cx cy:Value}(e1:(Act.mk tmps df).eval x=cx)(e2:(Act.mk tmps df).eval y=cy)
  (hg:∀b,(eqGuard b t x y cx cy).run P w=.ok () w) (hb:binOp .eql t cx cy=(do pure (.bool (<- Op.equal t cx cy)))) (hb':binOp .neq t cx cy=(do pure (.bool (!(<- Op.equal t cx cy)))))
  (heq:(Op.equal t cx cy).run P w=.ok bo w) (hn:MA ps (bG e X)=some bo)
  (hk:isC ps b X=some k) (h:bY e J k=some (d,J')) (o:Oper) (ho:o.op=.binOp b t x y u):fx P CR base g w B e (Act.mk tmps df).eval o d J':=by
 unfold isC at hk;split at hk
 .cases hk;simp only[bY,hn,aZ,ae,ak]at h;obtain⟨rfl,rfl⟩:=h;refine .pure hi ?_ (de.of (.bool _));simp[execOp,ho,e1,e2,hg,hb,heq]
 .cases hk;simp only[bY,hn,aZ,ae,ak]at h;obtain⟨rfl,rfl⟩:=h;refine .pure hi ?_ (de.of (.bool _));simp[execOp,ho,e1,e2,hg,hb',heq]
 .cases hk
theorem QX{ps:Bool}{b:BinOp}{X:bU}(hk:isC ps b X=some k)(h:bY e J k=some (d,J')):∃bo,MA ps (bG e X)=some bo:=by
 unfold isC at hk;split at hk<;>cases hk<;>simp only[bY,ad]at h<;>obtain⟨b,hb,_⟩:=h<;>exact⟨b,hb⟩
theorem ajx(hf:Fr fb V g w B e tmps)(hi:Inv CR base g J w){x y:Operand}{X:bU}{t u el:TypeId}{b:BinOp}(hx:bT x=some X)(hy:bT y=some (.c .zV))(ht:P.underlying t=some (.pointer el))
  (hk:isC true b X=some k) (h:bY e J k=some (d,J')) (o:Oper) (ho:o.op=.binOp b t x y u):fx P CR base g w B e (Act.mk tmps df).eval o d J':=by
 have hr:=hf.bG (df:=df) hx;have hr':=hf.bG (df:=df) hy;have e2:(Act.mk tmps df).eval y=.pointer none:=by
  generalize (Act.mk tmps df).eval y=c at hr';cases hr';rfl
 obtain⟨bo,hn⟩:=QX hk h;have:∃a,(Act.mk tmps df).eval x=.pointer a/\bo=a.isNone:=by
  generalize bG e X=dx at hr hn;generalize (Act.mk tmps df).eval x=cx at hr;cases hr<;>simp[MA]at hn
  .exact⟨none,rfl,by simp[<- hn]⟩
  .exact⟨_,rfl,by simp[<- hn]⟩
  .exact⟨_,rfl,by simp[<- hn]⟩
 obtain⟨a,e1,rfl⟩:=this;refine ajw hi e1 e2 (λb=>by simp[eqGuard]) rfl rfl (FO 9999 ht) hn hk h o ho
theorem ajy(hf:Fr fb V g w B e tmps)(hi:Inv CR base g J w){x y:Operand}{X:bU}{t u el:TypeId}{b:BinOp}(hx:bT x=some X)(hy:bT y=some (.c .bB))(ht:P.underlying t=some (.slice el))
  (hk:isC false b X=some k) (h:bY e J k=some (d,J')) (o:Oper) (ho:o.op=.binOp b t x y u):fx P CR base g w B e (Act.mk tmps df).eval o d J':=by
 have hr:=hf.bG (df:=df) hx;have hr':=hf.bG (df:=df) hy;have e2:(Act.mk tmps df).eval y=.slice none 0 0:=by
  generalize (Act.mk tmps df).eval y=c at hr';cases hr';rfl
 obtain⟨bo,hn⟩:=QX hk h;have:∃a n c,(Act.mk tmps df).eval x=.slice a n c/\bo=a.isNone:=by
  generalize bG e X=dx at hr hn;generalize (Act.mk tmps df).eval x=cx at hr;cases hr<;>simp[MA]at hn
  .exact⟨none,_,_,rfl,by simp[<- hn]⟩
  .exact⟨_,_,_,rfl,by simp[<- hn.2]⟩
  .rename_i l i v off n w a cap L h1 h2 h3 h4 h5 h6 h7;refine⟨a,n,cap,rfl,?_⟩;cases a with
   |none=>have:=h4 rfl;omega
   |some a=>simp[<- hn.2]
 obtain⟨a,n,c,e1,rfl⟩:=this;refine ajw hi e1 e2 (λb=>by simp[eqGuard]) rfl rfl (D7 9999 ht) hn hk h o ho
theorem ajG(hf:Fr fb V g w B e tmps)(hi:Inv CR base g J w){x:Operand}{X:bU}(hx:bT x=some X)(h:bY e J (.nck X)=some (d,J'))(o:Oper)(ho:o.op=.nilCheck x):
  fx P CR base g w B e (Act.mk tmps df).eval o d J':=by
 have hr:=hf.bG (df:=df) hx;simp only[bY]at h;generalize bG e X=dx at hr h;have key:(∃a,(Act.mk tmps df).eval x=.pointer (some a))/\d=dx/\J'=J:=by
  generalize (Act.mk tmps df).eval x=cx at hr;cases hr<;>simp at h
  .exact⟨⟨_,rfl⟩,h.1.symm,h.2.symm⟩
  .exact⟨⟨_,rfl⟩,h.1.symm,h.2.symm⟩
 obtain⟨⟨a,e1⟩,rfl,rfl⟩:=key;rw[e1]at hr;exact .pure hi (c:=.pointer (some a)) (by simp[execOp,ho,e1]) (de.of hr)
theorem Np{x:Operand}(h:Dq x=true):x=.const (.slice none 0 0):=by
 unfold Dq at h;split at h
 .rfl
 .cases h
theorem agK(hf:Fr fb V g w B e tmps)(hi:Inv CR base g J w){o:Oper}(hk:kC P a ops key o=some k)(h:bY e J k=some (d,J')):
  fx P CR base g w B e (Act.mk tmps df).eval o d J':=by
 unfold kC at hk;split at hk
 .rename_i x ho;obtain⟨X,hX,rfl⟩:=ad.1 hk;exact Tg hf hi hX h o (.inl ho)
 .rename_i x ho;split at hk
  .rename_i hnil _ _;split at hk
   .obtain⟨X,hX,rfl⟩:=ad.1 hk;exact agC hi h o (by rw[ho,Np hnil])
   .obtain⟨X,hX,rfl⟩:=ad.1 hk;exact Tg hf hi hX h o (.inr ho)
  .obtain⟨X,hX,rfl⟩:=ad.1 hk;exact Tg hf hi hX h o (.inr ho)
 .rename_i c x y ho;split at hk
  .rename_i c' x' y' h1 h2 h3;cases hk;exact agD hf hi h1 h2 h3 h o ho
  .cases hk
 .rename_i el ho;split at hk
  .rename_i z d0 hz _;split at hk
   .split at hk
    case h_2=>cases hk
    split at hk
    case h_2=>cases hk
    split at hk
    case h_2=>cases hk
    cases hk;exact ajB hi hz h o ho
   cases hk;split at h
   .cases h
   .exact ajh hi hz h o ho
  .cases hk
 .rename_i t x ho;split at hk
  .rename_i x' d0 hx _;cases hk;split at h
   .cases h
   split at h
   .split at h
    .exact agt hf hi hx h o ho
    .exact ajp hf hi hx h o ho
   .exact ags hf hi hx h o ho
  .cases hk
 .rename_i t ps ho;split at hk
  .rename_i fs z ht hz;split at hk
   .rename_i hall;obtain⟨parts,hp,rfl⟩:=ad.1 hk;exact O9 hf hi ht hz hall hp h o ho
   .cases hk
  .rename_i n el z ht hz;split at hk
   .rename_i wd hw;obtain⟨parts,hp,rfl⟩:=ad.1 hk;exact RC hf hi ht hw hz hp h o ho
   .cases hk
  .cases hk
 .rename_i t n ps ho;split at hk
  .rename_i el ht;split at hk
   .rename_i wd z d0 hw hz _;split at hk
    .rename_i hc;obtain⟨parts,hp,rfl⟩:=ad.1 hk;dsimp only at h;split at h
     .rename_i hn;simp only[af,au]at hn;obtain⟨⟨rfl,hpe⟩,_⟩:=hn;exact ajm hf hi ht hw hz hc.1 hc.2.1 hc.2.2 hp (by simpa using hpe) h o ho
     split at h
     .exact ajo hf hi ht hw hz hc.1 hc.2.1 hc.2.2 hp h o ho
     .exact ajn hf hi ht hw hz hc.1 hc.2.1 hc.2.2 hp h o ho
    .cases hk
   .cases hk
  .cases hk
 .rename_i t x ho;split at hk
  .rename_i ag sz n hag hsz hx;split at hk
   .rename_i hc;simp only[af,au]at hc;cases hk;have hxe:x=.tmp n:=by
     cases x<;>simp only[bT,ae,bU.t.injEq,reduceCtorEq,ad,and_false,exists_false]at hx;rw[hx]
    split at h
    .exact ajz hf hi hag hsz hc.1 hc.2 h o (by rw[ho,hxe])
    .split at h
     .exact agy hf hi hx hag hsz hc.1 hc.2 (acP h) o ho
     split at h
     .exact agy hf hi hx hag hsz hc.1 hc.2 (acO h) o ho
     .exact agy hf hi hx hag hsz hc.1 hc.2 h o ho
   .cases hk
  .cases hk
 .rename_i t x y ho;split at hk
  .rename_i sz n y' hsz hx hy;cases hk;split at h
   .cases h
   .split at h
    .exact ajL hf hi hx hy hsz (Va h) o ho
    .exact ajL hf hi hx hy hsz h o ho
  .cases hk
 .rename_i b t x y u ho;split at hk
  .rename_i hx hy;cases hk;exact ajl hf hi hx hy h o ho
  .rename_i hx hy;exact SG hf hi hx hy hk h o ho
  .rename_i hx hy;exact SG hf hi hx hy hk h o ho
  .rename_i hx hy;exact SG hf hi hx hy hk h o ho
  .rename_i ht hx hy;split at hk
   .cases hk;exact agE hf hi hx hy h o ho
   .cases hk;exact ad5 hf hi hx hy h o ho
   .cases hk;exact ad5 hf hi hx hy h o ho
   .cases hk
  .rename_i ht hx hy;exact ajx hf hi hx hy ht hk h o ho
  .rename_i ht hx hy;split at hk
   .rename_i hsz;split at hk
    .cases hk;exact ad4 (neg:=false) hf hi hx hy ht hsz h o ho
    .cases hk;exact ad4 (neg:=true) hf hi hx hy ht hsz h o ho
    .cases hk
   .cases hk
  .rename_i ht hx hy;exact ajy hf hi hx hy ht hk h o ho
  .rename_i ht hx hy;split at hk
   .cases hk;exact ad3 (neg:=false) hf hi hx ht h o ho
   .cases hk;exact ad3 (neg:=true) hf hi hx ht h o ho
   .cases hk
  .cases hk
 .rename_i x ho;obtain⟨X,hX,rfl⟩:=ad.1 hk;exact ajG hf hi hX h o ho
 .rename_i b t x ho;obtain⟨X,hX,rfl⟩:=ad.1 hk;exact alY hf hi hX h o ho
 .rename_i s t x ho;split at hk
  .rename_i hs ht hx;cases hk;exact ajr hf hi hx hs ht h o ho
  .rename_i hs ht hx;split at hk
   .rename_i he hw;cases hk;exact ajk hf hi hx hs he ht h o ho
   .cases hk
  .rename_i hs ht hx;split at hk
   .rename_i he hw;cases hk;exact ajJ hf hi hx hs he ht h o ho
   .cases hk
  .rename_i hs ht hx;split at hk
   .rename_i hst;subst hst;split at hk
    .rename_i he;cases hk;exact ajs hf hi hx hs he h o ho
    .cases hk
   .cases hk
  .cases hk
 .rename_i t x ho;split at hk
  .rename_i ht hx;obtain⟨wd,hw,rfl⟩:=ad.1 hk;exact ajI hf hi hx ht h o ho
  .cases hk
 .rename_i f xs ys ho;split at hk
  .rename_i hx hy;cases hk;exact ajC hf hi hx hy h o ho
  .cases hk
 .rename_i t x y ho;split at hk
  .rename_i el ht;split at hk
   .rename_i hw hb hz hx hy;split at hk
    .rename_i hc;cases hk;exact ajF hf hi hx hy ht hw hb hz hc.1 hc.2 h o ho
    .cases hk
   .cases hk
  .cases hk
 .rename_i t x lo hh mx ho;split at hk
  .rename_i ht hx hlo hhi hmx;obtain⟨wd,hw,rfl⟩:=ad.1 hk;exact ajK hf hi hx ht hw hlo hhi hmx h o ho
  .rename_i ht hx hlo hhi hmx;obtain⟨wd,hw,rfl⟩:=ad.1 hk;have hm:mx=none:=by
    cases mx with
    |none=>rfl
    |some m=>simp[zX,ad]at hmx
   subst hm;exact agG hf hi hx ht hw hlo hhi h o ho
  .rename_i ht hx hlo hhi hmx;cases hk;have hm:mx=none:=by
    cases mx with
    |none=>rfl
    |some m=>simp[zX,ad]at hmx
   subst hm;exact agI hf hi hx ht hlo hhi h o ho
  .cases hk
 .rename_i s x i ho;split at hk
  .rename_i fs x' hs hx;split at hk
   .rename_i off sz hfc;split at hk
    .rename_i hpos;cases hk;exact agu hf hi hx hs hfc hpos h o ho
    .cases hk
   .cases hk
  .cases hk
 .rename_i s x i ho;split at hk
  .rename_i fs x' hs hx;split at hk
   .rename_i f hfi;split at hk
    .rename_i hag hsz;split at hk
     .cases hk;exact ajv hf hi hx hs hfi hag hsz h o ho
     .cases hk
    .cases hk
   .cases hk
  .cases hk
 .rename_i t x y ho;split at hk
  .rename_i ht hx hy;obtain⟨wd,hw,rfl⟩:=ad.1 hk;exact agv hf hi hx hy ht hw h o ho
  .rename_i ht hx hy;obtain⟨wd,hw,rfl⟩:=ad.1 hk;exact agw hf hi hx hy ht hw h o ho
  .cases hk
 .rename_i t x y ho;split at hk
  .rename_i ht hx hy;split at hk
   .rename_i hag hsz;split at hk
    .cases hk;exact agx hf hi hx hy ht hag hsz h o ho
    .cases hk
   .cases hk
  .rename_i ht hx hy;cases hk;exact agF hf hi hx hy ht h o ho
  .cases hk
 .rename_i x i ho;obtain⟨X,hX,rfl⟩:=ad.1 hk;exact aju hf hi hX h o ho
 .rename_i c ho;obtain⟨callee,args,ts⟩:=c;dsimp only at hk;split at hk
  .rename_i f;split at hk
   .cases hk;cases h
   .cases hk
  .split at hk
   .rename_i t tr x r hts ha;split at hk
    .rename_i ht hx;cases hk;exact ajA hf hi hx ht ha hts h o ho
    .rename_i ht hx;cases hk;exact agH hf hi hx ht ha hts h o ho
    .rename_i ht hx;cases hk;exact agB hf hi hx ht ha hts h o ho
    .rename_i ht;cases hk;exact Z3 hi (.inl ⟨_,ht⟩) ha hts h o ho
    .rename_i ht;split at hk
     .rename_i hr;cases hk;exact Z3 hi (.inr ⟨_,_,ht,hr⟩) ha hts h o ho
     .cases hk
    .cases hk
   .cases hk
  .cases hk;cases h
  .split at hk
   .rename_i ha;split at hk
    .rename_i hx hy;cases hk;exact alW hf hi hx hy ha h o ho
    .cases hk
   .cases hk
  .split at hk
   .rename_i ha;split at hk
    .rename_i hx hy;cases hk;exact alX hf hi hx hy ha h o ho
    .cases hk
   .cases hk
  .split at hk
   .rename_i t u x y hts ha;split at hk
    .rename_i uu x' y' ht hu0 hx hy;split at hk
     case isFalse=>cases hk
     rename_i huu;have hu:P.underlying u=some .string\/∃e2,P.underlying u=some (.slice e2):=by
      cases uu<;>simp[ZX]at huu
      .exact .inl hu0
      .exact .inr ⟨_,hu0⟩
     split at hk
     .rename_i hw hb hz;split at hk
      .rename_i hc;cases hk;split at h
       .rename_i hn;simp only[af]at hn;exact ajq hf hi (Np hn.1) hy ha hts ht hu hw hb hz hc.2.2.2 hc.2.1 hc.2.2.1 h o ho
       .split at h
        .rename_i hn;simp only[af]at hn;obtain⟨v,rfl⟩:∃v,x=.tmp v:=by
          have:=hn.2;cases x<;>simp[aal]at this;exact⟨_,rfl⟩
         exact aji hf hi rfl hy ha hts ht hu hw hb hz hc.2.2.2 hc.2.1 hc.2.2.1 h o ho
        split at h
        .exact ajj hf hi hx hy ha hts ht hu hw hb hz hc.2.2.2 hc.2.1 hc.2.2.1 h o ho
        split at h
        .exact Z2 hf hi hx hy ha hts ht hu hw hb hz hc.2.2.2 hc.2.1 hc.2.2.1 (U9 h) o ho
        .exact Z2 hf hi hx hy ha hts ht hu hw hb hz hc.2.2.2 hc.2.1 hc.2.2.1 h o ho
      .cases hk
     .cases hk
    .cases hk
   .cases hk
  .cases hk
 .rename_i t x ho;split at hk
  .rename_i hc;obtain⟨X,hX,rfl⟩:=ad.1 hk;exact ajD hf hi hX hc h o ho
  .cases hk
 .rename_i x xt t ok ho;split at hk
  .cases hk
  .rename_i dsc x' hnot ht hx;split at hk
   .rename_i hok;subst hok;obtain⟨z,hz,rfl⟩:=ad.1 hk;exact ad6 hf hi hx ht (λms hms=>by subst hms;exact hnot _ rfl) (by simpa using hz) h o ho
   .rename_i hok;cases hk;exact ad6 hf hi hx ht (λms hms=>by subst hms;exact hnot _ rfl) (by simp[hok]) h o ho
  .cases hk
 .rename_i x ho;obtain⟨X,hX,rfl⟩:=ad.1 hk;cases h
 .rename_i t ho;cases hk;exact ajE hi h o ho
 .rename_i t k n ho;split at hk
  .rename_i ht;cases hk;exact agA hi h ht o ho
  .cases hk
 .rename_i t x ho;split at hk
  .rename_i ht hx;cases hk;exact ajH hf hi hx ht h o ho
  .cases hk
 .rename_i x ho;split at hk
  .rename_i hx;cases hk;exact ajt hf hi hx h o ho
  .cases hk
 .rename_i t x y ok ho;split at hk
  .rename_i ht hx hy;split at hk
   .rename_i hky hz;cases hk;exact agz hf hi hx hy ht hky hz h o ho
   .cases hk
  .cases hk
 .rename_i t m x y ho;split at hk
  .rename_i ht hm hx hy;split at hk
   .rename_i hky;cases hk;exact Z4 hf hi hm hx hy ht hky h o (.inl ho)
   .cases hk
  .cases hk
 .rename_i t m x y ho;split at hk
  .rename_i ht hm hx hy;split at hk
   .rename_i hky;cases hk;exact Z4 hf hi hm hx hy ht hky h o (.inr ho)
   .cases hk
  .cases hk
 .cases hk
end
mutual
def D.low(n:Nat):D->Bool
 |.ref l .. => decide (l<n)
 |.sl l .. => decide (l<n)
 |.jg l _=>decide (l<n)
 |.vr .. => true
 |.emp=>true
 |.own _ cs=>D.ll n cs
 |.agg cs=>D.ll n cs
 |.cS cs=>D.ll n cs
 |.bq cs=>D.ll n cs
 |.bZ _ cs=>D.ll n cs
 |.fn _ a b=>D.ll n a && D.ll n b
 |.undef=>true
 |.bool _=>true
 |.int _ _=>true
 |.str _=>true
 |.zV=>true
 |.bB=>true
 |.pc=>true
 |.ua _ d=>D.low n d
 |.mQ=>true
def D.ll(n:Nat):List D->Bool
 |[]=>true
 |d::ds=>D.low n d && D.ll n ds
end
theorem EP{n:Nat}{ds:List D}:D.ll n ds=true↔∀d∈ds,d.low n=true:=by
 induction ds with
 |nil=>simp[D.ll]
 |cons d ds ih=>simp[D.ll,ih]
mutual
theorem sD{n:Nat}:∀{d:D},d.clean=true->d.low n=true
 |.ref ..,h=>by simp[D.clean]at h
 |.sl ..,h=>by simp[D.clean]at h
 |.jg ..,h=>by simp[D.clean]at h
 |.vr ..,_=>rfl
 |.emp,_=>rfl
 |.own _ cs,h=>oJ (ds:=cs) (by simpa[D.clean]using h)
 |.agg cs,h=>oJ (ds:=cs) (by simpa[D.clean]using h)
 |.cS cs,h=>oJ (ds:=cs) (by simpa[D.clean]using h)
 |.bq cs,h=>oJ (ds:=cs) (by simpa[D.clean]using h)
 |.bZ _ cs,h=>oJ (ds:=cs) (by simpa[D.clean]using h)
 |.fn _ a b,h=>by
  simp only[D.clean,af]at h;simp only[D.low,af];exact⟨oJ h.1,oJ h.2⟩
 |.undef,_=>rfl
 |.bool _,_=>rfl
 |.int _ _,_=>rfl
 |.str _,_=>rfl
 |.zV,_=>rfl
 |.bB,_=>rfl
 |.pc,_=>rfl
 |.ua _ d,h=>sD (d:=d) (by simpa[D.clean]using h)
 |.mQ,_=>rfl
theorem oJ{n:Nat}:∀{ds:List D},D.bh ds=true->D.ll n ds=true
 |[],_=>rfl
 |d::ds,h=>by
  simp only[D.bh,af]at h;simp only[D.ll,af];exact⟨sD h.1,oJ h.2⟩
end
mutual
theorem bW.low{g:G}{n:Nat}(hn:∀l i L,g.loc l i=some L->l<n):∀{d:D} {c:Value},bW g d c->d.low n=true
 |_,_,.undef c=>rfl
 |_,_,.bool b=>rfl
 |_,_,.int k n=>rfl
 |_,_,.str s=>rfl
 |_,_,.agg ds cs hr h1=>bS.low hn hr
 |_,_,.cS ds cs hr=>bS.low hn hr
 |_,_,.zV=>rfl
 |_,_,.ref l i v off b o L e hv hc hn'=>by simp only[D.low,au];exact hn l i L e
 |_,_,.bq ds b o vs hr hl=>bS.low hn hl
 |_,_,.bB=>rfl
 |_,_,.Aj=>rfl
 |_,_,.bZ n' ds a cap vs hn' hr hs hl=>bS.low hn hl
 |_,_,.sl l i v off n' w a cap L e hv hn' ha hs hc hc'=>by simp only[D.low,au];exact hn l i L e
 |_,_,.fn f fs cs fs' cs' h1 h2=>by simp only[D.low,af];exact⟨bS.low hn h1,bS.low hn h2⟩
 |_,_,.pc=>rfl
 |_,_,.jg l i b e=>by simp only[D.low,au];exact hn l i _ e
 |_,_,.UM l i b e=>by simp only[D.low,au];exact hn l i _ e
 |_,_,.Za l i b L e hc=>by simp only[D.low,au];exact hn l i _ e
 |_,_,.VR l i b L e hc=>by simp only[D.low,au];exact hn l i _ e
 |_,_,.ua t d c h1=>by rw[D.low];exact bW.low hn h1
 |_,_,.mQ=>rfl
theorem bS.low{g:G}{n:Nat}(hn:∀l i L,g.loc l i=some L->l<n):∀{ds:List D} {cs:List Value},bS g ds cs->D.ll n ds=true
 |_,_,.nil=>rfl
 |_,_,.cons d c ds cs h1 h2=>by simp only[D.ll,af];exact⟨bW.low hn h1,bS.low hn h2⟩
end
def G.cut(g:G)(n:Nat):G:=⟨λl i=>if l<n then g.loc l i else none,g.nB⟩
theorem G.rB{g:G}{n l i:Nat}(h:l<n):(g.cut n).loc l i=g.loc l i:=by simp[G.cut,h]
theorem G.yO{g:G}{n l i:Nat}{L:Loc}(h:(g.cut n).loc l i=some L):l<n/\g.loc l i=some L:=by
 simp only[G.cut]at h;split at h
 .exact⟨by assumption,h⟩
 .cases h
mutual
theorem bW.cut{g:G}{n:Nat}:∀{d:D} {c:Value},bW g d c->d.low n=true->bW (g.cut n) d c
 |_,_,.undef c,_ => .undef c
 |_,_,.bool b,_ => .bool b
 |_,_,.int k n,_ => .int k n
 |_,_,.str s,_ => .str s
 |_,_,.agg ds cs hr h1,h => .agg ds cs (bS.cut hr h) h1
 |_,_,.cS ds cs hr,h => .cS ds cs (bS.cut hr h)
 |_,_,.zV,_ => .zV
 |_,_,.ref l i v off b o L e hv hc hn',h => .ref l i v off b o L ((G.rB (by simpa[D.low]using h)).trans e) hv hc hn'
 |_,_,.bq ds b o vs hr hl,h => .bq ds b o vs hr (bS.cut hl h)
 |_,_,.bB,_ => .bB
 |_,_,.Aj,_ => .Aj
 |_,_,.bZ n' ds a cap vs hn' hr hs hl,h => .bZ n' ds a cap vs hn' hr hs (bS.cut hl h)
 |_,_,.sl l i v off n' w a cap L e hv hn' ha hs hc hc',h => .sl l i v off n' w a cap L ((G.rB (by simpa[D.low]using h)).trans e) hv hn' ha hs hc hc'
 |_,_,.fn f fs cs fs' cs' h1 h2,h=>by
  simp only[D.low,af]at h;exact .fn f fs cs fs' cs' (bS.cut h1 h.1) (bS.cut h2 h.2)
 |_,_,.pc,_ => .pc
 |_,_,.jg l i b e,h => .jg l i b ((G.rB (by simpa[D.low]using h)).trans e)
 |_,_,.UM l i b e,h => .UM l i b ((G.rB (by simpa[D.low]using h)).trans e)
 |_,_,.Za l i b L e hc,h => .Za l i b L ((G.rB (by simpa[D.low]using h)).trans e) hc
 |_,_,.VR l i b L e hc,h => .VR l i b L ((G.rB (by simpa[D.low]using h)).trans e) hc
 |_,_,.ua t d c h1,h => .ua t d c (bW.cut h1 h)
 |_,_,.mQ,_ => .mQ
theorem bS.cut{g:G}{n:Nat}:∀{ds:List D} {cs:List Value},bS g ds cs->D.ll n ds=true->bS (g.cut n) ds cs
 |_,_,.nil,_ => .nil
 |_,_,.cons d c ds cs h1 h2,h=>by
  simp only[D.ll,af]at h;exact .cons d c ds cs (bW.cut h1 h.1) (bS.cut h2 h.2)
end
mutual
theorem ER{n m:Nat}(hm:n<=m):∀{d:D},d.low n=true->d.low m=true
 |.ref l ..,h=>by simp only[D.low,au]at h ⊢;omega
 |.sl l ..,h=>by simp only[D.low,au]at h ⊢;omega
 |.jg l _,h=>by simp only[D.low,au]at h ⊢;omega
 |.vr ..,_=>rfl
 |.emp,_=>rfl
 |.own _ cs,h=>pG (ds:=cs) hm h
 |.agg cs,h=>pG (ds:=cs) hm h
 |.cS cs,h=>pG (ds:=cs) hm h
 |.bq cs,h=>pG (ds:=cs) hm h
 |.bZ _ cs,h=>pG (ds:=cs) hm h
 |.fn _ a b,h=>by
  simp only[D.low,af]at h ⊢;exact⟨pG hm h.1,pG hm h.2⟩
 |.undef,_=>rfl
 |.bool _,_=>rfl
 |.int _ _,_=>rfl
 |.str _,_=>rfl
 |.zV,_=>rfl
 |.bB,_=>rfl
 |.pc,_=>rfl
 |.ua _ d,h=>ER (d:=d) hm h
 |.mQ,_=>rfl
theorem pG{n m:Nat}(hm:n<=m):∀{ds:List D},D.ll n ds=true->D.ll m ds=true
 |[],_=>rfl
 |d::ds,h=>by
  simp only[D.ll,af]at h ⊢;exact⟨ER hm h.1,pG hm h.2⟩
end
def aF.low(n:Nat):aF->Prop
 |.cells _ cs=>D.ll n cs=true
 |.dead=>True
 |.loop lp=>∀t,(get lp.env t).low n=true
def po(J:SK):Prop:=∀l i b,ef J l i=some b->l+1<J.length->b.low (l+1)
theorem po.set{J:SK}(h:po J){l i:Nat}{b:aF}(hb:l+1<J.length->b.low (l+1)):po (bw J l i b):=by
 intro l' i' b' h1 h2;rw[dS]at h2;by_cases hc:l'=l/\i'=i
 .obtain⟨rfl,rfl⟩:=hc;cases h0:ef J l' i' with
  |none =>
   have:ef (bw J l' i' b) l' i'=none:=by
    unfold bw;cases hs:eK J l' with
    |none=>exact h0
    |some s =>
     simp only[ef,sN (Dy hs),Option.bind_some];simp only[ef,hs,Option.bind_some]at h0;rw[List.getElem?_eq_none_iff]at h0 ⊢;simpa using h0
   rw[this]at h1;cases h1
  |some b0=>rw[mR h0]at h1;cases h1;exact hb h2
 .rw[eO hc]at h1;exact h l' i' b' h1 h2
theorem po.new{J J':SK}(h:po J){l i:Nat}{b:aF}(hn:fT J b=some (l,i,J')):po J':=by
 obtain⟨h1,h2,h3,h4,h5⟩:=jy hn;intro l' i' b' e hl;by_cases hc:l'=l/\i'=i
 .omega
 .rw[h3 l' i' hc]at e;exact h l' i' b' e (by omega)
structure fQ(J J':SK):Prop where
 len:J'.length=J.length
 low:po J->po J'
theorem fQ.refl(J:SK):fQ J J:=⟨rfl,id⟩
theorem fQ.trans{a b c:SK}(h:fQ a b)(h':fQ b c):fQ a c:=⟨h'.len.trans h.len,λx=>h'.low (h.low x)⟩
theorem fQ.new{J J':SK}{l i:Nat}{b:aF}(hn:fT J b=some (l,i,J')):fQ J J':=⟨(jy hn).2.2.2.1,λh=>h.new hn⟩
theorem fQ.set{J:SK}{l i:Nat}{b:aF}(hb:l+1<J.length->b.low (l+1)):fQ J (bw J l i b):=⟨dS,λh=>h.set hb⟩
theorem sA:∀(nb:List (Nat×Nat)) (cs cs':List D) (J J':SK),jT nb cs J=some (cs',J')->fQ J J'
 |[],cs,cs',J,J',h=>by simp only[jT,ae,ak]at h;obtain⟨rfl,rfl⟩:=h;exact .refl _
 |(p,w)::r,cs,cs',J,J',h=>by
  simp only[jT]at h;split at h
  .simp only[aX,aj]at h;obtain⟨⟨l,i,J1⟩,hn,h⟩:=h;exact(fQ.new hn).trans (sA r _ _ _ _ h)
  .exact sA r _ _ _ _ h
theorem Cx(l:Nat):∀(n:Nat) (d:D) (J:SK),(cK l n d J).1.low (l+1)=true/\fQ J (cK l n d J).2
 |0,d,J=>⟨rfl,.refl _⟩
 |n+1,d,J=>by
  have ih:∀(ds:List D) (J:SK),D.ll (l+1) (cK.frzL (cK l n) ds J).1=true/\fQ J (cK.frzL (cK l n) ds J).2:=by
   intro ds;induction ds with
   |nil=>intro J;exact⟨rfl,.refl _⟩
   |cons d ds ihd =>
    intro J;obtain⟨h1,h2⟩:=Cx l n d J;obtain⟨h3,h4⟩:=ihd (cK l n d J).2;simp only[cK.frzL,D.ll,af];exact⟨⟨h1,h3⟩,h2.trans h4⟩
  simp only[cK];split
  .rename_i hc;exact⟨sD hc,.refl _⟩
  cases d with
  |agg cs=>exact ih cs J
  |cS cs=>exact ih cs J
  |bq cs=>exact ih cs J
  |bZ m cs=>exact ih cs J
  |own s cs=>exact ih cs J
  |fn f a b =>
   obtain⟨h1,h2⟩:=ih a J;obtain⟨h3,h4⟩:=ih b (cK.frzL (cK l n) a J).2;refine⟨?_,h2.trans h4⟩;simp only[D.low,af];exact⟨h1,h3⟩
  |ref l' i v off =>
   dsimp only;split
   .refine⟨?_,.refl _⟩;simp only[D.low,au];omega
   .exact⟨rfl,.refl _⟩
  |jg l' i =>
   dsimp only;split
   .refine⟨?_,.refl _⟩;simp only[D.low,au];omega
   .exact⟨rfl,.refl _⟩
  |sl l' i v off m w =>
   dsimp only;split
   .refine⟨?_,.refl _⟩;simp only[D.low,au];omega
   .split
    .rename_i cs hcs;obtain⟨h1,h2⟩:=ih ((cs.drop off).take (m*w)) (bw J l' i .dead);exact⟨h1,(fQ.set (b:=.dead) λ_=>trivial).trans h2⟩
    .exact⟨rfl,.refl _⟩
  |_=>exact⟨rfl,.refl _⟩
theorem Fo(l n:Nat)(ds:List D):∀(J:SK),D.ll (l+1) (cK.frzL (cK l n) ds J).1=true/\fQ J (cK.frzL (cK l n) ds J).2:=by
 induction ds with
 |nil=>intro J;exact⟨rfl,.refl _⟩
 |cons d ds ihd =>
  intro J;obtain⟨h1,h2⟩:=Cx l n d J;obtain⟨h3,h4⟩:=ihd (cK l n d J).2;simp only[cK.frzL,D.ll,af];exact⟨⟨h1,h3⟩,h2.trans h4⟩
theorem IK(l:Nat):∀(e:Env) (J:SK),(∀p∈(nM l e J).1,p.2.low (l+1)=true)/\fQ J (nM l e J).2
 |[],J=>⟨by simp[nM],.refl _⟩
 |(t,d)::e,J=>by
  obtain⟨h1,h2⟩:=Cx l deep d J;obtain⟨h3,h4⟩:=IK l e (cK l deep d J).2;simp only[nM];refine⟨?_,h2.trans h4⟩;intro p hp;rcases bz.1 hp with rfl | hp
  .exact h1
  .exact h3 p hp
theorem CZ{J:SK}(h:po J){l i v:Nat}{cs:List D}(hc:cells? J l i v=some cs)(hl:l+1<J.length):D.ll (l+1) cs=true:=by
 unfold cells? at hc;split at hc
 case h_2=>cases hc
 rename_i v' cs' hb;split at hc
 case isFalse=>cases hc
 cases hc;exact h l i _ hb hl
theorem A6{n:Nat}{a b:List D}:D.ll n (a++b)=true↔D.ll n a=true/\D.ll n b=true:=by
 simp only[EP,aU];exact⟨λh=>⟨λd hd=>h d (.inl hd),λd hd=>h d (.inr hd)⟩,λh d hd=>hd.elim (h.1 d) (h.2 d)⟩
theorem IT{n k:Nat}{a:List D}(h:D.ll n a=true):D.ll n (a.take k)=true:=by
 rw[EP]at h ⊢;exact λd hd=>h d (dj hd)
theorem IS{n k:Nat}{a:List D}(h:D.ll n a=true):D.ll n (a.drop k)=true:=by
 rw[EP]at h ⊢;exact λd hd=>h d (dH hd)
theorem Zs{J J':SK}{d:D}{o:Mo}{ds:List D}(h:DY J o ds=some (d,J'))(hk:o.calm=true):J'=J:=by
 unfold DY at h;split at h
 .simp[Mo.calm]at hk
 .simp[Mo.calm]at hk
 .split at h
  .split at h
   .split at h<;>first | (cases h;done) | (cases h;rfl)
   .cases h
  .cases h
 .simp[Mo.calm]at hk
 .simp only[ad,ak]at h;obtain⟨_,_,_,rfl⟩:=h;rfl
 .simp[Mo.calm]at hk
 .split at h
  .split at h
   .split at h
    .split at h
     .cases h;rfl
     .cases h
    .cases h
   .cases h
  .cases h
 .cases h
theorem Zk{J J':SK}{d:D}{o:Me}{ds:List D}(h:Pv J o ds=some (d,J')):J'=J:=by
 unfold Pv at h;split at h
 .cases h
 .simp only[aj,ad,ak]at h;obtain⟨_,_,_,_,_,rfl⟩:=h;rfl
 .cases h;rfl
 .split at h<;>cases h;rfl
 .split at h<;>cases h;rfl
 .cases h
theorem RI{e:Env}{J J':SK}{d:D}{k:K}(h:bY e J k=some (d,J'))(hk:k.calm=true):J'=J:=by
 by_cases hm:∃o xs,k=.mp o xs
 .obtain⟨o,xs,rfl⟩:=hm;exact Zs h hk
 by_cases hm':∃o xs,k=.me o xs
 .obtain⟨o,xs,rfl⟩:=hm';exact Zk h
 cases k<;>(try (exact absurd ⟨_,_,rfl⟩ hm))<;>(try (exact absurd ⟨_,_,rfl⟩ hm'))<;>clear hm hm'<;>simp only[K.calm,aC]at hk<;>simp only[bY,aX,reduceCtorEq]at h<;>(repeat' split at h)<;>
  simp only[ad,aj,ae,ak,Prod.exists,reduceCtorEq,exists_eq_left,and_false,exists_false]at h<;>(try split at h)<;>
  simp_all<;>(try (obtain⟨_,_,h⟩:=h;simp_all))<;>(try grind)
theorem UE{e:Env}{J J':SK}{d:D}{nb:List (Nat×Nat)}{sz:Nat}{a x:bU}(h:bY e J (.st nb sz a x)=some (d,J')):fQ J J':=by
 simp only[bY]at h;split at h
 case h_2=>cases h
 split at h
 case h_2=>cases h
 rename_i l i v off hX _ cs hcs;split at h
 case h_2=>cases h
 rename_i p hcells;split at h
 case isFalse=>cases h
 rename_i hc;split at h
 .rename_i htop;split at h
  .rename_i p' J1 hnb;cases h;have hg:=sA _ _ _ _ _ hnb;exact hg.trans (fQ.set λhl=>by have:=hg.len;omega)
  .cases h
 .rename_i htop;cases h;obtain⟨h1,h2⟩:=Fo l deep p J;refine⟨dS.trans h2.len,λhl=>(h2.low hl).set λhlt=>?_⟩;have hcl:=CZ hl hcs (by have:=h2.len;omega);simp only[aF.low,A6];exact⟨⟨IT hcl,h1⟩,IS hcl⟩
theorem Ly{e:Env}{J J':SK}{d:D}{w bytes:Nat}{s x:bU}(h:bY e J (.app w bytes s x)=some (d,J')):fQ J J':=by
 simp only[bY,aX,aj]at h;obtain⟨⟨m,xs⟩,he,h⟩:=h;dsimp only at h;split at h
 .split at h
  case isFalse=>cases h
  split at h
  .cases h;exact .refl _
  .simp only[aj]at h;obtain⟨⟨l,i,J1⟩,hn,h⟩:=h;cases h;exact .new hn
 .split at h
  case h_2=>cases h
  rename_i l i v off n w' hX _ cs hcs;split at h
  case isFalse=>cases h
  split at h
  .cases h;exact .set λhl=>by omega
  .cases h;obtain⟨h1,h2⟩:=Fo l deep xs J;refine⟨dS.trans h2.len,λhl=>(h2.low hl).set λhlt=>?_⟩;have hcl:=CZ hl hcs (by have:=h2.len;omega);simp only[aF.low,A6];exact⟨IT (IS hcl),h1⟩
 .cases h
theorem Zi{n j:Nat}{a:List D}{x:D}(h:D.ll n a=true)(hx:x.low n=true):D.ll n (a.set j x)=true:=by
 rw[EP]at h ⊢;intro d hd;rcases List.mem_or_eq_of_mem_set hd with h1 | rfl
 .exact h d h1
 .exact hx
theorem abZ{J J':SK}{d:D}{o:Mo}{ds:List D}(h:DY J o ds=some (d,J')):fQ J J':=by
 unfold DY at h;split at h
 .simp only[ad,ak,Prod.exists]at h;obtain⟨l,i,J1,hn,_,rfl⟩:=h;exact .new hn
 .simp only[ad,ak,Prod.exists]at h;obtain⟨l,i,J1,hn,_,rfl⟩:=h;exact .new hn
 .split at h
  .split at h
   .split at h<;>first | (cases h;done) | (cases h;exact .refl _)
   .cases h
  .cases h
 .rename_i ky m k v;split at h
  .rename_i l i es hm;obtain⟨rfl,hcs⟩:=Q8 hm;split at h
   case isFalse=>cases h
   rename_i hc;have hlow:l+1<J.length->k.low (l+1)=true/\v.low (l+1)=true:=λhl=>by
    rcases hc.2 with h1 | ⟨h1,h2⟩
    .omega
    .exact⟨sD h1,sD h2⟩
   split at h
   .cases h;refine⟨dS,λhS=>hS.set λhl=>?_⟩;have hcl:=CZ hS hcs hl;obtain⟨h1,h2⟩:=hlow hl;simp only[aF.low];exact Zi hcl (by simp[D.low,D.ll,h1,h2])
   .cases h;refine⟨dS,λhS=>hS.set λhl=>?_⟩;have hcl:=CZ hS hcs hl;obtain⟨h1,h2⟩:=hlow hl;simp only[aF.low,A6];exact⟨hcl,by simp[D.low,D.ll,h1,h2]⟩
   .cases h
  .cases h
 .simp only[ad,ak]at h;obtain⟨_,_,_,rfl⟩:=h;exact .refl _
 .split at h
  .simp only[ad,ak,Prod.exists]at h;obtain⟨l,i,J1,hn,_,rfl⟩:=h;exact .new hn
  .cases h
 .split at h
  .split at h
   .split at h
    .split at h
     .cases h;exact .refl _
     .cases h
    .cases h
   .cases h
  .cases h
 .cases h
theorem Z8{e:Env}{J J':SK}{d:D}:∀{k:K},bY e J k=some (d,J')->fQ J J'
 |.st ..,h=>UE h
 |.app ..,h=>Ly h
 |.VP ..,h=>Ly (U9 h)
 |.apz w bytes s x,h=>by
  simp only[bY,ad,Prod.exists]at h;obtain⟨d1,J1,h1,h2⟩:=h;obtain⟨h3,h4⟩:=Cx 0 deep d1 J1;rw[h2]at h4;exact(Ly (by rw[Pf];exact h1)).trans h4
 |.cvz x,h=>by
  simp only[bY]at h;split at h
  case h_2=>cases h
  split at h
  case isFalse=>cases h
  split at h
  case h_2=>cases h
  cases h;exact .set λ_=>trivial
 |.Un nb cs,h=>by
  simp only[bY,aX,aj]at h;obtain⟨⟨cs',J1⟩,hnb,⟨l,i,J2⟩,hn,h⟩:=h;cases h;exact(sA _ _ _ _ _ hnb).trans (.new hn)
 |.LL w,h=>by
  simp only[bY,aX,aj]at h;obtain⟨⟨l,i,J2⟩,hn,h⟩:=h;cases h;exact .new hn
 |.bxn nb x,h=>by
  simp only[bY,aX,aj]at h;obtain⟨cs,_,⟨cs',J1⟩,hnb,⟨l,i,J2⟩,hn,h⟩:=h;cases h;exact(sA _ _ _ _ _ hnb).trans (.new hn)
 |.Mr x,h=>by
  simp only[bY,aX,aj]at h;obtain⟨cs,_,⟨l,i,J2⟩,hn,h⟩:=h;cases h;exact .new hn
 |.YB ..,h=>by
  simp only[bY,aX,aj]at h;obtain⟨cs,_,⟨l,i,J2⟩,hn,h⟩:=h;cases h;exact .new hn
 |.mks ..,h=>by
  simp only[bY]at h;split at h
  .split at h
   .simp only[aX,aj]at h;obtain⟨⟨l,i,J2⟩,hn,h⟩:=h;cases h;exact .new hn
   .cases h
  .cases h
 |.mv _,h=>same h rfl
 |.pick ..,h=>same h rfl
 |.CV ..,h=>by simp[bY]at h
 |.Mq _,h=>same h rfl
 |.GD _,h=>by simp[bY]at h
 |.Mp ..,h=>same h rfl
 |.bsi ..,h=>same h rfl
 |.ld ..,h=>same h rfl
 |.WY ..,h=>same h rfl
 |.WX ..,h=>same h rfl
 |.RL os sz a x,h=>UE (Va h)
 |.isn ..,h=>same h rfl
 |.nck ..,h=>same h rfl
 |.WZ ..,h=>same h rfl
 |.Je ..,h=>by simp[bY]at h
 |.bin ..,h=>same h rfl
 |.eqv ..,h=>same h rfl
 |.un ..,h=>same h rfl
 |.YI ..,h=>same h rfl
 |.Zp ..,h=>same h rfl
 |.W3 ..,h=>same h rfl
 |.Tj ..,h=>same h rfl
 |.Mt ..,h=>same h rfl
 |.fld ..,h=>same h rfl
 |.My ..,h=>same h rfl
 |.IQ ..,h=>same h rfl
 |.OF ..,h=>same h rfl
 |.MB ..,h=>same h rfl
 |.SU ..,h=>same h rfl
 |.mn ..,h=>same h rfl
 |.mx ..,h=>same h rfl
 |.cpi ..,h=>same h rfl
 |.bse,h=>same h rfl
 |.ape ..,h=>same h rfl
 |.ext ..,h=>same h rfl
 |.Is ..,h=>same h rfl
 |.mp ..,h=>abZ h
 |.me ..,h=>same h rfl
 |.Zq ..,h=>same h rfl
 |.tas ..,h=>same h rfl
 |.isi ..,h=>same h rfl
 |.ZE _,h=>by simp[bY]at h
 |.RX,h=>by simp[bY]at h
 |.call ..,h=>by simp[bY]at h
where
 same {e:Env} {J J':SK} {d:D} {k:K} (h:bY e J k=some (d,J')) (hk:k.calm=true):fQ J J':=by
  rw[RI h hk];exact .refl _
