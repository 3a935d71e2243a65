import Derived.Test.YtanhdobabijmoaaGreatDoorBase7
import Derived.MapKept
import Derived.WideKeyRuns
import Derived.Maps.RangeRun
import Derived.Test.YtanhdobabijmoaaGreatDoorBase6
set_option linter.all false
namespace Go.aA
open Go
theorem NP{J:SK}{d:D}{l i:Nat}{es:List D}(h:B6 J d=some (l,i,es)):d=.jm l i/\cells? J l i 0=some es:=by
 unfold B6 at h;split at h
 .simp only[ab,ak]at h;obtain⟨cs,h1,rfl,rfl,rfl⟩:=h;exact⟨rfl,h1⟩
 .cases h
theorem Km{ky:Ky}{k:D}:∀{es:List D} {j:Nat} {v:D},rS ky k es=some (some (j,v))->∃k',es[j]?=some (.db [k',v])/\tZ ky k k'=some true
 |[],j,v,h=>by simp[rS]at h
 |x::es,j,v,h=>by
  unfold rS at h;split at h
  .rename_i heq;cases heq
  .rename_i k' v' es' heq;cases heq;split at h
   .rename_i hq;cases h;exact⟨k',rfl,hq⟩
   .simp only[ab]at h;obtain⟨x1,h1,x2,rfl,h2⟩:=h;cases h2;obtain⟨j0,v0⟩:=x2;obtain⟨k0,h3,h4⟩:=Km h1;exact⟨k0,by simpa using h3,h4⟩
   .cases h
  .cases h
section
variable {P:Program} {g:G} {w:World}
theorem IE:∀{ks:List (Option IntKind)} {p q:List D},Bf ks p q=some true->p=q
 |[],p,q,h=>by obtain⟨rfl,rfl,_⟩:=vR h;rfl
 |some k::ks,p,q,h=>by
  obtain⟨a,x,c,y,b0,rfl,rfl,h0,hb⟩:=uD h;simp only[Bool.true_eq,ae,beq_iff_eq]at hb;obtain⟨rfl,rfl⟩:=hb;rw[IE h0]
 |none::ks,p,q,h=>by
  obtain⟨a,x,c,y,b0,rfl,rfl,h0,hb⟩:=yw h;simp only[Bool.true_eq,ae,beq_iff_eq]at hb;obtain⟨rfl,rfl⟩:=hb;rw[IE h0]
theorem EZ(n:Nat):∀{ks:List (Option IntKind)} {p q:List D} {b:Bool},Bf ks p q=some b->∀{xs ys:List Value},bF g p xs->bF g p ys->xs=ys/\(xs.zip ys).all (λz=>Instr.sameBits n z.1 z.2)=true
 |[],p,q,b,h,xs,ys,hx,hy=>by
  obtain⟨rfl,rfl,_⟩:=vR h;cases hx;cases hy;exact⟨rfl,rfl⟩
 |some k::ks,p,q,b,h,xs,ys,hx,hy=>by
  obtain⟨a,x,c,y,b0,rfl,rfl,h0,hb⟩:=uD h;cases hx with
  |cons _ v1 _ vs1 h1 h2 =>
   cases hy with
   |cons _ v2 _ vs2 h3 h4 =>
    obtain rfl:=h1.eD;obtain rfl:=h3.eD;obtain⟨h5,h6⟩:=EZ n h0 h2 h4;subst h5;exact⟨rfl,by simp only[List.zip_cons_cons,jh,h6,Instr.sameBits,BEq.rfl,Bool.and_self]⟩
 |none::ks,p,q,b,h,xs,ys,hx,hy=>by
  obtain⟨a,x,c,y,b0,rfl,rfl,h0,hb⟩:=yw h;cases hx with
  |cons _ v1 _ vs1 h1 h2 =>
   cases hy with
   |cons _ v2 _ vs2 h3 h4 =>
    obtain rfl:=h1.pN;obtain rfl:=h3.pN;obtain⟨h5,h6⟩:=EZ n h0 h2 h4;subst h5;exact⟨rfl,by simp only[List.zip_cons_cons,jh,h6,Instr.sameBits,BEq.rfl,Bool.and_self]⟩
theorem aaj{a b:ByteArray}(h:a.data.toList=b.data.toList):a=b:=by
 apply ByteArray.ext;exact fS.1 h
theorem Ux{ky:Ky}{a b:D}{x y:Value}(h:tZ ky a b=some true)(hx:bH g a x)(hy:bH g b y):x=y/\Instr.sameBits 10000 y x=true:=by
 unfold tZ at h;split at h
 .split at h
  .rename_i s1 s2;simp only[ad,beq_iff_eq]at h;subst h;obtain⟨b1,rfl,h1⟩:=hx.lV;obtain⟨b2,rfl,h2⟩:=hy.lV;obtain rfl:=aaj (h1.trans h2.symm);exact⟨rfl,by rw[Instr.sameBits,beq_toListBytes];exact beq_self_eq_true _⟩
  .cases h
 .rename_i ag ks;split at h
  .rename_i p q hp hq;obtain rfl:=IE h;have h1:=wB hx hp;have h2:=wB hy hq;cases ag with
   |true =>
    simp only[wD,if_true]at h1 h2;obtain⟨xs,rfl,h3,_⟩:=h1;obtain⟨ys,rfl,h4,_⟩:=h2;obtain⟨h5,h6⟩:=EZ 9999 h h4 h3;obtain rfl:=fS.1 h5;exact⟨rfl,by simp only[Instr.sameBits,BEq.rfl,Bool.true_and];exact h6⟩
   |false =>
    simp only[wD,az,if_false]at h1 h2;obtain⟨h5,h6⟩:=EZ 10000 h h2 h1;simp only[ig,and_true]at h5;subst h5;exact⟨rfl,by simpa using h6⟩
  .cases h
theorem IM{t:TypeId}{ky:Ky}(h:IL P t=some ky):(P.underlying t=some .string/\ky=none)\/(∃k,P.underlying t=some (.int k)/\ky=some (false,[some k])) \/
  ∃fs ks,P.underlying t=some (.struct fs)/\mj P 20 t=some ks/\ky=some (true,ks)/\fs.toList.all (λf=>match P.underlying f.type with | some (.int _)=>true | some .bool=>true | _=>false)=true:=by
 unfold IL at h;split at h
 .rename_i hu;cases h;exact .inl ⟨hu,rfl⟩
 .rename_i k hu;cases h;exact .inr (.inl ⟨k,hu,rfl⟩)
 .rename_i fs hu;split at h
  .rename_i hall;obtain⟨ks,hks,rfl⟩:=ab.1 h;exact .inr (.inr ⟨fs,ks,hu,hks,rfl,hall⟩)
  .cases h
 .cases h
theorem KA{t:TypeId}{ky:Ky}(hk:IL P t=some ky){a b:D}{c:Bool}{x y:Value}(h:tZ ky a b=some c)(hx:bH g a x)(hy:bH g b y):(Op.equal t x y).run P w=.ok c w:=by
 have key:∀ag ks,mj P 20 t=some ks->vD P t=some ag->tZ (some (ag,ks)) a b=some c->(Op.equal t x y).run P w=.ok c w:=by
  intro ag ks hks hag hq;simp only[tZ]at hq;split at hq
  case h_2=>cases hq
  rename_i p q hp hq2;obtain⟨ag',hag',_,hEq⟩:=Fa (P:=P) (g:=g) (w:=w) 20 t ks hks;rw[hag]at hag';cases hag';exact hEq 10000 (by omega) p q x y c (wB hx hp) (wB hy hq2) hq
 rcases IM hk with⟨hu,rfl⟩ | ⟨k,hu,rfl⟩ | ⟨fs,ks,hu,hks,rfl,_⟩
 .simp only[tZ]at h;split at h
  case h_2=>cases h
  rename_i s1 s2;cases h;obtain⟨b1,rfl,h1⟩:=hx.lV;obtain⟨b2,rfl,h2⟩:=hy.lV;have:=run_equalIn_string (P:=P) w 9999 t b1 b2 hu;simp only[Op.equal,Op.maxDepth];rw[this,ByteArray.toList_eq,ByteArray.toList_eq,h1,h2]
 .exact key false [some k] (by simp[mj,hu]) (by simp[vD,hu]) h
 .exact key true ks hks (by simp[vD,hu]) h
def Found(dn:List MapEntry)(r:Option (Nat×D))(g:G)(o:Option (Nat×Value))(i:Nat):Prop :=
 match r with
 |none=>o=none
 |some (j,v)=>∃e,dn[j]?=some e/\o=some (i+j,e.val)/\bH g v e.val
theorem Mg{k v:D}{a b:Value}(h:bH g (.db [k,v]) (.tuple #[a,b])):bH g k a/\bH g v b:=by
 cases h with
 |db _ _ hr =>
  cases hr with
  |cons _ _ _ _ h1 h2=>cases h2 with | cons _ _ _ _ h3 h4=>exact⟨h1,h3⟩
theorem Ii{t:TypeId}{ky:Ky}(hk:IL P t=some ky){k:D}{x:Value}(hx:bH g k x):∀(es:List D) (dn:List MapEntry) (r:Option (Nat×D)) (i:Nat),bF g es (dn.map λe => .tuple #[e.key,e.val])->rS ky k es=some r ->
  ∃o,(Instr.findAsking t x dn i).run P w=.ok o w/\Found dn r g o i
 |[],dn,r,i,hr,h=>by
  cases dn with
  |nil=>simp only[rS,ad]at h;subst h;exact⟨none,by simp[Instr.findAsking],rfl⟩
  |cons e dn=>cases hr
 |d::es,dn,r,i,hr,h=>by
  cases dn with
  |nil=>cases hr
  |cons e dn =>
   rw[aR]at hr;cases hr with
   |cons _ _ _ _ hr1 hr2 =>
   unfold rS at h;split at h
   .rename_i heq;cases heq
   .rename_i k' v es' heq;cases heq;obtain⟨hk1,hv1⟩:=Mg hr1;split at h
    .rename_i hq;cases h;have he:=KA (w:=w) hk hq hx hk1;refine⟨some (i,e.val),by simp[Instr.findAsking,he],e,rfl,by simp,hv1⟩
    .rename_i hq;simp only[ab]at h;obtain⟨r1,h1,rfl⟩:=h;have he:=KA (w:=w) hk hq hx hk1;obtain⟨o,ho,hf⟩:=Ii hk hx es dn r1 (i+1) hr2 h1;refine⟨o,by simp[Instr.findAsking,he,ho],?_⟩;cases r1 with
     |none=>exact hf
     |some y =>
      obtain⟨e1,h3,h4,h5⟩:=hf;exact⟨e1,by simpa using h3,by rw[h4];congr 2;omega,h5⟩
    .cases h
   .cases h
theorem LK{t:TypeId}{ky:Ky}{dsc:TypeDesc}{k:D}{x:Value}(hs:∀k' y c,tZ ky k k'=some c->bH g k' y->Instr.sameNow dsc x y=some c):∀(es:List D) (dn:List MapEntry) (r:Option (Nat×D)) (i:Nat),bF g es (dn.map λe => .tuple #[e.key,e.val])->rS ky k es=some r ->
  ∃o,Instr.findNow dsc x dn i=some o/\Found dn r g o i
 |[],dn,r,i,hr,h=>by
  cases dn with
  |nil=>simp only[rS,ad]at h;subst h;exact⟨none,by simp[Instr.findNow],rfl⟩
  |cons e dn=>cases hr
 |d::es,dn,r,i,hr,h=>by
  cases dn with
  |nil=>cases hr
  |cons e dn =>
   rw[aR]at hr;cases hr with
   |cons _ _ _ _ hr1 hr2 =>
   unfold rS at h;split at h
   .rename_i heq;cases heq
   .rename_i k' v es' heq;cases heq;obtain⟨hk1,hv1⟩:=Mg hr1;split at h
    .rename_i hq;cases h;exact⟨some (i,e.val),by simp[Instr.findNow,hs _ _ _ hq hk1],e,rfl,by simp,hv1⟩
    .rename_i hq;simp only[ab]at h;obtain⟨r1,h1,rfl⟩:=h;obtain⟨o,ho,hf⟩:=LK (t:=t) hs es dn r1 (i+1) hr2 h1;refine⟨o,by simp[Instr.findNow,hs _ _ _ hq hk1,ho],?_⟩;cases r1 with
     |none=>exact hf
     |some y =>
      obtain⟨e1,h3,h4,h5⟩:=hf;exact⟨e1,by simpa using h3,by rw[h4];congr 2;omega,h5⟩
    .cases h
   .cases h
theorem zj{t:TypeId}{ky:Ky}(hk:IL P t=some ky){k:D}{x:Value}(hx:bH g k x){es:List D}{dn:List MapEntry}{r:Option (Nat×D)}(hr:bF g es (dn.map λe => .tuple #[e.key,e.val]))(h:rS ky k es=some r)
  (hself:(tZ ky k k).isSome=true):∃o,(Instr.findKey t x dn).run P w=.ok o w/\Found dn r g o 0:=by
 rcases IM hk with⟨hu,rfl⟩ | ⟨kk,hu,rfl⟩ | ⟨fs,ks,hu,hks,rfl,_⟩
 .obtain⟨o,h1,h2⟩:=LK (t:=t) (ky:=none) (k:=k) (x:=x) (dsc:=.string) (λk' y c hq hy=>by
   simp only[tZ]at hq;split at hq
   case h_2=>cases hq
   cases hq;obtain⟨b1,rfl,h1⟩:=hx.lV;obtain⟨b2,rfl,h2⟩:=hy.lV;simp only[Instr.sameNow];rw[beq_toListBytes,ByteArray.toList_eq,ByteArray.toList_eq,h1,h2]) es dn r 0 hr h
  exact⟨o,MapKept.run_findKey hu h1,h2⟩
 .obtain⟨o,h1,h2⟩:=LK (t:=t) (ky:=some (false,[some kk])) (k:=k) (x:=x) (dsc:=.int kk) (λk' y c hq hy=>by
   simp only[tZ]at hq;split at hq
   case h_2=>cases hq
   rename_i p q hp hq2;have hx1:=wB hx hp;have hy1:=wB hy hq2;simp only[wD,az,if_false]at hx1 hy1;obtain⟨a,xs,b,ys,b0,rfl,rfl,h0,rfl⟩:=uD hq;obtain⟨rfl,rfl,rfl⟩:=vR h0;cases hx1 with
   |cons _ _ _ _ g1 _ =>
    cases hy1 with
    |cons _ _ _ _ g2 _ =>
     obtain rfl:=g1.eD;obtain rfl:=g2.eD;simp[Instr.sameNow]) es dn r 0 hr h
  exact⟨o,MapKept.run_findKey hu h1,h2⟩
 .obtain⟨o,h1,h2⟩:=Ii (w:=w) hk hx es dn r 0 hr h;refine⟨o,?_,h2⟩;rw[run_findKey_eq w (by simp[hu])];exact h1
theorem BL(em:Bool){xs:Array Value}{p:List D}(hx:bF g p xs.toList)(h1x:∀y∈xs.toList,y.oneCell'=true):
  ∀(fs:List Field) (o:Nat) (ks:List (Option IntKind)) (q:List D) (b:Bool),mj.kindsF P (mj P 19) o fs=some ks->fs.all (λf=>match P.underlying f.type with | some (.int _)=>true | some .bool=>true | _=>false)=true ->
   Bf ks (p.drop o) q=some b ->
   (forIn (m:=Sem) fs PUnit.unit λf _=>do
    if f.name ≠ "_" then Instr.checkKey em 9999 f.type (<- part f.type xs f.offset)
    pure (ForInStep.yield PUnit.unit)).run P w=.ok PUnit.unit w
 |[],o,ks,q,b,hk,ha,he=>by simp
 |f::fs,o,ks,q,b,hk,ha,he=>by
  simp only[mj.kindsF]at hk;split at hk
  case h_2=>cases hk
  rename_i k1 hk1;split at hk
  case isFalse=>cases hk
  rename_i hc;obtain⟨hname,hoff,hsz,hpos⟩:=hc;simp only[ab]at hk;obtain⟨k2,hk2,rfl⟩:=hk;simp only[jh,ae]at ha;obtain⟨l1,l2⟩:=CY _ _ _ _ he;obtain⟨b1,b2,e1,e2,rfl⟩:=yu _ _ _ _ _ he;simp only[aF,List.length_drop]at l1 l2;have ih:=BL em hx h1x fs (o+k1.length) k2 (q.drop k1.length) b2 hk2 ha.2 (by simpa[fD]using e2);have one:∃a,(part f.type xs o).run P w=.ok a w/\(Instr.checkKey em 9999 f.type a).run P w=.ok () w:=by
   have h0:=ha.1;split at h0
   .rename_i k hu;have hk1':k1=[some k]:=by simp[mj,hu]at hk1;exact hk1.symm
    subst hk1';obtain⟨a,hpa,hra⟩:=C8 (P:=P) (w:=w) (ag:=false) (n:=1) (o:=o) (by simp[vD,hu]) hsz (λ_=>rfl) hx h1x (by simp only[av,aV]at l1 ⊢;omega);simp only[wD,az,if_false]at hra;obtain⟨a0,x0,c0,y0,b0,e3,_,_,_⟩:=uD e1;simp only[av,aV,cJ]at e3;rw[e3]at hra;cases hra with
    |cons _ _ _ _ g1 g2 =>
     obtain rfl:=g1.eD;exact⟨_,hpa,MapKept.run_checkKey (d:=.int k) hu (by simp[MapKept.IsKey]) em 9998⟩
   .rename_i hu;have hk1':k1=[none]:=by simp[mj,hu]at hk1;exact hk1.symm
    subst hk1';obtain⟨a,hpa,hra⟩:=C8 (P:=P) (w:=w) (ag:=false) (n:=1) (o:=o) (by simp[vD,hu]) hsz (λ_=>rfl) hx h1x (by simp only[av,aV]at l1 ⊢;omega);simp only[wD,az,if_false]at hra;obtain⟨a0,x0,c0,y0,b0,e3,_,_,_⟩:=yw e1;simp only[av,aV,cJ]at e3;rw[e3]at hra;cases hra with
    |cons _ _ _ _ g1 g2 =>
     obtain rfl:=g1.pN;exact⟨_,hpa,MapKept.run_checkKey (d:=.bool) hu (by simp[MapKept.IsKey]) em 9998⟩
   .cases h0
  obtain⟨a,h1,h2⟩:=one;rw[List.forIn_cons];rw[hoff];simp only[hname,ne_eq,not_false_eq_true,if_true,Sem.run_bind,h1,h2,Result.andThen_ok,Sem.run_pure];exact ih
theorem EV{t:TypeId}{ky:Ky}(hk:IL P t=some ky){k:D}{x:Value}(hx:bH g k x)(hself:(tZ ky k k).isSome=true)(em:Bool):(Instr.checkKey em 10000 t x).run P w=.ok () w:=by
 rcases IM hk with⟨hu,rfl⟩ | ⟨kk,hu,rfl⟩ | ⟨fs,ks,hu,hks,rfl,hall⟩
 .refine MapKept.run_checkKey (d:=.string) hu ?_ em 9999;obtain⟨c,hc⟩:=dj.1 hself;simp only[tZ]at hc;split at hc
  case h_2=>cases hc
  obtain⟨b1,rfl,h1⟩:=hx.lV;simp[MapKept.IsKey]
 .refine MapKept.run_checkKey (d:=.int kk) hu ?_ em 9999;obtain⟨c,hc⟩:=dj.1 hself;simp only[tZ]at hc;split at hc
  case h_2=>cases hc
  rename_i p q hp hq2;have hx1:=wB hx hp;simp only[wD,az,if_false]at hx1;obtain⟨a,xs,b,ys,b0,rfl,_,h0,rfl⟩:=uD hc;obtain⟨rfl,_,rfl⟩:=vR h0;cases hx1 with
  |cons _ _ _ _ g1 _ =>
   obtain rfl:=g1.eD;simp[MapKept.IsKey]
 .obtain⟨c,hc⟩:=dj.1 hself;simp only[tZ]at hc;split at hc
  case h_2=>cases hc
  rename_i p q hp hq2;have hx1:=wB hx hp;simp only[wD,if_true]at hx1;obtain⟨xs,rfl,hxr,h1x⟩:=hx1;have hks':mj.kindsF P (mj P 19) 0 fs.toList=some ks:=by
   have:=hks;rw[mj,hu]at this;dsimp only at this;split at this
   .cases this
   .exact this
  have hrun:=BL (P:=P) (w:=w) em hxr h1x fs.toList 0 ks q c hks' hall (by simpa using hc);rw[show(10000:Nat)=9999+1 from rfl,Instr.checkKey];simp only[Sem.run_bind,run_underlying hu,Result.andThen_ok];rw[<- Array.forIn_toList];simp at hrun ⊢;rw[hrun];rfl
end
section
variable {P:Program} {CR:eP} {base fb:Nat} {V:List Nat} {g:G} {J J':SK} {w:World} {B:Nat->Nat} {e:Env} {tmps:Array Value} {df:List Deferred} {d:D}
theorem Inv.UY(hi:Inv CR base g J w){l i:Nat}(hn:fR J (.cells 0 [])=some (l,i,J')):
  Inv CR base (g.cA l i (.mp w.heap.size)) J' (w.alloc (.map #[] 0))/\Ev g w (g.cA l i (.mp w.heap.size)) (w.alloc (.map #[] 0)):=by
 obtain⟨h1,h2,h3,_,_⟩:=jI hn;have hnone:=hi.C6 h1;have hle:g.le (g.cA l i (.mp w.heap.size)):=G.jS λL0 e=>by rw[hnone]at e;cases e
 refine⟨hi.FA l i hle h3 (λl' i' c=>G.bD c) (λl' i' L b c e eb=>alloc_old (hi.lo l' i' L b e eb).2) ?_ ?_ ?_ ?_ (by simp) ⟨_,G.aK⟩ (λb v hb=>alloc_old (hi.jb hb)),⟨hle,rfl,rfl,rfl,by simp,λb hb _=>alloc_old hb,?_,λb o v hv => .inl hv⟩⟩
 .intro L e;rw[G.aK]at e;cases e;exact⟨_,h2,rfl,#[],0,ug,.nil,by simp[Qg]⟩
 .intro b o v e;obtain⟨h1,h2⟩:=hi.pM b o v e;exact⟨(iq (alloc_old (hi.jb e))).trans h1,h2⟩
 .intro l' i' L b e eb o;by_cases c:l'=l/\i'=i
  .obtain⟨rfl,rfl⟩:=c;rw[G.aK]at e;cases e;cases eb;cases e':(g.cA l' i' (.mp w.heap.size)).pM w.heap.size o with
   |none=>rfl
   |some v=>have:=hi.jb (b:=w.heap.size) (o:=o) (v:=v) e';omega
  .rw[G.bD c]at e;exact hi.sep l' i' L b e eb o
 .intro L b e eb;rw[G.aK]at e;cases e;cases eb;refine⟨hi.ge,by simp,λl' i' L' c e' eb'=>?_⟩;have:=(hi.lo l' i' L' _ e' eb').2;omega
 .intro b hb;obtain⟨l',i',L,e,eb⟩:=hb;by_cases c:l'=l/\i'=i
  .obtain⟨rfl,rfl⟩:=c;rw[G.aK]at e;cases e;cases eb;exact .inr (aL _)
  .rw[G.bD c]at e;exact .inl ⟨l',i',L,e,eb⟩
theorem Inv.aaL(hi:Inv CR base g J w){l i T ee:Nat}(hn:fR J (.cells 2 [.int .i64 (T:Nat),.int .i64 (ee:Nat),.str []])=some (l,i,J')):
  Inv CR base (g.cA l i (.ob w.heap.size none)) J' (w.alloc (.cells #[.pointer none,.slice none 0 0] T))/\Ev g w (g.cA l i (.ob w.heap.size none)) (w.alloc (.cells #[.pointer none,.slice none 0 0] T)):=by
 obtain⟨h1,h2,h3,_,_⟩:=jI hn;have hnone:=hi.C6 h1;have hle:g.le (g.cA l i (.ob w.heap.size none)):=G.jS λL0 e=>by rw[hnone]at e;cases e
 have hown:∀b,(Loc.ob w.heap.size none).owns b->w.heap.size=b:=λb h=>by
  rcases h with h | h
  .exact h
  .cases h
 refine⟨hi.FA l i hle h3 (λl' i' c=>G.bD c) (λl' i' L b c e eb=>alloc_old (hi.lo l' i' L b e eb).2) ?_ ?_ ?_ ?_ (by simp) ⟨_,G.aK⟩ (λb v hb=>alloc_old (hi.jb hb)),⟨hle,rfl,rfl,rfl,by simp,λb hb _=>alloc_old hb,?_,λb o v hv => .inl hv⟩⟩
 .intro L e;rw[G.aK]at e;cases e;exact⟨_,h2,rfl,T,ee,[],.pointer none,.slice none 0 0,rfl,ug,.inl rfl,World.ownsRowF_nil _ _ _ _,rfl,by simp⟩
 .intro b o v e;obtain⟨h1,h2⟩:=hi.pM b o v e;exact⟨(iq (alloc_old (hi.jb e))).trans h1,h2⟩
 .intro l' i' L b e eb o;by_cases c:l'=l/\i'=i
  .obtain⟨rfl,rfl⟩:=c;rw[G.aK]at e;cases e;obtain rfl:=hown b eb;cases e':(g.cA l' i' (.ob w.heap.size none)).pM w.heap.size o with
   |none=>rfl
   |some v=>have:=hi.jb (b:=w.heap.size) (o:=o) (v:=v) e';omega
  .rw[G.bD c]at e;exact hi.sep l' i' L b e eb o
 .intro L b e eb;rw[G.aK]at e;cases e;obtain rfl:=hown b eb;refine⟨hi.ge,by simp,λl' i' L' c e' eb'=>?_⟩;have:=(hi.lo l' i' L' _ e' eb').2;omega
 .intro b hb;obtain⟨l',i',L,e,eb⟩:=hb;by_cases c:l'=l/\i'=i
  .obtain⟨rfl,rfl⟩:=c;rw[G.aK]at e;cases e;obtain rfl:=hown b eb;exact .inr (aL _)
  .rw[G.bD c]at e;exact .inl ⟨l',i',L,e,eb⟩
theorem Inv.Vu(hi:Inv CR base g J w){l i b:Nat}{b0:aO}{es:List D}(hL:g.loc l i=some (.mp b))(hb:dG J l i=some b0){dn:Array MapEntry}{clock:Nat}
  (hr:bF g es (dn.toList.map λe => .tuple #[e.key,e.val])) (hm:Qg dn.toList clock) {w':World} (hw:w'={w with heap:=w.heap.setIfInBounds b (.map dn clock) }):
  Inv CR base (g.cA l i (.mp b)) (aZ J l i (.cells 0 es)) w'/\Ev g w (g.cA l i (.mp b)) w':=by
 subst hw;have hlt:=(hi.lo l i _ b hL rfl).2;have hle:g.le (g.cA l i (.mp b)):=G.jS λL0 e=>by rw[hL]at e;cases e;exact Loc.le_refl _
 refine hi.setCells hL hb (Loc.le_refl _) ⟨rfl,dn,clock,by simp[hlt],hr.mono hle,hm⟩ (λb' hb' hne=>?_) rfl rfl rfl (by simp) (λb' hb' => .inl hb');have:b≠b':=λhh=>hne (by rw[hh];rfl)
 simp[this]
theorem Ar(hi:Inv CR base g J w){m:D}{c:Value}(hr:bH g m c){l i:Nat}{es:List D}(h:B6 J m=some (l,i,es)):
  ∃b dn clock v,c=.map (some b)/\g.loc l i=some (.mp b)/\dG J l i=some (.cells v es)/\w.heap[b]?=some (.map dn clock)/\bF g es (dn.toList.map λe => .tuple #[e.key,e.val])/\Qg dn.toList clock:=by
 obtain⟨rfl,hcs⟩:=NP h;unfold cells? at hcs;split at hcs
 case h_2=>cases hcs
 rename_i v' cs' hblk;split at hcs
 case isFalse=>cases hcs
 cases hcs;cases hr with
 |jm _ _ b hl =>
  obtain⟨b0,hb0,hrel⟩:=hi.xq l i _ hl;rw[hblk]at hb0;cases hb0;exact hrel.elim
 |QP _ _ b hl =>
  obtain⟨b0,hb0,hrel⟩:=hi.xq l i _ hl;rw[hblk]at hb0;cases hb0;obtain⟨_,dn,clock,h1,h2,h3⟩:=hrel;exact⟨b,dn,clock,v',rfl,hl,hblk,h1,h2,h3⟩
 |Uv _ _ b L hl hc =>
  obtain⟨b0,hb0,hrel⟩:=hi.xq l i _ hl;rw[hblk]at hb0;cases hb0;rcases hc with rfl | rfl
  .rename_i hv0;obtain⟨hv1,_⟩:=hrel;omega
  .exact hrel.elim
 |RG _ _ b L hl hc =>
  obtain⟨b0,hb0,hrel⟩:=hi.xq l i _ hl;rw[hblk]at hb0;cases hb0;rcases hc with⟨c,rfl⟩ | rfl
  .rename_i hv0;obtain⟨hv1,_⟩:=hrel;omega
  .exact hrel.elim
theorem aeG(hi:Inv CR base g J w){t:TypeId}{ρ:Operand->Value}(h:bO e J (.mp .make [])=some (d,J'))(o:Oper)(ho:o.op=.makeMap t none):fh P CR base g w B e ρ o d J':=by
 simp only[bO,bV,BO,ab,ak,Prod.exists]at h;obtain⟨l,i,J1,hn,rfl,rfl⟩:=h;obtain⟨i1,e1⟩:=hi.UY hn;exact .val (.map (some w.heap.size)) (by
  have hrun:(Instr.makeMap t none).run P w=.ok (.map (some w.heap.size)) (w.alloc (.map #[] 0)):=rfl;simp only[execOp,ho,Option.map_none,Sem.run_bind,hrun,Result.andThen_ok,Sem.run_pure]) e1 i1 (.QP l i _ G.aK)
theorem aeD(hi:Inv CR base g J w){el ee:TypeId}{ρ:Operand->Value}(hz:sY P el=some [.xU,.bP])
  (h:bO e J (.mp (.JB el ee) [])=some (d,J')) (o:Oper) (ho:o.op=.alloc el):fh P CR base g w B e ρ o d J':=by
 obtain⟨i0,v,hinfo,hzero,hrz,h1⟩:=uq g hz;simp only[bO,bV,BO,ab,ak,Prod.exists]at h;obtain⟨l,i,J1,hn,rfl,rfl⟩:=h;obtain⟨i1,e1⟩:=hi.aaL hn;have hv:v.cells = #[.pointer none,.slice none 0 0]:=by
  generalize v.cells=a at hrz;obtain⟨a⟩:=a;dsimp only at hrz;cases hrz with
  |cons _ c _ cs k1 k2 =>
   cases k2 with
   |cons _ c2 _ cs2 k3 k4 =>
    cases k4;cases k1;cases k3;rfl
 have hrun:=Gl (w:=w) hinfo hzero;rw[hv]at hrun;exact .val (.pointer (some ⟨w.heap.size,0,none⟩)) (by simp[execOp,ho,hrun]) e1 i1 (.RG l i _ _ G.aK (.inl ⟨_,rfl⟩))
theorem abC(hi:Inv CR base g J w){t kt et:TypeId}{ik:IntKind}{n:Int}(h:bO e J (.mp .make [])=some (d,J'))(ht:P.underlying t=some (.map kt et))(o:Oper)(ho:o.op=.makeMap t (some (.const (.int ik n)))):fh P CR base g w B e (Act.mk tmps df).eval o d J':=by
 simp only[bO,bV,BO,ab,ak,Prod.exists]at h;obtain⟨l,i,J1,hn,rfl,rfl⟩:=h;obtain⟨i1,e1⟩:=hi.UY hn;exact .val (.map (some w.heap.size)) (by
  have hrun:(Instr.makeMap t (some (.int ik n))).run P w=.ok (.map (some w.heap.size)) (w.alloc (.map #[] 0)):=by
   simp only[Instr.makeMap,Sem.run_bind,bx ht,Result.andThen_ok];rfl
  have hev:(Act.mk tmps df).eval (.const (.int ik n))=.int ik n:=rfl;simp only[execOp,ho,aX,hev,Sem.run_bind,hrun,Result.andThen_ok,Sem.run_pure]) e1 i1 (.QP l i _ G.aK)
theorem abD(hf:Fr fb V g w B e tmps)(hi:Inv CR base g J w){x:Operand}{X:bI}{t kt et:TypeId}{args:Array Operand}{ts:Array TypeId}{r:List Operand}{tr:List TypeId}(hx:bG x=some X)
  (ht:P.underlying t=some (.map kt et)) (ha:args.toList=x::r) (hts:ts.toList=t::tr)
  (h:bO e J (.mp .len [X])=some (d,J')) (o:Oper) (ho:o.op=.call {callee:=.builtin .len,args,argTypes:=ts }):fh P CR base g w B e (Act.mk tmps df).eval o d J':=by
 have hr:=hf.bu (df:=df) hx;obtain rfl:args=(x::r).toArray:=by rw[<- ha]
 obtain rfl:ts=(t::tr).toArray:=by rw[<- hts]
 simp only[bO,aR,bV,BO,ab,ak,Prod.exists]at h;obtain⟨l,i,es,hm,rfl,rfl⟩:=h;obtain⟨b,dn,clock,v,hc,hl,hblk,hheap,hrel,hok⟩:=Ar hi hr hm;have hlen:=hrel.length;simp only[cV,Array.length_toList]at hlen;refine .pure hi (c:=.int .i64 dn.size) ?_ (by rw[hlen];exact cz.of (.int _ _));simp[execOp,ho,resolve,invoke,builtin,Builtin.len_,hc,bx ht,goInt,MapKept.run_getObj_map hheap]
theorem Mi{t:TypeId}{z:D}(g:G)(h:zvC P t=some z):∃i v,P.info? t=some i/\i.zero=some v/\bH g z v:=by
 unfold zvC at h;split at h
 .rename_i i hi;split at h
  .rename_i v hv;exact⟨i,v,hi,hv,Is g h⟩
  .cases h
 .cases h
theorem abB(hf:Fr fb V g w B e tmps)(hi:Inv CR base g J w){x y:Operand}{X Y:bI}{t kt et:TypeId}{ky:Ky}{z:D}{ok:Bool}(hx:bG x=some X)(hy:bG y=some Y)
  (ht:P.underlying t=some (.map kt et)) (hk:IL P kt=some ky) (hz:zvC P et=some z)
  (h:bO e J (.mp (.get ky z ok) [X,Y])=some (d,J')) (o:Oper) (ho:o.op=.lookup t x y ok):fh P CR base g w B e (Act.mk tmps df).eval o d J':=by
 have hr:=hf.bu (df:=df) hx;have hr':=hf.bu (df:=df) hy;simp only[bO,aR,bV,BO]at h;split at h
 case h_2=>cases h
 rename_i l i es hm;split at h
 case isFalse=>cases h
 rename_i hself;obtain⟨b,dn,clock,v,hc,hl,hblk,hheap,hrel,hok⟩:=Ar hi hr hm;have hck:=EV (w:=w) hk hr' hself dn.isEmpty;obtain⟨iz,zv,hz1,hz2,hz3⟩:=Mi g hz;split at h
 .rename_i j v1 hfk;cases h;obtain⟨o1,ho1,e1,_,rfl,hv1⟩:=zj (w:=w) hk hr' hrel hfk hself;cases ok
  .refine .pure hi (c:=e1.val) ?_ (cz.of (by simpa using hv1));simp[execOp,ho,Instr.lookup,bx ht,hc,MapKept.run_getObj_map hheap,hck,ho1]
  .refine .pure hi (c:=.tuple #[e1.val,.bool true]) ?_ (cz.of (by simpa using bH.db _ #[e1.val,.bool true] (.cons _ _ _ _ hv1 (.cons _ _ _ _ (.bool true) .nil))));simp[execOp,ho,Instr.lookup,bx ht,hc,MapKept.run_getObj_map hheap,hck,ho1]
 .rename_i hfk;cases h;obtain⟨o1,ho1,hf1⟩:=zj (w:=w) hk hr' hrel hfk hself;obtain rfl:o1=none:=hf1;cases ok
  .refine .pure hi (c:=zv) ?_ (cz.of (by simpa using hz3));simp[execOp,ho,Instr.lookup,bx ht,hc,MapKept.run_getObj_map hheap,hck,ho1,gw hz1 hz2]
  .refine .pure hi (c:=.tuple #[zv,.bool false]) ?_ (cz.of (by simpa using bH.db _ #[zv,.bool false] (.cons _ _ _ _ hz3 (.cons _ _ _ _ (.bool false) .nil))));simp[execOp,ho,Instr.lookup,bx ht,hc,MapKept.run_getObj_map hheap,hck,ho1,gw hz1 hz2]
 .cases h
theorem bF.set{g:G}:∀{ds:List D} {cs:List Value} {j:Nat} {d:D} {c:Value},bF g ds cs->bH g d c->bF g (ds.set j d) (cs.set j c)
 |[],[],_,_,_,_,_=>by simpa using bF.nil
 |_::_,_::_,0,_,_,.cons _ _ _ _ h1 h2,h => .cons _ _ _ _ h h2
 |_::_,_::_,j+1,_,_,.cons _ _ _ _ h1 h2,h => .cons _ _ _ _ h1 (h2.set h)
theorem Vq(hf:Fr fb V g w B e tmps)(hi:Inv CR base g J w){x y u:Operand}{X Y U:bI}{t kt et:TypeId}{ky:Ky}(hx:bG x=some X)(hy:bG y=some Y)(hu:bG u=some U)
  (ht:P.underlying t=some (.map kt et)) (hk:IL P kt=some ky)
  (h:bO e J (.mp (.put ky) [X,Y,U])=some (d,J')) (o:Oper) (ho:o.op=.mapUpdate t x y u\/o.op=.insert t x y u):fh P CR base g w B e (Act.mk tmps df).eval o d J':=by
 have hr:=hf.bu (df:=df) hx;have hr':=hf.bu (df:=df) hy;have hru:=hf.bu (df:=df) hu;simp only[bO,aR,bV,BO]at h;split at h
 case h_2=>cases h
 rename_i l i es hm;split at h
 case isFalse=>cases h
 rename_i hself;obtain⟨b,dn,clock,v,hc,hl,hblk,hheap,hrel,hok⟩:=Ar hi hr hm;have hck:=EV (w:=w) hk hr' hself.1 false;generalize hkv:(Act.mk tmps df).eval y=kv at *
 generalize huv:(Act.mk tmps df).eval u=uv at *
 have hnew:bH g (.db [bu e Y,bu e U]) (.tuple #[kv,uv]):=.db _ _ (.cons _ _ _ _ hr' (.cons _ _ _ _ hru .nil));split at h
 .rename_i j v1 hfk;cases h;obtain⟨o1,ho1,e1,he1,rfl,hv1⟩:=zj (w:=w) hk hr' hrel hfk hself.1;obtain⟨k',hk',hkq⟩:=Km hfk;have hj:dn[j]?=some e1:=by simpa using he1
  have hold:bH g k' e1.key:=by
   obtain⟨c0,hc0,hr0⟩:=hrel.get hk';rw[qY,he1]at hc0;cases hc0;exact(Mg hr0).1
  obtain⟨hsame,hbits⟩:=Ux hkq hr' hold;have hlist:(dn.modify j λe=>{e with key:=kv,val:=uv }).toList=dn.toList.set j {e1 with key:=kv,val:=uv }:=by
   rw[Array.toList_modify];apply ei;intro n;rw[List.getElem?_modify,List.getElem?_set];by_cases hn:j=n
   .subst hn;have hlt:=(ar.1 he1).1;have hlt2:j<dn.size:=by simpa using hlt
    have hje:dn[j]=e1:=(dA.1 hj).2;simp[he1,hlt2,hje]
   .simp[hn]
  obtain⟨i1,ev1⟩:=hi.Vu (es:=es.set j (.db [bu e Y,bu e U])) (dn:=dn.modify j λe=>{e with key:=kv,val:=uv }) (clock:=clock) (w':={w with heap:=w.heap.setIfInBounds b (.map (dn.modify j λe=>{e with key:=kv,val:=uv }) clock) }) hl hblk (by
    rw[hlist,List.map_set];exact hrel.set hnew) (by
    have hlt:=(ar.1 he1);rw[hlist];refine⟨?_,by rw[List.length_set];exact hok.2⟩;rw[List.map_set,List.length_set];have:(dn.toList.map (·.born)).set j e1.born=dn.toList.map (·.born):=by
     apply ei;intro n;rw[List.getElem?_set];by_cases hn:j=n
     .subst hn;have hlt2:j<dn.size:=by simpa using hlt.1
      have hje:dn[j]=e1:=(dA.1 hj).2;simp[he1,hlt2,hje]
     .simp[hn]
    rw[this];exact hok.1) rfl
  refine⟨.skip,Go.undef,_,_,?_,rfl,ev1,i1,.undef _⟩;have hkts:∀w:World,(Instr.keyThatStays e1.key kv).run P w=.ok kv w:=λw=>by simp[Instr.keyThatStays,hbits]
  rcases ho with ho | ho<;>simp[execOp,ho,Instr.mapUpdate,bx ht,hc,hkv,huv,MapKept.run_getObj_map hheap,hck,ho1,hj,hkts,MapKept.run_setObj_map _ hheap]
 .rename_i hfk;cases h;obtain⟨o1,ho1,hf1⟩:=zj (w:=w) hk hr' hrel hfk hself.1;obtain rfl:o1=none:=hf1;obtain⟨i1,ev1⟩:=hi.Vu (es:=es++[.db [bu e Y,bu e U]]) (dn:=dn.push {key:=kv,val:=uv,born:=clock }) (clock:=clock+1) (w':={w with heap:=w.heap.setIfInBounds b (.map (dn.push {key:=kv,val:=uv,born:=clock }) (clock+1)) }) hl hblk (by
    rw[Array.toList_push,List.map_append];exact hrel.append (.cons _ _ _ _ hnew .nil)) (by
    rw[Array.toList_push];have h2:=hok.2;refine⟨?_,by simp only[aF,av,aV];omega⟩;rw[List.map_append,hok.1,aF,av,aV,cJ,List.range_succ];simp only[aR,bV,h2]) rfl
  refine⟨.skip,Go.undef,_,_,?_,rfl,ev1,i1,.undef _⟩;rcases ho with ho | ho<;>simp[execOp,ho,Instr.mapUpdate,bx ht,hc,hkv,huv,MapKept.run_getObj_map hheap,hck,ho1,MapKept.run_setObj_map _ hheap]
 .cases h
theorem Inv.XT(hi:Inv CR base g J w){l i lm im bm n:Nat}(hn:fR J (.cells 1 [.jm lm im,.int .i64 (n:Nat)])=some (l,i,J'))(hm:g.loc lm im=some (.mp bm)):
  Inv CR base (g.cA l i (.it w.heap.size)) J' (w.alloc (.mapIter (some bm) n #[] n))/\Ev g w (g.cA l i (.it w.heap.size)) (w.alloc (.mapIter (some bm) n #[] n)):=by
 obtain⟨h1,h2,h3,_,_⟩:=jI hn;have hnone:=hi.C6 h1;have hle:g.le (g.cA l i (.it w.heap.size)):=G.jS λL0 e=>by rw[hnone]at e;cases e
 refine⟨hi.FA l i hle h3 (λl' i' c=>G.bD c) (λl' i' L b c e eb=>alloc_old (hi.lo l' i' L b e eb).2) ?_ ?_ ?_ ?_ (by simp) ⟨_,G.aK⟩ (λb v hb=>alloc_old (hi.jb hb)),⟨hle,rfl,rfl,rfl,by simp,λb hb _=>alloc_old hb,?_,λb o v hv => .inl hv⟩⟩
 .intro L e;rw[G.aK]at e;cases e;have hm2:(g.cA l i (.it w.heap.size)).loc lm im=some (.mp bm):=by
   rw[G.bD λhh=>by rw[hh.1,hh.2,hnone]at hm;cases hm];exact hm
  exact⟨_,h2,rfl,lm,im,bm,n,[],rfl,hm2,ug,List.nodup_nil,by simp⟩
 .intro b o v e;obtain⟨h1,h2⟩:=hi.pM b o v e;exact⟨(iq (alloc_old (hi.jb e))).trans h1,h2⟩
 .intro l' i' L b e eb o;by_cases c:l'=l/\i'=i
  .obtain⟨rfl,rfl⟩:=c;rw[G.aK]at e;cases e;cases eb;cases e':(g.cA l' i' (.it w.heap.size)).pM w.heap.size o with
   |none=>rfl
   |some v=>have:=hi.jb (b:=w.heap.size) (o:=o) (v:=v) e';omega
  .rw[G.bD c]at e;exact hi.sep l' i' L b e eb o
 .intro L b e eb;rw[G.aK]at e;cases e;cases eb;refine⟨hi.ge,by simp,λl' i' L' c e' eb'=>?_⟩;have:=(hi.lo l' i' L' _ e' eb').2;omega
 .intro b hb;obtain⟨l',i',L,e,eb⟩:=hb;by_cases c:l'=l/\i'=i
  .obtain⟨rfl,rfl⟩:=c;rw[G.aK]at e;cases e;cases eb;exact .inr (aL _)
  .rw[G.bD c]at e;exact .inl ⟨l',i',L,e,eb⟩
theorem aeJ(hf:Fr fb V g w B e tmps)(hi:Inv CR base g J w){x:Operand}{X:bI}{t kt et:TypeId}(hx:bG x=some X)(ht:P.underlying t=some (.map kt et))
  (h:bO e J (.mp .rng [X])=some (d,J')) (o:Oper) (ho:o.op=.range t x):fh P CR base g w B e (Act.mk tmps df).eval o d J':=by
 have hr:=hf.bu (df:=df) hx;simp only[bO,aR,bV,BO]at h;split at h
 case h_2=>cases h
 rename_i lm im es hm;obtain⟨b,dn,clock,v,hc,hl,hblk,hheap,hrel,hok⟩:=Ar hi hr hm;simp only[ab,ak,Prod.exists]at h;obtain⟨l,i,J1,hn,rfl,rfl⟩:=h;have hlen:=hrel.length;simp only[cV]at hlen;have hck:clock=es.length:=by rw[hlen];exact hok.2
 obtain⟨i1,e1⟩:=hi.XT hn hl;have hrun:=run_range_map (P:=P) w t kt et b dn clock ht hheap;rw[hck]at hrun;exact .val (.pointer (some ⟨w.heap.size,0,none⟩)) (by simp[execOp,ho,hc,hrun]) e1 i1 (.Uv l i _ _ G.aK (.inl rfl))
theorem aev(hf:Fr fb V g w B e tmps)(hi:Inv CR base g J w){x:Operand}{X:bI}(hx:bG x=some X)
  (h:bO e J (.mp .ent [X])=some (d,J')) (o:Oper) (ho:o.op=.entry x):fh P CR base g w B e (Act.mk tmps df).eval o d J':=by
 have hr:=hf.bu (df:=df) hx;simp only[bO,aR,bV]at h;generalize bu e X=dx at hr h;cases dx<;>simp only[BO,reduceCtorEq]at h;rename_i l i;split at h
 case h_2=>cases h
 rename_i m n j rest hcs;split at h
 case h_2=>cases h
 rename_i lm im es hm;split at h
 case isFalse=>cases h
 rename_i hlen;split at h
 case h_2=>cases h
 rename_i k v hj;cases h;unfold cells? at hcs;split at hcs
 case h_2=>cases hcs
 rename_i v' cs' hblk;split at hcs
 case isFalse=>cases hcs
 rename_i hv1;cases hcs;generalize hcv:(Act.mk tmps df).eval x=cv at hr;cases hr with
 |jm _ _ b hl =>
  obtain⟨b0,hb0,hrel⟩:=hi.xq l i _ hl;rw[hblk]at hb0;cases hb0;exact hrel.elim
 |QP _ _ b hl =>
  obtain⟨b0,hb0,hrel⟩:=hi.xq l i _ hl;rw[hblk]at hb0;cases hb0;have:=hrel.1;omega
 |RG _ _ b L hl hc =>
  obtain⟨b0,hb0,hrel⟩:=hi.xq l i _ hl;rw[hblk]at hb0;cases hb0;rcases hc with⟨c,rfl⟩ | rfl
  .have:=hrel.1;omega
  .exact hrel.elim
 |Uv _ _ b L hl hc =>
  obtain⟨b0,hb0,hrel⟩:=hi.xq l i _ hl;rw[hblk]at hb0;cases hb0;rcases hc with rfl | rfl
  rotate_left
  .exact hrel.elim
  obtain⟨_,lm',im',bm,n',js,hcs,hlm,hheap,hnd,hlt⟩:=hrel;cases js with
  |nil=>simp at hcs
  |cons j' js =>
   simp only[aR,ig,D.int.injEq,true_and]at hcs;obtain⟨rfl,rfl,rfl,_⟩:=hcs;obtain⟨b2,dn,clock,v2,hc2,hl2,hblk2,hheap2,hrel2,hok⟩:=Ar hi (.QP lm' im' bm hlm) hm;cases hc2;have hlen2:=hrel2.length;simp only[cV]at hlen2;obtain⟨c0,hc0,hr0⟩:=hrel2.get hj;rw[qY]at hc0;simp only[Int.toNat_natCast]at hc0;obtain⟨e1,he1,rfl⟩:=ab.1 hc0;have hborn:e1.born=j':=by
    have h1:=congrArg (λl=>l[j']?) hok.1;simp only[qY,he1,aX]at h1;have h2:=(ar.1 he1).1;rw[List.getElem?_range h2]at h1;exact Option.some.inj h1
   have hck:clock=n':=by have:=hok.2;omega
   have hnd2:(dn.toList.map (·.born)).Nodup:=by rw[hok.1];exact List.nodup_range
   have hit:w.heap[b]?=some (.mapIter (some bm) n' (js.reverse.toArray.push e1.born) clock):=by
    rw[hheap,hborn,hck];simp
   have hrun:=run_entry_at (P:=P) w b bm n' js.reverse.toArray dn clock e1 hit hheap2 (ai he1) hnd2;refine .pure hi (c:=.tuple #[e1.key,e1.val]) ?_ (cz.of hr0);simp[execOp,ho,hcv,hrun]
end
variable {P:Program} {CR:eP} {base fb:Nat} {V:List Nat} {g:G} {J J':SK} {w:World} {B:Nat->Nat} {e:Env} {tmps:Array Value} {df:List Deferred} {d:D}
theorem aeF(hf:Fr fb V g w B e tmps)(hi:Inv CR base g J w){x:Operand}{X:bI}{t:TypeId}(hx:bG x=some X)(hc:P.concrete t=true)
  (h:bO e J (.SW t X)=some (d,J')) (o:Oper) (ho:o.op=.makeInterface t x):fh P CR base g w B e (Act.mk tmps df).eval o d J':=by
 have hr:=hf.bu (df:=df) hx;simp only[bO,ad,ak]at h;obtain⟨rfl,rfl⟩:=h;exact .pure hi (c:=.iface t ((Act.mk tmps df).eval x)) (by simp[execOp,ho,run_makeInterface w t _ hc]) (cz.of (.va t _ _ hr))
theorem Zw(hf:Fr fb V g w B e tmps)(hi:Inv CR base g J w){x:Operand}{X:bI}{t xt:TypeId}{dsc:TypeDesc}{ok:Bool}{z:Option D}(hx:bG x=some X)(ht:P.underlying t=some dsc)(hn:∀ms,dsc ≠ .interface ms)
  (hz:if ok then ∃z0,z=some z0/\zvC P t=some z0 else z=none)
  (h:bO e J (.VJ t z X)=some (d,J')) (o:Oper) (ho:o.op=.typeAssert x xt t ok):fh P CR base g w B e (Act.mk tmps df).eval o d J':=by
 have hr:=hf.bu (df:=df) hx;simp only[bO,ab,ak]at h;obtain⟨d0,h,rfl,rfl⟩:=h;generalize hcx:(Act.mk tmps df).eval x=cx at hr;generalize bu e X=dx at hr h;cases hr with
 |va t' d1 c h1 =>
  simp only[PJ]at h;cases ok with
  |true =>
   simp only[if_true]at hz;obtain⟨z0,rfl,hz⟩:=hz;obtain⟨iz,zv,hz1,hz2,hz3⟩:=Mi g hz;simp only[ad]at h;by_cases htt:t'=t
   .rw[if_pos htt]at h;subst h;refine .pure hi (c:=.tuple #[c,.bool true]) ?_ (cz.of (.db _ #[c,.bool true] (.cons _ _ _ _ h1 (.cons _ _ _ _ (.bool true) .nil))));simp only[execOp,ho,hcx,Instr.typeAssert,Sem.run_bind,run_underlying ht,Result.andThen_ok];cases dsc<;>first | exact absurd rfl (hn _) | simp[htt]
   .rw[if_neg htt]at h;subst h;refine .pure hi (c:=.tuple #[zv,.bool false]) ?_ (cz.of (.db _ #[zv,.bool false] (.cons _ _ _ _ hz3 (.cons _ _ _ _ (.bool false) .nil))));simp only[execOp,ho,hcx,Instr.typeAssert,Sem.run_bind,run_underlying ht,Result.andThen_ok];cases dsc<;>first | exact absurd rfl (hn _) | simp[htt,gw hz1 hz2]
  |false =>
   simp only[az,if_false]at hz;subst hz;simp only at h;split at h
   case isFalse=>cases h
   rename_i htt;cases h;refine .pure hi (c:=c) ?_ (cz.of h1);simp only[execOp,ho,hcx,Instr.typeAssert,Sem.run_bind,run_underlying ht,Result.andThen_ok];cases dsc<;>first | exact absurd rfl (hn _) | simp[htt]
 |oI =>
  simp only[PJ,ab]at h;obtain⟨z1,rfl,rfl⟩:=h;cases ok with
  |true =>
   simp only[if_true]at hz;obtain⟨z0,hz0,hz⟩:=hz;cases hz0;obtain⟨iz,zv,hz1,hz2,hz3⟩:=Mi g hz;refine .pure hi (c:=.tuple #[zv,.bool false]) ?_ (cz.of (.db _ #[zv,.bool false] (.cons _ _ _ _ hz3 (.cons _ _ _ _ (.bool false) .nil))));simp only[execOp,ho,hcx,Instr.typeAssert,Sem.run_bind,run_underlying ht,Result.andThen_ok];cases dsc<;>first | exact absurd rfl (hn _) | simp[gw hz1 hz2]
  |false=>simp at hz
 |_=>simp[PJ]at h
theorem Gm{t:TypeId}{ms:Array (String×TypeId)}(n:Nat)(ht:P.underlying t=some (.interface ms))(w:World):(Op.equalIn (n+1) t .nilIface .nilIface).run P w=.ok true w:=by
 rw[Op.equalIn];simp[run_underlying ht]
theorem Hh{t t':TypeId}{c:Value}{ms:Array (String×TypeId)}(n:Nat)(ht:P.underlying t=some (.interface ms))(w:World):(Op.equalIn (n+1) t (.iface t' c) .nilIface).run P w=.ok false w:=by
 rw[Op.equalIn];simp[run_underlying ht]
theorem I5{t:TypeId}{ms:Array (String×TypeId)}(ht:P.underlying t=some (.interface ms))(w:World):(Op.equal t .nilIface .nilIface).run P w=.ok true w:=Gm 9999 ht w
theorem JQ{t t':TypeId}{c:Value}{ms:Array (String×TypeId)}(ht:P.underlying t=some (.interface ms))(w:World):(Op.equal t (.iface t' c) .nilIface).run P w=.ok false w:=Hh 9999 ht w
theorem Zt(hf:Fr fb V g w B e tmps)(hi:Inv CR base g J w){x:Operand}{X:bI}{t u:TypeId}{ms:Array (String×TypeId)}{neg:Bool}(hx:bG x=some X)(ht:P.underlying t=some (.interface ms))
  (h:bO e J (.Xv neg X)=some (d,J')) (o:Oper) (ho:o.op=.binOp (if neg then .neq else .eql) t x (.const .nilIface) u):fh P CR base g w B e (Act.mk tmps df).eval o d J':=by
 have hr:=hf.bu (df:=df) hx;simp only[bO,ab,ak]at h;obtain⟨b,h,rfl,rfl⟩:=h;have hev:(Act.mk tmps df).eval (.const .nilIface)=.nilIface:=rfl;generalize hcx:(Act.mk tmps df).eval x=cx at hr;generalize bu e X=dx at hr h;cases hr with
 |oI =>
  cases h;refine .pure hi (c:=.bool (if neg then false else true)) ?_ (cz.of (by cases neg<;>exact .bool _));cases neg<;>simp[execOp,ho,hcx,hev,eqGuard,binOp,I5 ht]
 |va t' d1 c h1 =>
  cases h;refine .pure hi (c:=.bool (if neg then true else false)) ?_ (cz.of (by cases neg<;>exact .bool _));cases neg<;>simp[execOp,ho,hcx,hev,eqGuard,binOp,JQ ht]
 |_=>cases h
section
variable {P:Program} {CR:eP} {base fb:Nat} {V:List Nat} {g:G} {J J':SK} {w:World} {B:Nat->Nat} {e:Env} {tmps:Array Value} {df:List Deferred}
 {a:ux} {ops:Array Oper} {key:Nat} {k:K} {d:D}
theorem O1(hf:Fr fb V g w B e tmps)(hi:Inv CR base g J w){x y:Operand}{X Y:bI}{t u:TypeId}{b:BinOp}(hx:bG x=some X)(hy:bG y=some Y)
  (hk:eqC P b t X Y=some k) (h:bO e J k=some (d,J')) (o:Oper) (ho:o.op=.binOp b t x y u):fh P CR base g w B e (Act.mk tmps df).eval o d J':=by
 unfold eqC at hk;split at hk
 case h_2=>cases hk
 rename_i ks hks;split at hk
 .cases hk
 rename_i hg;have hg':P.eqGuardType P.depth t=false:=by simpa using hg
 split at hk
 .obtain⟨ag,hag,rfl⟩:=ab.1 hk;exact Zs hf hi hx hy hks hag hg' h o (by simpa using ho)
 .obtain⟨ag,hag,rfl⟩:=ab.1 hk;exact Zs hf hi hx hy hks hag hg' h o (by simpa using ho)
 .cases hk
theorem Ym{ag:Bool}{sz:Nat}{X:bI}{r:D×SK}(h:bO e J (.VU ag sz X)=some r):bO e J (.ld ag sz X)=some r:=by
 simp only[bO]at h ⊢;cases hx:bu e X<;>rw[hx]at h<;>try (cases h;done)
 simpa[BQ]using h
theorem Yl{ag:Bool}{sz:Nat}{X:bI}{r:D×SK}(h:bO e J (.SU ag sz X)=some r):bO e J (.ld ag sz X)=some r:=by
 simp only[bO]at h ⊢;cases hr:SX J (bu e X)with
 |none=>rw[hr]at h;cases h
 |some cs =>
  rw[hr]at h;have:BQ J (bu e X)=some cs:=by
   generalize bu e X=dx at hr;unfold SX at hr;split at hr
   .exact hr
   .cases hr
  rw[this];exact h
theorem DC{w:World}(d:Nat){t el:TypeId}{a:Option Addr}(h:P.underlying t=some (.pointer el)):(Op.equalIn (d+1) t (.pointer a) (.pointer none)).run P w=.ok a.isNone w:=by
 cases a<;>simp[Op.equalIn,bx h]
theorem run_equalIn_slice_nil{w:World}(d:Nat){t el:TypeId}{a:Option Addr}{n c:Nat}(h:P.underlying t=some (.slice el)):(Op.equalIn (d+1) t (.slice a n c) (.slice none 0 0)).run P w=.ok a.isNone w:=by
 cases a<;>simp[Op.equalIn,bx h]
theorem aey(hi:Inv CR base g J w){x y:Operand}{X:bI}{t u:TypeId}{b:BinOp}{ps bo:Bool}{cx cy:Value}(e1:(Act.mk tmps df).eval x=cx)(e2:(Act.mk tmps df).eval y=cy)
  (hg:∀b,(eqGuard b t x y cx cy).run P w=.ok () w) (hb:binOp .eql t cx cy=(do pure (.bool (<- Op.equal t cx cy)))) (hb':binOp .neq t cx cy=(do pure (.bool (!(<- Op.equal t cx cy)))))
  (heq:(Op.equal t cx cy).run P w=.ok bo w) (hn:JJ ps (bu e X)=some bo)
  (hk:VT ps b X=some k) (h:bO e J k=some (d,J')) (o:Oper) (ho:o.op=.binOp b t x y u):fh P CR base g w B e (Act.mk tmps df).eval o d J':=by
 unfold VT at hk;split at hk
 .cases hk;simp only[bO,hn,aX,ad,ak]at h;obtain⟨rfl,rfl⟩:=h;refine .pure hi ?_ (cz.of (.bool _));simp[execOp,ho,e1,e2,hg,hb,heq]
 .cases hk;simp only[bO,hn,aX,ad,ak]at h;obtain⟨rfl,rfl⟩:=h;refine .pure hi ?_ (cz.of (.bool _));simp[execOp,ho,e1,e2,hg,hb',heq]
 .cases hk
theorem Nz{ps:Bool}{b:BinOp}{X:bI}(hk:VT ps b X=some k)(h:bO e J k=some (d,J')):∃bo,JJ ps (bu e X)=some bo:=by
 unfold VT at hk;split at hk<;>cases hk<;>simp only[bO,ab]at h<;>obtain⟨b,hb,_⟩:=h<;>exact⟨b,hb⟩
theorem aez(hf:Fr fb V g w B e tmps)(hi:Inv CR base g J w){x y:Operand}{X:bI}{t u el:TypeId}{b:BinOp}(hx:bG x=some X)(hy:bG y=some (.c .xU))(ht:P.underlying t=some (.pointer el))
  (hk:VT true b X=some k) (h:bO e J k=some (d,J')) (o:Oper) (ho:o.op=.binOp b t x y u):fh P CR base g w B e (Act.mk tmps df).eval o d J':=by
 have hr:=hf.bu (df:=df) hx;have hr':=hf.bu (df:=df) hy;have e2:(Act.mk tmps df).eval y=.pointer none:=by
  generalize (Act.mk tmps df).eval y=c at hr';cases hr';rfl
 obtain⟨bo,hn⟩:=Nz hk h;have:∃a,(Act.mk tmps df).eval x=.pointer a/\bo=a.isNone:=by
  generalize bu e X=dx at hr hn;generalize (Act.mk tmps df).eval x=cx at hr;cases hr<;>simp[JJ]at hn
  .exact⟨none,rfl,by simp[<- hn]⟩
  .exact⟨_,rfl,by simp[<- hn]⟩
  .exact⟨_,rfl,by simp[<- hn]⟩
 obtain⟨a,e1,rfl⟩:=this;refine aey hi e1 e2 (λb=>by simp[eqGuard]) rfl rfl (DC 9999 ht) hn hk h o ho
theorem aeA(hf:Fr fb V g w B e tmps)(hi:Inv CR base g J w){x y:Operand}{X:bI}{t u el:TypeId}{b:BinOp}(hx:bG x=some X)(hy:bG y=some (.c .bP))(ht:P.underlying t=some (.slice el))
  (hk:VT false b X=some k) (h:bO e J k=some (d,J')) (o:Oper) (ho:o.op=.binOp b t x y u):fh P CR base g w B e (Act.mk tmps df).eval o d J':=by
 have hr:=hf.bu (df:=df) hx;have hr':=hf.bu (df:=df) hy;have e2:(Act.mk tmps df).eval y=.slice none 0 0:=by
  generalize (Act.mk tmps df).eval y=c at hr';cases hr';rfl
 obtain⟨bo,hn⟩:=Nz hk h;have:∃a n c,(Act.mk tmps df).eval x=.slice a n c/\bo=a.isNone:=by
  generalize bu e X=dx at hr hn;generalize (Act.mk tmps df).eval x=cx at hr;cases hr<;>simp[JJ]at hn
  .exact⟨none,_,_,rfl,by simp[<- hn]⟩
  .exact⟨_,_,_,rfl,by simp[<- hn.2]⟩
  .rename_i l i v off n w a cap L h1 h2 h3 h4 h5 h6 h7;refine⟨a,n,cap,rfl,?_⟩;cases a with
   |none=>have:=h4 rfl;omega
   |some a=>simp[<- hn.2]
 obtain⟨a,n,c,e1,rfl⟩:=this;refine aey hi e1 e2 (λb=>by simp[eqGuard]) rfl rfl (run_equalIn_slice_nil 9999 ht) hn hk h o ho
theorem aeI(hf:Fr fb V g w B e tmps)(hi:Inv CR base g J w){x:Operand}{X:bI}(hx:bG x=some X)(h:bO e J (.XR X)=some (d,J'))(o:Oper)(ho:o.op=.nilCheck x):
  fh P CR base g w B e (Act.mk tmps df).eval o d J':=by
 have hr:=hf.bu (df:=df) hx;simp only[bO]at h;generalize bu e X=dx at hr h;have key:(∃a,(Act.mk tmps df).eval x=.pointer (some a))/\d=dx/\J'=J:=by
  generalize (Act.mk tmps df).eval x=cx at hr;cases hr<;>simp at h
  .exact⟨⟨_,rfl⟩,h.1.symm,h.2.symm⟩
  .exact⟨⟨_,rfl⟩,h.1.symm,h.2.symm⟩
 obtain⟨⟨a,e1⟩,rfl,rfl⟩:=key;rw[e1]at hr;exact .pure hi (c:=.pointer (some a)) (by simp[execOp,ho,e1]) (cz.of hr)
theorem Kw{x:Operand}(h:Bm x=true):x=.const (.slice none 0 0):=by
 unfold Bm at h;split at h
 .rfl
 .cases h
theorem abM(hf:Fr fb V g w B e tmps)(hi:Inv CR base g J w){o:Oper}(hk:kC P a ops key o=some k)(h:bO e J k=some (d,J')):
  fh P CR base g w B e (Act.mk tmps df).eval o d J':=by
 unfold kC at hk;split at hk
 .rename_i x ho;obtain⟨X,hX,rfl⟩:=ab.1 hk;exact Pq hf hi hX h o (.inl ho)
 .rename_i x ho;split at hk
  .rename_i hnil _ _;split at hk
   .obtain⟨X,hX,rfl⟩:=ab.1 hk;exact abE hi h o (by rw[ho,Kw hnil])
   .obtain⟨X,hX,rfl⟩:=ab.1 hk;exact Pq hf hi hX h o (.inr ho)
  .obtain⟨X,hX,rfl⟩:=ab.1 hk;exact Pq hf hi hX h o (.inr ho)
 .rename_i c x y ho;split at hk
  .rename_i c' x' y' h1 h2 h3;cases hk;exact abF hf hi h1 h2 h3 h o ho
  .cases hk
 .rename_i el ho;split at hk
  .rename_i z d0 hz _;split at hk
   .split at hk
    case h_2=>cases hk
    split at hk
    case h_2=>cases hk
    split at hk
    case h_2=>cases hk
    cases hk;exact aeD hi hz h o ho
   cases hk;split at h
   .cases h
   .exact aej hi hz h o ho
  .cases hk
 .rename_i t x ho;split at hk
  .rename_i x' d0 hx _;cases hk;split at h
   .cases h
   split at h
   .split at h
    .exact abv hf hi hx h o ho
    .exact aer hf hi hx h o ho
   .exact abu hf hi hx h o ho
  .cases hk
 .rename_i t ps ho;split at hk
  .rename_i fs z ht hz;split at hk
   .rename_i hall;obtain⟨parts,hp,rfl⟩:=ab.1 hk;exact L4 hf hi ht hz hall hp h o ho
   .cases hk
  .rename_i n el z ht hz;split at hk
   .rename_i wd hw;obtain⟨parts,hp,rfl⟩:=ab.1 hk;exact N6 hf hi ht hw hz hp h o ho
   .cases hk
  .cases hk
 .rename_i t n ps ho;split at hk
  .rename_i el ht;split at hk
   .rename_i wd z d0 hw hz _;split at hk
    .rename_i hc;obtain⟨parts,hp,rfl⟩:=ab.1 hk;dsimp only at h;split at h
     .rename_i hn;simp only[ae,au]at hn;obtain⟨⟨rfl,hpe⟩,_⟩:=hn;exact aeo hf hi ht hw hz hc.1 hc.2.1 hc.2.2 hp (by simpa using hpe) h o ho
     split at h
     .exact aeq hf hi ht hw hz hc.1 hc.2.1 hc.2.2 hp h o ho
     .exact aep hf hi ht hw hz hc.1 hc.2.1 hc.2.2 hp h o ho
    .cases hk
   .cases hk
  .cases hk
 .rename_i t x ho;split at hk
  .rename_i ag sz n hag hsz hx;split at hk
   .rename_i hc;simp only[ae,au]at hc;cases hk;have hxe:x=.tmp n:=by
     cases x<;>simp only[bG,ad,bI.t.injEq,reduceCtorEq,ab,and_false,exists_false]at hx;rw[hx]
    split at h
    .exact aeB hf hi hag hsz hc.1 hc.2 h o (by rw[ho,hxe])
    .split at h
     .exact abA hf hi hx hag hsz hc.1 hc.2 (Ym h) o ho
     split at h
     .exact abA hf hi hx hag hsz hc.1 hc.2 (Yl h) o ho
     .exact abA hf hi hx hag hsz hc.1 hc.2 h o ho
   .cases hk
  .cases hk
 .rename_i t x y ho;split at hk
  .rename_i sz n y' hsz hx hy;cases hk;split at h
   .cases h
   .split at h
    .exact aeN hf hi hx hy hsz (Q6 h) o ho
    .exact aeN hf hi hx hy hsz h o ho
  .cases hk
 .rename_i b t x y u ho;split at hk
  .rename_i hx hy;cases hk;exact aen hf hi hx hy h o ho
  .rename_i hx hy;exact O1 hf hi hx hy hk h o ho
  .rename_i hx hy;exact O1 hf hi hx hy hk h o ho
  .rename_i hx hy;exact O1 hf hi hx hy hk h o ho
  .rename_i ht hx hy;split at hk
   .cases hk;exact abG hf hi hx hy h o ho
   .cases hk;exact Zv hf hi hx hy h o ho
   .cases hk;exact Zv hf hi hx hy h o ho
   .cases hk
  .rename_i ht hx hy;exact aez hf hi hx hy ht hk h o ho
  .rename_i ht hx hy;split at hk
   .rename_i hsz;split at hk
    .cases hk;exact Zu (neg:=false) hf hi hx hy ht hsz h o ho
    .cases hk;exact Zu (neg:=true) hf hi hx hy ht hsz h o ho
    .cases hk
   .cases hk
  .rename_i ht hx hy;exact aeA hf hi hx hy ht hk h o ho
  .rename_i ht hx hy;split at hk
   .cases hk;exact Zt (neg:=false) hf hi hx ht h o ho
   .cases hk;exact Zt (neg:=true) hf hi hx ht h o ho
   .cases hk
  .cases hk
 .rename_i x ho;obtain⟨X,hX,rfl⟩:=ab.1 hk;exact aeI hf hi hX h o ho
 .rename_i b t x ho;obtain⟨X,hX,rfl⟩:=ab.1 hk;exact agR hf hi hX h o ho
 .rename_i s t x ho;split at hk
  .rename_i hs ht hx;cases hk;exact aet hf hi hx hs ht h o ho
  .rename_i hs ht hx;split at hk
   .rename_i he hw;cases hk;exact aem hf hi hx hs he ht h o ho
   .cases hk
  .rename_i hs ht hx;split at hk
   .rename_i he hw;cases hk;exact aeL hf hi hx hs he ht h o ho
   .cases hk
  .rename_i hs ht hx;split at hk
   .rename_i hst;subst hst;split at hk
    .rename_i he;cases hk;exact aeu hf hi hx hs he h o ho
    .cases hk
   .cases hk
  .cases hk
 .rename_i t x ho;split at hk
  .rename_i ht hx;obtain⟨wd,hw,rfl⟩:=ab.1 hk;exact aeK hf hi hx ht h o ho
  .cases hk
 .rename_i f xs ys ho;split at hk
  .rename_i hx hy;cases hk;exact aeE hf hi hx hy h o ho
  .cases hk
 .rename_i t x y ho;split at hk
  .rename_i el ht;split at hk
   .rename_i hw hb hz hx hy;split at hk
    .rename_i hc;cases hk;exact aeH hf hi hx hy ht hw hb hz hc.1 hc.2 h o ho
    .cases hk
   .cases hk
  .cases hk
 .rename_i t x lo hh mx ho;split at hk
  .rename_i ht hx hlo hhi hmx;obtain⟨wd,hw,rfl⟩:=ab.1 hk;exact aeM hf hi hx ht hw hlo hhi hmx h o ho
  .rename_i ht hx hlo hhi hmx;obtain⟨wd,hw,rfl⟩:=ab.1 hk;have hm:mx=none:=by
    cases mx with
    |none=>rfl
    |some m=>simp[yI,ab]at hmx
   subst hm;exact abI hf hi hx ht hw hlo hhi h o ho
  .rename_i ht hx hlo hhi hmx;cases hk;have hm:mx=none:=by
    cases mx with
    |none=>rfl
    |some m=>simp[yI,ab]at hmx
   subst hm;exact abK hf hi hx ht hlo hhi h o ho
  .cases hk
 .rename_i s x i ho;split at hk
  .rename_i fs x' hs hx;split at hk
   .rename_i off sz hfc;split at hk
    .rename_i hpos;cases hk;exact abw hf hi hx hs hfc hpos h o ho
    .cases hk
   .cases hk
  .cases hk
 .rename_i s x i ho;split at hk
  .rename_i fs x' hs hx;split at hk
   .rename_i f hfi;split at hk
    .rename_i hag hsz;split at hk
     .cases hk;exact aex hf hi hx hs hfi hag hsz h o ho
     .cases hk
    .cases hk
   .cases hk
  .cases hk
 .rename_i t x y ho;split at hk
  .rename_i ht hx hy;obtain⟨wd,hw,rfl⟩:=ab.1 hk;exact abx hf hi hx hy ht hw h o ho
  .rename_i ht hx hy;obtain⟨wd,hw,rfl⟩:=ab.1 hk;exact aby hf hi hx hy ht hw h o ho
  .cases hk
 .rename_i t x y ho;split at hk
  .rename_i ht hx hy;split at hk
   .rename_i hag hsz;split at hk
    .cases hk;exact abz hf hi hx hy ht hag hsz h o ho
    .cases hk
   .cases hk
  .rename_i ht hx hy;cases hk;exact abH hf hi hx hy ht h o ho
  .cases hk
 .rename_i x i ho;obtain⟨X,hX,rfl⟩:=ab.1 hk;exact aew hf hi hX h o ho
 .rename_i c ho;obtain⟨callee,args,ts⟩:=c;dsimp only at hk;split at hk
  .rename_i f;split at hk
   .cases hk;cases h
   .cases hk
  .split at hk
   .rename_i t tr x r hts ha;split at hk
    .rename_i ht hx;cases hk;exact aeC hf hi hx ht ha hts h o ho
    .rename_i ht hx;cases hk;exact abJ hf hi hx ht ha hts h o ho
    .rename_i ht hx;cases hk;exact abD hf hi hx ht ha hts h o ho
    .rename_i ht;cases hk;exact Vp hi (.inl ⟨_,ht⟩) ha hts h o ho
    .rename_i ht;split at hk
     .rename_i hr;cases hk;exact Vp hi (.inr ⟨_,_,ht,hr⟩) ha hts h o ho
     .cases hk
    .cases hk
   .cases hk
  .cases hk;cases h
  .split at hk
   .rename_i ha;split at hk
    .rename_i hx hy;cases hk;exact agP hf hi hx hy ha h o ho
    .cases hk
   .cases hk
  .split at hk
   .rename_i ha;split at hk
    .rename_i hx hy;cases hk;exact agQ hf hi hx hy ha h o ho
    .cases hk
   .cases hk
  .split at hk
   .rename_i t u x y hts ha;split at hk
    .rename_i uu x' y' ht hu0 hx hy;split at hk
     case isFalse=>cases hk
     rename_i huu;have hu:P.underlying u=some .string\/∃e2,P.underlying u=some (.slice e2):=by
      cases uu<;>simp[Vi]at huu
      .exact .inl hu0
      .exact .inr ⟨_,hu0⟩
     split at hk
     .rename_i hw hb hz;split at hk
      .rename_i hc;cases hk;split at h
       .rename_i hn;simp only[ae]at hn;exact aes hf hi (Kw hn.1) hy ha hts ht hu hw hb hz hc.2.2.2 hc.2.1 hc.2.2.1 h o ho
       .split at h
        .rename_i hn;simp only[ae]at hn;obtain⟨v,rfl⟩:∃v,x=.tmp v:=by
          have:=hn.2;cases x<;>simp[VM]at this;exact⟨_,rfl⟩
         exact aek hf hi rfl hy ha hts ht hu hw hb hz hc.2.2.2 hc.2.1 hc.2.2.1 h o ho
        split at h
        .exact ael hf hi hx hy ha hts ht hu hw hb hz hc.2.2.2 hc.2.1 hc.2.2.1 h o ho
        split at h
        .exact Vo hf hi hx hy ha hts ht hu hw hb hz hc.2.2.2 hc.2.1 hc.2.2.1 (Q5 h) o ho
        .exact Vo hf hi hx hy ha hts ht hu hw hb hz hc.2.2.2 hc.2.1 hc.2.2.1 h o ho
      .cases hk
     .cases hk
    .cases hk
   .cases hk
  .cases hk
 .rename_i t x ho;split at hk
  .rename_i hc;obtain⟨X,hX,rfl⟩:=ab.1 hk;exact aeF hf hi hX hc h o ho
  .cases hk
 .rename_i x xt t ok ho;split at hk
  .cases hk
  .rename_i dsc x' hnot ht hx;split at hk
   .rename_i hok;subst hok;obtain⟨z,hz,rfl⟩:=ab.1 hk;exact Zw hf hi hx ht (λms hms=>by subst hms;exact hnot _ rfl) (by simpa using hz) h o ho
   .rename_i hok;cases hk;exact Zw hf hi hx ht (λms hms=>by subst hms;exact hnot _ rfl) (by simp[hok]) h o ho
  .cases hk
 .rename_i x ho;obtain⟨X,hX,rfl⟩:=ab.1 hk;cases h
 .rename_i t ho;cases hk;exact aeG hi h o ho
 .rename_i t k n ho;split at hk
  .rename_i ht;cases hk;exact abC hi h ht o ho
  .cases hk
 .rename_i t x ho;split at hk
  .rename_i ht hx;cases hk;exact aeJ hf hi hx ht h o ho
  .cases hk
 .rename_i x ho;split at hk
  .rename_i hx;cases hk;exact aev hf hi hx h o ho
  .cases hk
 .rename_i t x y ok ho;split at hk
  .rename_i ht hx hy;split at hk
   .rename_i hky hz;cases hk;exact abB hf hi hx hy ht hky hz h o ho
   .cases hk
  .cases hk
 .rename_i t m x y ho;split at hk
  .rename_i ht hm hx hy;split at hk
   .rename_i hky;cases hk;exact Vq hf hi hm hx hy ht hky h o (.inl ho)
   .cases hk
  .cases hk
 .rename_i t m x y ho;split at hk
  .rename_i ht hm hx hy;split at hk
   .rename_i hky;cases hk;exact Vq hf hi hm hx hy ht hky h o (.inr ho)
   .cases hk
  .cases hk
 .cases hk
end
mutual
def D.low(n:Nat):D->Bool
 |.ref l .. => decide (l<n)
 |.sl l .. => decide (l<n)
 |.jm l _=>decide (l<n)
 |.vr .. => true
 |.emp=>true
 |.own _ cs=>D.nC n cs
 |.agg cs=>D.nC n cs
 |.db cs=>D.nC n cs
 |.bq cs=>D.nC n cs
 |.aJ _ cs=>D.nC n cs
 |.fn _ a b=>D.nC n a && D.nC n b
 |.undef=>true
 |.bool _=>true
 |.int _ _=>true
 |.str _=>true
 |.xU=>true
 |.bP=>true
 |.se=>true
 |.va _ d=>D.low n d
 |.oI=>true
def D.nC(n:Nat):List D->Bool
 |[]=>true
 |d::ds=>D.low n d && D.nC n ds
end
theorem CD{n:Nat}{ds:List D}:D.nC n ds=true↔∀d∈ds,d.low n=true:=by
 induction ds with
 |nil=>simp[D.nC]
 |cons d ds ih=>simp[D.nC,ih]
mutual
theorem sk{n:Nat}:∀{d:D},d.clean=true->d.low n=true
 |.ref ..,h=>by simp[D.clean]at h
 |.sl ..,h=>by simp[D.clean]at h
 |.jm ..,h=>by simp[D.clean]at h
 |.vr ..,_=>rfl
 |.emp,_=>rfl
 |.own _ cs,h=>rM (ds:=cs) (by simpa[D.clean]using h)
 |.agg cs,h=>rM (ds:=cs) (by simpa[D.clean]using h)
 |.db cs,h=>rM (ds:=cs) (by simpa[D.clean]using h)
 |.bq cs,h=>rM (ds:=cs) (by simpa[D.clean]using h)
 |.aJ _ cs,h=>rM (ds:=cs) (by simpa[D.clean]using h)
 |.fn _ a b,h=>by
  simp only[D.clean,ae]at h;simp only[D.low,ae];exact⟨rM h.1,rM h.2⟩
 |.undef,_=>rfl
 |.bool _,_=>rfl
 |.int _ _,_=>rfl
 |.str _,_=>rfl
 |.xU,_=>rfl
 |.bP,_=>rfl
 |.se,_=>rfl
 |.va _ d,h=>sk (d:=d) (by simpa[D.clean]using h)
 |.oI,_=>rfl
theorem rM{n:Nat}:∀{ds:List D},D.bj ds=true->D.nC n ds=true
 |[],_=>rfl
 |d::ds,h=>by
  simp only[D.bj,ae]at h;simp only[D.nC,ae];exact⟨sk h.1,rM h.2⟩
end
mutual
theorem bH.low{g:G}{n:Nat}(hn:∀l i L,g.loc l i=some L->l<n):∀{d:D} {c:Value},bH g d c->d.low n=true
 |_,_,.undef c=>rfl
 |_,_,.bool b=>rfl
 |_,_,.int k n=>rfl
 |_,_,.str s=>rfl
 |_,_,.agg ds cs hr h1=>bF.low hn hr
 |_,_,.db ds cs hr=>bF.low hn hr
 |_,_,.xU=>rfl
 |_,_,.ref l i v off b o L e hv hc hn'=>by simp only[D.low,au];exact hn l i L e
 |_,_,.bq ds b o vs hr hl=>bF.low hn hl
 |_,_,.bP=>rfl
 |_,_,.Aq=>rfl
 |_,_,.aJ n' ds a cap vs hn' hr hs hl=>bF.low hn hl
 |_,_,.sl l i v off n' w a cap L e hv hn' ha hs hc hc'=>by simp only[D.low,au];exact hn l i L e
 |_,_,.fn f fs cs fs' cs' h1 h2=>by simp only[D.low,ae];exact⟨bF.low hn h1,bF.low hn h2⟩
 |_,_,.se=>rfl
 |_,_,.jm l i b e=>by simp only[D.low,au];exact hn l i _ e
 |_,_,.QP l i b e=>by simp only[D.low,au];exact hn l i _ e
 |_,_,.Uv l i b L e hc=>by simp only[D.low,au];exact hn l i _ e
 |_,_,.RG l i b L e hc=>by simp only[D.low,au];exact hn l i _ e
 |_,_,.va t d c h1=>by rw[D.low];exact bH.low hn h1
 |_,_,.oI=>rfl
theorem bF.low{g:G}{n:Nat}(hn:∀l i L,g.loc l i=some L->l<n):∀{ds:List D} {cs:List Value},bF g ds cs->D.nC n ds=true
 |_,_,.nil=>rfl
 |_,_,.cons d c ds cs h1 h2=>by simp only[D.nC,ae];exact⟨bH.low hn h1,bF.low hn h2⟩
end
def G.cut(g:G)(n:Nat):G:=⟨λl i=>if l<n then g.loc l i else none,g.pM⟩
theorem G.tB{g:G}{n l i:Nat}(h:l<n):(g.cut n).loc l i=g.loc l i:=by simp[G.cut,h]
theorem G.ym{g:G}{n l i:Nat}{L:Loc}(h:(g.cut n).loc l i=some L):l<n/\g.loc l i=some L:=by
 simp only[G.cut]at h;split at h
 .exact⟨by assumption,h⟩
 .cases h
mutual
theorem bH.cut{g:G}{n:Nat}:∀{d:D} {c:Value},bH g d c->d.low n=true->bH (g.cut n) d c
 |_,_,.undef c,_ => .undef c
 |_,_,.bool b,_ => .bool b
 |_,_,.int k n,_ => .int k n
 |_,_,.str s,_ => .str s
 |_,_,.agg ds cs hr h1,h => .agg ds cs (bF.cut hr h) h1
 |_,_,.db ds cs hr,h => .db ds cs (bF.cut hr h)
 |_,_,.xU,_ => .xU
 |_,_,.ref l i v off b o L e hv hc hn',h => .ref l i v off b o L ((G.tB (by simpa[D.low]using h)).trans e) hv hc hn'
 |_,_,.bq ds b o vs hr hl,h => .bq ds b o vs hr (bF.cut hl h)
 |_,_,.bP,_ => .bP
 |_,_,.Aq,_ => .Aq
 |_,_,.aJ n' ds a cap vs hn' hr hs hl,h => .aJ n' ds a cap vs hn' hr hs (bF.cut hl h)
 |_,_,.sl l i v off n' w a cap L e hv hn' ha hs hc hc',h => .sl l i v off n' w a cap L ((G.tB (by simpa[D.low]using h)).trans e) hv hn' ha hs hc hc'
 |_,_,.fn f fs cs fs' cs' h1 h2,h=>by
  simp only[D.low,ae]at h;exact .fn f fs cs fs' cs' (bF.cut h1 h.1) (bF.cut h2 h.2)
 |_,_,.se,_ => .se
 |_,_,.jm l i b e,h => .jm l i b ((G.tB (by simpa[D.low]using h)).trans e)
 |_,_,.QP l i b e,h => .QP l i b ((G.tB (by simpa[D.low]using h)).trans e)
 |_,_,.Uv l i b L e hc,h => .Uv l i b L ((G.tB (by simpa[D.low]using h)).trans e) hc
 |_,_,.RG l i b L e hc,h => .RG l i b L ((G.tB (by simpa[D.low]using h)).trans e) hc
 |_,_,.va t d c h1,h => .va t d c (bH.cut h1 h)
 |_,_,.oI,_ => .oI
theorem bF.cut{g:G}{n:Nat}:∀{ds:List D} {cs:List Value},bF g ds cs->D.nC n ds=true->bF (g.cut n) ds cs
 |_,_,.nil,_ => .nil
 |_,_,.cons d c ds cs h1 h2,h=>by
  simp only[D.nC,ae]at h;exact .cons d c ds cs (bH.cut h1 h.1) (bF.cut h2 h.2)
end
mutual
theorem CE{n m:Nat}(hm:n<=m):∀{d:D},d.low n=true->d.low m=true
 |.ref l ..,h=>by simp only[D.low,au]at h ⊢;omega
 |.sl l ..,h=>by simp only[D.low,au]at h ⊢;omega
 |.jm l _,h=>by simp only[D.low,au]at h ⊢;omega
 |.vr ..,_=>rfl
 |.emp,_=>rfl
 |.own _ cs,h=>sQ (ds:=cs) hm h
 |.agg cs,h=>sQ (ds:=cs) hm h
 |.db cs,h=>sQ (ds:=cs) hm h
 |.bq cs,h=>sQ (ds:=cs) hm h
 |.aJ _ cs,h=>sQ (ds:=cs) hm h
 |.fn _ a b,h=>by
  simp only[D.low,ae]at h ⊢;exact⟨sQ hm h.1,sQ hm h.2⟩
 |.undef,_=>rfl
 |.bool _,_=>rfl
 |.int _ _,_=>rfl
 |.str _,_=>rfl
 |.xU,_=>rfl
 |.bP,_=>rfl
 |.se,_=>rfl
 |.va _ d,h=>CE (d:=d) hm h
 |.oI,_=>rfl
theorem sQ{n m:Nat}(hm:n<=m):∀{ds:List D},D.nC n ds=true->D.nC m ds=true
 |[],_=>rfl
 |d::ds,h=>by
  simp only[D.nC,ae]at h ⊢;exact⟨CE hm h.1,sQ hm h.2⟩
end
def aO.low(n:Nat):aO->Prop
 |.cells _ cs=>D.nC n cs=true
 |.dead=>True
 |.loop lp=>∀t,(get lp.env t).low n=true
def sj(J:SK):Prop:=∀l i b,dG J l i=some b->l+1<J.length->b.low (l+1)
theorem sj.set{J:SK}(h:sj J){l i:Nat}{b:aO}(hb:l+1<J.length->b.low (l+1)):sj (aZ J l i b):=by
 intro l' i' b' h1 h2;rw[dI]at h2;by_cases hc:l'=l/\i'=i
 .obtain⟨rfl,rfl⟩:=hc;cases h0:dG J l' i' with
  |none =>
   have:dG (aZ J l' i' b) l' i'=none:=by
    unfold aZ;cases hs:fw J l' with
    |none=>exact h0
    |some s =>
     simp only[dG,uo (By hs),Option.bind_some];simp only[dG,hs,Option.bind_some]at h0;rw[List.getElem?_eq_none_iff]at h0 ⊢;simpa using h0
   rw[this]at h1;cases h1
  |some b0=>rw[oK h0]at h1;cases h1;exact hb h2
 .rw[ej hc]at h1;exact h l' i' b' h1 h2
theorem sj.new{J J':SK}(h:sj J){l i:Nat}{b:aO}(hn:fR J b=some (l,i,J')):sj J':=by
 obtain⟨h1,h2,h3,h4,h5⟩:=jI hn;intro l' i' b' e hl;by_cases hc:l'=l/\i'=i
 .omega
 .rw[h3 l' i' hc]at e;exact h l' i' b' e (by omega)
structure fq(J J':SK):Prop where
 len:J'.length=J.length
 low:sj J->sj J'
theorem fq.refl(J:SK):fq J J:=⟨rfl,id⟩
theorem fq.trans{a b c:SK}(h:fq a b)(h':fq b c):fq a c:=⟨h'.len.trans h.len,λx=>h'.low (h.low x)⟩
theorem fq.new{J J':SK}{l i:Nat}{b:aO}(hn:fR J b=some (l,i,J')):fq J J':=⟨(jI hn).2.2.2.1,λh=>h.new hn⟩
theorem fq.set{J:SK}{l i:Nat}{b:aO}(hb:l+1<J.length->b.low (l+1)):fq J (aZ J l i b):=⟨dI,λh=>h.set hb⟩
theorem ub:∀(nb:List (Nat×Nat)) (cs cs':List D) (J J':SK),ki nb cs J=some (cs',J')->fq J J'
 |[],cs,cs',J,J',h=>by simp only[ki,ad,ak]at h;obtain⟨rfl,rfl⟩:=h;exact .refl _
 |(p,w)::r,cs,cs',J,J',h=>by
  simp only[ki]at h;split at h
  .simp only[aT,ah]at h;obtain⟨⟨l,i,J1⟩,hn,h⟩:=h;exact(fq.new hn).trans (ub r _ _ _ _ h)
  .exact ub r _ _ _ _ h
theorem Ap(l:Nat):∀(n:Nat) (d:D) (J:SK),(cC l n d J).1.low (l+1)=true/\fq J (cC l n d J).2
 |0,d,J=>⟨rfl,.refl _⟩
 |n+1,d,J=>by
  have ih:∀(ds:List D) (J:SK),D.nC (l+1) (cC.frzL (cC l n) ds J).1=true/\fq J (cC.frzL (cC l n) ds J).2:=by
   intro ds;induction ds with
   |nil=>intro J;exact⟨rfl,.refl _⟩
   |cons d ds ihd =>
    intro J;obtain⟨h1,h2⟩:=Ap l n d J;obtain⟨h3,h4⟩:=ihd (cC l n d J).2;simp only[cC.frzL,D.nC,ae];exact⟨⟨h1,h3⟩,h2.trans h4⟩
  simp only[cC];split
  .rename_i hc;exact⟨sk hc,.refl _⟩
  cases d with
  |agg cs=>exact ih cs J
  |db cs=>exact ih cs J
  |bq cs=>exact ih cs J
  |aJ m cs=>exact ih cs J
  |own s cs=>exact ih cs J
  |fn f a b =>
   obtain⟨h1,h2⟩:=ih a J;obtain⟨h3,h4⟩:=ih b (cC.frzL (cC l n) a J).2;refine⟨?_,h2.trans h4⟩;simp only[D.low,ae];exact⟨h1,h3⟩
  |ref l' i v off =>
   dsimp only;split
   .refine⟨?_,.refl _⟩;simp only[D.low,au];omega
   .exact⟨rfl,.refl _⟩
  |jm l' i =>
   dsimp only;split
   .refine⟨?_,.refl _⟩;simp only[D.low,au];omega
   .exact⟨rfl,.refl _⟩
  |sl l' i v off m w =>
   dsimp only;split
   .refine⟨?_,.refl _⟩;simp only[D.low,au];omega
   .split
    .rename_i cs hcs;obtain⟨h1,h2⟩:=ih ((cs.drop off).take (m*w)) (aZ J l' i .dead);exact⟨h1,(fq.set (b:=.dead) λ_=>trivial).trans h2⟩
    .exact⟨rfl,.refl _⟩
  |_=>exact⟨rfl,.refl _⟩
theorem Ao(l n:Nat)(ds:List D):∀(J:SK),D.nC (l+1) (cC.frzL (cC l n) ds J).1=true/\fq J (cC.frzL (cC l n) ds J).2:=by
 induction ds with
 |nil=>intro J;exact⟨rfl,.refl _⟩
 |cons d ds ihd =>
  intro J;obtain⟨h1,h2⟩:=Ap l n d J;obtain⟨h3,h4⟩:=ihd (cC l n d J).2;simp only[cC.frzL,D.nC,ae];exact⟨⟨h1,h3⟩,h2.trans h4⟩
theorem F9(l:Nat):∀(e:Env) (J:SK),(∀p∈(pW l e J).1,p.2.low (l+1)=true)/\fq J (pW l e J).2
 |[],J=>⟨by simp[pW],.refl _⟩
 |(t,d)::e,J=>by
  obtain⟨h1,h2⟩:=Ap l deep d J;obtain⟨h3,h4⟩:=F9 l e (cC l deep d J).2;simp only[pW];refine⟨?_,h2.trans h4⟩;intro p hp;rcases aY.1 hp with rfl | hp
  .exact h1
  .exact h3 p hp
theorem A7{J:SK}(h:sj J){l i v:Nat}{cs:List D}(hc:cells? J l i v=some cs)(hl:l+1<J.length):D.nC (l+1) cs=true:=by
 unfold cells? at hc;split at hc
 case h_2=>cases hc
 rename_i v' cs' hb;split at hc
 case isFalse=>cases hc
 cases hc;exact h l i _ hb hl
theorem CC{n:Nat}{a b:List D}:D.nC n (a++b)=true↔D.nC n a=true/\D.nC n b=true:=by
 simp only[CD,ba];exact⟨λh=>⟨λd hd=>h d (.inl hd),λd hd=>h d (.inr hd)⟩,λh d hd=>hd.elim (h.1 d) (h.2 d)⟩
theorem KG{n k:Nat}{a:List D}(h:D.nC n a=true):D.nC n (a.take k)=true:=by
 rw[CD]at h ⊢;exact λd hd=>h d (bR hd)
theorem KF{n k:Nat}{a:List D}(h:D.nC n a=true):D.nC n (a.drop k)=true:=by
 rw[CD]at h ⊢;exact λd hd=>h d (ck hd)
theorem UL{J J':SK}{d:D}{o:Mo}{ds:List D}(h:BO J o ds=some (d,J'))(hk:o.calm=true):J'=J:=by
 unfold BO at h;split at h
 .simp[Mo.calm]at hk
 .simp[Mo.calm]at hk
 .split at h
  .split at h
   .split at h<;>first | (cases h;done) | (cases h;rfl)
   .cases h
  .cases h
 .simp[Mo.calm]at hk
 .simp only[ab,ak]at h;obtain⟨_,_,_,rfl⟩:=h;rfl
 .simp[Mo.calm]at hk
 .split at h
  .split at h
   .split at h
    .split at h
     .cases h;rfl
     .cases h
    .cases h
   .cases h
  .cases h
 .cases h
theorem UH{J J':SK}{d:D}{o:Me}{ds:List D}(h:UG J o ds=some (d,J')):J'=J:=by
 unfold UG at h;split at h
 .cases h
 .simp only[ah,ab,ak]at h;obtain⟨_,_,_,_,_,rfl⟩:=h;rfl
 .cases h;rfl
 .split at h<;>cases h;rfl
 .split at h<;>cases h;rfl
 .cases h
theorem Oa{e:Env}{J J':SK}{d:D}{k:K}(h:bO e J k=some (d,J'))(hk:k.calm=true):J'=J:=by
 by_cases hm:∃o xs,k=.mp o xs
 .obtain⟨o,xs,rfl⟩:=hm;exact UL h hk
 by_cases hm':∃o xs,k=.me o xs
 .obtain⟨o,xs,rfl⟩:=hm';exact UH h
 cases k<;>(try (exact absurd ⟨_,_,rfl⟩ hm))<;>(try (exact absurd ⟨_,_,rfl⟩ hm'))<;>clear hm hm'<;>simp only[K.calm,az]at hk<;>simp only[bO,aT,reduceCtorEq]at h<;>(repeat' split at h)<;>
  simp only[ab,ah,ad,ak,Prod.exists,reduceCtorEq,exists_eq_left,and_false,exists_false]at h<;>(try split at h)<;>
  simp_all<;>(try (obtain⟨_,_,h⟩:=h;simp_all))<;>(try grind)
theorem QC{e:Env}{J J':SK}{d:D}{nb:List (Nat×Nat)}{sz:Nat}{a x:bI}(h:bO e J (.st nb sz a x)=some (d,J')):fq J J':=by
 simp only[bO]at h;split at h
 case h_2=>cases h
 split at h
 case h_2=>cases h
 rename_i l i v off hX _ cs hcs;split at h
 case h_2=>cases h
 rename_i p hcells;split at h
 case isFalse=>cases h
 rename_i hc;split at h
 .rename_i htop;split at h
  .rename_i p' J1 hnb;cases h;have hg:=ub _ _ _ _ _ hnb;exact hg.trans (fq.set λhl=>by have:=hg.len;omega)
  .cases h
 .rename_i htop;cases h;obtain⟨h1,h2⟩:=Ao l deep p J;refine⟨dI.trans h2.len,λhl=>(h2.low hl).set λhlt=>?_⟩;have hcl:=A7 hl hcs (by have:=h2.len;omega);simp only[aO.low,CC];exact⟨⟨KG hcl,h1⟩,KF hcl⟩
theorem II{e:Env}{J J':SK}{d:D}{w bytes:Nat}{s x:bI}(h:bO e J (.app w bytes s x)=some (d,J')):fq J J':=by
 simp only[bO,aT,ah]at h;obtain⟨⟨m,xs⟩,he,h⟩:=h;dsimp only at h;split at h
 .split at h
  case isFalse=>cases h
  split at h
  .cases h;exact .refl _
  .simp only[ah]at h;obtain⟨⟨l,i,J1⟩,hn,h⟩:=h;cases h;exact .new hn
 .split at h
  case h_2=>cases h
  rename_i l i v off n w' hX _ cs hcs;split at h
  case isFalse=>cases h
  split at h
  .cases h;exact .set λhl=>by omega
  .cases h;obtain⟨h1,h2⟩:=Ao l deep xs J;refine⟨dI.trans h2.len,λhl=>(h2.low hl).set λhlt=>?_⟩;have hcl:=A7 hl hcs (by have:=h2.len;omega);simp only[aO.low,CC];exact⟨KG (KF hcl),h1⟩
 .cases h
theorem UD{n j:Nat}{a:List D}{x:D}(h:D.nC n a=true)(hx:x.low n=true):D.nC n (a.set j x)=true:=by
 rw[CD]at h ⊢;intro d hd;rcases List.mem_or_eq_of_mem_set hd with h1 | rfl
 .exact h d h1
 .exact hx
theorem Xr{J J':SK}{d:D}{o:Mo}{ds:List D}(h:BO J o ds=some (d,J')):fq J J':=by
 unfold BO at h;split at h
 .simp only[ab,ak,Prod.exists]at h;obtain⟨l,i,J1,hn,_,rfl⟩:=h;exact .new hn
 .simp only[ab,ak,Prod.exists]at h;obtain⟨l,i,J1,hn,_,rfl⟩:=h;exact .new hn
 .split at h
  .split at h
   .split at h<;>first | (cases h;done) | (cases h;exact .refl _)
   .cases h
  .cases h
 .rename_i ky m k v;split at h
  .rename_i l i es hm;obtain⟨rfl,hcs⟩:=NP hm;split at h
   case isFalse=>cases h
   rename_i hc;have hlow:l+1<J.length->k.low (l+1)=true/\v.low (l+1)=true:=λhl=>by
    rcases hc.2 with h1 | ⟨h1,h2⟩
    .omega
    .exact⟨sk h1,sk h2⟩
   split at h
   .cases h;refine⟨dI,λhS=>hS.set λhl=>?_⟩;have hcl:=A7 hS hcs hl;obtain⟨h1,h2⟩:=hlow hl;simp only[aO.low];exact UD hcl (by simp[D.low,D.nC,h1,h2])
   .cases h;refine⟨dI,λhS=>hS.set λhl=>?_⟩;have hcl:=A7 hS hcs hl;obtain⟨h1,h2⟩:=hlow hl;simp only[aO.low,CC];exact⟨hcl,by simp[D.low,D.nC,h1,h2]⟩
   .cases h
  .cases h
 .simp only[ab,ak]at h;obtain⟨_,_,_,rfl⟩:=h;exact .refl _
 .split at h
  .simp only[ab,ak,Prod.exists]at h;obtain⟨l,i,J1,hn,_,rfl⟩:=h;exact .new hn
  .cases h
 .split at h
  .split at h
   .split at h
    .split at h
     .cases h;exact .refl _
     .cases h
    .cases h
   .cases h
  .cases h
 .cases h
theorem Vx{e:Env}{J J':SK}{d:D}:∀{k:K},bO e J k=some (d,J')->fq J J'
 |.st ..,h=>QC h
 |.app ..,h=>II h
 |.RF ..,h=>II (Q5 h)
 |.apz w bytes s x,h=>by
  simp only[bO,ab,Prod.exists]at h;obtain⟨d1,J1,h1,h2⟩:=h;obtain⟨h3,h4⟩:=Ap 0 deep d1 J1;rw[h2]at h4;exact(II (by rw[Ma];exact h1)).trans h4
 |.cvz x,h=>by
  simp only[bO]at h;split at h
  case h_2=>cases h
  split at h
  case isFalse=>cases h
  split at h
  case h_2=>cases h
  cases h;exact .set λ_=>trivial
 |.RE nb cs,h=>by
  simp only[bO,aT,ah]at h;obtain⟨⟨cs',J1⟩,hnb,⟨l,i,J2⟩,hn,h⟩:=h;cases h;exact(ub _ _ _ _ _ hnb).trans (.new hn)
 |.IT w,h=>by
  simp only[bO,aT,ah]at h;obtain⟨⟨l,i,J2⟩,hn,h⟩:=h;cases h;exact .new hn
 |.T0 nb x,h=>by
  simp only[bO,aT,ah]at h;obtain⟨cs,_,⟨cs',J1⟩,hnb,⟨l,i,J2⟩,hn,h⟩:=h;cases h;exact(ub _ _ _ _ _ hnb).trans (.new hn)
 |.JD x,h=>by
  simp only[bO,aT,ah]at h;obtain⟨cs,_,⟨l,i,J2⟩,hn,h⟩:=h;cases h;exact .new hn
 |.RJ ..,h=>by
  simp only[bO,aT,ah]at h;obtain⟨cs,_,⟨l,i,J2⟩,hn,h⟩:=h;cases h;exact .new hn
 |.VV ..,h=>by
  simp only[bO]at h;split at h
  .split at h
   .simp only[aT,ah]at h;obtain⟨⟨l,i,J2⟩,hn,h⟩:=h;cases h;exact .new hn
   .cases h
  .cases h
 |.mv _,h=>same h rfl
 |.pick ..,h=>same h rfl
 |.AW ..,h=>by simp[bO]at h
 |.JC _,h=>same h rfl
 |.FZ _,h=>by simp[bO]at h
 |.JB ..,h=>same h rfl
 |.W6 ..,h=>same h rfl
 |.ld ..,h=>same h rfl
 |.VU ..,h=>same h rfl
 |.SU ..,h=>same h rfl
 |.SH os sz a x,h=>QC (Q6 h)
 |.Xw ..,h=>same h rfl
 |.XR ..,h=>same h rfl
 |.SV ..,h=>same h rfl
 |.Hj ..,h=>by simp[bO]at h
 |.bin ..,h=>same h rfl
 |.eqv ..,h=>same h rfl
 |.un ..,h=>same h rfl
 |.SR ..,h=>same h rfl
 |.UJ ..,h=>same h rfl
 |.Vv ..,h=>same h rfl
 |.Pv ..,h=>same h rfl
 |.JF ..,h=>same h rfl
 |.fld ..,h=>same h rfl
 |.Hc ..,h=>same h rfl
 |.He ..,h=>same h rfl
 |.LF ..,h=>same h rfl
 |.JK ..,h=>same h rfl
 |.O8 ..,h=>same h rfl
 |.mn ..,h=>same h rfl
 |.mx ..,h=>same h rfl
 |.VS ..,h=>same h rfl
 |.bse,h=>same h rfl
 |.ape ..,h=>same h rfl
 |.ext ..,h=>same h rfl
 |.GO ..,h=>same h rfl
 |.mp ..,h=>Xr h
 |.me ..,h=>same h rfl
 |.SW ..,h=>same h rfl
 |.VJ ..,h=>same h rfl
 |.Xv ..,h=>same h rfl
 |.U1 _,h=>by simp[bO]at h
 |.N1,h=>by simp[bO]at h
 |.call ..,h=>by simp[bO]at h
where
 same {e:Env} {J J':SK} {d:D} {k:K} (h:bO e J k=some (d,J')) (hk:k.calm=true):fq J J':=by
  rw[Oa h hk];exact .refl _
end Go.aA
