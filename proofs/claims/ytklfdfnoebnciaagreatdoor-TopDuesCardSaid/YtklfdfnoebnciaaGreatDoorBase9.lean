import Derived.Test.YtklfdfnoebnciaaGreatDoorBase8
import Derived.MapKept
import Derived.WideKeyRuns
import Derived.Maps.RangeRun
import Derived.Test.YtklfdfnoebnciaaGreatDoorBase7
set_option linter.all false
namespace Go.az
open Go
theorem KV{J:SK}{d:D}{l i:Nat}{es:List D}(h:Ai J d=some (l,i,es)):d=.kJ l i/\cells? J l i 0=some es:=by
 unfold Ai at h;split at h
 .simp only[ab,aj]at h;obtain⟨cs,h1,rfl,rfl,rfl⟩:=h;exact⟨rfl,h1⟩
 .cases h
theorem HX{ky:Ky}{k:D}:∀{es:List D} {j:Nat} {v:D},pJ ky k es=some (some (j,v))->∃k',es[j]?=some (.dj [k',v])/\sG ky k k'=some true
 |[],j,v,h=>by simp[pJ]at h
 |x::es,j,v,h=>by
  unfold pJ at h;split at h
  .rename_i heq;cases heq
  .rename_i k' v' es' heq;cases heq;split at h
   .rename_i hq;cases h;exact⟨k',rfl,hq⟩
   .simp only[ab]at h;obtain⟨x1,h1,x2,rfl,h2⟩:=h;cases h2;obtain⟨j0,v0⟩:=x2;obtain⟨k0,h3,h4⟩:=HX h1;exact⟨k0,by simpa using h3,h4⟩
   .cases h
  .cases h
section
variable {P:Program} {g:G} {w:World}
theorem Gr:∀{ks:List (Option IntKind)} {p q:List D},zn ks p q=some true->p=q
 |[],p,q,h=>by obtain⟨rfl,rfl,_⟩:=uA h;rfl
 |some k::ks,p,q,h=>by
  obtain⟨a,x,c,y,b0,rfl,rfl,h0,hb⟩:=s9 h;simp only[Bool.true_eq,ae,beq_iff_eq]at hb;obtain⟨rfl,rfl⟩:=hb;rw[Gr h0]
 |none::ks,p,q,h=>by
  obtain⟨a,x,c,y,b0,rfl,rfl,h0,hb⟩:=wG h;simp only[Bool.true_eq,ae,beq_iff_eq]at hb;obtain⟨rfl,rfl⟩:=hb;rw[Gr h0]
theorem Di(n:Nat):∀{ks:List (Option IntKind)} {p q:List D} {b:Bool},zn ks p q=some b->∀{xs ys:List Value},bA g p xs->bA g p ys->xs=ys/\(xs.zip ys).all (λz=>Instr.sameBits n z.1 z.2)=true
 |[],p,q,b,h,xs,ys,hx,hy=>by
  obtain⟨rfl,rfl,_⟩:=uA h;cases hx;cases hy;exact⟨rfl,rfl⟩
 |some k::ks,p,q,b,h,xs,ys,hx,hy=>by
  obtain⟨a,x,c,y,b0,rfl,rfl,h0,hb⟩:=s9 h;cases hx with
  |cons _ v1 _ vs1 h1 h2 =>
   cases hy with
   |cons _ v2 _ vs2 h3 h4 =>
    obtain rfl:=h1.dQ;obtain rfl:=h3.dQ;obtain⟨h5,h6⟩:=Di n h0 h2 h4;subst h5;exact⟨rfl,by simp only[List.zip_cons_cons,iA,h6,Instr.sameBits,BEq.rfl,Bool.and_self]⟩
 |none::ks,p,q,b,h,xs,ys,hx,hy=>by
  obtain⟨a,x,c,y,b0,rfl,rfl,h0,hb⟩:=wG h;cases hx with
  |cons _ v1 _ vs1 h1 h2 =>
   cases hy with
   |cons _ v2 _ vs2 h3 h4 =>
    obtain rfl:=h1.od;obtain rfl:=h3.od;obtain⟨h5,h6⟩:=Di n h0 h2 h4;subst h5;exact⟨rfl,by simp only[List.zip_cons_cons,iA,h6,Instr.sameBits,BEq.rfl,Bool.and_self]⟩
theorem Wp{a b:ByteArray}(h:a.data.toList=b.data.toList):a=b:=by
 apply ByteArray.ext;exact fe.1 h
theorem Ri{ky:Ky}{a b:D}{x y:Value}(h:sG ky a b=some true)(hx:bB g a x)(hy:bB g b y):x=y/\Instr.sameBits 10000 y x=true:=by
 unfold sG at h;split at h
 .split at h
  .rename_i s1 s2;simp only[ad,beq_iff_eq]at h;subst h;obtain⟨b1,rfl,h1⟩:=hx.kI;obtain⟨b2,rfl,h2⟩:=hy.kI;obtain rfl:=Wp (h1.trans h2.symm);exact⟨rfl,by rw[Instr.sameBits,beq_toListBytes];exact beq_self_eq_true _⟩
  .cases h
 .rename_i ag ks;split at h
  .rename_i p q hp hq;obtain rfl:=Gr h;have h1:=uT hx hp;have h2:=uT hy hq;cases ag with
   |true =>
    simp only[uV,if_true]at h1 h2;obtain⟨xs,rfl,h3,_⟩:=h1;obtain⟨ys,rfl,h4,_⟩:=h2;obtain⟨h5,h6⟩:=Di 9999 h h4 h3;obtain rfl:=fe.1 h5;exact⟨rfl,by simp only[Instr.sameBits,BEq.rfl,Bool.true_and];exact h6⟩
   |false =>
    simp only[uV,ar,if_false]at h1 h2;obtain⟨h5,h6⟩:=Di 10000 h h2 h1;simp only[gn,and_true]at h5;subst h5;exact⟨rfl,by simpa using h6⟩
  .cases h
theorem GC{t:TypeId}{ky:Ky}(h:GB P t=some ky):(P.underlying t=some .string/\ky=none)\/(∃k,P.underlying t=some (.int k)/\ky=some (false,[some k])) \/
  ∃fs ks,P.underlying t=some (.struct fs)/\kV P 20 t=some ks/\ky=some (true,ks)/\fs.toList.all (λf=>match P.underlying f.type with | some (.int _)=>true | some .bool=>true | _=>false)=true:=by
 unfold GB at h;split at h
 .rename_i hu;cases h;exact .inl ⟨hu,rfl⟩
 .rename_i k hu;cases h;exact .inr (.inl ⟨k,hu,rfl⟩)
 .rename_i fs hu;split at h
  .rename_i hall;obtain⟨ks,hks,rfl⟩:=ab.1 h;exact .inr (.inr ⟨fs,ks,hu,hks,rfl,hall⟩)
  .cases h
 .cases h
theorem H8{t:TypeId}{ky:Ky}(hk:GB P t=some ky){a b:D}{c:Bool}{x y:Value}(h:sG ky a b=some c)(hx:bB g a x)(hy:bB g b y):(Op.equal t x y).run P w=.ok c w:=by
 have key:∀ag ks,kV P 20 t=some ks->uh P t=some ag->sG (some (ag,ks)) a b=some c->(Op.equal t x y).run P w=.ok c w:=by
  intro ag ks hks hag hq;simp only[sG]at hq;split at hq
  case h_2=>cases hq
  rename_i p q hp hq2;obtain⟨ag',hag',_,hEq⟩:=Du (P:=P) (g:=g) (w:=w) 20 t ks hks;rw[hag]at hag';cases hag';exact hEq 10000 (by omega) p q x y c (uT hx hp) (uT hy hq2) hq
 rcases GC hk with⟨hu,rfl⟩ | ⟨k,hu,rfl⟩ | ⟨fs,ks,hu,hks,rfl,_⟩
 .simp only[sG]at h;split at h
  case h_2=>cases h
  rename_i s1 s2;cases h;obtain⟨b1,rfl,h1⟩:=hx.kI;obtain⟨b2,rfl,h2⟩:=hy.kI;have:=run_equalIn_string (P:=P) w 9999 t b1 b2 hu;simp only[Op.equal,Op.maxDepth];rw[this,ByteArray.toList_eq,ByteArray.toList_eq,h1,h2]
 .exact key false [some k] (by simp[kV,hu]) (by simp[uh,hu]) h
 .exact key true ks hks (by simp[uh,hu]) h
def Found(cK:List MapEntry)(r:Option (Nat×D))(g:G)(o:Option (Nat×Value))(i:Nat):Prop :=
 match r with
 |none=>o=none
 |some (j,v)=>∃e,cK[j]?=some e/\o=some (i+j,e.val)/\bB g v e.val
theorem JI{k v:D}{a b:Value}(h:bB g (.dj [k,v]) (.tuple #[a,b])):bB g k a/\bB g v b:=by
 cases h with
 |dj _ _ hr =>
  cases hr with
  |cons _ _ _ _ h1 h2=>cases h2 with | cons _ _ _ _ h3 h4=>exact⟨h1,h3⟩
theorem Gb{t:TypeId}{ky:Ky}(hk:GB P t=some ky){k:D}{x:Value}(hx:bB g k x):∀(es:List D) (cK:List MapEntry) (r:Option (Nat×D)) (i:Nat),bA g es (cK.map λe => .tuple #[e.key,e.val])->pJ ky k es=some r ->
  ∃o,(Instr.findAsking t x cK i).run P w=.ok o w/\Found cK r g o i
 |[],cK,r,i,hr,h=>by
  cases cK with
  |nil=>simp only[pJ,ad]at h;subst h;exact⟨none,by simp[Instr.findAsking],rfl⟩
  |cons e cK=>cases hr
 |d::es,cK,r,i,hr,h=>by
  cases cK with
  |nil=>cases hr
  |cons e cK =>
   rw[aN]at hr;cases hr with
   |cons _ _ _ _ hr1 hr2 =>
   unfold pJ at h;split at h
   .rename_i heq;cases heq
   .rename_i k' v es' heq;cases heq;obtain⟨hk1,hv1⟩:=JI hr1;split at h
    .rename_i hq;cases h;have he:=H8 (w:=w) hk hq hx hk1;refine⟨some (i,e.val),by simp[Instr.findAsking,he],e,rfl,by simp,hv1⟩
    .rename_i hq;simp only[ab]at h;obtain⟨r1,h1,rfl⟩:=h;have he:=H8 (w:=w) hk hq hx hk1;obtain⟨o,ho,hf⟩:=Gb hk hx es cK r1 (i+1) hr2 h1;refine⟨o,by simp[Instr.findAsking,he,ho],?_⟩;cases r1 with
     |none=>exact hf
     |some y =>
      obtain⟨e1,h3,h4,h5⟩:=hf;exact⟨e1,by simpa using h3,by rw[h4];congr 2;omega,h5⟩
    .cases h
   .cases h
theorem Ji{t:TypeId}{ky:Ky}{dsc:TypeDesc}{k:D}{x:Value}(hs:∀k' y c,sG ky k k'=some c->bB g k' y->Instr.sameNow dsc x y=some c):∀(es:List D) (cK:List MapEntry) (r:Option (Nat×D)) (i:Nat),bA g es (cK.map λe => .tuple #[e.key,e.val])->pJ ky k es=some r ->
  ∃o,Instr.findNow dsc x cK i=some o/\Found cK r g o i
 |[],cK,r,i,hr,h=>by
  cases cK with
  |nil=>simp only[pJ,ad]at h;subst h;exact⟨none,by simp[Instr.findNow],rfl⟩
  |cons e cK=>cases hr
 |d::es,cK,r,i,hr,h=>by
  cases cK with
  |nil=>cases hr
  |cons e cK =>
   rw[aN]at hr;cases hr with
   |cons _ _ _ _ hr1 hr2 =>
   unfold pJ at h;split at h
   .rename_i heq;cases heq
   .rename_i k' v es' heq;cases heq;obtain⟨hk1,hv1⟩:=JI hr1;split at h
    .rename_i hq;cases h;exact⟨some (i,e.val),by simp[Instr.findNow,hs _ _ _ hq hk1],e,rfl,by simp,hv1⟩
    .rename_i hq;simp only[ab]at h;obtain⟨r1,h1,rfl⟩:=h;obtain⟨o,ho,hf⟩:=Ji (t:=t) hs es cK r1 (i+1) hr2 h1;refine⟨o,by simp[Instr.findNow,hs _ _ _ hq hk1,ho],?_⟩;cases r1 with
     |none=>exact hf
     |some y =>
      obtain⟨e1,h3,h4,h5⟩:=hf;exact⟨e1,by simpa using h3,by rw[h4];congr 2;omega,h5⟩
    .cases h
   .cases h
theorem xu{t:TypeId}{ky:Ky}(hk:GB P t=some ky){k:D}{x:Value}(hx:bB g k x){es:List D}{cK:List MapEntry}{r:Option (Nat×D)}(hr:bA g es (cK.map λe => .tuple #[e.key,e.val]))(h:pJ ky k es=some r)
  (hself:(sG ky k k).isSome=true):∃o,(Instr.findKey t x cK).run P w=.ok o w/\Found cK r g o 0:=by
 rcases GC hk with⟨hu,rfl⟩ | ⟨kk,hu,rfl⟩ | ⟨fs,ks,hu,hks,rfl,_⟩
 .obtain⟨o,h1,h2⟩:=Ji (t:=t) (ky:=none) (k:=k) (x:=x) (dsc:=.string) (λk' y c hq hy=>by
   simp only[sG]at hq;split at hq
   case h_2=>cases hq
   cases hq;obtain⟨b1,rfl,h1⟩:=hx.kI;obtain⟨b2,rfl,h2⟩:=hy.kI;simp only[Instr.sameNow];rw[beq_toListBytes,ByteArray.toList_eq,ByteArray.toList_eq,h1,h2]) es cK r 0 hr h
  exact⟨o,MapKept.run_findKey hu h1,h2⟩
 .obtain⟨o,h1,h2⟩:=Ji (t:=t) (ky:=some (false,[some kk])) (k:=k) (x:=x) (dsc:=.int kk) (λk' y c hq hy=>by
   simp only[sG]at hq;split at hq
   case h_2=>cases hq
   rename_i p q hp hq2;have hx1:=uT hx hp;have hy1:=uT hy hq2;simp only[uV,ar,if_false]at hx1 hy1;obtain⟨a,xs,b,ys,b0,rfl,rfl,h0,rfl⟩:=s9 hq;obtain⟨rfl,rfl,rfl⟩:=uA h0;cases hx1 with
   |cons _ _ _ _ g1 _ =>
    cases hy1 with
    |cons _ _ _ _ g2 _ =>
     obtain rfl:=g1.dQ;obtain rfl:=g2.dQ;simp[Instr.sameNow]) es cK r 0 hr h
  exact⟨o,MapKept.run_findKey hu h1,h2⟩
 .obtain⟨o,h1,h2⟩:=Gb (w:=w) hk hx es cK r 0 hr h;refine⟨o,?_,h2⟩;rw[run_findKey_eq w (by simp[hu])];exact h1
theorem zS(em:Bool){xs:Array Value}{p:List D}(hx:bA g p xs.toList)(h1x:∀y∈xs.toList,y.oneCell'=true):
  ∀(fs:List Field) (o:Nat) (ks:List (Option IntKind)) (q:List D) (b:Bool),kV.kindsF P (kV P 19) o fs=some ks->fs.all (λf=>match P.underlying f.type with | some (.int _)=>true | some .bool=>true | _=>false)=true ->
   zn ks (p.drop o) q=some b ->
   (forIn (m:=Sem) fs PUnit.unit λf _=>do
    if f.name ≠ "_" then Instr.checkKey em 9999 f.type (<- part f.type xs f.offset)
    pure (ForInStep.yield PUnit.unit)).run P w=.ok PUnit.unit w
 |[],o,ks,q,b,hk,ha,he=>by simp
 |f::fs,o,ks,q,b,hk,ha,he=>by
  simp only[kV.kindsF]at hk;split at hk
  case h_2=>cases hk
  rename_i k1 hk1;split at hk
  case isFalse=>cases hk
  rename_i hc;obtain⟨hname,hoff,hsz,hpos⟩:=hc;simp only[ab]at hk;obtain⟨k2,hk2,rfl⟩:=hk;simp only[iA,ae]at ha;obtain⟨l1,l2⟩:=Bj _ _ _ _ he;obtain⟨b1,b2,e1,e2,rfl⟩:=wF _ _ _ _ _ he;simp only[bJ,List.length_drop]at l1 l2;have ih:=zS em hx h1x fs (o+k1.length) k2 (q.drop k1.length) b2 hk2 ha.2 (by simpa[eK]using e2);have one:∃a,(part f.type xs o).run P w=.ok a w/\(Instr.checkKey em 9999 f.type a).run P w=.ok () w:=by
   have h0:=ha.1;split at h0
   .rename_i k hu;have hk1':k1=[some k]:=by simp[kV,hu]at hk1;exact hk1.symm
    subst hk1';obtain⟨a,hpa,hra⟩:=Br (P:=P) (w:=w) (ag:=false) (n:=1) (o:=o) (by simp[uh,hu]) hsz (λ_=>rfl) hx h1x (by simp only[aF,bj]at l1 ⊢;omega);simp only[uV,ar,if_false]at hra;obtain⟨a0,x0,c0,y0,b0,e3,_,_,_⟩:=s9 e1;simp only[aF,bj,cr]at e3;rw[e3]at hra;cases hra with
    |cons _ _ _ _ g1 g2 =>
     obtain rfl:=g1.dQ;exact⟨_,hpa,MapKept.run_checkKey (d:=.int k) hu (by simp[MapKept.IsKey]) em 9998⟩
   .rename_i hu;have hk1':k1=[none]:=by simp[kV,hu]at hk1;exact hk1.symm
    subst hk1';obtain⟨a,hpa,hra⟩:=Br (P:=P) (w:=w) (ag:=false) (n:=1) (o:=o) (by simp[uh,hu]) hsz (λ_=>rfl) hx h1x (by simp only[aF,bj]at l1 ⊢;omega);simp only[uV,ar,if_false]at hra;obtain⟨a0,x0,c0,y0,b0,e3,_,_,_⟩:=wG e1;simp only[aF,bj,cr]at e3;rw[e3]at hra;cases hra with
    |cons _ _ _ _ g1 g2 =>
     obtain rfl:=g1.od;exact⟨_,hpa,MapKept.run_checkKey (d:=.bool) hu (by simp[MapKept.IsKey]) em 9998⟩
   .cases h0
  obtain⟨a,h1,h2⟩:=one;rw[List.forIn_cons];rw[hoff];simp only[hname,ne_eq,not_false_eq_true,if_true,Sem.run_bind,h1,h2,Result.andThen_ok,Sem.run_pure];exact ih
theorem De{t:TypeId}{ky:Ky}(hk:GB P t=some ky){k:D}{x:Value}(hx:bB g k x)(hself:(sG ky k k).isSome=true)(em:Bool):(Instr.checkKey em 10000 t x).run P w=.ok () w:=by
 rcases GC hk with⟨hu,rfl⟩ | ⟨kk,hu,rfl⟩ | ⟨fs,ks,hu,hks,rfl,hall⟩
 .refine MapKept.run_checkKey (d:=.string) hu ?_ em 9999;obtain⟨c,hc⟩:=cJ.1 hself;simp only[sG]at hc;split at hc
  case h_2=>cases hc
  obtain⟨b1,rfl,h1⟩:=hx.kI;simp[MapKept.IsKey]
 .refine MapKept.run_checkKey (d:=.int kk) hu ?_ em 9999;obtain⟨c,hc⟩:=cJ.1 hself;simp only[sG]at hc;split at hc
  case h_2=>cases hc
  rename_i p q hp hq2;have hx1:=uT hx hp;simp only[uV,ar,if_false]at hx1;obtain⟨a,xs,b,ys,b0,rfl,_,h0,rfl⟩:=s9 hc;obtain⟨rfl,_,rfl⟩:=uA h0;cases hx1 with
  |cons _ _ _ _ g1 _ =>
   obtain rfl:=g1.dQ;simp[MapKept.IsKey]
 .obtain⟨c,hc⟩:=cJ.1 hself;simp only[sG]at hc;split at hc
  case h_2=>cases hc
  rename_i p q hp hq2;have hx1:=uT hx hp;simp only[uV,if_true]at hx1;obtain⟨xs,rfl,hxr,h1x⟩:=hx1;have hks':kV.kindsF P (kV P 19) 0 fs.toList=some ks:=by
   have:=hks;rw[kV,hu]at this;dsimp only at this;split at this
   .cases this
   .exact this
  have hrun:=zS (P:=P) (w:=w) em hxr h1x fs.toList 0 ks q c hks' hall (by simpa using hc);rw[show(10000:Nat)=9999+1 from rfl,Instr.checkKey];simp only[Sem.run_bind,run_underlying hu,Result.andThen_ok];rw[<- Array.forIn_toList];simp at hrun ⊢;rw[hrun];rfl
end
section
variable {P:Program} {CR:eJ} {base fb:Nat} {V:List Nat} {g:G} {J J':SK} {w:World} {B:Nat->Nat} {e:Env} {tmps:Array Value} {df:List Deferred} {d:D}
theorem Inv.RJ(hi:Inv CR base g J w){l i:Nat}(hn:fJ J (.cells 0 [])=some (l,i,J')):
  Inv CR base (g.cj l i (.mp w.heap.size)) J' (w.alloc (.map #[] 0))/\Ev g w (g.cj l i (.mp w.heap.size)) (w.alloc (.map #[] 0)):=by
 obtain⟨h1,h2,h3,_,_⟩:=iW hn;have hnone:=hi.Bp h1;have hle:g.le (g.cj l i (.mp w.heap.size)):=G.jg λL0 e=>by rw[hnone]at e;cases e
 refine⟨hi.DM l i hle h3 (λl' i' c=>G.bz c) (λl' i' L b c e eb=>alloc_old (hi.lo l' i' L b e eb).2) ?_ ?_ ?_ ?_ (by simp) ⟨_,G.aE⟩ (λb v hb=>alloc_old (hi.ir hb)),⟨hle,rfl,rfl,rfl,by simp,λb hb _=>alloc_old hb,?_,λb o v hv => .inl hv⟩⟩
 .intro L e;rw[G.aE]at e;cases e;exact⟨_,h2,rfl,#[],0,sN,.nil,by simp[Na]⟩
 .intro b o v e;obtain⟨h1,h2⟩:=hi.oc b o v e;exact⟨(gq (alloc_old (hi.ir e))).trans h1,h2⟩
 .intro l' i' L b e eb o;by_cases c:l'=l/\i'=i
  .obtain⟨rfl,rfl⟩:=c;rw[G.aE]at e;cases e;cases eb;cases e':(g.cj l' i' (.mp w.heap.size)).oc w.heap.size o with
   |none=>rfl
   |some v=>have:=hi.ir (b:=w.heap.size) (o:=o) (v:=v) e';omega
  .rw[G.bz c]at e;exact hi.sep l' i' L b e eb o
 .intro L b e eb;rw[G.aE]at e;cases e;cases eb;refine⟨hi.ge,by simp,λl' i' L' c e' eb'=>?_⟩;have:=(hi.lo l' i' L' _ e' eb').2;omega
 .intro b hb;obtain⟨l',i',L,e,eb⟩:=hb;by_cases c:l'=l/\i'=i
  .obtain⟨rfl,rfl⟩:=c;rw[G.aE]at e;cases e;cases eb;exact .inr (aH _)
  .rw[G.bz c]at e;exact .inl ⟨l',i',L,e,eb⟩
theorem Inv.W0(hi:Inv CR base g J w){l i T ee:Nat}(hn:fJ J (.cells 2 [.int .i64 (T:Nat),.int .i64 (ee:Nat),.str []])=some (l,i,J')):
  Inv CR base (g.cj l i (.ob w.heap.size none)) J' (w.alloc (.cells #[.pointer none,.slice none 0 0] T))/\Ev g w (g.cj l i (.ob w.heap.size none)) (w.alloc (.cells #[.pointer none,.slice none 0 0] T)):=by
 obtain⟨h1,h2,h3,_,_⟩:=iW hn;have hnone:=hi.Bp h1;have hle:g.le (g.cj l i (.ob w.heap.size none)):=G.jg λL0 e=>by rw[hnone]at e;cases e
 have hown:∀b,(Loc.ob w.heap.size none).owns b->w.heap.size=b:=λb h=>by
  rcases h with h | h
  .exact h
  .cases h
 refine⟨hi.DM l i hle h3 (λl' i' c=>G.bz c) (λl' i' L b c e eb=>alloc_old (hi.lo l' i' L b e eb).2) ?_ ?_ ?_ ?_ (by simp) ⟨_,G.aE⟩ (λb v hb=>alloc_old (hi.ir hb)),⟨hle,rfl,rfl,rfl,by simp,λb hb _=>alloc_old hb,?_,λb o v hv => .inl hv⟩⟩
 .intro L e;rw[G.aE]at e;cases e;exact⟨_,h2,rfl,T,ee,[],.pointer none,.slice none 0 0,rfl,sN,.inl rfl,World.ownsRowF_nil _ _ _ _,rfl,by simp⟩
 .intro b o v e;obtain⟨h1,h2⟩:=hi.oc b o v e;exact⟨(gq (alloc_old (hi.ir e))).trans h1,h2⟩
 .intro l' i' L b e eb o;by_cases c:l'=l/\i'=i
  .obtain⟨rfl,rfl⟩:=c;rw[G.aE]at e;cases e;obtain rfl:=hown b eb;cases e':(g.cj l' i' (.ob w.heap.size none)).oc w.heap.size o with
   |none=>rfl
   |some v=>have:=hi.ir (b:=w.heap.size) (o:=o) (v:=v) e';omega
  .rw[G.bz c]at e;exact hi.sep l' i' L b e eb o
 .intro L b e eb;rw[G.aE]at e;cases e;obtain rfl:=hown b eb;refine⟨hi.ge,by simp,λl' i' L' c e' eb'=>?_⟩;have:=(hi.lo l' i' L' _ e' eb').2;omega
 .intro b hb;obtain⟨l',i',L,e,eb⟩:=hb;by_cases c:l'=l/\i'=i
  .obtain⟨rfl,rfl⟩:=c;rw[G.aE]at e;cases e;obtain rfl:=hown b eb;exact .inr (aH _)
  .rw[G.bz c]at e;exact .inl ⟨l',i',L,e,eb⟩
theorem Inv.Sh(hi:Inv CR base g J w){l i b:Nat}{b0:aI}{es:List D}(hL:g.loc l i=some (.mp b))(hb:dn J l i=some b0){cK:Array MapEntry}{clock:Nat}
  (hr:bA g es (cK.toList.map λe => .tuple #[e.key,e.val])) (hm:Na cK.toList clock) {w':World} (hw:w'={w with heap:=w.heap.setIfInBounds b (.map cK clock) }):
  Inv CR base (g.cj l i (.mp b)) (aR J l i (.cells 0 es)) w'/\Ev g w (g.cj l i (.mp b)) w':=by
 subst hw;have hlt:=(hi.lo l i _ b hL rfl).2;have hle:g.le (g.cj l i (.mp b)):=G.jg λL0 e=>by rw[hL]at e;cases e;exact Loc.le_refl _
 refine hi.setCells hL hb (Loc.le_refl _) ⟨rfl,cK,clock,by simp[hlt],hr.mono hle,hm⟩ (λb' hb' hne=>?_) rfl rfl rfl (by simp) (λb' hb' => .inl hb');have:b≠b':=λhh=>hne (by rw[hh];rfl)
 simp[this]
theorem yL(hi:Inv CR base g J w){m:D}{c:Value}(hr:bB g m c){l i:Nat}{es:List D}(h:Ai J m=some (l,i,es)):
  ∃b cK clock v,c=.map (some b)/\g.loc l i=some (.mp b)/\dn J l i=some (.cells v es)/\w.heap[b]?=some (.map cK clock)/\bA g es (cK.toList.map λe => .tuple #[e.key,e.val])/\Na cK.toList clock:=by
 obtain⟨rfl,hcs⟩:=KV h;unfold cells? at hcs;split at hcs
 case h_2=>cases hcs
 rename_i v' cs' hblk;split at hcs
 case isFalse=>cases hcs
 cases hcs;cases hr with
 |kJ _ _ b hl =>
  obtain⟨b0,hb0,hrel⟩:=hi.vQ l i _ hl;rw[hblk]at hb0;cases hb0;exact hrel.elim
 |NF _ _ b hl =>
  obtain⟨b0,hb0,hrel⟩:=hi.vQ l i _ hl;rw[hblk]at hb0;cases hb0;obtain⟨_,cK,clock,h1,h2,h3⟩:=hrel;exact⟨b,cK,clock,v',rfl,hl,hblk,h1,h2,h3⟩
 |Rf _ _ b L hl hc =>
  obtain⟨b0,hb0,hrel⟩:=hi.vQ l i _ hl;rw[hblk]at hb0;cases hb0;rcases hc with rfl | rfl
  .rename_i hv0;obtain⟨hv1,_⟩:=hrel;omega
  .exact hrel.elim
 |Oz _ _ b L hl hc =>
  obtain⟨b0,hb0,hrel⟩:=hi.vQ l i _ hl;rw[hblk]at hb0;cases hb0;rcases hc with⟨c,rfl⟩ | rfl
  .rename_i hv0;obtain⟨hv1,_⟩:=hrel;omega
  .exact hrel.elim
theorem aaU(hi:Inv CR base g J w){t:TypeId}{ρ:Operand->Value}(h:bG e J (.mp .make [])=some (d,J'))(o:Oper)(ho:o.op=.makeMap t none):ep P CR base g w B e ρ o d J':=by
 simp only[bG,bS,Aj,ab,aj,Prod.exists]at h;obtain⟨l,i,J1,hn,rfl,rfl⟩:=h;obtain⟨i1,e1⟩:=hi.RJ hn;exact .val (.map (some w.heap.size)) (by
  have hrun:(Instr.makeMap t none).run P w=.ok (.map (some w.heap.size)) (w.alloc (.map #[] 0)):=rfl;simp only[execOp,ho,Option.map_none,Sem.run_bind,hrun,Result.andThen_ok,Sem.run_pure]) e1 i1 (.NF l i _ G.aE)
theorem aaR(hi:Inv CR base g J w){el ee:TypeId}{ρ:Operand->Value}(hz:rA P el=some [.wN,.bN])
  (h:bG e J (.mp (.IZ el ee) [])=some (d,J')) (o:Oper) (ho:o.op=.alloc el):ep P CR base g w B e ρ o d J':=by
 obtain⟨i0,v,hinfo,hzero,hrz,h1⟩:=sW g hz;simp only[bG,bS,Aj,ab,aj,Prod.exists]at h;obtain⟨l,i,J1,hn,rfl,rfl⟩:=h;obtain⟨i1,e1⟩:=hi.W0 hn;have hv:v.cells = #[.pointer none,.slice none 0 0]:=by
  generalize v.cells=a at hrz;obtain⟨a⟩:=a;dsimp only at hrz;cases hrz with
  |cons _ c _ cs k1 k2 =>
   cases k2 with
   |cons _ c2 _ cs2 k3 k4 =>
    cases k4;cases k1;cases k3;rfl
 have hrun:=Es (w:=w) hinfo hzero;rw[hv]at hrun;exact .val (.pointer (some ⟨w.heap.size,0,none⟩)) (by simp[execOp,ho,hrun]) e1 i1 (.Oz l i _ _ G.aE (.inl ⟨_,rfl⟩))
theorem XS(hi:Inv CR base g J w){t kt et:TypeId}{ik:IntKind}{n:Int}(h:bG e J (.mp .make [])=some (d,J'))(ht:P.underlying t=some (.map kt et))(o:Oper)(ho:o.op=.makeMap t (some (.const (.int ik n)))):ep P CR base g w B e (Act.mk tmps df).eval o d J':=by
 simp only[bG,bS,Aj,ab,aj,Prod.exists]at h;obtain⟨l,i,J1,hn,rfl,rfl⟩:=h;obtain⟨i1,e1⟩:=hi.RJ hn;exact .val (.map (some w.heap.size)) (by
  have hrun:(Instr.makeMap t (some (.int ik n))).run P w=.ok (.map (some w.heap.size)) (w.alloc (.map #[] 0)):=by
   simp only[Instr.makeMap,Sem.run_bind,bf ht,Result.andThen_ok];rfl
  have hev:(Act.mk tmps df).eval (.const (.int ik n))=.int ik n:=rfl;simp only[execOp,ho,aQ,hev,Sem.run_bind,hrun,Result.andThen_ok,Sem.run_pure]) e1 i1 (.NF l i _ G.aE)
theorem XT(hf:Fr fb V g w B e tmps)(hi:Inv CR base g J w){x:Operand}{X:bD}{t kt et:TypeId}{args:Array Operand}{ts:Array TypeId}{r:List Operand}{tr:List TypeId}(hx:bC x=some X)
  (ht:P.underlying t=some (.map kt et)) (ha:args.toList=x::r) (hts:ts.toList=t::tr)
  (h:bG e J (.mp .len [X])=some (d,J')) (o:Oper) (ho:o.op=.call {callee:=.builtin .len,args,argTypes:=ts }):ep P CR base g w B e (Act.mk tmps df).eval o d J':=by
 have hr:=hf.ba (df:=df) hx;obtain rfl:args=(x::r).toArray:=by rw[<- ha]
 obtain rfl:ts=(t::tr).toArray:=by rw[<- hts]
 simp only[bG,aN,bS,Aj,ab,aj,Prod.exists]at h;obtain⟨l,i,es,hm,rfl,rfl⟩:=h;obtain⟨b,cK,clock,v,hc,hl,hblk,hheap,hrel,hok⟩:=yL hi hr hm;have hlen:=hrel.length;simp only[jk,Array.length_toList]at hlen;refine .pure hi (c:=.int .i64 cK.size) ?_ (by rw[hlen];exact ch.of (.int _ _));simp[execOp,ho,resolve,invoke,builtin,Builtin.len_,hc,bf ht,goInt,MapKept.run_getObj_map hheap]
theorem JK{t:TypeId}{z:D}(g:G)(h:Y4 P t=some z):∃i v,P.info? t=some i/\i.zero=some v/\bB g z v:=by
 unfold Y4 at h;split at h
 .rename_i i hi;split at h
  .rename_i v hv;exact⟨i,v,hi,hv,Gk g h⟩
  .cases h
 .cases h
theorem XR(hf:Fr fb V g w B e tmps)(hi:Inv CR base g J w){x y:Operand}{X Y:bD}{t kt et:TypeId}{ky:Ky}{z:D}{ok:Bool}(hx:bC x=some X)(hy:bC y=some Y)
  (ht:P.underlying t=some (.map kt et)) (hk:GB P kt=some ky) (hz:Y4 P et=some z)
  (h:bG e J (.mp (.get ky z ok) [X,Y])=some (d,J')) (o:Oper) (ho:o.op=.lookup t x y ok):ep P CR base g w B e (Act.mk tmps df).eval o d J':=by
 have hr:=hf.ba (df:=df) hx;have hr':=hf.ba (df:=df) hy;simp only[bG,aN,bS,Aj]at h;split at h
 case h_2=>cases h
 rename_i l i es hm;split at h
 case isFalse=>cases h
 rename_i hself;obtain⟨b,cK,clock,v,hc,hl,hblk,hheap,hrel,hok⟩:=yL hi hr hm;have hck:=De (w:=w) hk hr' hself cK.isEmpty;obtain⟨iz,zv,hz1,hz2,hz3⟩:=JK g hz;split at h
 .rename_i j v1 hfk;cases h;obtain⟨o1,ho1,e1,_,rfl,hv1⟩:=xu (w:=w) hk hr' hrel hfk hself;cases ok
  .refine .pure hi (c:=e1.val) ?_ (ch.of (by simpa using hv1));simp[execOp,ho,Instr.lookup,bf ht,hc,MapKept.run_getObj_map hheap,hck,ho1]
  .refine .pure hi (c:=.tuple #[e1.val,.bool true]) ?_ (ch.of (by simpa using bB.dj _ #[e1.val,.bool true] (.cons _ _ _ _ hv1 (.cons _ _ _ _ (.bool true) .nil))));simp[execOp,ho,Instr.lookup,bf ht,hc,MapKept.run_getObj_map hheap,hck,ho1]
 .rename_i hfk;cases h;obtain⟨o1,ho1,hf1⟩:=xu (w:=w) hk hr' hrel hfk hself;obtain rfl:o1=none:=hf1;cases ok
  .refine .pure hi (c:=zv) ?_ (ch.of (by simpa using hz3));simp[execOp,ho,Instr.lookup,bf ht,hc,MapKept.run_getObj_map hheap,hck,ho1,fK hz1 hz2]
  .refine .pure hi (c:=.tuple #[zv,.bool false]) ?_ (ch.of (by simpa using bB.dj _ #[zv,.bool false] (.cons _ _ _ _ hz3 (.cons _ _ _ _ (.bool false) .nil))));simp[execOp,ho,Instr.lookup,bf ht,hc,MapKept.run_getObj_map hheap,hck,ho1,fK hz1 hz2]
 .cases h
theorem bA.set{g:G}:∀{ds:List D} {cs:List Value} {j:Nat} {d:D} {c:Value},bA g ds cs->bB g d c->bA g (ds.set j d) (cs.set j c)
 |[],[],_,_,_,_,_=>by simpa using bA.nil
 |_::_,_::_,0,_,_,.cons _ _ _ _ h1 h2,h => .cons _ _ _ _ h h2
 |_::_,_::_,j+1,_,_,.cons _ _ _ _ h1 h2,h => .cons _ _ _ _ h1 (h2.set h)
theorem Sf(hf:Fr fb V g w B e tmps)(hi:Inv CR base g J w){x y u:Operand}{X Y U:bD}{t kt et:TypeId}{ky:Ky}(hx:bC x=some X)(hy:bC y=some Y)(hu:bC u=some U)
  (ht:P.underlying t=some (.map kt et)) (hk:GB P kt=some ky)
  (h:bG e J (.mp (.put ky) [X,Y,U])=some (d,J')) (o:Oper) (ho:o.op=.mapUpdate t x y u\/o.op=.insert t x y u):ep P CR base g w B e (Act.mk tmps df).eval o d J':=by
 have hr:=hf.ba (df:=df) hx;have hr':=hf.ba (df:=df) hy;have hru:=hf.ba (df:=df) hu;simp only[bG,aN,bS,Aj]at h;split at h
 case h_2=>cases h
 rename_i l i es hm;split at h
 case isFalse=>cases h
 rename_i hself;obtain⟨b,cK,clock,v,hc,hl,hblk,hheap,hrel,hok⟩:=yL hi hr hm;have hck:=De (w:=w) hk hr' hself.1 false;generalize hkv:(Act.mk tmps df).eval y=kv at *
 generalize huv:(Act.mk tmps df).eval u=uv at *
 have hnew:bB g (.dj [ba e Y,ba e U]) (.tuple #[kv,uv]):=.dj _ _ (.cons _ _ _ _ hr' (.cons _ _ _ _ hru .nil));split at h
 .rename_i j v1 hfk;cases h;obtain⟨o1,ho1,e1,he1,rfl,hv1⟩:=xu (w:=w) hk hr' hrel hfk hself.1;obtain⟨k',hk',hkq⟩:=HX hfk;have hj:cK[j]?=some e1:=by simpa using he1
  have hold:bB g k' e1.key:=by
   obtain⟨c0,hc0,hr0⟩:=hrel.get hk';rw[oO,he1]at hc0;cases hc0;exact(JI hr0).1
  obtain⟨hsame,hbits⟩:=Ri hkq hr' hold;have hlist:(cK.modify j λe=>{e with key:=kv,val:=uv }).toList=cK.toList.set j {e1 with key:=kv,val:=uv }:=by
   rw[Array.toList_modify];apply dG;intro n;rw[List.getElem?_modify,List.getElem?_set];by_cases hn:j=n
   .subst hn;have hlt:=(aw.1 he1).1;have hlt2:j<cK.size:=by simpa using hlt
    have hje:cK[j]=e1:=(dR.1 hj).2;simp[he1,hlt2,hje]
   .simp[hn]
  obtain⟨i1,ev1⟩:=hi.Sh (es:=es.set j (.dj [ba e Y,ba e U])) (cK:=cK.modify j λe=>{e with key:=kv,val:=uv }) (clock:=clock) (w':={w with heap:=w.heap.setIfInBounds b (.map (cK.modify j λe=>{e with key:=kv,val:=uv }) clock) }) hl hblk (by
    rw[hlist,List.map_set];exact hrel.set hnew) (by
    have hlt:=(aw.1 he1);rw[hlist];refine⟨?_,by rw[List.length_set];exact hok.2⟩;rw[List.map_set,List.length_set];have:(cK.toList.map (·.born)).set j e1.born=cK.toList.map (·.born):=by
     apply dG;intro n;rw[List.getElem?_set];by_cases hn:j=n
     .subst hn;have hlt2:j<cK.size:=by simpa using hlt.1
      have hje:cK[j]=e1:=(dR.1 hj).2;simp[he1,hlt2,hje]
     .simp[hn]
    rw[this];exact hok.1) rfl
  refine⟨.skip,Go.undef,_,_,?_,rfl,ev1,i1,.undef _⟩;have hkts:∀w:World,(Instr.keyThatStays e1.key kv).run P w=.ok kv w:=λw=>by simp[Instr.keyThatStays,hbits]
  rcases ho with ho | ho<;>simp[execOp,ho,Instr.mapUpdate,bf ht,hc,hkv,huv,MapKept.run_getObj_map hheap,hck,ho1,hj,hkts,MapKept.run_setObj_map _ hheap]
 .rename_i hfk;cases h;obtain⟨o1,ho1,hf1⟩:=xu (w:=w) hk hr' hrel hfk hself.1;obtain rfl:o1=none:=hf1;obtain⟨i1,ev1⟩:=hi.Sh (es:=es++[.dj [ba e Y,ba e U]]) (cK:=cK.push {key:=kv,val:=uv,born:=clock }) (clock:=clock+1) (w':={w with heap:=w.heap.setIfInBounds b (.map (cK.push {key:=kv,val:=uv,born:=clock }) (clock+1)) }) hl hblk (by
    rw[Array.toList_push,List.map_append];exact hrel.append (.cons _ _ _ _ hnew .nil)) (by
    rw[Array.toList_push];have h2:=hok.2;refine⟨?_,by simp only[bJ,aF,bj];omega⟩;rw[List.map_append,hok.1,bJ,aF,bj,cr,List.range_succ];simp only[aN,bS,h2]) rfl
  refine⟨.skip,Go.undef,_,_,?_,rfl,ev1,i1,.undef _⟩;rcases ho with ho | ho<;>simp[execOp,ho,Instr.mapUpdate,bf ht,hc,hkv,huv,MapKept.run_getObj_map hheap,hck,ho1,MapKept.run_setObj_map _ hheap]
 .cases h
theorem Inv.T9(hi:Inv CR base g J w){l i lm im bm n:Nat}(hn:fJ J (.cells 1 [.kJ lm im,.int .i64 (n:Nat)])=some (l,i,J'))(hm:g.loc lm im=some (.mp bm)):
  Inv CR base (g.cj l i (.it w.heap.size)) J' (w.alloc (.mapIter (some bm) n #[] n))/\Ev g w (g.cj l i (.it w.heap.size)) (w.alloc (.mapIter (some bm) n #[] n)):=by
 obtain⟨h1,h2,h3,_,_⟩:=iW hn;have hnone:=hi.Bp h1;have hle:g.le (g.cj l i (.it w.heap.size)):=G.jg λL0 e=>by rw[hnone]at e;cases e
 refine⟨hi.DM l i hle h3 (λl' i' c=>G.bz c) (λl' i' L b c e eb=>alloc_old (hi.lo l' i' L b e eb).2) ?_ ?_ ?_ ?_ (by simp) ⟨_,G.aE⟩ (λb v hb=>alloc_old (hi.ir hb)),⟨hle,rfl,rfl,rfl,by simp,λb hb _=>alloc_old hb,?_,λb o v hv => .inl hv⟩⟩
 .intro L e;rw[G.aE]at e;cases e;have hm2:(g.cj l i (.it w.heap.size)).loc lm im=some (.mp bm):=by
   rw[G.bz λhh=>by rw[hh.1,hh.2,hnone]at hm;cases hm];exact hm
  exact⟨_,h2,rfl,lm,im,bm,n,[],rfl,hm2,sN,List.nodup_nil,by simp⟩
 .intro b o v e;obtain⟨h1,h2⟩:=hi.oc b o v e;exact⟨(gq (alloc_old (hi.ir e))).trans h1,h2⟩
 .intro l' i' L b e eb o;by_cases c:l'=l/\i'=i
  .obtain⟨rfl,rfl⟩:=c;rw[G.aE]at e;cases e;cases eb;cases e':(g.cj l' i' (.it w.heap.size)).oc w.heap.size o with
   |none=>rfl
   |some v=>have:=hi.ir (b:=w.heap.size) (o:=o) (v:=v) e';omega
  .rw[G.bz c]at e;exact hi.sep l' i' L b e eb o
 .intro L b e eb;rw[G.aE]at e;cases e;cases eb;refine⟨hi.ge,by simp,λl' i' L' c e' eb'=>?_⟩;have:=(hi.lo l' i' L' _ e' eb').2;omega
 .intro b hb;obtain⟨l',i',L,e,eb⟩:=hb;by_cases c:l'=l/\i'=i
  .obtain⟨rfl,rfl⟩:=c;rw[G.aE]at e;cases e;cases eb;exact .inr (aH _)
  .rw[G.bz c]at e;exact .inl ⟨l',i',L,e,eb⟩
theorem aaX(hf:Fr fb V g w B e tmps)(hi:Inv CR base g J w){x:Operand}{X:bD}{t kt et:TypeId}(hx:bC x=some X)(ht:P.underlying t=some (.map kt et))
  (h:bG e J (.mp .rng [X])=some (d,J')) (o:Oper) (ho:o.op=.range t x):ep P CR base g w B e (Act.mk tmps df).eval o d J':=by
 have hr:=hf.ba (df:=df) hx;simp only[bG,aN,bS,Aj]at h;split at h
 case h_2=>cases h
 rename_i lm im es hm;obtain⟨b,cK,clock,v,hc,hl,hblk,hheap,hrel,hok⟩:=yL hi hr hm;simp only[ab,aj,Prod.exists]at h;obtain⟨l,i,J1,hn,rfl,rfl⟩:=h;have hlen:=hrel.length;simp only[jk]at hlen;have hck:clock=es.length:=by rw[hlen];exact hok.2
 obtain⟨i1,e1⟩:=hi.T9 hn hl;have hrun:=run_range_map (P:=P) w t kt et b cK clock ht hheap;rw[hck]at hrun;exact .val (.pointer (some ⟨w.heap.size,0,none⟩)) (by simp[execOp,ho,hc,hrun]) e1 i1 (.Rf l i _ _ G.aE (.inl rfl))
theorem aaJ(hf:Fr fb V g w B e tmps)(hi:Inv CR base g J w){x:Operand}{X:bD}(hx:bC x=some X)
  (h:bG e J (.mp .Yn [X])=some (d,J')) (o:Oper) (ho:o.op=.entry x):ep P CR base g w B e (Act.mk tmps df).eval o d J':=by
 have hr:=hf.ba (df:=df) hx;simp only[bG,aN,bS]at h;generalize ba e X=dx at hr h;cases dx<;>simp only[Aj,reduceCtorEq]at h;rename_i l i;split at h
 case h_2=>cases h
 rename_i m n j rest hcs;split at h
 case h_2=>cases h
 rename_i lm im es hm;split at h
 case isFalse=>cases h
 rename_i hlen;split at h
 case h_2=>cases h
 rename_i k v hj;cases h;unfold cells? at hcs;split at hcs
 case h_2=>cases hcs
 rename_i v' cs' hblk;split at hcs
 case isFalse=>cases hcs
 rename_i hv1;cases hcs;generalize hcv:(Act.mk tmps df).eval x=cv at hr;cases hr with
 |kJ _ _ b hl =>
  obtain⟨b0,hb0,hrel⟩:=hi.vQ l i _ hl;rw[hblk]at hb0;cases hb0;exact hrel.elim
 |NF _ _ b hl =>
  obtain⟨b0,hb0,hrel⟩:=hi.vQ l i _ hl;rw[hblk]at hb0;cases hb0;have:=hrel.1;omega
 |Oz _ _ b L hl hc =>
  obtain⟨b0,hb0,hrel⟩:=hi.vQ l i _ hl;rw[hblk]at hb0;cases hb0;rcases hc with⟨c,rfl⟩ | rfl
  .have:=hrel.1;omega
  .exact hrel.elim
 |Rf _ _ b L hl hc =>
  obtain⟨b0,hb0,hrel⟩:=hi.vQ l i _ hl;rw[hblk]at hb0;cases hb0;rcases hc with rfl | rfl
  rotate_left
  .exact hrel.elim
  obtain⟨_,lm',im',bm,n',js,hcs,hlm,hheap,hnd,hlt⟩:=hrel;cases js with
  |nil=>simp at hcs
  |cons j' js =>
   simp only[aN,gn,D.int.injEq,true_and]at hcs;obtain⟨rfl,rfl,rfl,_⟩:=hcs;obtain⟨b2,cK,clock,v2,hc2,hl2,hblk2,hheap2,hrel2,hok⟩:=yL hi (.NF lm' im' bm hlm) hm;cases hc2;have hlen2:=hrel2.length;simp only[jk]at hlen2;obtain⟨c0,hc0,hr0⟩:=hrel2.get hj;rw[oO]at hc0;simp only[Int.toNat_natCast]at hc0;obtain⟨e1,he1,rfl⟩:=ab.1 hc0;have hborn:e1.born=j':=by
    have h1:=congrArg (λl=>l[j']?) hok.1;simp only[oO,he1,aQ]at h1;have h2:=(aw.1 he1).1;rw[List.getElem?_range h2]at h1;exact Option.some.inj h1
   have hck:clock=n':=by have:=hok.2;omega
   have hnd2:(cK.toList.map (·.born)).Nodup:=by rw[hok.1];exact List.nodup_range
   have hit:w.heap[b]?=some (.mapIter (some bm) n' (js.reverse.toArray.push e1.born) clock):=by
    rw[hheap,hborn,hck];simp
   have hrun:=run_entry_at (P:=P) w b bm n' js.reverse.toArray cK clock e1 hit hheap2 (ai he1) hnd2;refine .pure hi (c:=.tuple #[e1.key,e1.val]) ?_ (ch.of hr0);simp[execOp,ho,hcv,hrun]
end
variable {P:Program} {CR:eJ} {base fb:Nat} {V:List Nat} {g:G} {J J':SK} {w:World} {B:Nat->Nat} {e:Env} {tmps:Array Value} {df:List Deferred} {d:D}
theorem aaT(hf:Fr fb V g w B e tmps)(hi:Inv CR base g J w){x:Operand}{X:bD}{t:TypeId}(hx:bC x=some X)(hc:P.concrete t=true)
  (h:bG e J (.RA t X)=some (d,J')) (o:Oper) (ho:o.op=.makeInterface t x):ep P CR base g w B e (Act.mk tmps df).eval o d J':=by
 have hr:=hf.ba (df:=df) hx;simp only[bG,ad,aj]at h;obtain⟨rfl,rfl⟩:=h;exact .pure hi (c:=.iface t ((Act.mk tmps df).eval x)) (by simp[execOp,ho,run_makeInterface w t _ hc]) (ch.of (.tK t _ _ hr))
theorem VB(hf:Fr fb V g w B e tmps)(hi:Inv CR base g J w){x:Operand}{X:bD}{t xt:TypeId}{dsc:TypeDesc}{ok:Bool}{z:Option D}(hx:bC x=some X)(ht:P.underlying t=some dsc)(hn:∀ms,dsc ≠ .interface ms)
  (hz:if ok then ∃z0,z=some z0/\Y4 P t=some z0 else z=none)
  (h:bG e J (.SO t z X)=some (d,J')) (o:Oper) (ho:o.op=.typeAssert x xt t ok):ep P CR base g w B e (Act.mk tmps df).eval o d J':=by
 have hr:=hf.ba (df:=df) hx;simp only[bG,ab,aj]at h;obtain⟨d0,h,rfl,rfl⟩:=h;generalize hcx:(Act.mk tmps df).eval x=cx at hr;generalize ba e X=dx at hr h;cases hr with
 |tK t' d1 c h1 =>
  simp only[MP]at h;cases ok with
  |true =>
   simp only[if_true]at hz;obtain⟨z0,rfl,hz⟩:=hz;obtain⟨iz,zv,hz1,hz2,hz3⟩:=JK g hz;simp only[ad]at h;by_cases htt:t'=t
   .rw[if_pos htt]at h;subst h;refine .pure hi (c:=.tuple #[c,.bool true]) ?_ (ch.of (.dj _ #[c,.bool true] (.cons _ _ _ _ h1 (.cons _ _ _ _ (.bool true) .nil))));simp only[execOp,ho,hcx,Instr.typeAssert,Sem.run_bind,run_underlying ht,Result.andThen_ok];cases dsc<;>first | exact absurd rfl (hn _) | simp[htt]
   .rw[if_neg htt]at h;subst h;refine .pure hi (c:=.tuple #[zv,.bool false]) ?_ (ch.of (.dj _ #[zv,.bool false] (.cons _ _ _ _ hz3 (.cons _ _ _ _ (.bool false) .nil))));simp only[execOp,ho,hcx,Instr.typeAssert,Sem.run_bind,run_underlying ht,Result.andThen_ok];cases dsc<;>first | exact absurd rfl (hn _) | simp[htt,fK hz1 hz2]
  |false =>
   simp only[ar,if_false]at hz;subst hz;simp only at h;split at h
   case isFalse=>cases h
   rename_i htt;cases h;refine .pure hi (c:=c) ?_ (ch.of h1);simp only[execOp,ho,hcx,Instr.typeAssert,Sem.run_bind,run_underlying ht,Result.andThen_ok];cases dsc<;>first | exact absurd rfl (hn _) | simp[htt]
 |oD =>
  simp only[MP,ab]at h;obtain⟨z1,rfl,rfl⟩:=h;cases ok with
  |true =>
   simp only[if_true]at hz;obtain⟨z0,hz0,hz⟩:=hz;cases hz0;obtain⟨iz,zv,hz1,hz2,hz3⟩:=JK g hz;refine .pure hi (c:=.tuple #[zv,.bool false]) ?_ (ch.of (.dj _ #[zv,.bool false] (.cons _ _ _ _ hz3 (.cons _ _ _ _ (.bool false) .nil))));simp only[execOp,ho,hcx,Instr.typeAssert,Sem.run_bind,run_underlying ht,Result.andThen_ok];cases dsc<;>first | exact absurd rfl (hn _) | simp[fK hz1 hz2]
  |false=>simp at hz
 |_=>simp[MP]at h
theorem Et{t:TypeId}{ms:Array (String×TypeId)}(n:Nat)(ht:P.underlying t=some (.interface ms))(w:World):(Op.equalIn (n+1) t .nilIface .nilIface).run P w=.ok true w:=by
 rw[Op.equalIn];simp[run_underlying ht]
theorem Fl{t t':TypeId}{c:Value}{ms:Array (String×TypeId)}(n:Nat)(ht:P.underlying t=some (.interface ms))(w:World):(Op.equalIn (n+1) t (.iface t' c) .nilIface).run P w=.ok false w:=by
 rw[Op.equalIn];simp[run_underlying ht]
theorem GV{t:TypeId}{ms:Array (String×TypeId)}(ht:P.underlying t=some (.interface ms))(w:World):(Op.equal t .nilIface .nilIface).run P w=.ok true w:=Et 9999 ht w
theorem HB{t t':TypeId}{c:Value}{ms:Array (String×TypeId)}(ht:P.underlying t=some (.interface ms))(w:World):(Op.equal t (.iface t' c) .nilIface).run P w=.ok false w:=Fl 9999 ht w
theorem Vy(hf:Fr fb V g w B e tmps)(hi:Inv CR base g J w){x:Operand}{X:bD}{t u:TypeId}{ms:Array (String×TypeId)}{neg:Bool}(hx:bC x=some X)(ht:P.underlying t=some (.interface ms))
  (h:bG e J (.TU neg X)=some (d,J')) (o:Oper) (ho:o.op=.binOp (if neg then .neq else .eql) t x (.const .nilIface) u):ep P CR base g w B e (Act.mk tmps df).eval o d J':=by
 have hr:=hf.ba (df:=df) hx;simp only[bG,ab,aj]at h;obtain⟨b,h,rfl,rfl⟩:=h;have hev:(Act.mk tmps df).eval (.const .nilIface)=.nilIface:=rfl;generalize hcx:(Act.mk tmps df).eval x=cx at hr;generalize ba e X=dx at hr h;cases hr with
 |oD =>
  cases h;refine .pure hi (c:=.bool (if neg then false else true)) ?_ (ch.of (by cases neg<;>exact .bool _));cases neg<;>simp[execOp,ho,hcx,hev,eqGuard,binOp,GV ht]
 |tK t' d1 c h1 =>
  cases h;refine .pure hi (c:=.bool (if neg then true else false)) ?_ (ch.of (by cases neg<;>exact .bool _));cases neg<;>simp[execOp,ho,hcx,hev,eqGuard,binOp,HB ht]
 |_=>cases h
section
variable {P:Program} {CR:eJ} {base fb:Nat} {V:List Nat} {g:G} {J J':SK} {w:World} {B:Nat->Nat} {e:Env} {tmps:Array Value} {df:List Deferred}
 {a:tW} {ops:Array Oper} {key:Nat} {k:K} {d:D}
theorem L5(hf:Fr fb V g w B e tmps)(hi:Inv CR base g J w){x y:Operand}{X Y:bD}{t u:TypeId}{b:BinOp}(hx:bC x=some X)(hy:bC y=some Y)
  (hk:WB P b t X Y=some k) (h:bG e J k=some (d,J')) (o:Oper) (ho:o.op=.binOp b t x y u):ep P CR base g w B e (Act.mk tmps df).eval o d J':=by
 unfold WB at hk;split at hk
 case h_2=>cases hk
 rename_i ks hks;split at hk
 .cases hk
 rename_i hg;have hg':P.eqGuardType P.depth t=false:=by simpa using hg
 split at hk
 .obtain⟨ag,hag,rfl⟩:=ab.1 hk;exact Vx hf hi hx hy hks hag hg' h o (by simpa using ho)
 .obtain⟨ag,hag,rfl⟩:=ab.1 hk;exact Vx hf hi hx hy hks hag hg' h o (by simpa using ho)
 .cases hk
theorem Uw{ag:Bool}{sz:Nat}{X:bD}{r:D×SK}(h:bG e J (.T1 ag sz X)=some r):bG e J (.ld ag sz X)=some r:=by
 simp only[bG]at h ⊢;cases hx:ba e X<;>rw[hx]at h<;>try (cases h;done)
 simpa[Eo]using h
theorem Uv{ag:Bool}{sz:Nat}{X:bD}{r:D×SK}(h:bG e J (.PD ag sz X)=some r):bG e J (.ld ag sz X)=some r:=by
 simp only[bG]at h ⊢;cases hr:PF J (ba e X)with
 |none=>rw[hr]at h;cases h
 |some cs =>
  rw[hr]at h;have:Eo J (ba e X)=some cs:=by
   generalize ba e X=dx at hr;unfold PF at hr;split at hr
   .exact hr
   .cases hr
  rw[this];exact h
theorem BX{w:World}(d:Nat){t el:TypeId}{a:Option Addr}(h:P.underlying t=some (.pointer el)):(Op.equalIn (d+1) t (.pointer a) (.pointer none)).run P w=.ok a.isNone w:=by
 cases a<;>simp[Op.equalIn,bf h]
theorem run_equalIn_slice_nil{w:World}(d:Nat){t el:TypeId}{a:Option Addr}{n c:Nat}(h:P.underlying t=some (.slice el)):(Op.equalIn (d+1) t (.slice a n c) (.slice none 0 0)).run P w=.ok a.isNone w:=by
 cases a<;>simp[Op.equalIn,bf h]
theorem aaM(hi:Inv CR base g J w){x y:Operand}{X:bD}{t u:TypeId}{b:BinOp}{ps bo:Bool}{cx cy:Value}(e1:(Act.mk tmps df).eval x=cx)(e2:(Act.mk tmps df).eval y=cy)
  (hg:∀b,(eqGuard b t x y cx cy).run P w=.ok () w) (hb:binOp .eql t cx cy=(do pure (.bool (<- Op.equal t cx cy)))) (hb':binOp .neq t cx cy=(do pure (.bool (!(<- Op.equal t cx cy)))))
  (heq:(Op.equal t cx cy).run P w=.ok bo w) (hn:Hu ps (ba e X)=some bo)
  (hk:SH ps b X=some k) (h:bG e J k=some (d,J')) (o:Oper) (ho:o.op=.binOp b t x y u):ep P CR base g w B e (Act.mk tmps df).eval o d J':=by
 unfold SH at hk;split at hk
 .cases hk;simp only[bG,hn,aQ,ad,aj]at h;obtain⟨rfl,rfl⟩:=h;refine .pure hi ?_ (ch.of (.bool _));simp[execOp,ho,e1,e2,hg,hb,heq]
 .cases hk;simp only[bG,hn,aQ,ad,aj]at h;obtain⟨rfl,rfl⟩:=h;refine .pure hi ?_ (ch.of (.bool _));simp[execOp,ho,e1,e2,hg,hb',heq]
 .cases hk
theorem KK{ps:Bool}{b:BinOp}{X:bD}(hk:SH ps b X=some k)(h:bG e J k=some (d,J')):∃bo,Hu ps (ba e X)=some bo:=by
 unfold SH at hk;split at hk<;>cases hk<;>simp only[bG,ab]at h<;>obtain⟨b,hb,_⟩:=h<;>exact⟨b,hb⟩
theorem aaN(hf:Fr fb V g w B e tmps)(hi:Inv CR base g J w){x y:Operand}{X:bD}{t u el:TypeId}{b:BinOp}(hx:bC x=some X)(hy:bC y=some (.c .wN))(ht:P.underlying t=some (.pointer el))
  (hk:SH true b X=some k) (h:bG e J k=some (d,J')) (o:Oper) (ho:o.op=.binOp b t x y u):ep P CR base g w B e (Act.mk tmps df).eval o d J':=by
 have hr:=hf.ba (df:=df) hx;have hr':=hf.ba (df:=df) hy;have e2:(Act.mk tmps df).eval y=.pointer none:=by
  generalize (Act.mk tmps df).eval y=c at hr';cases hr';rfl
 obtain⟨bo,hn⟩:=KK hk h;have:∃a,(Act.mk tmps df).eval x=.pointer a/\bo=a.isNone:=by
  generalize ba e X=dx at hr hn;generalize (Act.mk tmps df).eval x=cx at hr;cases hr<;>simp[Hu]at hn
  .exact⟨none,rfl,by simp[<- hn]⟩
  .exact⟨_,rfl,by simp[<- hn]⟩
  .exact⟨_,rfl,by simp[<- hn]⟩
 obtain⟨a,e1,rfl⟩:=this;refine aaM hi e1 e2 (λb=>by simp[eqGuard]) rfl rfl (BX 9999 ht) hn hk h o ho
theorem aaO(hf:Fr fb V g w B e tmps)(hi:Inv CR base g J w){x y:Operand}{X:bD}{t u el:TypeId}{b:BinOp}(hx:bC x=some X)(hy:bC y=some (.c .bN))(ht:P.underlying t=some (.slice el))
  (hk:SH false b X=some k) (h:bG e J k=some (d,J')) (o:Oper) (ho:o.op=.binOp b t x y u):ep P CR base g w B e (Act.mk tmps df).eval o d J':=by
 have hr:=hf.ba (df:=df) hx;have hr':=hf.ba (df:=df) hy;have e2:(Act.mk tmps df).eval y=.slice none 0 0:=by
  generalize (Act.mk tmps df).eval y=c at hr';cases hr';rfl
 obtain⟨bo,hn⟩:=KK hk h;have:∃a n c,(Act.mk tmps df).eval x=.slice a n c/\bo=a.isNone:=by
  generalize ba e X=dx at hr hn;generalize (Act.mk tmps df).eval x=cx at hr;cases hr<;>simp[Hu]at hn
  .exact⟨none,_,_,rfl,by simp[<- hn]⟩
  .exact⟨_,_,_,rfl,by simp[<- hn.2]⟩
  .rename_i l i v off n w a cap L h1 h2 h3 h4 h5 h6 h7;refine⟨a,n,cap,rfl,?_⟩;cases a with
   |none=>have:=h4 rfl;omega
   |some a=>simp[<- hn.2]
 obtain⟨a,n,c,e1,rfl⟩:=this;refine aaM hi e1 e2 (λb=>by simp[eqGuard]) rfl rfl (run_equalIn_slice_nil 9999 ht) hn hk h o ho
theorem aaW(hf:Fr fb V g w B e tmps)(hi:Inv CR base g J w){x:Operand}{X:bD}(hx:bC x=some X)(h:bG e J (.T7 X)=some (d,J'))(o:Oper)(ho:o.op=.nilCheck x):
  ep P CR base g w B e (Act.mk tmps df).eval o d J':=by
 have hr:=hf.ba (df:=df) hx;simp only[bG]at h;generalize ba e X=dx at hr h;have key:(∃a,(Act.mk tmps df).eval x=.pointer (some a))/\d=dx/\J'=J:=by
  generalize (Act.mk tmps df).eval x=cx at hr;cases hr<;>simp at h
  .exact⟨⟨_,rfl⟩,h.1.symm,h.2.symm⟩
  .exact⟨⟨_,rfl⟩,h.1.symm,h.2.symm⟩
 obtain⟨⟨a,e1⟩,rfl,rfl⟩:=key;rw[e1]at hr;exact .pure hi (c:=.pointer (some a)) (by simp[execOp,ho,e1]) (ch.of hr)
theorem H6{x:Operand}(h:zw x=true):x=.const (.slice none 0 0):=by
 unfold zw at h;split at h
 .rfl
 .cases h
theorem X5(hf:Fr fb V g w B e tmps)(hi:Inv CR base g J w){o:Oper}(hk:kC P a ops key o=some k)(h:bG e J k=some (d,J')):
  ep P CR base g w B e (Act.mk tmps df).eval o d J':=by
 unfold kC at hk;split at hk
 .rename_i x ho;obtain⟨X,hX,rfl⟩:=ab.1 hk;exact Mw hf hi hX h o (.inl ho)
 .rename_i x ho;split at hk
  .rename_i hnil _ _;split at hk
   .obtain⟨X,hX,rfl⟩:=ab.1 hk;exact XU hi h o (by rw[ho,H6 hnil])
   .obtain⟨X,hX,rfl⟩:=ab.1 hk;exact Mw hf hi hX h o (.inr ho)
  .obtain⟨X,hX,rfl⟩:=ab.1 hk;exact Mw hf hi hX h o (.inr ho)
 .rename_i c x y ho;split at hk
  .rename_i c' x' y' h1 h2 h3;cases hk;exact XV hf hi h1 h2 h3 h o ho
  .cases hk
 .rename_i el ho;split at hk
  .rename_i z d0 hz _;split at hk
   .split at hk
    case h_2=>cases hk
    split at hk
    case h_2=>cases hk
    split at hk
    case h_2=>cases hk
    cases hk;exact aaR hi hz h o ho
   cases hk;split at h
   .cases h
   .exact aax hi hz h o ho
  .cases hk
 .rename_i t x ho;split at hk
  .rename_i x' d0 hx _;cases hk;split at h
   .cases h
   split at h
   .split at h
    .exact XL hf hi hx h o ho
    .exact aaF hf hi hx h o ho
   .exact XK hf hi hx h o ho
  .cases hk
 .rename_i t ps ho;split at hk
  .rename_i fs z ht hz;split at hk
   .rename_i hall;obtain⟨parts,hp,rfl⟩:=ab.1 hk;exact Jz hf hi ht hz hall hp h o ho
   .cases hk
  .rename_i n el z ht hz;split at hk
   .rename_i wd hw;obtain⟨parts,hp,rfl⟩:=ab.1 hk;exact K4 hf hi ht hw hz hp h o ho
   .cases hk
  .cases hk
 .rename_i t n ps ho;split at hk
  .rename_i el ht;split at hk
   .rename_i wd z d0 hw hz _;split at hk
    .rename_i hc;obtain⟨parts,hp,rfl⟩:=ab.1 hk;dsimp only at h;split at h
     .rename_i hn;simp only[ae,ao]at hn;obtain⟨⟨rfl,hpe⟩,_⟩:=hn;exact aaC hf hi ht hw hz hc.1 hc.2.1 hc.2.2 hp (by simpa using hpe) h o ho
     split at h
     .exact aaE hf hi ht hw hz hc.1 hc.2.1 hc.2.2 hp h o ho
     .exact aaD hf hi ht hw hz hc.1 hc.2.1 hc.2.2 hp h o ho
    .cases hk
   .cases hk
  .cases hk
 .rename_i t x ho;split at hk
  .rename_i ag sz n hag hsz hx;split at hk
   .rename_i hc;simp only[ae,ao]at hc;cases hk;have hxe:x=.tmp n:=by
     cases x<;>simp only[bC,ad,bD.t.injEq,reduceCtorEq,ab,and_false,exists_false]at hx;rw[hx]
    split at h
    .exact aaP hf hi hag hsz hc.1 hc.2 h o (by rw[ho,hxe])
    .split at h
     .exact XQ hf hi hx hag hsz hc.1 hc.2 (Uw h) o ho
     split at h
     .exact XQ hf hi hx hag hsz hc.1 hc.2 (Uv h) o ho
     .exact XQ hf hi hx hag hsz hc.1 hc.2 h o ho
   .cases hk
  .cases hk
 .rename_i t x y ho;split at hk
  .rename_i sz n y' hsz hx hy;cases hk;split at h
   .cases h
   .split at h
    .exact aa1 hf hi hx hy hsz (N1 h) o ho
    .exact aa1 hf hi hx hy hsz h o ho
  .cases hk
 .rename_i b t x y u ho;split at hk
  .rename_i hx hy;cases hk;exact aaB hf hi hx hy h o ho
  .rename_i hx hy;exact L5 hf hi hx hy hk h o ho
  .rename_i hx hy;exact L5 hf hi hx hy hk h o ho
  .rename_i hx hy;exact L5 hf hi hx hy hk h o ho
  .rename_i ht hx hy;split at hk
   .cases hk;exact XW hf hi hx hy h o ho
   .cases hk;exact VA hf hi hx hy h o ho
   .cases hk;exact VA hf hi hx hy h o ho
   .cases hk
  .rename_i ht hx hy;exact aaN hf hi hx hy ht hk h o ho
  .rename_i ht hx hy;split at hk
   .rename_i hsz;split at hk
    .cases hk;exact Vz (neg:=false) hf hi hx hy ht hsz h o ho
    .cases hk;exact Vz (neg:=true) hf hi hx hy ht hsz h o ho
    .cases hk
   .cases hk
  .rename_i ht hx hy;exact aaO hf hi hx hy ht hk h o ho
  .rename_i ht hx hy;split at hk
   .cases hk;exact Vy (neg:=false) hf hi hx ht h o ho
   .cases hk;exact Vy (neg:=true) hf hi hx ht h o ho
   .cases hk
  .cases hk
 .rename_i x ho;obtain⟨X,hX,rfl⟩:=ab.1 hk;exact aaW hf hi hX h o ho
 .rename_i b t x ho;obtain⟨X,hX,rfl⟩:=ab.1 hk;exact ac5 hf hi hX h o ho
 .rename_i s t x ho;split at hk
  .rename_i hs ht hx;cases hk;exact aaH hf hi hx hs ht h o ho
  .rename_i hs ht hx;split at hk
   .rename_i he hw;cases hk;exact aaA hf hi hx hs he ht h o ho
   .cases hk
  .rename_i hs ht hx;split at hk
   .rename_i he hw;cases hk;exact aaZ hf hi hx hs he ht h o ho
   .cases hk
  .rename_i hs ht hx;split at hk
   .rename_i hst;subst hst;split at hk
    .rename_i he;cases hk;exact aaI hf hi hx hs he h o ho
    .cases hk
   .cases hk
  .cases hk
 .rename_i t x ho;split at hk
  .rename_i ht hx;obtain⟨wd,hw,rfl⟩:=ab.1 hk;exact aaY hf hi hx ht h o ho
  .cases hk
 .rename_i f xs ys ho;split at hk
  .rename_i hx hy;cases hk;exact aaS hf hi hx hy h o ho
  .cases hk
 .rename_i t x y ho;split at hk
  .rename_i el ht;split at hk
   .rename_i hw hb hz hx hy;split at hk
    .rename_i hc;cases hk;exact aaV hf hi hx hy ht hw hb hz hc.1 hc.2 h o ho
    .cases hk
   .cases hk
  .cases hk
 .rename_i t x lo hh mx ho;split at hk
  .rename_i ht hx hlo hhi hmx;obtain⟨wd,hw,rfl⟩:=ab.1 hk;exact aa0 hf hi hx ht hw hlo hhi hmx h o ho
  .rename_i ht hx hlo hhi hmx;obtain⟨wd,hw,rfl⟩:=ab.1 hk;have hm:mx=none:=by
    cases mx with
    |none=>rfl
    |some m=>simp[wP,ab]at hmx
   subst hm;exact XY hf hi hx ht hw hlo hhi h o ho
  .rename_i ht hx hlo hhi hmx;cases hk;have hm:mx=none:=by
    cases mx with
    |none=>rfl
    |some m=>simp[wP,ab]at hmx
   subst hm;exact X0 hf hi hx ht hlo hhi h o ho
  .cases hk
 .rename_i s x i ho;split at hk
  .rename_i fs x' hs hx;split at hk
   .rename_i off sz hfc;split at hk
    .rename_i hpos;cases hk;exact XM hf hi hx hs hfc hpos h o ho
    .cases hk
   .cases hk
  .cases hk
 .rename_i s x i ho;split at hk
  .rename_i fs x' hs hx;split at hk
   .rename_i f hfi;split at hk
    .rename_i hag hsz;split at hk
     .cases hk;exact aaL hf hi hx hs hfi hag hsz h o ho
     .cases hk
    .cases hk
   .cases hk
  .cases hk
 .rename_i t x y ho;split at hk
  .rename_i ht hx hy;obtain⟨wd,hw,rfl⟩:=ab.1 hk;exact XN hf hi hx hy ht hw h o ho
  .rename_i ht hx hy;obtain⟨wd,hw,rfl⟩:=ab.1 hk;exact XO hf hi hx hy ht hw h o ho
  .cases hk
 .rename_i t x y ho;split at hk
  .rename_i ht hx hy;split at hk
   .rename_i hag hsz;split at hk
    .cases hk;exact XP hf hi hx hy ht hag hsz h o ho
    .cases hk
   .cases hk
  .rename_i ht hx hy;cases hk;exact XX hf hi hx hy ht h o ho
  .cases hk
 .rename_i x i ho;obtain⟨X,hX,rfl⟩:=ab.1 hk;exact aaK hf hi hX h o ho
 .rename_i c ho;obtain⟨callee,args,ts⟩:=c;dsimp only at hk;split at hk
  .rename_i f;split at hk
   .cases hk;cases h
   .cases hk
  .split at hk
   .rename_i t tr x r hts ha;split at hk
    .rename_i ht hx;cases hk;exact aaQ hf hi hx ht ha hts h o ho
    .rename_i ht hx;cases hk;exact XZ hf hi hx ht ha hts h o ho
    .rename_i ht hx;cases hk;exact XT hf hi hx ht ha hts h o ho
    .rename_i ht;cases hk;exact Se hi (.inl ⟨_,ht⟩) ha hts h o ho
    .rename_i ht;split at hk
     .rename_i hr;cases hk;exact Se hi (.inr ⟨_,_,ht,hr⟩) ha hts h o ho
     .cases hk
    .cases hk
   .cases hk
  .cases hk;cases h
  .split at hk
   .rename_i ha;split at hk
    .rename_i hx hy;cases hk;exact ac3 hf hi hx hy ha h o ho
    .cases hk
   .cases hk
  .split at hk
   .rename_i ha;split at hk
    .rename_i hx hy;cases hk;exact ac4 hf hi hx hy ha h o ho
    .cases hk
   .cases hk
  .split at hk
   .rename_i t u x y hts ha;split at hk
    .rename_i uu x' y' ht hu0 hx hy;split at hk
     case isFalse=>cases hk
     rename_i huu;have hu:P.underlying u=some .string\/∃e2,P.underlying u=some (.slice e2):=by
      cases uu<;>simp[R4]at huu
      .exact .inl hu0
      .exact .inr ⟨_,hu0⟩
     split at hk
     .rename_i hw hb hz;split at hk
      .rename_i hc;cases hk;split at h
       .rename_i hn;simp only[ae]at hn;exact aaG hf hi (H6 hn.1) hy ha hts ht hu hw hb hz hc.2.2.2 hc.2.1 hc.2.2.1 h o ho
       .split at h
        .rename_i hn;simp only[ae]at hn;obtain⟨v,rfl⟩:∃v,x=.tmp v:=by
          have:=hn.2;cases x<;>simp[SB]at this;exact⟨_,rfl⟩
         exact aay hf hi rfl hy ha hts ht hu hw hb hz hc.2.2.2 hc.2.1 hc.2.2.1 h o ho
        split at h
        .exact aaz hf hi hx hy ha hts ht hu hw hb hz hc.2.2.2 hc.2.1 hc.2.2.1 h o ho
        split at h
        .exact Sd hf hi hx hy ha hts ht hu hw hb hz hc.2.2.2 hc.2.1 hc.2.2.1 (N0 h) o ho
        .exact Sd hf hi hx hy ha hts ht hu hw hb hz hc.2.2.2 hc.2.1 hc.2.2.1 h o ho
      .cases hk
     .cases hk
    .cases hk
   .cases hk
  .cases hk
 .rename_i t x ho;split at hk
  .rename_i hc;obtain⟨X,hX,rfl⟩:=ab.1 hk;exact aaT hf hi hX hc h o ho
  .cases hk
 .rename_i x xt t ok ho;split at hk
  .cases hk
  .rename_i dsc x' hnot ht hx;split at hk
   .rename_i hok;subst hok;obtain⟨z,hz,rfl⟩:=ab.1 hk;exact VB hf hi hx ht (λms hms=>by subst hms;exact hnot _ rfl) (by simpa using hz) h o ho
   .rename_i hok;cases hk;exact VB hf hi hx ht (λms hms=>by subst hms;exact hnot _ rfl) (by simp[hok]) h o ho
  .cases hk
 .rename_i x ho;obtain⟨X,hX,rfl⟩:=ab.1 hk;cases h
 .rename_i t ho;cases hk;exact aaU hi h o ho
 .rename_i t k n ho;split at hk
  .rename_i ht;cases hk;exact XS hi h ht o ho
  .cases hk
 .rename_i t x ho;split at hk
  .rename_i ht hx;cases hk;exact aaX hf hi hx ht h o ho
  .cases hk
 .rename_i x ho;split at hk
  .rename_i hx;cases hk;exact aaJ hf hi hx h o ho
  .cases hk
 .rename_i t x y ok ho;split at hk
  .rename_i ht hx hy;split at hk
   .rename_i hky hz;cases hk;exact XR hf hi hx hy ht hky hz h o ho
   .cases hk
  .cases hk
 .rename_i t m x y ho;split at hk
  .rename_i ht hm hx hy;split at hk
   .rename_i hky;cases hk;exact Sf hf hi hm hx hy ht hky h o (.inl ho)
   .cases hk
  .cases hk
 .rename_i t m x y ho;split at hk
  .rename_i ht hm hx hy;split at hk
   .rename_i hky;cases hk;exact Sf hf hi hm hx hy ht hky h o (.inr ho)
   .cases hk
  .cases hk
 .cases hk
end
mutual
def D.low(n:Nat):D->Bool
 |.ref l .. => decide (l<n)
 |.sl l .. => decide (l<n)
 |.kJ l _=>decide (l<n)
 |.vr .. => true
 |.emp=>true
 |.own _ cs=>D.mY n cs
 |.agg cs=>D.mY n cs
 |.dj cs=>D.mY n cs
 |.bu cs=>D.mY n cs
 |.aG _ cs=>D.mY n cs
 |.fn _ a b=>D.mY n a && D.mY n b
 |.undef=>true
 |.bool _=>true
 |.int _ _=>true
 |.str _=>true
 |.wN=>true
 |.bN=>true
 |.pR=>true
 |.tK _ d=>D.low n d
 |.oD=>true
def D.mY(n:Nat):List D->Bool
 |[]=>true
 |d::ds=>D.low n d && D.mY n ds
end
theorem AQ{n:Nat}{ds:List D}:D.mY n ds=true↔∀d∈ds,d.low n=true:=by
 induction ds with
 |nil=>simp[D.mY]
 |cons d ds ih=>simp[D.mY,ih]
mutual
theorem pW{n:Nat}:∀{d:D},d.clean=true->d.low n=true
 |.ref ..,h=>by simp[D.clean]at h
 |.sl ..,h=>by simp[D.clean]at h
 |.kJ ..,h=>by simp[D.clean]at h
 |.vr ..,_=>rfl
 |.emp,_=>rfl
 |.own _ cs,h=>pz (ds:=cs) (by simpa[D.clean]using h)
 |.agg cs,h=>pz (ds:=cs) (by simpa[D.clean]using h)
 |.dj cs,h=>pz (ds:=cs) (by simpa[D.clean]using h)
 |.bu cs,h=>pz (ds:=cs) (by simpa[D.clean]using h)
 |.aG _ cs,h=>pz (ds:=cs) (by simpa[D.clean]using h)
 |.fn _ a b,h=>by
  simp only[D.clean,ae]at h;simp only[D.low,ae];exact⟨pz h.1,pz h.2⟩
 |.undef,_=>rfl
 |.bool _,_=>rfl
 |.int _ _,_=>rfl
 |.str _,_=>rfl
 |.wN,_=>rfl
 |.bN,_=>rfl
 |.pR,_=>rfl
 |.tK _ d,h=>pW (d:=d) (by simpa[D.clean]using h)
 |.oD,_=>rfl
theorem pz{n:Nat}:∀{ds:List D},D.bx ds=true->D.mY n ds=true
 |[],_=>rfl
 |d::ds,h=>by
  simp only[D.bx,ae]at h;simp only[D.mY,ae];exact⟨pW h.1,pz h.2⟩
end
mutual
theorem bB.low{g:G}{n:Nat}(hn:∀l i L,g.loc l i=some L->l<n):∀{d:D} {c:Value},bB g d c->d.low n=true
 |_,_,.undef c=>rfl
 |_,_,.bool b=>rfl
 |_,_,.int k n=>rfl
 |_,_,.str s=>rfl
 |_,_,.agg ds cs hr h1=>bA.low hn hr
 |_,_,.dj ds cs hr=>bA.low hn hr
 |_,_,.wN=>rfl
 |_,_,.ref l i v off b o L e hv hc hn'=>by simp only[D.low,ao];exact hn l i L e
 |_,_,.bu ds b o vs hr hl=>bA.low hn hl
 |_,_,.bN=>rfl
 |_,_,.yp=>rfl
 |_,_,.aG n' ds a cap vs hn' hr hs hl=>bA.low hn hl
 |_,_,.sl l i v off n' w a cap L e hv hn' ha hs hc hc'=>by simp only[D.low,ao];exact hn l i L e
 |_,_,.fn f fs cs fs' cs' h1 h2=>by simp only[D.low,ae];exact⟨bA.low hn h1,bA.low hn h2⟩
 |_,_,.pR=>rfl
 |_,_,.kJ l i b e=>by simp only[D.low,ao];exact hn l i _ e
 |_,_,.NF l i b e=>by simp only[D.low,ao];exact hn l i _ e
 |_,_,.Rf l i b L e hc=>by simp only[D.low,ao];exact hn l i _ e
 |_,_,.Oz l i b L e hc=>by simp only[D.low,ao];exact hn l i _ e
 |_,_,.tK t d c h1=>by rw[D.low];exact bB.low hn h1
 |_,_,.oD=>rfl
theorem bA.low{g:G}{n:Nat}(hn:∀l i L,g.loc l i=some L->l<n):∀{ds:List D} {cs:List Value},bA g ds cs->D.mY n ds=true
 |_,_,.nil=>rfl
 |_,_,.cons d c ds cs h1 h2=>by simp only[D.mY,ae];exact⟨bB.low hn h1,bA.low hn h2⟩
end
def G.cut(g:G)(n:Nat):G:=⟨λl i=>if l<n then g.loc l i else none,g.oc⟩
theorem G.rZ{g:G}{n l i:Nat}(h:l<n):(g.cut n).loc l i=g.loc l i:=by simp[G.cut,h]
theorem G.wD{g:G}{n l i:Nat}{L:Loc}(h:(g.cut n).loc l i=some L):l<n/\g.loc l i=some L:=by
 simp only[G.cut]at h;split at h
 .exact⟨by assumption,h⟩
 .cases h
mutual
theorem bB.cut{g:G}{n:Nat}:∀{d:D} {c:Value},bB g d c->d.low n=true->bB (g.cut n) d c
 |_,_,.undef c,_ => .undef c
 |_,_,.bool b,_ => .bool b
 |_,_,.int k n,_ => .int k n
 |_,_,.str s,_ => .str s
 |_,_,.agg ds cs hr h1,h => .agg ds cs (bA.cut hr h) h1
 |_,_,.dj ds cs hr,h => .dj ds cs (bA.cut hr h)
 |_,_,.wN,_ => .wN
 |_,_,.ref l i v off b o L e hv hc hn',h => .ref l i v off b o L ((G.rZ (by simpa[D.low]using h)).trans e) hv hc hn'
 |_,_,.bu ds b o vs hr hl,h => .bu ds b o vs hr (bA.cut hl h)
 |_,_,.bN,_ => .bN
 |_,_,.yp,_ => .yp
 |_,_,.aG n' ds a cap vs hn' hr hs hl,h => .aG n' ds a cap vs hn' hr hs (bA.cut hl h)
 |_,_,.sl l i v off n' w a cap L e hv hn' ha hs hc hc',h => .sl l i v off n' w a cap L ((G.rZ (by simpa[D.low]using h)).trans e) hv hn' ha hs hc hc'
 |_,_,.fn f fs cs fs' cs' h1 h2,h=>by
  simp only[D.low,ae]at h;exact .fn f fs cs fs' cs' (bA.cut h1 h.1) (bA.cut h2 h.2)
 |_,_,.pR,_ => .pR
 |_,_,.kJ l i b e,h => .kJ l i b ((G.rZ (by simpa[D.low]using h)).trans e)
 |_,_,.NF l i b e,h => .NF l i b ((G.rZ (by simpa[D.low]using h)).trans e)
 |_,_,.Rf l i b L e hc,h => .Rf l i b L ((G.rZ (by simpa[D.low]using h)).trans e) hc
 |_,_,.Oz l i b L e hc,h => .Oz l i b L ((G.rZ (by simpa[D.low]using h)).trans e) hc
 |_,_,.tK t d c h1,h => .tK t d c (bB.cut h1 h)
 |_,_,.oD,_ => .oD
theorem bA.cut{g:G}{n:Nat}:∀{ds:List D} {cs:List Value},bA g ds cs->D.mY n ds=true->bA (g.cut n) ds cs
 |_,_,.nil,_ => .nil
 |_,_,.cons d c ds cs h1 h2,h=>by
  simp only[D.mY,ae]at h;exact .cons d c ds cs (bB.cut h1 h.1) (bA.cut h2 h.2)
end
mutual
theorem AR{n m:Nat}(hm:n<=m):∀{d:D},d.low n=true->d.low m=true
 |.ref l ..,h=>by simp only[D.low,ao]at h ⊢;omega
 |.sl l ..,h=>by simp only[D.low,ao]at h ⊢;omega
 |.kJ l _,h=>by simp only[D.low,ao]at h ⊢;omega
 |.vr ..,_=>rfl
 |.emp,_=>rfl
 |.own _ cs,h=>ri (ds:=cs) hm h
 |.agg cs,h=>ri (ds:=cs) hm h
 |.dj cs,h=>ri (ds:=cs) hm h
 |.bu cs,h=>ri (ds:=cs) hm h
 |.aG _ cs,h=>ri (ds:=cs) hm h
 |.fn _ a b,h=>by
  simp only[D.low,ae]at h ⊢;exact⟨ri hm h.1,ri hm h.2⟩
 |.undef,_=>rfl
 |.bool _,_=>rfl
 |.int _ _,_=>rfl
 |.str _,_=>rfl
 |.wN,_=>rfl
 |.bN,_=>rfl
 |.pR,_=>rfl
 |.tK _ d,h=>AR (d:=d) hm h
 |.oD,_=>rfl
theorem ri{n m:Nat}(hm:n<=m):∀{ds:List D},D.mY n ds=true->D.mY m ds=true
 |[],_=>rfl
 |d::ds,h=>by
  simp only[D.mY,ae]at h ⊢;exact⟨AR hm h.1,ri hm h.2⟩
end
def aI.low(n:Nat):aI->Prop
 |.cells _ cs=>D.mY n cs=true
 |.dead=>True
 |.loop lp=>∀t,(get lp.env t).low n=true
def pV(J:SK):Prop:=∀l i b,dn J l i=some b->l+1<J.length->b.low (l+1)
theorem pV.set{J:SK}(h:pV J){l i:Nat}{b:aI}(hb:l+1<J.length->b.low (l+1)):pV (aR J l i b):=by
 intro l' i' b' h1 h2;rw[dD]at h2;by_cases hc:l'=l/\i'=i
 .obtain⟨rfl,rfl⟩:=hc;cases h0:dn J l' i' with
  |none =>
   have:dn (aR J l' i' b) l' i'=none:=by
    unfold aR;cases hs:eZ J l' with
    |none=>exact h0
    |some s =>
     simp only[dn,sT (zH hs),Option.bind_some];simp only[dn,hs,Option.bind_some]at h0;rw[List.getElem?_eq_none_iff]at h0 ⊢;simpa using h0
   rw[this]at h1;cases h1
  |some b0=>rw[na h0]at h1;cases h1;exact hb h2
 .rw[dI hc]at h1;exact h l' i' b' h1 h2
theorem pV.new{J J':SK}(h:pV J){l i:Nat}{b:aI}(hn:fJ J b=some (l,i,J')):pV J':=by
 obtain⟨h1,h2,h3,h4,h5⟩:=iW hn;intro l' i' b' e hl;by_cases hc:l'=l/\i'=i
 .omega
 .rw[h3 l' i' hc]at e;exact h l' i' b' e (by omega)
structure eB(J J':SK):Prop where
 len:J'.length=J.length
 low:pV J->pV J'
theorem eB.refl(J:SK):eB J J:=⟨rfl,id⟩
theorem eB.trans{a b c:SK}(h:eB a b)(h':eB b c):eB a c:=⟨h'.len.trans h.len,λx=>h'.low (h.low x)⟩
theorem eB.new{J J':SK}{l i:Nat}{b:aI}(hn:fJ J b=some (l,i,J')):eB J J':=⟨(iW hn).2.2.2.1,λh=>h.new hn⟩
theorem eB.set{J:SK}{l i:Nat}{b:aI}(hb:l+1<J.length->b.low (l+1)):eB J (aR J l i b):=⟨dD,λh=>h.set hb⟩
theorem sJ:∀(nb:List (Nat×Nat)) (cs cs':List D) (J J':SK),jF nb cs J=some (cs',J')->eB J J'
 |[],cs,cs',J,J',h=>by simp only[jF,ad,aj]at h;obtain⟨rfl,rfl⟩:=h;exact .refl _
 |(p,w)::r,cs,cs',J,J',h=>by
  simp only[jF]at h;split at h
  .simp only[aM,af]at h;obtain⟨⟨l,i,J1⟩,hn,h⟩:=h;exact(eB.new hn).trans (sJ r _ _ _ _ h)
  .exact sJ r _ _ _ _ h
theorem yK(l:Nat):∀(n:Nat) (d:D) (J:SK),(cn l n d J).1.low (l+1)=true/\eB J (cn l n d J).2
 |0,d,J=>⟨rfl,.refl _⟩
 |n+1,d,J=>by
  have ih:∀(ds:List D) (J:SK),D.mY (l+1) (cn.frzL (cn l n) ds J).1=true/\eB J (cn.frzL (cn l n) ds J).2:=by
   intro ds;induction ds with
   |nil=>intro J;exact⟨rfl,.refl _⟩
   |cons d ds ihd =>
    intro J;obtain⟨h1,h2⟩:=yK l n d J;obtain⟨h3,h4⟩:=ihd (cn l n d J).2;simp only[cn.frzL,D.mY,ae];exact⟨⟨h1,h3⟩,h2.trans h4⟩
  simp only[cn];split
  .rename_i hc;exact⟨pW hc,.refl _⟩
  cases d with
  |agg cs=>exact ih cs J
  |dj cs=>exact ih cs J
  |bu cs=>exact ih cs J
  |aG m cs=>exact ih cs J
  |own s cs=>exact ih cs J
  |fn f a b =>
   obtain⟨h1,h2⟩:=ih a J;obtain⟨h3,h4⟩:=ih b (cn.frzL (cn l n) a J).2;refine⟨?_,h2.trans h4⟩;simp only[D.low,ae];exact⟨h1,h3⟩
  |ref l' i v off =>
   dsimp only;split
   .refine⟨?_,.refl _⟩;simp only[D.low,ao];omega
   .exact⟨rfl,.refl _⟩
  |kJ l' i =>
   dsimp only;split
   .refine⟨?_,.refl _⟩;simp only[D.low,ao];omega
   .exact⟨rfl,.refl _⟩
  |sl l' i v off m w =>
   dsimp only;split
   .refine⟨?_,.refl _⟩;simp only[D.low,ao];omega
   .split
    .rename_i cs hcs;obtain⟨h1,h2⟩:=ih ((cs.drop off).take (m*w)) (aR J l' i .dead);exact⟨h1,(eB.set (b:=.dead) λ_=>trivial).trans h2⟩
    .exact⟨rfl,.refl _⟩
  |_=>exact⟨rfl,.refl _⟩
theorem yJ(l n:Nat)(ds:List D):∀(J:SK),D.mY (l+1) (cn.frzL (cn l n) ds J).1=true/\eB J (cn.frzL (cn l n) ds J).2:=by
 induction ds with
 |nil=>intro J;exact⟨rfl,.refl _⟩
 |cons d ds ihd =>
  intro J;obtain⟨h1,h2⟩:=yK l n d J;obtain⟨h3,h4⟩:=ihd (cn l n d J).2;simp only[cn.frzL,D.mY,ae];exact⟨⟨h1,h3⟩,h2.trans h4⟩
theorem Ee(l:Nat):∀(e:Env) (J:SK),(∀p∈(pw l e J).1,p.2.low (l+1)=true)/\eB J (pw l e J).2
 |[],J=>⟨by simp[pw],.refl _⟩
 |(t,d)::e,J=>by
  obtain⟨h1,h2⟩:=yK l deep d J;obtain⟨h3,h4⟩:=Ee l e (cn l deep d J).2;simp only[pw];refine⟨?_,h2.trans h4⟩;intro p hp;rcases bw.1 hp with rfl | hp
  .exact h1
  .exact h3 p hp
theorem zj{J:SK}(h:pV J){l i v:Nat}{cs:List D}(hc:cells? J l i v=some cs)(hl:l+1<J.length):D.mY (l+1) cs=true:=by
 unfold cells? at hc;split at hc
 case h_2=>cases hc
 rename_i v' cs' hb;split at hc
 case isFalse=>cases hc
 cases hc;exact h l i _ hb hl
theorem AP{n:Nat}{a b:List D}:D.mY n (a++b)=true↔D.mY n a=true/\D.mY n b=true:=by
 simp only[AQ,aZ];exact⟨λh=>⟨λd hd=>h d (.inl hd),λd hd=>h d (.inr hd)⟩,λh d hd=>hd.elim (h.1 d) (h.2 d)⟩
theorem Ig{n k:Nat}{a:List D}(h:D.mY n a=true):D.mY n (a.take k)=true:=by
 rw[AQ]at h ⊢;exact λd hd=>h d (db hd)
theorem Ie{n k:Nat}{a:List D}(h:D.mY n a=true):D.mY n (a.drop k)=true:=by
 rw[AQ]at h ⊢;exact λd hd=>h d (da hd)
theorem RD{J J':SK}{d:D}{o:Mo}{ds:List D}(h:Aj J o ds=some (d,J'))(hk:o.calm=true):J'=J:=by
 unfold Aj at h;split at h
 .simp[Mo.calm]at hk
 .simp[Mo.calm]at hk
 .split at h
  .split at h
   .split at h<;>first | (cases h;done) | (cases h;rfl)
   .cases h
  .cases h
 .simp[Mo.calm]at hk
 .simp only[ab,aj]at h;obtain⟨_,_,_,rfl⟩:=h;rfl
 .simp[Mo.calm]at hk
 .split at h
  .split at h
   .split at h
    .split at h
     .cases h;rfl
     .cases h
    .cases h
   .cases h
  .cases h
 .cases h
theorem Ru{J J':SK}{d:D}{o:Me}{ds:List D}(h:SI J o ds=some (d,J')):J'=J:=by
 unfold SI at h;split at h
 .cases h
 .simp only[af,ab,aj]at h;obtain⟨_,_,_,_,_,rfl⟩:=h;rfl
 .cases h;rfl
 .split at h<;>cases h;rfl
 .split at h<;>cases h;rfl
 .cases h
theorem K7{e:Env}{J J':SK}{d:D}{k:K}(h:bG e J k=some (d,J'))(hk:k.calm=true):J'=J:=by
 by_cases hm:∃o xs,k=.mp o xs
 .obtain⟨o,xs,rfl⟩:=hm;exact RD h hk
 by_cases hm':∃o xs,k=.me o xs
 .obtain⟨o,xs,rfl⟩:=hm';exact Ru h
 cases k<;>(try (exact absurd ⟨_,_,rfl⟩ hm))<;>(try (exact absurd ⟨_,_,rfl⟩ hm'))<;>clear hm hm'<;>simp only[K.calm,ar]at hk<;>simp only[bG,aM,reduceCtorEq]at h<;>(repeat' split at h)<;>
  simp only[ab,af,ad,aj,Prod.exists,reduceCtorEq,exists_eq_left,and_false,exists_false]at h<;>(try split at h)<;>
  simp_all<;>(try (obtain⟨_,_,h⟩:=h;simp_all))<;>(try grind)
theorem Nr{e:Env}{J J':SK}{d:D}{nb:List (Nat×Nat)}{sz:Nat}{a x:bD}(h:bG e J (.st nb sz a x)=some (d,J')):eB J J':=by
 simp only[bG]at h;split at h
 case h_2=>cases h
 split at h
 case h_2=>cases h
 rename_i l i v off hX _ cs hcs;split at h
 case h_2=>cases h
 rename_i p hcells;split at h
 case isFalse=>cases h
 rename_i hc;split at h
 .rename_i htop;split at h
  .rename_i p' J1 hnb;cases h;have hg:=sJ _ _ _ _ _ hnb;exact hg.trans (eB.set λhl=>by have:=hg.len;omega)
  .cases h
 .rename_i htop;cases h;obtain⟨h1,h2⟩:=yJ l deep p J;refine⟨dD.trans h2.len,λhl=>(h2.low hl).set λhlt=>?_⟩;have hcl:=zj hl hcs (by have:=h2.len;omega);simp only[aI.low,AP];exact⟨⟨Ig hcl,h1⟩,Ie hcl⟩
theorem Gx{e:Env}{J J':SK}{d:D}{w bytes:Nat}{s x:bD}(h:bG e J (.app w bytes s x)=some (d,J')):eB J J':=by
 simp only[bG,aM,af]at h;obtain⟨⟨m,xs⟩,he,h⟩:=h;dsimp only at h;split at h
 .split at h
  case isFalse=>cases h
  split at h
  .cases h;exact .refl _
  .simp only[af]at h;obtain⟨⟨l,i,J1⟩,hn,h⟩:=h;cases h;exact .new hn
 .split at h
  case h_2=>cases h
  rename_i l i v off n w' hX _ cs hcs;split at h
  case isFalse=>cases h
  split at h
  .cases h;exact .set λhl=>by omega
  .cases h;obtain⟨h1,h2⟩:=yJ l deep xs J;refine⟨dD.trans h2.len,λhl=>(h2.low hl).set λhlt=>?_⟩;have hcl:=zj hl hcs (by have:=h2.len;omega);simp only[aI.low,AP];exact⟨Ig (Ie hcl),h1⟩
 .cases h
theorem Rq{n j:Nat}{a:List D}{x:D}(h:D.mY n a=true)(hx:x.low n=true):D.mY n (a.set j x)=true:=by
 rw[AQ]at h ⊢;intro d hd;rcases List.mem_or_eq_of_mem_set hd with h1 | rfl
 .exact h d h1
 .exact hx
theorem TQ{J J':SK}{d:D}{o:Mo}{ds:List D}(h:Aj J o ds=some (d,J')):eB J J':=by
 unfold Aj at h;split at h
 .simp only[ab,aj,Prod.exists]at h;obtain⟨l,i,J1,hn,_,rfl⟩:=h;exact .new hn
 .simp only[ab,aj,Prod.exists]at h;obtain⟨l,i,J1,hn,_,rfl⟩:=h;exact .new hn
 .split at h
  .split at h
   .split at h<;>first | (cases h;done) | (cases h;exact .refl _)
   .cases h
  .cases h
 .rename_i ky m k v;split at h
  .rename_i l i es hm;obtain⟨rfl,hcs⟩:=KV hm;split at h
   case isFalse=>cases h
   rename_i hc;have hlow:l+1<J.length->k.low (l+1)=true/\v.low (l+1)=true:=λhl=>by
    rcases hc.2 with h1 | ⟨h1,h2⟩
    .omega
    .exact⟨pW h1,pW h2⟩
   split at h
   .cases h;refine⟨dD,λhS=>hS.set λhl=>?_⟩;have hcl:=zj hS hcs hl;obtain⟨h1,h2⟩:=hlow hl;simp only[aI.low];exact Rq hcl (by simp[D.low,D.mY,h1,h2])
   .cases h;refine⟨dD,λhS=>hS.set λhl=>?_⟩;have hcl:=zj hS hcs hl;obtain⟨h1,h2⟩:=hlow hl;simp only[aI.low,AP];exact⟨hcl,by simp[D.low,D.mY,h1,h2]⟩
   .cases h
  .cases h
 .simp only[ab,aj]at h;obtain⟨_,_,_,rfl⟩:=h;exact .refl _
 .split at h
  .simp only[ab,aj,Prod.exists]at h;obtain⟨l,i,J1,hn,_,rfl⟩:=h;exact .new hn
  .cases h
 .split at h
  .split at h
   .split at h
    .split at h
     .cases h;exact .refl _
     .cases h
    .cases h
   .cases h
  .cases h
 .cases h
theorem Sj{e:Env}{J J':SK}{d:D}:∀{k:K},bG e J k=some (d,J')->eB J J'
 |.st ..,h=>Nr h
 |.app ..,h=>Gx h
 |.Oy ..,h=>Gx (N0 h)
 |.SF w bytes s x,h=>by
  simp only[bG,ab,Prod.exists]at h;obtain⟨d1,J1,h1,h2⟩:=h;obtain⟨h3,h4⟩:=yK 0 deep d1 J1;rw[h2]at h4;exact(Gx (by rw[JE];exact h1)).trans h4
 |.Wx x,h=>by
  simp only[bG]at h;split at h
  case h_2=>cases h
  split at h
  case isFalse=>cases h
  split at h
  case h_2=>cases h
  cases h;exact .set λ_=>trivial
 |.Ox nb cs,h=>by
  simp only[bG,aM,af]at h;obtain⟨⟨cs',J1⟩,hnb,⟨l,i,J2⟩,hn,h⟩:=h;cases h;exact(sJ _ _ _ _ _ hnb).trans (.new hn)
 |.GJ w,h=>by
  simp only[bG,aM,af]at h;obtain⟨⟨l,i,J2⟩,hn,h⟩:=h;cases h;exact .new hn
 |.SG nb x,h=>by
  simp only[bG,aM,af]at h;obtain⟨cs,_,⟨cs',J1⟩,hnb,⟨l,i,J2⟩,hn,h⟩:=h;cases h;exact(sJ _ _ _ _ _ hnb).trans (.new hn)
 |.Ho x,h=>by
  simp only[bG,aM,af]at h;obtain⟨cs,_,⟨l,i,J2⟩,hn,h⟩:=h;cases h;exact .new hn
 |.QH ..,h=>by
  simp only[bG,aM,af]at h;obtain⟨cs,_,⟨l,i,J2⟩,hn,h⟩:=h;cases h;exact .new hn
 |.RB ..,h=>by
  simp only[bG]at h;split at h
  .split at h
   .simp only[aM,af]at h;obtain⟨⟨l,i,J2⟩,hn,h⟩:=h;cases h;exact .new hn
   .cases h
  .cases h
 |.mv _,h=>same h rfl
 |.pick ..,h=>same h rfl
 |.Ag ..,h=>by simp[bG]at h
 |.Hn _,h=>same h rfl
 |.D6 _,h=>by simp[bG]at h
 |.IZ ..,h=>same h rfl
 |.TE ..,h=>same h rfl
 |.ld ..,h=>same h rfl
 |.T1 ..,h=>same h rfl
 |.PD ..,h=>same h rfl
 |.Pv os sz a x,h=>Nr (N1 h)
 |.TV ..,h=>same h rfl
 |.T7 ..,h=>same h rfl
 |.PE ..,h=>same h rfl
 |.G6 ..,h=>by simp[bG]at h
 |.bin ..,h=>same h rfl
 |.eqv ..,h=>same h rfl
 |.un ..,h=>same h rfl
 |.QN ..,h=>same h rfl
 |.Rz ..,h=>same h rfl
 |.SL ..,h=>same h rfl
 |.MB ..,h=>same h rfl
 |.Hq ..,h=>same h rfl
 |.Yr ..,h=>same h rfl
 |.Fh ..,h=>same h rfl
 |.Fi ..,h=>same h rfl
 |.Je ..,h=>same h rfl
 |.Hv ..,h=>same h rfl
 |.Mf ..,h=>same h rfl
 |.mn ..,h=>same h rfl
 |.mx ..,h=>same h rfl
 |.Wt ..,h=>same h rfl
 |.Yi,h=>same h rfl
 |.Wn ..,h=>same h rfl
 |.ext ..,h=>same h rfl
 |.Im ..,h=>same h rfl
 |.mp ..,h=>TQ h
 |.me ..,h=>same h rfl
 |.RA ..,h=>same h rfl
 |.SO ..,h=>same h rfl
 |.TU ..,h=>same h rfl
 |.RM _,h=>by simp[bG]at h
 |.Lp,h=>by simp[bG]at h
 |.call ..,h=>by simp[bG]at h
where
 same {e:Env} {J J':SK} {d:D} {k:K} (h:bG e J k=some (d,J')) (hk:k.calm=true):eB J J':=by
  rw[K7 h hk];exact .refl _
end Go.az
