import Derived.Test.YtpapbbojmclkgaaGreatDoorBase7
import Derived.MapKept
import Derived.WideKeyRuns
import Derived.Maps.RangeRun
import Derived.Test.YtpapbbojmclkgaaGreatDoorBase6
set_option linter.all false
namespace Go.Abs
open Go
theorem QZ{J:SK}{d:D}{l i:Nat}{es:List D}(h:DZ J d=some (l,i,es)):d=.j5 l i/\cells? J l i 0=some es:=by
 unfold DZ at h;split at h
 .simp only[ad,au]at h;obtain⟨cs,h1,rfl,rfl,rfl⟩:=h;exact⟨rfl,h1⟩
 .cases h
theorem Nd{ky:Ky}{k:D}:∀{es:List D} {j:Nat} {v:D},qh ky k es=some (some (j,v))->∃k',es[j]?=some (.cQ [k',v])/\tA ky k k'=some true
 |[],j,v,h=>by simp[qh]at h
 |x::es,j,v,h=>by
  unfold qh at h;split at h
  .rename_i heq;cases heq
  .rename_i k' v' es' heq;cases heq;split at h
   .rename_i hq;cases h;exact⟨k',rfl,hq⟩
   .simp only[ad]at h;obtain⟨x1,h1,x2,rfl,h2⟩:=h;cases h2;obtain⟨j0,v0⟩:=x2;obtain⟨k0,h3,h4⟩:=Nd h1;exact⟨k0,by simpa using h3,h4⟩
   .cases h
  .cases h
section
variable {P:Program} {g:G} {w:World}
theorem Ld:∀{ks:List (Option IntKind)} {p q:List D},BS ks p q=some true->p=q
 |[],p,q,h=>by obtain⟨rfl,rfl,_⟩:=vU h;rfl
 |some k::ks,p,q,h=>by
  obtain⟨a,x,c,y,b0,rfl,rfl,h0,hb⟩:=ub h;simp only[Bool.true_eq,ah,beq_iff_eq]at hb;obtain⟨rfl,rfl⟩:=hb;rw[Ld h0]
 |none::ks,p,q,h=>by
  obtain⟨a,x,c,y,b0,rfl,rfl,h0,hb⟩:=yK h;simp only[Bool.true_eq,ah,beq_iff_eq]at hb;obtain⟨rfl,rfl⟩:=hb;rw[Ld h0]
theorem Hh(n:Nat):∀{ks:List (Option IntKind)} {p q:List D} {b:Bool},BS ks p q=some b->∀{xs ys:List Value},bP g p xs->bP g p ys->xs=ys/\(xs.zip ys).all (λz=>Instr.sameBits n z.1 z.2)=true
 |[],p,q,b,h,xs,ys,hx,hy=>by
  obtain⟨rfl,rfl,_⟩:=vU h;cases hx;cases hy;exact⟨rfl,rfl⟩
 |some k::ks,p,q,b,h,xs,ys,hx,hy=>by
  obtain⟨a,x,c,y,b0,rfl,rfl,h0,hb⟩:=ub h;cases hx with
  |cons _ v1 _ vs1 h1 h2 =>
   cases hy with
   |cons _ v2 _ vs2 h3 h4 =>
    obtain rfl:=h1.eP;obtain rfl:=h3.eP;obtain⟨h5,h6⟩:=Hh n h0 h2 h4;subst h5;exact⟨rfl,by simp only[List.zip_cons_cons,jy,h6,Instr.sameBits,BEq.rfl,Bool.and_self]⟩
 |none::ks,p,q,b,h,xs,ys,hx,hy=>by
  obtain⟨a,x,c,y,b0,rfl,rfl,h0,hb⟩:=yK h;cases hx with
  |cons _ v1 _ vs1 h1 h2 =>
   cases hy with
   |cons _ v2 _ vs2 h3 h4 =>
    obtain rfl:=h1.oJ;obtain rfl:=h3.oJ;obtain⟨h5,h6⟩:=Hh n h0 h2 h4;subst h5;exact⟨rfl,by simp only[List.zip_cons_cons,jy,h6,Instr.sameBits,BEq.rfl,Bool.and_self]⟩
theorem ae2{a b:ByteArray}(h:a.data.toList=b.data.toList):a=b:=by
 apply ByteArray.ext;exact fU.1 h
theorem Y5{ky:Ky}{a b:D}{x y:Value}(h:tA ky a b=some true)(hx:bT g a x)(hy:bT g b y):x=y/\Instr.sameBits 10000 y x=true:=by
 unfold tA at h;split at h
 .split at h
  .rename_i s1 s2;simp only[ae,beq_iff_eq]at h;subst h;obtain⟨b1,rfl,h1⟩:=hx.lJ;obtain⟨b2,rfl,h2⟩:=hy.lJ;obtain rfl:=ae2 (h1.trans h2.symm);exact⟨rfl,by rw[Instr.sameBits,beq_toListBytes];exact beq_self_eq_true _⟩
  .cases h
 .rename_i ag ks;split at h
  .rename_i p q hp hq;obtain rfl:=Ld h;have h1:=wu hx hp;have h2:=wu hy hq;cases ag with
   |true =>
    simp only[wA,if_true]at h1 h2;obtain⟨xs,rfl,h3,_⟩:=h1;obtain⟨ys,rfl,h4,_⟩:=h2;obtain⟨h5,h6⟩:=Hh 9999 h h4 h3;obtain rfl:=fU.1 h5;exact⟨rfl,by simp only[Instr.sameBits,BEq.rfl,Bool.true_and];exact h6⟩
   |false =>
    simp only[wA,aD,if_false]at h1 h2;obtain⟨h5,h6⟩:=Hh 10000 h h2 h1;simp only[j6,and_true]at h5;subst h5;exact⟨rfl,by simpa using h6⟩
  .cases h
theorem LA{t:TypeId}{ky:Ky}(h:Lz P t=some ky):(P.underlying t=some .string/\ky=none)\/(∃k,P.underlying t=some (.int k)/\ky=some (false,[some k])) \/
  ∃fs ks,P.underlying t=some (.struct fs)/\lX P 20 t=some ks/\ky=some (true,ks)/\fs.toList.all (λf=>match P.underlying f.type with | some (.int _)=>true | some .bool=>true | _=>false)=true:=by
 unfold Lz at h;split at h
 .rename_i hu;cases h;exact .inl ⟨hu,rfl⟩
 .rename_i k hu;cases h;exact .inr (.inl ⟨k,hu,rfl⟩)
 .rename_i fs hu;split at h
  .rename_i hall;obtain⟨ks,hks,rfl⟩:=ad.1 h;exact .inr (.inr ⟨fs,ks,hu,hks,rfl,hall⟩)
  .cases h
 .cases h
theorem Np{t:TypeId}{ky:Ky}(hk:Lz P t=some ky){a b:D}{c:Bool}{x y:Value}(h:tA ky a b=some c)(hx:bT g a x)(hy:bT g b y):(Op.equal t x y).run P w=.ok c w:=by
 have key:∀ag ks,lX P 20 t=some ks->vu P t=some ag->tA (some (ag,ks)) a b=some c->(Op.equal t x y).run P w=.ok c w:=by
  intro ag ks hks hag hq;simp only[tA]at hq;split at hq
  case h_2=>cases hq
  rename_i p q hp hq2;obtain⟨ag',hag',_,hEq⟩:=HT (P:=P) (g:=g) (w:=w) 20 t ks hks;rw[hag]at hag';cases hag';exact hEq 10000 (by omega) p q x y c (wu hx hp) (wu hy hq2) hq
 rcases LA hk with⟨hu,rfl⟩ | ⟨k,hu,rfl⟩ | ⟨fs,ks,hu,hks,rfl,_⟩
 .simp only[tA]at h;split at h
  case h_2=>cases h
  rename_i s1 s2;cases h;obtain⟨b1,rfl,h1⟩:=hx.lJ;obtain⟨b2,rfl,h2⟩:=hy.lJ;have:=run_equalIn_string (P:=P) w 9999 t b1 b2 hu;simp only[Op.equal,Op.maxDepth];rw[this,ByteArray.toList_eq,ByteArray.toList_eq,h1,h2]
 .exact key false [some k] (by simp[lX,hu]) (by simp[vu,hu]) h
 .exact key true ks hks (by simp[vu,hu]) h
def Found(dM:List MapEntry)(r:Option (Nat×D))(g:G)(o:Option (Nat×Value))(i:Nat):Prop :=
 match r with
 |none=>o=none
 |some (j,v)=>∃e,dM[j]?=some e/\o=some (i+j,e.val)/\bT g v e.val
theorem Pj{k v:D}{a b:Value}(h:bT g (.cQ [k,v]) (.tuple #[a,b])):bT g k a/\bT g v b:=by
 cases h with
 |cQ _ _ hr =>
  cases hr with
  |cons _ _ _ _ h1 h2=>cases h2 with | cons _ _ _ _ h3 h4=>exact⟨h1,h3⟩
theorem KV{t:TypeId}{ky:Ky}(hk:Lz P t=some ky){k:D}{x:Value}(hx:bT g k x):∀(es:List D) (dM:List MapEntry) (r:Option (Nat×D)) (i:Nat),bP g es (dM.map λe => .tuple #[e.key,e.val])->qh ky k es=some r ->
  ∃o,(Instr.findAsking t x dM i).run P w=.ok o w/\Found dM r g o i
 |[],dM,r,i,hr,h=>by
  cases dM with
  |nil=>simp only[qh,ae]at h;subst h;exact⟨none,by simp[Instr.findAsking],rfl⟩
  |cons e dM=>cases hr
 |d::es,dM,r,i,hr,h=>by
  cases dM with
  |nil=>cases hr
  |cons e dM =>
   rw[aM]at hr;cases hr with
   |cons _ _ _ _ hr1 hr2 =>
   unfold qh at h;split at h
   .rename_i heq;cases heq
   .rename_i k' v es' heq;cases heq;obtain⟨hk1,hv1⟩:=Pj hr1;split at h
    .rename_i hq;cases h;have he:=Np (w:=w) hk hq hx hk1;refine⟨some (i,e.val),by simp[Instr.findAsking,he],e,rfl,by simp,hv1⟩
    .rename_i hq;simp only[ad]at h;obtain⟨r1,h1,rfl⟩:=h;have he:=Np (w:=w) hk hq hx hk1;obtain⟨o,ho,hf⟩:=KV hk hx es dM r1 (i+1) hr2 h1;refine⟨o,by simp[Instr.findAsking,he,ho],?_⟩;cases r1 with
     |none=>exact hf
     |some y =>
      obtain⟨e1,h3,h4,h5⟩:=hf;exact⟨e1,by simpa using h3,by rw[h4];congr 2;omega,h5⟩
    .cases h
   .cases h
theorem OJ{t:TypeId}{ky:Ky}{dsc:TypeDesc}{k:D}{x:Value}(hs:∀k' y c,tA ky k k'=some c->bT g k' y->Instr.sameNow dsc x y=some c):∀(es:List D) (dM:List MapEntry) (r:Option (Nat×D)) (i:Nat),bP g es (dM.map λe => .tuple #[e.key,e.val])->qh ky k es=some r ->
  ∃o,Instr.findNow dsc x dM i=some o/\Found dM r g o i
 |[],dM,r,i,hr,h=>by
  cases dM with
  |nil=>simp only[qh,ae]at h;subst h;exact⟨none,by simp[Instr.findNow],rfl⟩
  |cons e dM=>cases hr
 |d::es,dM,r,i,hr,h=>by
  cases dM with
  |nil=>cases hr
  |cons e dM =>
   rw[aM]at hr;cases hr with
   |cons _ _ _ _ hr1 hr2 =>
   unfold qh at h;split at h
   .rename_i heq;cases heq
   .rename_i k' v es' heq;cases heq;obtain⟨hk1,hv1⟩:=Pj hr1;split at h
    .rename_i hq;cases h;exact⟨some (i,e.val),by simp[Instr.findNow,hs _ _ _ hq hk1],e,rfl,by simp,hv1⟩
    .rename_i hq;simp only[ad]at h;obtain⟨r1,h1,rfl⟩:=h;obtain⟨o,ho,hf⟩:=OJ (t:=t) hs es dM r1 (i+1) hr2 h1;refine⟨o,by simp[Instr.findNow,hs _ _ _ hq hk1,ho],?_⟩;cases r1 with
     |none=>exact hf
     |some y =>
      obtain⟨e1,h3,h4,h5⟩:=hf;exact⟨e1,by simpa using h3,by rw[h4];congr 2;omega,h5⟩
    .cases h
   .cases h
theorem AF{t:TypeId}{ky:Ky}(hk:Lz P t=some ky){k:D}{x:Value}(hx:bT g k x){es:List D}{dM:List MapEntry}{r:Option (Nat×D)}(hr:bP g es (dM.map λe => .tuple #[e.key,e.val]))(h:qh ky k es=some r)
  (hself:(tA ky k k).isSome=true):∃o,(Instr.findKey t x dM).run P w=.ok o w/\Found dM r g o 0:=by
 rcases LA hk with⟨hu,rfl⟩ | ⟨kk,hu,rfl⟩ | ⟨fs,ks,hu,hks,rfl,_⟩
 .obtain⟨o,h1,h2⟩:=OJ (t:=t) (ky:=none) (k:=k) (x:=x) (dsc:=.string) (λk' y c hq hy=>by
   simp only[tA]at hq;split at hq
   case h_2=>cases hq
   cases hq;obtain⟨b1,rfl,h1⟩:=hx.lJ;obtain⟨b2,rfl,h2⟩:=hy.lJ;simp only[Instr.sameNow];rw[beq_toListBytes,ByteArray.toList_eq,ByteArray.toList_eq,h1,h2]) es dM r 0 hr h
  exact⟨o,MapKept.run_findKey hu h1,h2⟩
 .obtain⟨o,h1,h2⟩:=OJ (t:=t) (ky:=some (false,[some kk])) (k:=k) (x:=x) (dsc:=.int kk) (λk' y c hq hy=>by
   simp only[tA]at hq;split at hq
   case h_2=>cases hq
   rename_i p q hp hq2;have hx1:=wu hx hp;have hy1:=wu hy hq2;simp only[wA,aD,if_false]at hx1 hy1;obtain⟨a,xs,b,ys,b0,rfl,rfl,h0,rfl⟩:=ub hq;obtain⟨rfl,rfl,rfl⟩:=vU h0;cases hx1 with
   |cons _ _ _ _ g1 _ =>
    cases hy1 with
    |cons _ _ _ _ g2 _ =>
     obtain rfl:=g1.eP;obtain rfl:=g2.eP;simp[Instr.sameNow]) es dM r 0 hr h
  exact⟨o,MapKept.run_findKey hu h1,h2⟩
 .obtain⟨o,h1,h2⟩:=KV (w:=w) hk hx es dM r 0 hr h;refine⟨o,?_,h2⟩;rw[run_findKey_eq w (by simp[hu])];exact h1
theorem DD(em:Bool){xs:Array Value}{p:List D}(hx:bP g p xs.toList)(h1x:∀y∈xs.toList,y.oneCell'=true):
  ∀(fs:List Field) (o:Nat) (ks:List (Option IntKind)) (q:List D) (b:Bool),lX.kindsF P (lX P 19) o fs=some ks->fs.all (λf=>match P.underlying f.type with | some (.int _)=>true | some .bool=>true | _=>false)=true ->
   BS ks (p.drop o) q=some b ->
   (forIn (m:=Sem) fs PUnit.unit λf _=>do
    if f.name ≠ "_" then Instr.checkKey em 9999 f.type (<- part f.type xs f.offset)
    pure (ForInStep.yield PUnit.unit)).run P w=.ok PUnit.unit w
 |[],o,ks,q,b,hk,ha,he=>by simp
 |f::fs,o,ks,q,b,hk,ha,he=>by
  simp only[lX.kindsF]at hk;split at hk
  case h_2=>cases hk
  rename_i k1 hk1;split at hk
  case isFalse=>cases hk
  rename_i hc;obtain⟨hname,hoff,hsz,hpos⟩:=hc;simp only[ad]at hk;obtain⟨k2,hk2,rfl⟩:=hk;simp only[jy,ah]at ha;obtain⟨l1,l2⟩:=Fg _ _ _ _ he;obtain⟨b1,b2,e1,e2,rfl⟩:=yJ _ _ _ _ _ he;simp only[aV,List.length_drop]at l1 l2;have ih:=DD em hx h1x fs (o+k1.length) k2 (q.drop k1.length) b2 hk2 ha.2 (by simpa[dn]using e2);have one:∃a,(part f.type xs o).run P w=.ok a w/\(Instr.checkKey em 9999 f.type a).run P w=.ok () w:=by
   have h0:=ha.1;split at h0
   .rename_i k hu;have hk1':k1=[some k]:=by simp[lX,hu]at hk1;exact hk1.symm
    subst hk1';obtain⟨a,hpa,hra⟩:=Fo (P:=P) (w:=w) (ag:=false) (n:=1) (o:=o) (by simp[vu,hu]) hsz (λ_=>rfl) hx h1x (by simp only[aE,bd]at l1 ⊢;omega);simp only[wA,aD,if_false]at hra;obtain⟨a0,x0,c0,y0,b0,e3,_,_,_⟩:=ub e1;simp only[aE,bd,cz]at e3;rw[e3]at hra;cases hra with
    |cons _ _ _ _ g1 g2 =>
     obtain rfl:=g1.eP;exact⟨_,hpa,MapKept.run_checkKey (d:=.int k) hu (by simp[MapKept.IsKey]) em 9998⟩
   .rename_i hu;have hk1':k1=[none]:=by simp[lX,hu]at hk1;exact hk1.symm
    subst hk1';obtain⟨a,hpa,hra⟩:=Fo (P:=P) (w:=w) (ag:=false) (n:=1) (o:=o) (by simp[vu,hu]) hsz (λ_=>rfl) hx h1x (by simp only[aE,bd]at l1 ⊢;omega);simp only[wA,aD,if_false]at hra;obtain⟨a0,x0,c0,y0,b0,e3,_,_,_⟩:=yK e1;simp only[aE,bd,cz]at e3;rw[e3]at hra;cases hra with
    |cons _ _ _ _ g1 g2 =>
     obtain rfl:=g1.oJ;exact⟨_,hpa,MapKept.run_checkKey (d:=.bool) hu (by simp[MapKept.IsKey]) em 9998⟩
   .cases h0
  obtain⟨a,h1,h2⟩:=one;rw[List.forIn_cons];rw[hoff];simp only[hname,ne_eq,not_false_eq_true,if_true,Sem.run_bind,h1,h2,Result.andThen_ok,Sem.run_pure];exact ih
theorem He{t:TypeId}{ky:Ky}(hk:Lz P t=some ky){k:D}{x:Value}(hx:bT g k x)(hself:(tA ky k k).isSome=true)(em:Bool):(Instr.checkKey em 10000 t x).run P w=.ok () w:=by
 rcases LA hk with⟨hu,rfl⟩ | ⟨kk,hu,rfl⟩ | ⟨fs,ks,hu,hks,rfl,hall⟩
 .refine MapKept.run_checkKey (d:=.string) hu ?_ em 9999;obtain⟨c,hc⟩:=dJ.1 hself;simp only[tA]at hc;split at hc
  case h_2=>cases hc
  obtain⟨b1,rfl,h1⟩:=hx.lJ;simp[MapKept.IsKey]
 .refine MapKept.run_checkKey (d:=.int kk) hu ?_ em 9999;obtain⟨c,hc⟩:=dJ.1 hself;simp only[tA]at hc;split at hc
  case h_2=>cases hc
  rename_i p q hp hq2;have hx1:=wu hx hp;simp only[wA,aD,if_false]at hx1;obtain⟨a,xs,b,ys,b0,rfl,_,h0,rfl⟩:=ub hc;obtain⟨rfl,_,rfl⟩:=vU h0;cases hx1 with
  |cons _ _ _ _ g1 _ =>
   obtain rfl:=g1.eP;simp[MapKept.IsKey]
 .obtain⟨c,hc⟩:=dJ.1 hself;simp only[tA]at hc;split at hc
  case h_2=>cases hc
  rename_i p q hp hq2;have hx1:=wu hx hp;simp only[wA,if_true]at hx1;obtain⟨xs,rfl,hxr,h1x⟩:=hx1;have hks':lX.kindsF P (lX P 19) 0 fs.toList=some ks:=by
   have:=hks;rw[lX,hu]at this;dsimp only at this;split at this
   .cases this
   .exact this
  have hrun:=DD (P:=P) (w:=w) em hxr h1x fs.toList 0 ks q c hks' hall (by simpa using hc);rw[show(10000:Nat)=9999+1 from rfl,Instr.checkKey];simp only[Sem.run_bind,run_underlying hu,Result.andThen_ok];rw[<- Array.forIn_toList];simp at hrun ⊢;rw[hrun];rfl
end
section
variable {P:Program} {CR:fj} {base fb:Nat} {V:List Nat} {g:G} {J J':SK} {w:World} {B:Nat->Nat} {e:Env} {tmps:Array Value} {df:List Deferred} {d:D}
theorem Inv.Zu(hi:Inv CR base g J w){l i:Nat}(hn:fR J (.cells 0 [])=some (l,i,J')):
  Inv CR base (g.cY l i (.mp w.heap.size)) J' (w.alloc (.map #[] 0))/\Ev g w (g.cY l i (.mp w.heap.size)) (w.alloc (.map #[] 0)):=by
 obtain⟨h1,h2,h3,_,_⟩:=jV hn;have hnone:=hi.Fk h1;have hle:g.le (g.cY l i (.mp w.heap.size)):=G.jZ λL0 e=>by rw[hnone]at e;cases e
 refine⟨hi.Ih l i hle h3 (λl' i' c=>G.bN c) (λl' i' L b c e eb=>alloc_old (hi.lo l' i' L b e eb).2) ?_ ?_ ?_ ?_ (by simp) ⟨_,G.aL⟩ (λb v hb=>alloc_old (hi.jr hb)),⟨hle,rfl,rfl,rfl,by simp,λb hb _=>alloc_old hb,?_,λb o v hv => .inl hv⟩⟩
 .intro L e;rw[G.aL]at e;cases e;exact⟨_,h2,rfl,#[],0,tE,.nil,by simp[T6]⟩
 .intro b o v e;obtain⟨h1,h2⟩:=hi.oG b o v e;exact⟨(iy (alloc_old (hi.jr e))).trans h1,h2⟩
 .intro l' i' L b e eb o;by_cases c:l'=l/\i'=i
  .obtain⟨rfl,rfl⟩:=c;rw[G.aL]at e;cases e;cases eb;cases e':(g.cY l' i' (.mp w.heap.size)).oG w.heap.size o with
   |none=>rfl
   |some v=>have:=hi.jr (b:=w.heap.size) (o:=o) (v:=v) e';omega
  .rw[G.bN c]at e;exact hi.sep l' i' L b e eb o
 .intro L b e eb;rw[G.aL]at e;cases e;cases eb;refine⟨hi.ge,by simp,λl' i' L' c e' eb'=>?_⟩;have:=(hi.lo l' i' L' _ e' eb').2;omega
 .intro b hb;obtain⟨l',i',L,e,eb⟩:=hb;by_cases c:l'=l/\i'=i
  .obtain⟨rfl,rfl⟩:=c;rw[G.aL]at e;cases e;cases eb;exact .inr (aN _)
  .rw[G.bN c]at e;exact .inl ⟨l',i',L,e,eb⟩
theorem Inv.afD(hi:Inv CR base g J w){l i T ee:Nat}(hn:fR J (.cells 2 [.int .i64 (T:Nat),.int .i64 (ee:Nat),.str []])=some (l,i,J')):
  Inv CR base (g.cY l i (.ob w.heap.size none)) J' (w.alloc (.cells #[.pointer none,.slice none 0 0] T))/\Ev g w (g.cY l i (.ob w.heap.size none)) (w.alloc (.cells #[.pointer none,.slice none 0 0] T)):=by
 obtain⟨h1,h2,h3,_,_⟩:=jV hn;have hnone:=hi.Fk h1;have hle:g.le (g.cY l i (.ob w.heap.size none)):=G.jZ λL0 e=>by rw[hnone]at e;cases e
 have hown:∀b,(Loc.ob w.heap.size none).owns b->w.heap.size=b:=λb h=>by
  rcases h with h | h
  .exact h
  .cases h
 refine⟨hi.Ih l i hle h3 (λl' i' c=>G.bN c) (λl' i' L b c e eb=>alloc_old (hi.lo l' i' L b e eb).2) ?_ ?_ ?_ ?_ (by simp) ⟨_,G.aL⟩ (λb v hb=>alloc_old (hi.jr hb)),⟨hle,rfl,rfl,rfl,by simp,λb hb _=>alloc_old hb,?_,λb o v hv => .inl hv⟩⟩
 .intro L e;rw[G.aL]at e;cases e;exact⟨_,h2,rfl,T,ee,[],.pointer none,.slice none 0 0,rfl,tE,.inl rfl,World.ownsRowF_nil _ _ _ _,rfl,by simp⟩
 .intro b o v e;obtain⟨h1,h2⟩:=hi.oG b o v e;exact⟨(iy (alloc_old (hi.jr e))).trans h1,h2⟩
 .intro l' i' L b e eb o;by_cases c:l'=l/\i'=i
  .obtain⟨rfl,rfl⟩:=c;rw[G.aL]at e;cases e;obtain rfl:=hown b eb;cases e':(g.cY l' i' (.ob w.heap.size none)).oG w.heap.size o with
   |none=>rfl
   |some v=>have:=hi.jr (b:=w.heap.size) (o:=o) (v:=v) e';omega
  .rw[G.bN c]at e;exact hi.sep l' i' L b e eb o
 .intro L b e eb;rw[G.aL]at e;cases e;obtain rfl:=hown b eb;refine⟨hi.ge,by simp,λl' i' L' c e' eb'=>?_⟩;have:=(hi.lo l' i' L' _ e' eb').2;omega
 .intro b hb;obtain⟨l',i',L,e,eb⟩:=hb;by_cases c:l'=l/\i'=i
  .obtain⟨rfl,rfl⟩:=c;rw[G.aL]at e;cases e;obtain rfl:=hown b eb;exact .inr (aN _)
  .rw[G.bN c]at e;exact .inl ⟨l',i',L,e,eb⟩
theorem Inv.ZX(hi:Inv CR base g J w){l i b:Nat}{b0:aF}{es:List D}(hL:g.loc l i=some (.mp b))(hb:ec J l i=some b0){dM:Array MapEntry}{clock:Nat}
  (hr:bP g es (dM.toList.map λe => .tuple #[e.key,e.val])) (hm:T6 dM.toList clock) {w':World} (hw:w'={w with heap:=w.heap.setIfInBounds b (.map dM clock) }):
  Inv CR base (g.cY l i (.mp b)) (bj J l i (.cells 0 es)) w'/\Ev g w (g.cY l i (.mp b)) w':=by
 subst hw;have hlt:=(hi.lo l i _ b hL rfl).2;have hle:g.le (g.cY l i (.mp b)):=G.jZ λL0 e=>by rw[hL]at e;cases e;exact Loc.le_refl _
 refine hi.setCells hL hb (Loc.le_refl _) ⟨rfl,dM,clock,by simp[hlt],hr.mono hle,hm⟩ (λb' hb' hne=>?_) rfl rfl rfl (by simp) (λb' hb' => .inl hb');have:b≠b':=λhh=>hne (by rw[hh];rfl)
 simp[this]
theorem Cr(hi:Inv CR base g J w){m:D}{c:Value}(hr:bT g m c){l i:Nat}{es:List D}(h:DZ J m=some (l,i,es)):
  ∃b dM clock v,c=.map (some b)/\g.loc l i=some (.mp b)/\ec J l i=some (.cells v es)/\w.heap[b]?=some (.map dM clock)/\bP g es (dM.toList.map λe => .tuple #[e.key,e.val])/\T6 dM.toList clock:=by
 obtain⟨rfl,hcs⟩:=QZ h;unfold cells? at hcs;split at hcs
 case h_2=>cases hcs
 rename_i v' cs' hblk;split at hcs
 case isFalse=>cases hcs
 cases hcs;cases hr with
 |j5 _ _ b hl =>
  obtain⟨b0,hb0,hrel⟩:=hi.ym l i _ hl;rw[hblk]at hb0;cases hb0;exact hrel.elim
 |Uw _ _ b hl =>
  obtain⟨b0,hb0,hrel⟩:=hi.ym l i _ hl;rw[hblk]at hb0;cases hb0;obtain⟨_,dM,clock,h1,h2,h3⟩:=hrel;exact⟨b,dM,clock,v',rfl,hl,hblk,h1,h2,h3⟩
 |Y2 _ _ b L hl hc =>
  obtain⟨b0,hb0,hrel⟩:=hi.ym l i _ hl;rw[hblk]at hb0;cases hb0;rcases hc with rfl | rfl
  .rename_i hv0;obtain⟨hv1,_⟩:=hrel;omega
  .exact hrel.elim
 |VE _ _ b L hl hc =>
  obtain⟨b0,hb0,hrel⟩:=hi.ym l i _ hl;rw[hblk]at hb0;cases hb0;rcases hc with⟨c,rfl⟩ | rfl
  .rename_i hv0;obtain⟨hv1,_⟩:=hrel;omega
  .exact hrel.elim
theorem ajJ(hi:Inv CR base g J w){t:TypeId}{ρ:Operand->Value}(h:bX e J (.mp .make [])=some (d,J'))(o:Oper)(ho:o.op=.makeMap t none):fk P CR base g w B e ρ o d J':=by
 simp only[bX,b9,DT,ad,au,Prod.exists]at h;obtain⟨l,i,J1,hn,rfl,rfl⟩:=h;obtain⟨i1,e1⟩:=hi.Zu hn;exact .val (.map (some w.heap.size)) (by
  have hrun:(Instr.makeMap t none).run P w=.ok (.map (some w.heap.size)) (w.alloc (.map #[] 0)):=rfl;simp only[execOp,ho,Option.map_none,Sem.run_bind,hrun,Result.andThen_ok,Sem.run_pure]) e1 i1 (.Uw l i _ G.aL)
theorem ajG(hi:Inv CR base g J w){el ee:TypeId}{ρ:Operand->Value}(hz:rM P el=some [.zK,.bu])
  (h:bX e J (.mp (.Ml el ee) [])=some (d,J')) (o:Oper) (ho:o.op=.alloc el):fk P CR base g w B e ρ o d J':=by
 obtain⟨i0,v,hinfo,hzero,hrz,h1⟩:=tP g hz;simp only[bX,b9,DT,ad,au,Prod.exists]at h;obtain⟨l,i,J1,hn,rfl,rfl⟩:=h;obtain⟨i1,e1⟩:=hi.afD hn;have hv:v.cells = #[.pointer none,.slice none 0 0]:=by
  generalize v.cells=a at hrz;obtain⟨a⟩:=a;dsimp only at hrz;cases hrz with
  |cons _ c _ cs k1 k2 =>
   cases k2 with
   |cons _ c2 _ cs2 k3 k4 =>
    cases k4;cases k1;cases k3;rfl
 have hrun:=I3 (w:=w) hinfo hzero;rw[hv]at hrun;exact .val (.pointer (some ⟨w.heap.size,0,none⟩)) (by simp[execOp,ho,hrun]) e1 i1 (.VE l i _ _ G.aL (.inl ⟨_,rfl⟩))
theorem agy(hi:Inv CR base g J w){t kt et:TypeId}{ik:IntKind}{n:Int}(h:bX e J (.mp .make [])=some (d,J'))(ht:P.underlying t=some (.map kt et))(o:Oper)(ho:o.op=.makeMap t (some (.const (.int ik n)))):fk P CR base g w B e (Act.mk tmps df).eval o d J':=by
 simp only[bX,b9,DT,ad,au,Prod.exists]at h;obtain⟨l,i,J1,hn,rfl,rfl⟩:=h;obtain⟨i1,e1⟩:=hi.Zu hn;exact .val (.map (some w.heap.size)) (by
  have hrun:(Instr.makeMap t (some (.int ik n))).run P w=.ok (.map (some w.heap.size)) (w.alloc (.map #[] 0)):=by
   simp only[Instr.makeMap,Sem.run_bind,bG ht,Result.andThen_ok];rfl
  have hev:(Act.mk tmps df).eval (.const (.int ik n))=.int ik n:=rfl;simp only[execOp,ho,bf,hev,Sem.run_bind,hrun,Result.andThen_ok,Sem.run_pure]) e1 i1 (.Uw l i _ G.aL)
theorem agz(hf:Fr fb V g w B e tmps)(hi:Inv CR base g J w){x:Operand}{X:bS}{t kt et:TypeId}{args:Array Operand}{ts:Array TypeId}{r:List Operand}{tr:List TypeId}(hx:bR x=some X)
  (ht:P.underlying t=some (.map kt et)) (ha:args.toList=x::r) (hts:ts.toList=t::tr)
  (h:bX e J (.mp .len [X])=some (d,J')) (o:Oper) (ho:o.op=.call {callee:=.builtin .len,args,argTypes:=ts }):fk P CR base g w B e (Act.mk tmps df).eval o d J':=by
 have hr:=hf.bC (df:=df) hx;obtain rfl:args=(x::r).toArray:=by rw[<- ha]
 obtain rfl:ts=(t::tr).toArray:=by rw[<- hts]
 simp only[bX,aM,b9,DT,ad,au,Prod.exists]at h;obtain⟨l,i,es,hm,rfl,rfl⟩:=h;obtain⟨b,dM,clock,v,hc,hl,hblk,hheap,hrel,hok⟩:=Cr hi hr hm;have hlen:=hrel.length;simp only[bH,Array.length_toList]at hlen;refine .pure hi (c:=.int .i64 dM.size) ?_ (by rw[hlen];exact cZ.of (.int _ _));simp[execOp,ho,resolve,invoke,builtin,Builtin.len_,hc,bG ht,goInt,MapKept.run_getObj_map hheap]
theorem Pl{t:TypeId}{z:D}(g:G)(h:zvC P t=some z):∃i v,P.info? t=some i/\i.zero=some v/\bT g z v:=by
 unfold zvC at h;split at h
 .rename_i i hi;split at h
  .rename_i v hv;exact⟨i,v,hi,hv,K3 g h⟩
  .cases h
 .cases h
theorem agx(hf:Fr fb V g w B e tmps)(hi:Inv CR base g J w){x y:Operand}{X Y:bS}{t kt et:TypeId}{ky:Ky}{z:D}{ok:Bool}(hx:bR x=some X)(hy:bR y=some Y)
  (ht:P.underlying t=some (.map kt et)) (hk:Lz P kt=some ky) (hz:zvC P et=some z)
  (h:bX e J (.mp (.get ky z ok) [X,Y])=some (d,J')) (o:Oper) (ho:o.op=.lookup t x y ok):fk P CR base g w B e (Act.mk tmps df).eval o d J':=by
 have hr:=hf.bC (df:=df) hx;have hr':=hf.bC (df:=df) hy;simp only[bX,aM,b9,DT]at h;split at h
 case h_2=>cases h
 rename_i l i es hm;split at h
 case isFalse=>cases h
 rename_i hself;obtain⟨b,dM,clock,v,hc,hl,hblk,hheap,hrel,hok⟩:=Cr hi hr hm;have hck:=He (w:=w) hk hr' hself dM.isEmpty;obtain⟨iz,zv,hz1,hz2,hz3⟩:=Pl g hz;split at h
 .rename_i j v1 hfk;cases h;obtain⟨o1,ho1,e1,_,rfl,hv1⟩:=AF (w:=w) hk hr' hrel hfk hself;cases ok
  .refine .pure hi (c:=e1.val) ?_ (cZ.of (by simpa using hv1));simp[execOp,ho,Instr.lookup,bG ht,hc,MapKept.run_getObj_map hheap,hck,ho1]
  .refine .pure hi (c:=.tuple #[e1.val,.bool true]) ?_ (cZ.of (by simpa using bT.cQ _ #[e1.val,.bool true] (.cons _ _ _ _ hv1 (.cons _ _ _ _ (.bool true) .nil))));simp[execOp,ho,Instr.lookup,bG ht,hc,MapKept.run_getObj_map hheap,hck,ho1]
 .rename_i hfk;cases h;obtain⟨o1,ho1,hf1⟩:=AF (w:=w) hk hr' hrel hfk hself;obtain rfl:o1=none:=hf1;cases ok
  .refine .pure hi (c:=zv) ?_ (cZ.of (by simpa using hz3));simp[execOp,ho,Instr.lookup,bG ht,hc,MapKept.run_getObj_map hheap,hck,ho1,gI hz1 hz2]
  .refine .pure hi (c:=.tuple #[zv,.bool false]) ?_ (cZ.of (by simpa using bT.cQ _ #[zv,.bool false] (.cons _ _ _ _ hz3 (.cons _ _ _ _ (.bool false) .nil))));simp[execOp,ho,Instr.lookup,bG ht,hc,MapKept.run_getObj_map hheap,hck,ho1,gI hz1 hz2]
 .cases h
theorem bP.set{g:G}:∀{ds:List D} {cs:List Value} {j:Nat} {d:D} {c:Value},bP g ds cs->bT g d c->bP g (ds.set j d) (cs.set j c)
 |[],[],_,_,_,_,_=>by simpa using bP.nil
 |_::_,_::_,0,_,_,.cons _ _ _ _ h1 h2,h => .cons _ _ _ _ h h2
 |_::_,_::_,j+1,_,_,.cons _ _ _ _ h1 h2,h => .cons _ _ _ _ h1 (h2.set h)
theorem ZW(hf:Fr fb V g w B e tmps)(hi:Inv CR base g J w){x y u:Operand}{X Y U:bS}{t kt et:TypeId}{ky:Ky}(hx:bR x=some X)(hy:bR y=some Y)(hu:bR u=some U)
  (ht:P.underlying t=some (.map kt et)) (hk:Lz P kt=some ky)
  (h:bX e J (.mp (.put ky) [X,Y,U])=some (d,J')) (o:Oper) (ho:o.op=.mapUpdate t x y u\/o.op=.insert t x y u):fk P CR base g w B e (Act.mk tmps df).eval o d J':=by
 have hr:=hf.bC (df:=df) hx;have hr':=hf.bC (df:=df) hy;have hru:=hf.bC (df:=df) hu;simp only[bX,aM,b9,DT]at h;split at h
 case h_2=>cases h
 rename_i l i es hm;split at h
 case isFalse=>cases h
 rename_i hself;obtain⟨b,dM,clock,v,hc,hl,hblk,hheap,hrel,hok⟩:=Cr hi hr hm;have hck:=He (w:=w) hk hr' hself.1 false;generalize hkv:(Act.mk tmps df).eval y=kv at *
 generalize huv:(Act.mk tmps df).eval u=uv at *
 have hnew:bT g (.cQ [bC e Y,bC e U]) (.tuple #[kv,uv]):=.cQ _ _ (.cons _ _ _ _ hr' (.cons _ _ _ _ hru .nil));split at h
 .rename_i j v1 hfk;cases h;obtain⟨o1,ho1,e1,he1,rfl,hv1⟩:=AF (w:=w) hk hr' hrel hfk hself.1;obtain⟨k',hk',hkq⟩:=Nd hfk;have hj:dM[j]?=some e1:=by simpa using he1
  have hold:bT g k' e1.key:=by
   obtain⟨c0,hc0,hr0⟩:=hrel.get hk';rw[l9,he1]at hc0;cases hc0;exact(Pj hr0).1
  obtain⟨hsame,hbits⟩:=Y5 hkq hr' hold;have hlist:(dM.modify j λe=>{e with key:=kv,val:=uv }).toList=dM.toList.set j {e1 with key:=kv,val:=uv }:=by
   rw[Array.toList_modify];apply eC;intro n;rw[List.getElem?_modify,List.getElem?_set];by_cases hn:j=n
   .subst hn;have hlt:=(aA.1 he1).1;have hlt2:j<dM.size:=by simpa using hlt
    have hje:dM[j]=e1:=(dk.1 hj).2;simp[he1,hlt2,hje]
   .simp[hn]
  obtain⟨i1,ev1⟩:=hi.ZX (es:=es.set j (.cQ [bC e Y,bC e U])) (dM:=dM.modify j λe=>{e with key:=kv,val:=uv }) (clock:=clock) (w':={w with heap:=w.heap.setIfInBounds b (.map (dM.modify j λe=>{e with key:=kv,val:=uv }) clock) }) hl hblk (by
    rw[hlist,List.map_set];exact hrel.set hnew) (by
    have hlt:=(aA.1 he1);rw[hlist];refine⟨?_,by rw[List.length_set];exact hok.2⟩;rw[List.map_set,List.length_set];have:(dM.toList.map (·.born)).set j e1.born=dM.toList.map (·.born):=by
     apply eC;intro n;rw[List.getElem?_set];by_cases hn:j=n
     .subst hn;have hlt2:j<dM.size:=by simpa using hlt.1
      have hje:dM[j]=e1:=(dk.1 hj).2;simp[he1,hlt2,hje]
     .simp[hn]
    rw[this];exact hok.1) rfl
  refine⟨.skip,Go.undef,_,_,?_,rfl,ev1,i1,.undef _⟩;have hkts:∀w:World,(Instr.keyThatStays e1.key kv).run P w=.ok kv w:=λw=>by simp[Instr.keyThatStays,hbits]
  rcases ho with ho | ho<;>simp[execOp,ho,Instr.mapUpdate,bG ht,hc,hkv,huv,MapKept.run_getObj_map hheap,hck,ho1,hj,hkts,MapKept.run_setObj_map _ hheap]
 .rename_i hfk;cases h;obtain⟨o1,ho1,hf1⟩:=AF (w:=w) hk hr' hrel hfk hself.1;obtain rfl:o1=none:=hf1;obtain⟨i1,ev1⟩:=hi.ZX (es:=es++[.cQ [bC e Y,bC e U]]) (dM:=dM.push {key:=kv,val:=uv,born:=clock }) (clock:=clock+1) (w':={w with heap:=w.heap.setIfInBounds b (.map (dM.push {key:=kv,val:=uv,born:=clock }) (clock+1)) }) hl hblk (by
    rw[Array.toList_push,List.map_append];exact hrel.append (.cons _ _ _ _ hnew .nil)) (by
    rw[Array.toList_push];have h2:=hok.2;refine⟨?_,by simp only[aV,aE,bd];omega⟩;rw[List.map_append,hok.1,aV,aE,bd,cz,List.range_succ];simp only[aM,b9,h2]) rfl
  refine⟨.skip,Go.undef,_,_,?_,rfl,ev1,i1,.undef _⟩;rcases ho with ho | ho<;>simp[execOp,ho,Instr.mapUpdate,bG ht,hc,hkv,huv,MapKept.run_getObj_map hheap,hck,ho1,MapKept.run_setObj_map _ hheap]
 .cases h
theorem Inv.acf(hi:Inv CR base g J w){l i lm im bm n:Nat}(hn:fR J (.cells 1 [.j5 lm im,.int .i64 (n:Nat)])=some (l,i,J'))(hm:g.loc lm im=some (.mp bm)):
  Inv CR base (g.cY l i (.it w.heap.size)) J' (w.alloc (.mapIter (some bm) n #[] n))/\Ev g w (g.cY l i (.it w.heap.size)) (w.alloc (.mapIter (some bm) n #[] n)):=by
 obtain⟨h1,h2,h3,_,_⟩:=jV hn;have hnone:=hi.Fk h1;have hle:g.le (g.cY l i (.it w.heap.size)):=G.jZ λL0 e=>by rw[hnone]at e;cases e
 refine⟨hi.Ih l i hle h3 (λl' i' c=>G.bN c) (λl' i' L b c e eb=>alloc_old (hi.lo l' i' L b e eb).2) ?_ ?_ ?_ ?_ (by simp) ⟨_,G.aL⟩ (λb v hb=>alloc_old (hi.jr hb)),⟨hle,rfl,rfl,rfl,by simp,λb hb _=>alloc_old hb,?_,λb o v hv => .inl hv⟩⟩
 .intro L e;rw[G.aL]at e;cases e;have hm2:(g.cY l i (.it w.heap.size)).loc lm im=some (.mp bm):=by
   rw[G.bN λhh=>by rw[hh.1,hh.2,hnone]at hm;cases hm];exact hm
  exact⟨_,h2,rfl,lm,im,bm,n,[],rfl,hm2,tE,List.nodup_nil,by simp⟩
 .intro b o v e;obtain⟨h1,h2⟩:=hi.oG b o v e;exact⟨(iy (alloc_old (hi.jr e))).trans h1,h2⟩
 .intro l' i' L b e eb o;by_cases c:l'=l/\i'=i
  .obtain⟨rfl,rfl⟩:=c;rw[G.aL]at e;cases e;cases eb;cases e':(g.cY l' i' (.it w.heap.size)).oG w.heap.size o with
   |none=>rfl
   |some v=>have:=hi.jr (b:=w.heap.size) (o:=o) (v:=v) e';omega
  .rw[G.bN c]at e;exact hi.sep l' i' L b e eb o
 .intro L b e eb;rw[G.aL]at e;cases e;cases eb;refine⟨hi.ge,by simp,λl' i' L' c e' eb'=>?_⟩;have:=(hi.lo l' i' L' _ e' eb').2;omega
 .intro b hb;obtain⟨l',i',L,e,eb⟩:=hb;by_cases c:l'=l/\i'=i
  .obtain⟨rfl,rfl⟩:=c;rw[G.aL]at e;cases e;cases eb;exact .inr (aN _)
  .rw[G.bN c]at e;exact .inl ⟨l',i',L,e,eb⟩
theorem ajM(hf:Fr fb V g w B e tmps)(hi:Inv CR base g J w){x:Operand}{X:bS}{t kt et:TypeId}(hx:bR x=some X)(ht:P.underlying t=some (.map kt et))
  (h:bX e J (.mp .rng [X])=some (d,J')) (o:Oper) (ho:o.op=.range t x):fk P CR base g w B e (Act.mk tmps df).eval o d J':=by
 have hr:=hf.bC (df:=df) hx;simp only[bX,aM,b9,DT]at h;split at h
 case h_2=>cases h
 rename_i lm im es hm;obtain⟨b,dM,clock,v,hc,hl,hblk,hheap,hrel,hok⟩:=Cr hi hr hm;simp only[ad,au,Prod.exists]at h;obtain⟨l,i,J1,hn,rfl,rfl⟩:=h;have hlen:=hrel.length;simp only[bH]at hlen;have hck:clock=es.length:=by rw[hlen];exact hok.2
 obtain⟨i1,e1⟩:=hi.acf hn hl;have hrun:=run_range_map (P:=P) w t kt et b dM clock ht hheap;rw[hck]at hrun;exact .val (.pointer (some ⟨w.heap.size,0,none⟩)) (by simp[execOp,ho,hc,hrun]) e1 i1 (.Y2 l i _ _ G.aL (.inl rfl))
theorem ajy(hf:Fr fb V g w B e tmps)(hi:Inv CR base g J w){x:Operand}{X:bS}(hx:bR x=some X)
  (h:bX e J (.mp .ent [X])=some (d,J')) (o:Oper) (ho:o.op=.entry x):fk P CR base g w B e (Act.mk tmps df).eval o d J':=by
 have hr:=hf.bC (df:=df) hx;simp only[bX,aM,b9]at h;generalize bC e X=dx at hr h;cases dx<;>simp only[DT,reduceCtorEq]at h;rename_i l i;split at h
 case h_2=>cases h
 rename_i m n j rest hcs;split at h
 case h_2=>cases h
 rename_i lm im es hm;split at h
 case isFalse=>cases h
 rename_i hlen;split at h
 case h_2=>cases h
 rename_i k v hj;cases h;unfold cells? at hcs;split at hcs
 case h_2=>cases hcs
 rename_i v' cs' hblk;split at hcs
 case isFalse=>cases hcs
 rename_i hv1;cases hcs;generalize hcv:(Act.mk tmps df).eval x=cv at hr;cases hr with
 |j5 _ _ b hl =>
  obtain⟨b0,hb0,hrel⟩:=hi.ym l i _ hl;rw[hblk]at hb0;cases hb0;exact hrel.elim
 |Uw _ _ b hl =>
  obtain⟨b0,hb0,hrel⟩:=hi.ym l i _ hl;rw[hblk]at hb0;cases hb0;have:=hrel.1;omega
 |VE _ _ b L hl hc =>
  obtain⟨b0,hb0,hrel⟩:=hi.ym l i _ hl;rw[hblk]at hb0;cases hb0;rcases hc with⟨c,rfl⟩ | rfl
  .have:=hrel.1;omega
  .exact hrel.elim
 |Y2 _ _ b L hl hc =>
  obtain⟨b0,hb0,hrel⟩:=hi.ym l i _ hl;rw[hblk]at hb0;cases hb0;rcases hc with rfl | rfl
  rotate_left
  .exact hrel.elim
  obtain⟨_,lm',im',bm,n',js,hcs,hlm,hheap,hnd,hlt⟩:=hrel;cases js with
  |nil=>simp at hcs
  |cons j' js =>
   simp only[aM,j6,D.int.injEq,true_and]at hcs;obtain⟨rfl,rfl,rfl,_⟩:=hcs;obtain⟨b2,dM,clock,v2,hc2,hl2,hblk2,hheap2,hrel2,hok⟩:=Cr hi (.Uw lm' im' bm hlm) hm;cases hc2;have hlen2:=hrel2.length;simp only[bH]at hlen2;obtain⟨c0,hc0,hr0⟩:=hrel2.get hj;rw[l9]at hc0;simp only[Int.toNat_natCast]at hc0;obtain⟨e1,he1,rfl⟩:=ad.1 hc0;have hborn:e1.born=j':=by
    have h1:=congrArg (λl=>l[j']?) hok.1;simp only[l9,he1,bf]at h1;have h2:=(aA.1 he1).1;rw[List.getElem?_range h2]at h1;exact Option.some.inj h1
   have hck:clock=n':=by have:=hok.2;omega
   have hnd2:(dM.toList.map (·.born)).Nodup:=by rw[hok.1];exact List.nodup_range
   have hit:w.heap[b]?=some (.mapIter (some bm) n' (js.reverse.toArray.push e1.born) clock):=by
    rw[hheap,hborn,hck];simp
   have hrun:=run_entry_at (P:=P) w b bm n' js.reverse.toArray dM clock e1 hit hheap2 (ai he1) hnd2;refine .pure hi (c:=.tuple #[e1.key,e1.val]) ?_ (cZ.of hr0);simp[execOp,ho,hcv,hrun]
end
variable {P:Program} {CR:fj} {base fb:Nat} {V:List Nat} {g:G} {J J':SK} {w:World} {B:Nat->Nat} {e:Env} {tmps:Array Value} {df:List Deferred} {d:D}
theorem ajI(hf:Fr fb V g w B e tmps)(hi:Inv CR base g J w){x:Operand}{X:bS}{t:TypeId}(hx:bR x=some X)(hc:P.concrete t=true)
  (h:bX e J (.Zk t X)=some (d,J')) (o:Oper) (ho:o.op=.makeInterface t x):fk P CR base g w B e (Act.mk tmps df).eval o d J':=by
 have hr:=hf.bC (df:=df) hx;simp only[bX,ae,au]at h;obtain⟨rfl,rfl⟩:=h;exact .pure hi (c:=.iface t ((Act.mk tmps df).eval x)) (by simp[execOp,ho,run_makeInterface w t _ hc]) (cZ.of (.uJ t _ _ hr))
theorem ad1(hf:Fr fb V g w B e tmps)(hi:Inv CR base g J w){x:Operand}{X:bS}{t xt:TypeId}{dsc:TypeDesc}{ok:Bool}{z:Option D}(hx:bR x=some X)(ht:P.underlying t=some dsc)(hn:∀ms,dsc ≠ .interface ms)
  (hz:if ok then ∃z0,z=some z0/\zvC P t=some z0 else z=none)
  (h:bX e J (.tas t z X)=some (d,J')) (o:Oper) (ho:o.op=.typeAssert x xt t ok):fk P CR base g w B e (Act.mk tmps df).eval o d J':=by
 have hr:=hf.bC (df:=df) hx;simp only[bX,ad,au]at h;obtain⟨d0,h,rfl,rfl⟩:=h;generalize hcx:(Act.mk tmps df).eval x=cx at hr;generalize bC e X=dx at hr h;cases hr with
 |uJ t' d1 c h1 =>
  simp only[Tl]at h;cases ok with
  |true =>
   simp only[if_true]at hz;obtain⟨z0,rfl,hz⟩:=hz;obtain⟨iz,zv,hz1,hz2,hz3⟩:=Pl g hz;simp only[ae]at h;by_cases htt:t'=t
   .rw[if_pos htt]at h;subst h;refine .pure hi (c:=.tuple #[c,.bool true]) ?_ (cZ.of (.cQ _ #[c,.bool true] (.cons _ _ _ _ h1 (.cons _ _ _ _ (.bool true) .nil))));simp only[execOp,ho,hcx,Instr.typeAssert,Sem.run_bind,run_underlying ht,Result.andThen_ok];cases dsc<;>first | exact absurd rfl (hn _) | simp[htt]
   .rw[if_neg htt]at h;subst h;refine .pure hi (c:=.tuple #[zv,.bool false]) ?_ (cZ.of (.cQ _ #[zv,.bool false] (.cons _ _ _ _ hz3 (.cons _ _ _ _ (.bool false) .nil))));simp only[execOp,ho,hcx,Instr.typeAssert,Sem.run_bind,run_underlying ht,Result.andThen_ok];cases dsc<;>first | exact absurd rfl (hn _) | simp[htt,gI hz1 hz2]
  |false =>
   simp only[aD,if_false]at hz;subst hz;simp only at h;split at h
   case isFalse=>cases h
   rename_i htt;cases h;refine .pure hi (c:=c) ?_ (cZ.of h1);simp only[execOp,ho,hcx,Instr.typeAssert,Sem.run_bind,run_underlying ht,Result.andThen_ok];cases dsc<;>first | exact absurd rfl (hn _) | simp[htt]
 |od =>
  simp only[Tl,ad]at h;obtain⟨z1,rfl,rfl⟩:=h;cases ok with
  |true =>
   simp only[if_true]at hz;obtain⟨z0,hz0,hz⟩:=hz;cases hz0;obtain⟨iz,zv,hz1,hz2,hz3⟩:=Pl g hz;refine .pure hi (c:=.tuple #[zv,.bool false]) ?_ (cZ.of (.cQ _ #[zv,.bool false] (.cons _ _ _ _ hz3 (.cons _ _ _ _ (.bool false) .nil))));simp only[execOp,ho,hcx,Instr.typeAssert,Sem.run_bind,run_underlying ht,Result.andThen_ok];cases dsc<;>first | exact absurd rfl (hn _) | simp[gI hz1 hz2]
  |false=>simp at hz
 |_=>simp[Tl]at h
theorem I4{t:TypeId}{ms:Array (String×TypeId)}(n:Nat)(ht:P.underlying t=some (.interface ms))(w:World):(Op.equalIn (n+1) t .nilIface .nilIface).run P w=.ok true w:=by
 rw[Op.equalIn];simp[run_underlying ht]
theorem J3{t t':TypeId}{c:Value}{ms:Array (String×TypeId)}(n:Nat)(ht:P.underlying t=some (.interface ms))(w:World):(Op.equalIn (n+1) t (.iface t' c) .nilIface).run P w=.ok false w:=by
 rw[Op.equalIn];simp[run_underlying ht]
theorem LU{t:TypeId}{ms:Array (String×TypeId)}(ht:P.underlying t=some (.interface ms))(w:World):(Op.equal t .nilIface .nilIface).run P w=.ok true w:=I4 9999 ht w
theorem MC{t t':TypeId}{c:Value}{ms:Array (String×TypeId)}(ht:P.underlying t=some (.interface ms))(w:World):(Op.equal t (.iface t' c) .nilIface).run P w=.ok false w:=J3 9999 ht w
theorem adY(hf:Fr fb V g w B e tmps)(hi:Inv CR base g J w){x:Operand}{X:bS}{t u:TypeId}{ms:Array (String×TypeId)}{neg:Bool}(hx:bR x=some X)(ht:P.underlying t=some (.interface ms))
  (h:bX e J (.isi neg X)=some (d,J')) (o:Oper) (ho:o.op=.binOp (if neg then .neq else .eql) t x (.const .nilIface) u):fk P CR base g w B e (Act.mk tmps df).eval o d J':=by
 have hr:=hf.bC (df:=df) hx;simp only[bX,ad,au]at h;obtain⟨b,h,rfl,rfl⟩:=h;have hev:(Act.mk tmps df).eval (.const .nilIface)=.nilIface:=rfl;generalize hcx:(Act.mk tmps df).eval x=cx at hr;generalize bC e X=dx at hr h;cases hr with
 |od =>
  cases h;refine .pure hi (c:=.bool (if neg then false else true)) ?_ (cZ.of (by cases neg<;>exact .bool _));cases neg<;>simp[execOp,ho,hcx,hev,eqGuard,binOp,LU ht]
 |uJ t' d1 c h1 =>
  cases h;refine .pure hi (c:=.bool (if neg then true else false)) ?_ (cZ.of (by cases neg<;>exact .bool _));cases neg<;>simp[execOp,ho,hcx,hev,eqGuard,binOp,MC ht]
 |_=>cases h
section
variable {P:Program} {CR:fj} {base fb:Nat} {V:List Nat} {g:G} {J J':SK} {w:World} {B:Nat->Nat} {e:Env} {tmps:Array Value} {df:List Deferred}
 {a:tT} {ops:Array Oper} {key:Nat} {k:K} {d:D}
theorem Sr(hf:Fr fb V g w B e tmps)(hi:Inv CR base g J w){x y:Operand}{X Y:bS}{t u:TypeId}{b:BinOp}(hx:bR x=some X)(hy:bR y=some Y)
  (hk:eqC P b t X Y=some k) (h:bX e J k=some (d,J')) (o:Oper) (ho:o.op=.binOp b t x y u):fk P CR base g w B e (Act.mk tmps df).eval o d J':=by
 unfold eqC at hk;split at hk
 case h_2=>cases hk
 rename_i ks hks;split at hk
 .cases hk
 rename_i hg;have hg':P.eqGuardType P.depth t=false:=by simpa using hg
 split at hk
 .obtain⟨ag,hag,rfl⟩:=ad.1 hk;exact adX hf hi hx hy hks hag hg' h o (by simpa using ho)
 .obtain⟨ag,hag,rfl⟩:=ad.1 hk;exact adX hf hi hx hy hks hag hg' h o (by simpa using ho)
 .cases hk
theorem acI{ag:Bool}{sz:Nat}{X:bS}{r:D×SK}(h:bX e J (.Y7 ag sz X)=some r):bX e J (.ld ag sz X)=some r:=by
 simp only[bX]at h ⊢;cases hx:bC e X<;>rw[hx]at h<;>try (cases h;done)
 simpa[IZ]using h
theorem acH{ag:Bool}{sz:Nat}{X:bS}{r:D×SK}(h:bX e J (.Wz ag sz X)=some r):bX e J (.ld ag sz X)=some r:=by
 simp only[bX]at h ⊢;cases hr:WE J (bC e X)with
 |none=>rw[hr]at h;cases h
 |some cs =>
  rw[hr]at h;have:IZ J (bC e X)=some cs:=by
   generalize bC e X=dx at hr;unfold WE at hr;split at hr
   .exact hr
   .cases hr
  rw[this];exact h
theorem FJ{w:World}(d:Nat){t el:TypeId}{a:Option Addr}(h:P.underlying t=some (.pointer el)):(Op.equalIn (d+1) t (.pointer a) (.pointer none)).run P w=.ok a.isNone w:=by
 cases a<;>simp[Op.equalIn,bG h]
theorem D3{w:World}(d:Nat){t el:TypeId}{a:Option Addr}{n c:Nat}(h:P.underlying t=some (.slice el)):(Op.equalIn (d+1) t (.slice a n c) (.slice none 0 0)).run P w=.ok a.isNone w:=by
 cases a<;>simp[Op.equalIn,bG h]
theorem ajB(hi:Inv CR base g J w){x y:Operand}{X:bS}{t u:TypeId}{b:BinOp}{ps bo:Bool}{cx cy:Value}(e1:(Act.mk tmps df).eval x=cx)(e2:(Act.mk tmps df).eval y=cy)
  (hg:∀b,(eqGuard b t x y cx cy).run P w=.ok () w) (hb:binOp .eql t cx cy=(do pure (.bool (<- Op.equal t cx cy)))) (hb':binOp .neq t cx cy=(do pure (.bool (!(<- Op.equal t cx cy)))))
  (heq:(Op.equal t cx cy).run P w=.ok bo w) (hn:Mw ps (bC e X)=some bo)
  (hk:isC ps b X=some k) (h:bX e J k=some (d,J')) (o:Oper) (ho:o.op=.binOp b t x y u):fk P CR base g w B e (Act.mk tmps df).eval o d J':=by
 unfold isC at hk;split at hk
 .cases hk;simp only[bX,hn,bf,ae,au]at h;obtain⟨rfl,rfl⟩:=h;refine .pure hi ?_ (cZ.of (.bool _));simp[execOp,ho,e1,e2,hg,hb,heq]
 .cases hk;simp only[bX,hn,bf,ae,au]at h;obtain⟨rfl,rfl⟩:=h;refine .pure hi ?_ (cZ.of (.bool _));simp[execOp,ho,e1,e2,hg,hb',heq]
 .cases hk
theorem QP{ps:Bool}{b:BinOp}{X:bS}(hk:isC ps b X=some k)(h:bX e J k=some (d,J')):∃bo,Mw ps (bC e X)=some bo:=by
 unfold isC at hk;split at hk<;>cases hk<;>simp only[bX,ad]at h<;>obtain⟨b,hb,_⟩:=h<;>exact⟨b,hb⟩
theorem ajC(hf:Fr fb V g w B e tmps)(hi:Inv CR base g J w){x y:Operand}{X:bS}{t u el:TypeId}{b:BinOp}(hx:bR x=some X)(hy:bR y=some (.c .zK))(ht:P.underlying t=some (.pointer el))
  (hk:isC true b X=some k) (h:bX e J k=some (d,J')) (o:Oper) (ho:o.op=.binOp b t x y u):fk P CR base g w B e (Act.mk tmps df).eval o d J':=by
 have hr:=hf.bC (df:=df) hx;have hr':=hf.bC (df:=df) hy;have e2:(Act.mk tmps df).eval y=.pointer none:=by
  generalize (Act.mk tmps df).eval y=c at hr';cases hr';rfl
 obtain⟨bo,hn⟩:=QP hk h;have:∃a,(Act.mk tmps df).eval x=.pointer a/\bo=a.isNone:=by
  generalize bC e X=dx at hr hn;generalize (Act.mk tmps df).eval x=cx at hr;cases hr<;>simp[Mw]at hn
  .exact⟨none,rfl,by simp[<- hn]⟩
  .exact⟨_,rfl,by simp[<- hn]⟩
  .exact⟨_,rfl,by simp[<- hn]⟩
 obtain⟨a,e1,rfl⟩:=this;refine ajB hi e1 e2 (λb=>by simp[eqGuard]) rfl rfl (FJ 9999 ht) hn hk h o ho
theorem ajD(hf:Fr fb V g w B e tmps)(hi:Inv CR base g J w){x y:Operand}{X:bS}{t u el:TypeId}{b:BinOp}(hx:bR x=some X)(hy:bR y=some (.c .bu))(ht:P.underlying t=some (.slice el))
  (hk:isC false b X=some k) (h:bX e J k=some (d,J')) (o:Oper) (ho:o.op=.binOp b t x y u):fk P CR base g w B e (Act.mk tmps df).eval o d J':=by
 have hr:=hf.bC (df:=df) hx;have hr':=hf.bC (df:=df) hy;have e2:(Act.mk tmps df).eval y=.slice none 0 0:=by
  generalize (Act.mk tmps df).eval y=c at hr';cases hr';rfl
 obtain⟨bo,hn⟩:=QP hk h;have:∃a n c,(Act.mk tmps df).eval x=.slice a n c/\bo=a.isNone:=by
  generalize bC e X=dx at hr hn;generalize (Act.mk tmps df).eval x=cx at hr;cases hr<;>simp[Mw]at hn
  .exact⟨none,_,_,rfl,by simp[<- hn]⟩
  .exact⟨_,_,_,rfl,by simp[<- hn.2]⟩
  .rename_i l i v off n w a cap L h1 h2 h3 h4 h5 h6 h7;refine⟨a,n,cap,rfl,?_⟩;cases a with
   |none=>have:=h4 rfl;omega
   |some a=>simp[<- hn.2]
 obtain⟨a,n,c,e1,rfl⟩:=this;refine ajB hi e1 e2 (λb=>by simp[eqGuard]) rfl rfl (D3 9999 ht) hn hk h o ho
theorem ajL(hf:Fr fb V g w B e tmps)(hi:Inv CR base g J w){x:Operand}{X:bS}(hx:bR x=some X)(h:bX e J (.nck X)=some (d,J'))(o:Oper)(ho:o.op=.nilCheck x):
  fk P CR base g w B e (Act.mk tmps df).eval o d J':=by
 have hr:=hf.bC (df:=df) hx;simp only[bX]at h;generalize bC e X=dx at hr h;have key:(∃a,(Act.mk tmps df).eval x=.pointer (some a))/\d=dx/\J'=J:=by
  generalize (Act.mk tmps df).eval x=cx at hr;cases hr<;>simp at h
  .exact⟨⟨_,rfl⟩,h.1.symm,h.2.symm⟩
  .exact⟨⟨_,rfl⟩,h.1.symm,h.2.symm⟩
 obtain⟨⟨a,e1⟩,rfl,rfl⟩:=key;rw[e1]at hr;exact .pure hi (c:=.pointer (some a)) (by simp[execOp,ho,e1]) (cZ.of hr)
theorem Nn{x:Operand}(h:Di x=true):x=.const (.slice none 0 0):=by
 unfold Di at h;split at h
 .rfl
 .cases h
theorem agI(hf:Fr fb V g w B e tmps)(hi:Inv CR base g J w){o:Oper}(hk:kC P a ops key o=some k)(h:bX e J k=some (d,J')):
  fk P CR base g w B e (Act.mk tmps df).eval o d J':=by
 unfold kC at hk;split at hk
 .rename_i x ho;obtain⟨X,hX,rfl⟩:=ad.1 hk;exact S4 hf hi hX h o (.inl ho)
 .rename_i x ho;split at hk
  .rename_i hnil _ _;split at hk
   .obtain⟨X,hX,rfl⟩:=ad.1 hk;exact agA hi h o (by rw[ho,Nn hnil])
   .obtain⟨X,hX,rfl⟩:=ad.1 hk;exact S4 hf hi hX h o (.inr ho)
  .obtain⟨X,hX,rfl⟩:=ad.1 hk;exact S4 hf hi hX h o (.inr ho)
 .rename_i c x y ho;split at hk
  .rename_i c' x' y' h1 h2 h3;cases hk;exact agB hf hi h1 h2 h3 h o ho
  .cases hk
 .rename_i el ho;split at hk
  .rename_i z d0 hz _;split at hk
   .split at hk
    case h_2=>cases hk
    split at hk
    case h_2=>cases hk
    split at hk
    case h_2=>cases hk
    cases hk;exact ajG hi hz h o ho
   cases hk;split at h
   .cases h
   .exact ajm hi hz h o ho
  .cases hk
 .rename_i t x ho;split at hk
  .rename_i x' d0 hx _;cases hk;split at h
   .cases h
   split at h
   .split at h
    .exact agr hf hi hx h o ho
    .exact aju hf hi hx h o ho
   .exact agq hf hi hx h o ho
  .cases hk
 .rename_i t ps ho;split at hk
  .rename_i fs z ht hz;split at hk
   .rename_i hall;obtain⟨parts,hp,rfl⟩:=ad.1 hk;exact O5 hf hi ht hz hall hp h o ho
   .cases hk
  .rename_i n el z ht hz;split at hk
   .rename_i wd hw;obtain⟨parts,hp,rfl⟩:=ad.1 hk;exact Rq hf hi ht hw hz hp h o ho
   .cases hk
  .cases hk
 .rename_i t n ps ho;split at hk
  .rename_i el ht;split at hk
   .rename_i wd z d0 hw hz _;split at hk
    .rename_i hc;obtain⟨parts,hp,rfl⟩:=ad.1 hk;dsimp only at h;split at h
     .rename_i hn;simp only[ah,aB]at hn;obtain⟨⟨rfl,hpe⟩,_⟩:=hn;exact ajr hf hi ht hw hz hc.1 hc.2.1 hc.2.2 hp (by simpa using hpe) h o ho
     split at h
     .exact ajt hf hi ht hw hz hc.1 hc.2.1 hc.2.2 hp h o ho
     .exact ajs hf hi ht hw hz hc.1 hc.2.1 hc.2.2 hp h o ho
    .cases hk
   .cases hk
  .cases hk
 .rename_i t x ho;split at hk
  .rename_i ag sz n hag hsz hx;split at hk
   .rename_i hc;simp only[ah,aB]at hc;cases hk;have hxe:x=.tmp n:=by
     cases x<;>simp only[bR,ae,bS.t.injEq,reduceCtorEq,ad,and_false,exists_false]at hx;rw[hx]
    split at h
    .exact ajE hf hi hag hsz hc.1 hc.2 h o (by rw[ho,hxe])
    .split at h
     .exact agw hf hi hx hag hsz hc.1 hc.2 (acI h) o ho
     split at h
     .exact agw hf hi hx hag hsz hc.1 hc.2 (acH h) o ho
     .exact agw hf hi hx hag hsz hc.1 hc.2 h o ho
   .cases hk
  .cases hk
 .rename_i t x y ho;split at hk
  .rename_i sz n y' hsz hx hy;cases hk;split at h
   .cases h
   .split at h
    .exact ajQ hf hi hx hy hsz (UU h) o ho
    .exact ajQ hf hi hx hy hsz h o ho
  .cases hk
 .rename_i b t x y u ho;split at hk
  .rename_i hx hy;cases hk;exact ajq hf hi hx hy h o ho
  .rename_i hx hy;exact Sr hf hi hx hy hk h o ho
  .rename_i hx hy;exact Sr hf hi hx hy hk h o ho
  .rename_i hx hy;exact Sr hf hi hx hy hk h o ho
  .rename_i ht hx hy;split at hk
   .cases hk;exact agC hf hi hx hy h o ho
   .cases hk;exact ad0 hf hi hx hy h o ho
   .cases hk;exact ad0 hf hi hx hy h o ho
   .cases hk
  .rename_i ht hx hy;exact ajC hf hi hx hy ht hk h o ho
  .rename_i ht hx hy;split at hk
   .rename_i hsz;split at hk
    .cases hk;exact adZ (neg:=false) hf hi hx hy ht hsz h o ho
    .cases hk;exact adZ (neg:=true) hf hi hx hy ht hsz h o ho
    .cases hk
   .cases hk
  .rename_i ht hx hy;exact ajD hf hi hx hy ht hk h o ho
  .rename_i ht hx hy;split at hk
   .cases hk;exact adY (neg:=false) hf hi hx ht h o ho
   .cases hk;exact adY (neg:=true) hf hi hx ht h o ho
   .cases hk
  .cases hk
 .rename_i x ho;obtain⟨X,hX,rfl⟩:=ad.1 hk;exact ajL hf hi hX h o ho
 .rename_i b t x ho;obtain⟨X,hX,rfl⟩:=ad.1 hk;exact alY hf hi hX h o ho
 .rename_i s t x ho;split at hk
  .rename_i hs ht hx;cases hk;exact ajw hf hi hx hs ht h o ho
  .rename_i hs ht hx;split at hk
   .rename_i he hw;cases hk;exact ajp hf hi hx hs he ht h o ho
   .cases hk
  .rename_i hs ht hx;split at hk
   .rename_i he hw;cases hk;exact ajO hf hi hx hs he ht h o ho
   .cases hk
  .rename_i hs ht hx;split at hk
   .rename_i hst;subst hst;split at hk
    .rename_i he;cases hk;exact ajx hf hi hx hs he h o ho
    .cases hk
   .cases hk
  .cases hk
 .rename_i t x ho;split at hk
  .rename_i ht hx;obtain⟨wd,hw,rfl⟩:=ad.1 hk;exact ajN hf hi hx ht h o ho
  .cases hk
 .rename_i f xs ys ho;split at hk
  .rename_i hx hy;cases hk;exact ajH hf hi hx hy h o ho
  .cases hk
 .rename_i t x y ho;split at hk
  .rename_i el ht;split at hk
   .rename_i hw hb hz hx hy;split at hk
    .rename_i hc;cases hk;exact ajK hf hi hx hy ht hw hb hz hc.1 hc.2 h o ho
    .cases hk
   .cases hk
  .cases hk
 .rename_i t x lo hh mx ho;split at hk
  .rename_i ht hx hlo hhi hmx;obtain⟨wd,hw,rfl⟩:=ad.1 hk;exact ajP hf hi hx ht hw hlo hhi hmx h o ho
  .rename_i ht hx hlo hhi hmx;obtain⟨wd,hw,rfl⟩:=ad.1 hk;have hm:mx=none:=by
    cases mx with
    |none=>rfl
    |some m=>simp[zM,ad]at hmx
   subst hm;exact agE hf hi hx ht hw hlo hhi h o ho
  .rename_i ht hx hlo hhi hmx;cases hk;have hm:mx=none:=by
    cases mx with
    |none=>rfl
    |some m=>simp[zM,ad]at hmx
   subst hm;exact agG hf hi hx ht hlo hhi h o ho
  .cases hk
 .rename_i s x i ho;split at hk
  .rename_i fs x' hs hx;split at hk
   .rename_i off sz hfc;split at hk
    .rename_i hpos;cases hk;exact ags hf hi hx hs hfc hpos h o ho
    .cases hk
   .cases hk
  .cases hk
 .rename_i s x i ho;split at hk
  .rename_i fs x' hs hx;split at hk
   .rename_i f hfi;split at hk
    .rename_i hag hsz;split at hk
     .cases hk;exact ajA hf hi hx hs hfi hag hsz h o ho
     .cases hk
    .cases hk
   .cases hk
  .cases hk
 .rename_i t x y ho;split at hk
  .rename_i ht hx hy;obtain⟨wd,hw,rfl⟩:=ad.1 hk;exact agt hf hi hx hy ht hw h o ho
  .rename_i ht hx hy;obtain⟨wd,hw,rfl⟩:=ad.1 hk;exact agu hf hi hx hy ht hw h o ho
  .cases hk
 .rename_i t x y ho;split at hk
  .rename_i ht hx hy;split at hk
   .rename_i hag hsz;split at hk
    .cases hk;exact agv hf hi hx hy ht hag hsz h o ho
    .cases hk
   .cases hk
  .rename_i ht hx hy;cases hk;exact agD hf hi hx hy ht h o ho
  .cases hk
 .rename_i x i ho;obtain⟨X,hX,rfl⟩:=ad.1 hk;exact ajz hf hi hX h o ho
 .rename_i c ho;obtain⟨callee,args,ts⟩:=c;dsimp only at hk;split at hk
  .rename_i f;split at hk
   .cases hk;cases h
   .cases hk
  .split at hk
   .rename_i t tr x r hts ha;split at hk
    .rename_i ht hx;cases hk;exact ajF hf hi hx ht ha hts h o ho
    .rename_i ht hx;cases hk;exact agF hf hi hx ht ha hts h o ho
    .rename_i ht hx;cases hk;exact agz hf hi hx ht ha hts h o ho
    .rename_i ht;cases hk;exact ZV hi (.inl ⟨_,ht⟩) ha hts h o ho
    .rename_i ht;split at hk
     .rename_i hr;cases hk;exact ZV hi (.inr ⟨_,_,ht,hr⟩) ha hts h o ho
     .cases hk
    .cases hk
   .cases hk
  .cases hk;cases h
  .split at hk
   .rename_i ha;split at hk
    .rename_i hx hy;cases hk;exact alW hf hi hx hy ha h o ho
    .cases hk
   .cases hk
  .split at hk
   .rename_i ha;split at hk
    .rename_i hx hy;cases hk;exact alX hf hi hx hy ha h o ho
    .cases hk
   .cases hk
  .split at hk
   .rename_i t u x y hts ha;split at hk
    .rename_i uu x' y' ht hu0 hx hy;split at hk
     case isFalse=>cases hk
     rename_i huu;have hu:P.underlying u=some .string\/∃e2,P.underlying u=some (.slice e2):=by
      cases uu<;>simp[ZP]at huu
      .exact .inl hu0
      .exact .inr ⟨_,hu0⟩
     split at hk
     .rename_i hw hb hz;split at hk
      .rename_i hc;cases hk;split at h
       .rename_i hn;simp only[ah]at hn;exact ajv hf hi (Nn hn.1) hy ha hts ht hu hw hb hz hc.2.2.2 hc.2.1 hc.2.2.1 h o ho
       .split at h
        .rename_i hn;simp only[ah]at hn;obtain⟨v,rfl⟩:∃v,x=.tmp v:=by
          have:=hn.2;cases x<;>simp[aac]at this;exact⟨_,rfl⟩
         exact ajn hf hi rfl hy ha hts ht hu hw hb hz hc.2.2.2 hc.2.1 hc.2.2.1 h o ho
        split at h
        .exact ajo hf hi hx hy ha hts ht hu hw hb hz hc.2.2.2 hc.2.1 hc.2.2.1 h o ho
        split at h
        .exact ZU hf hi hx hy ha hts ht hu hw hb hz hc.2.2.2 hc.2.1 hc.2.2.1 (UT h) o ho
        .exact ZU hf hi hx hy ha hts ht hu hw hb hz hc.2.2.2 hc.2.1 hc.2.2.1 h o ho
      .cases hk
     .cases hk
    .cases hk
   .cases hk
  .cases hk
 .rename_i t x ho;split at hk
  .rename_i hc;obtain⟨X,hX,rfl⟩:=ad.1 hk;exact ajI hf hi hX hc h o ho
  .cases hk
 .rename_i x xt t ok ho;split at hk
  .cases hk
  .rename_i dsc x' hnot ht hx;split at hk
   .rename_i hok;subst hok;obtain⟨z,hz,rfl⟩:=ad.1 hk;exact ad1 hf hi hx ht (λms hms=>by subst hms;exact hnot _ rfl) (by simpa using hz) h o ho
   .rename_i hok;cases hk;exact ad1 hf hi hx ht (λms hms=>by subst hms;exact hnot _ rfl) (by simp[hok]) h o ho
  .cases hk
 .rename_i x ho;obtain⟨X,hX,rfl⟩:=ad.1 hk;cases h
 .rename_i t ho;cases hk;exact ajJ hi h o ho
 .rename_i t k n ho;split at hk
  .rename_i ht;cases hk;exact agy hi h ht o ho
  .cases hk
 .rename_i t x ho;split at hk
  .rename_i ht hx;cases hk;exact ajM hf hi hx ht h o ho
  .cases hk
 .rename_i x ho;split at hk
  .rename_i hx;cases hk;exact ajy hf hi hx h o ho
  .cases hk
 .rename_i t x y ok ho;split at hk
  .rename_i ht hx hy;split at hk
   .rename_i hky hz;cases hk;exact agx hf hi hx hy ht hky hz h o ho
   .cases hk
  .cases hk
 .rename_i t m x y ho;split at hk
  .rename_i ht hm hx hy;split at hk
   .rename_i hky;cases hk;exact ZW hf hi hm hx hy ht hky h o (.inl ho)
   .cases hk
  .cases hk
 .rename_i t m x y ho;split at hk
  .rename_i ht hm hx hy;split at hk
   .rename_i hky;cases hk;exact ZW hf hi hm hx hy ht hky h o (.inr ho)
   .cases hk
  .cases hk
 .cases hk
end
mutual
def D.low(n:Nat):D->Bool
 |.ref l .. => decide (l<n)
 |.sl l .. => decide (l<n)
 |.j5 l _=>decide (l<n)
 |.vr .. => true
 |.emp=>true
 |.own _ cs=>D.lY n cs
 |.agg cs=>D.lY n cs
 |.cQ cs=>D.lY n cs
 |.aZ cs=>D.lY n cs
 |.bZ _ cs=>D.lY n cs
 |.fn _ a b=>D.lY n a && D.lY n b
 |.undef=>true
 |.bool _=>true
 |.int _ _=>true
 |.str _=>true
 |.zK=>true
 |.bu=>true
 |.ri=>true
 |.uJ _ d=>D.low n d
 |.od=>true
def D.lY(n:Nat):List D->Bool
 |[]=>true
 |d::ds=>D.low n d && D.lY n ds
end
theorem EM{n:Nat}{ds:List D}:D.lY n ds=true↔∀d∈ds,d.low n=true:=by
 induction ds with
 |nil=>simp[D.lY]
 |cons d ds ih=>simp[D.lY,ih]
mutual
theorem tF{n:Nat}:∀{d:D},d.clean=true->d.low n=true
 |.ref ..,h=>by simp[D.clean]at h
 |.sl ..,h=>by simp[D.clean]at h
 |.j5 ..,h=>by simp[D.clean]at h
 |.vr ..,_=>rfl
 |.emp,_=>rfl
 |.own _ cs,h=>pT (ds:=cs) (by simpa[D.clean]using h)
 |.agg cs,h=>pT (ds:=cs) (by simpa[D.clean]using h)
 |.cQ cs,h=>pT (ds:=cs) (by simpa[D.clean]using h)
 |.aZ cs,h=>pT (ds:=cs) (by simpa[D.clean]using h)
 |.bZ _ cs,h=>pT (ds:=cs) (by simpa[D.clean]using h)
 |.fn _ a b,h=>by
  simp only[D.clean,ah]at h;simp only[D.low,ah];exact⟨pT h.1,pT h.2⟩
 |.undef,_=>rfl
 |.bool _,_=>rfl
 |.int _ _,_=>rfl
 |.str _,_=>rfl
 |.zK,_=>rfl
 |.bu,_=>rfl
 |.ri,_=>rfl
 |.uJ _ d,h=>tF (d:=d) (by simpa[D.clean]using h)
 |.od,_=>rfl
theorem pT{n:Nat}:∀{ds:List D},D.aW ds=true->D.lY n ds=true
 |[],_=>rfl
 |d::ds,h=>by
  simp only[D.aW,ah]at h;simp only[D.lY,ah];exact⟨tF h.1,pT h.2⟩
end
mutual
theorem bT.low{g:G}{n:Nat}(hn:∀l i L,g.loc l i=some L->l<n):∀{d:D} {c:Value},bT g d c->d.low n=true
 |_,_,.undef c=>rfl
 |_,_,.bool b=>rfl
 |_,_,.int k n=>rfl
 |_,_,.str s=>rfl
 |_,_,.agg ds cs hr h1=>bP.low hn hr
 |_,_,.cQ ds cs hr=>bP.low hn hr
 |_,_,.zK=>rfl
 |_,_,.ref l i v off b o L e hv hc hn'=>by simp only[D.low,aB];exact hn l i L e
 |_,_,.aZ ds b o vs hr hl=>bP.low hn hl
 |_,_,.bu=>rfl
 |_,_,.Aa=>rfl
 |_,_,.bZ n' ds a cap vs hn' hr hs hl=>bP.low hn hl
 |_,_,.sl l i v off n' w a cap L e hv hn' ha hs hc hc'=>by simp only[D.low,aB];exact hn l i L e
 |_,_,.fn f fs cs fs' cs' h1 h2=>by simp only[D.low,ah];exact⟨bP.low hn h1,bP.low hn h2⟩
 |_,_,.ri=>rfl
 |_,_,.j5 l i b e=>by simp only[D.low,aB];exact hn l i _ e
 |_,_,.Uw l i b e=>by simp only[D.low,aB];exact hn l i _ e
 |_,_,.Y2 l i b L e hc=>by simp only[D.low,aB];exact hn l i _ e
 |_,_,.VE l i b L e hc=>by simp only[D.low,aB];exact hn l i _ e
 |_,_,.uJ t d c h1=>by rw[D.low];exact bT.low hn h1
 |_,_,.od=>rfl
theorem bP.low{g:G}{n:Nat}(hn:∀l i L,g.loc l i=some L->l<n):∀{ds:List D} {cs:List Value},bP g ds cs->D.lY n ds=true
 |_,_,.nil=>rfl
 |_,_,.cons d c ds cs h1 h2=>by simp only[D.lY,ah];exact⟨bT.low hn h1,bP.low hn h2⟩
end
def G.cut(g:G)(n:Nat):G:=⟨λl i=>if l<n then g.loc l i else none,g.oG⟩
theorem G.sG{g:G}{n l i:Nat}(h:l<n):(g.cut n).loc l i=g.loc l i:=by simp[G.cut,h]
theorem G.yF{g:G}{n l i:Nat}{L:Loc}(h:(g.cut n).loc l i=some L):l<n/\g.loc l i=some L:=by
 simp only[G.cut]at h;split at h
 .exact⟨by assumption,h⟩
 .cases h
mutual
theorem bT.cut{g:G}{n:Nat}:∀{d:D} {c:Value},bT g d c->d.low n=true->bT (g.cut n) d c
 |_,_,.undef c,_ => .undef c
 |_,_,.bool b,_ => .bool b
 |_,_,.int k n,_ => .int k n
 |_,_,.str s,_ => .str s
 |_,_,.agg ds cs hr h1,h => .agg ds cs (bP.cut hr h) h1
 |_,_,.cQ ds cs hr,h => .cQ ds cs (bP.cut hr h)
 |_,_,.zK,_ => .zK
 |_,_,.ref l i v off b o L e hv hc hn',h => .ref l i v off b o L ((G.sG (by simpa[D.low]using h)).trans e) hv hc hn'
 |_,_,.aZ ds b o vs hr hl,h => .aZ ds b o vs hr (bP.cut hl h)
 |_,_,.bu,_ => .bu
 |_,_,.Aa,_ => .Aa
 |_,_,.bZ n' ds a cap vs hn' hr hs hl,h => .bZ n' ds a cap vs hn' hr hs (bP.cut hl h)
 |_,_,.sl l i v off n' w a cap L e hv hn' ha hs hc hc',h => .sl l i v off n' w a cap L ((G.sG (by simpa[D.low]using h)).trans e) hv hn' ha hs hc hc'
 |_,_,.fn f fs cs fs' cs' h1 h2,h=>by
  simp only[D.low,ah]at h;exact .fn f fs cs fs' cs' (bP.cut h1 h.1) (bP.cut h2 h.2)
 |_,_,.ri,_ => .ri
 |_,_,.j5 l i b e,h => .j5 l i b ((G.sG (by simpa[D.low]using h)).trans e)
 |_,_,.Uw l i b e,h => .Uw l i b ((G.sG (by simpa[D.low]using h)).trans e)
 |_,_,.Y2 l i b L e hc,h => .Y2 l i b L ((G.sG (by simpa[D.low]using h)).trans e) hc
 |_,_,.VE l i b L e hc,h => .VE l i b L ((G.sG (by simpa[D.low]using h)).trans e) hc
 |_,_,.uJ t d c h1,h => .uJ t d c (bT.cut h1 h)
 |_,_,.od,_ => .od
theorem bP.cut{g:G}{n:Nat}:∀{ds:List D} {cs:List Value},bP g ds cs->D.lY n ds=true->bP (g.cut n) ds cs
 |_,_,.nil,_ => .nil
 |_,_,.cons d c ds cs h1 h2,h=>by
  simp only[D.lY,ah]at h;exact .cons d c ds cs (bT.cut h1 h.1) (bP.cut h2 h.2)
end
mutual
theorem EN{n m:Nat}(hm:n<=m):∀{d:D},d.low n=true->d.low m=true
 |.ref l ..,h=>by simp only[D.low,aB]at h ⊢;omega
 |.sl l ..,h=>by simp only[D.low,aB]at h ⊢;omega
 |.j5 l _,h=>by simp only[D.low,aB]at h ⊢;omega
 |.vr ..,_=>rfl
 |.emp,_=>rfl
 |.own _ cs,h=>rD (ds:=cs) hm h
 |.agg cs,h=>rD (ds:=cs) hm h
 |.cQ cs,h=>rD (ds:=cs) hm h
 |.aZ cs,h=>rD (ds:=cs) hm h
 |.bZ _ cs,h=>rD (ds:=cs) hm h
 |.fn _ a b,h=>by
  simp only[D.low,ah]at h ⊢;exact⟨rD hm h.1,rD hm h.2⟩
 |.undef,_=>rfl
 |.bool _,_=>rfl
 |.int _ _,_=>rfl
 |.str _,_=>rfl
 |.zK,_=>rfl
 |.bu,_=>rfl
 |.ri,_=>rfl
 |.uJ _ d,h=>EN (d:=d) hm h
 |.od,_=>rfl
theorem rD{n m:Nat}(hm:n<=m):∀{ds:List D},D.lY n ds=true->D.lY m ds=true
 |[],_=>rfl
 |d::ds,h=>by
  simp only[D.lY,ah]at h ⊢;exact⟨EN hm h.1,rD hm h.2⟩
end
def aF.low(n:Nat):aF->Prop
 |.cells _ cs=>D.lY n cs=true
 |.dead=>True
 |.loop lp=>∀t,(get lp.env t).low n=true
def rn(J:SK):Prop:=∀l i b,ec J l i=some b->l+1<J.length->b.low (l+1)
theorem rn.set{J:SK}(h:rn J){l i:Nat}{b:aF}(hb:l+1<J.length->b.low (l+1)):rn (bj J l i b):=by
 intro l' i' b' h1 h2;rw[dL]at h2;by_cases hc:l'=l/\i'=i
 .obtain⟨rfl,rfl⟩:=hc;cases h0:ec J l' i' with
  |none =>
   have:ec (bj J l' i' b) l' i'=none:=by
    unfold bj;cases hs:eT J l' with
    |none=>exact h0
    |some s =>
     simp only[ec,tM (Dt hs),Option.bind_some];simp only[ec,hs,Option.bind_some]at h0;rw[List.getElem?_eq_none_iff]at h0 ⊢;simpa using h0
   rw[this]at h1;cases h1
  |some b0=>rw[og h0]at h1;cases h1;exact hb h2
 .rw[eE hc]at h1;exact h l' i' b' h1 h2
theorem rn.new{J J':SK}(h:rn J){l i:Nat}{b:aF}(hn:fR J b=some (l,i,J')):rn J':=by
 obtain⟨h1,h2,h3,h4,h5⟩:=jV hn;intro l' i' b' e hl;by_cases hc:l'=l/\i'=i
 .omega
 .rw[h3 l' i' hc]at e;exact h l' i' b' e (by omega)
structure fO(J J':SK):Prop where
 len:J'.length=J.length
 low:rn J->rn J'
theorem fO.refl(J:SK):fO J J:=⟨rfl,id⟩
theorem fO.trans{a b c:SK}(h:fO a b)(h':fO b c):fO a c:=⟨h'.len.trans h.len,λx=>h'.low (h.low x)⟩
theorem fO.new{J J':SK}{l i:Nat}{b:aF}(hn:fR J b=some (l,i,J')):fO J J':=⟨(jV hn).2.2.2.1,λh=>h.new hn⟩
theorem fO.set{J:SK}{l i:Nat}{b:aF}(hb:l+1<J.length->b.low (l+1)):fO J (bj J l i b):=⟨dL,λh=>h.set hb⟩
theorem tC:∀(nb:List (Nat×Nat)) (cs cs':List D) (J J':SK),kB nb cs J=some (cs',J')->fO J J'
 |[],cs,cs',J,J',h=>by simp only[kB,ae,au]at h;obtain⟨rfl,rfl⟩:=h;exact .refl _
 |(p,w)::r,cs,cs',J,J',h=>by
  simp only[kB]at h;split at h
  .simp only[aX,ak]at h;obtain⟨⟨l,i,J1⟩,hn,h⟩:=h;exact(fO.new hn).trans (tC r _ _ _ _ h)
  .exact tC r _ _ _ _ h
theorem Cq(l:Nat):∀(n:Nat) (d:D) (J:SK),(cH l n d J).1.low (l+1)=true/\fO J (cH l n d J).2
 |0,d,J=>⟨rfl,.refl _⟩
 |n+1,d,J=>by
  have ih:∀(ds:List D) (J:SK),D.lY (l+1) (cH.frzL (cH l n) ds J).1=true/\fO J (cH.frzL (cH l n) ds J).2:=by
   intro ds;induction ds with
   |nil=>intro J;exact⟨rfl,.refl _⟩
   |cons d ds ihd =>
    intro J;obtain⟨h1,h2⟩:=Cq l n d J;obtain⟨h3,h4⟩:=ihd (cH l n d J).2;simp only[cH.frzL,D.lY,ah];exact⟨⟨h1,h3⟩,h2.trans h4⟩
  simp only[cH];split
  .rename_i hc;exact⟨tF hc,.refl _⟩
  cases d with
  |agg cs=>exact ih cs J
  |cQ cs=>exact ih cs J
  |aZ cs=>exact ih cs J
  |bZ m cs=>exact ih cs J
  |own s cs=>exact ih cs J
  |fn f a b =>
   obtain⟨h1,h2⟩:=ih a J;obtain⟨h3,h4⟩:=ih b (cH.frzL (cH l n) a J).2;refine⟨?_,h2.trans h4⟩;simp only[D.low,ah];exact⟨h1,h3⟩
  |ref l' i v off =>
   dsimp only;split
   .refine⟨?_,.refl _⟩;simp only[D.low,aB];omega
   .exact⟨rfl,.refl _⟩
  |j5 l' i =>
   dsimp only;split
   .refine⟨?_,.refl _⟩;simp only[D.low,aB];omega
   .exact⟨rfl,.refl _⟩
  |sl l' i v off m w =>
   dsimp only;split
   .refine⟨?_,.refl _⟩;simp only[D.low,aB];omega
   .split
    .rename_i cs hcs;obtain⟨h1,h2⟩:=ih ((cs.drop off).take (m*w)) (bj J l' i .dead);exact⟨h1,(fO.set (b:=.dead) λ_=>trivial).trans h2⟩
    .exact⟨rfl,.refl _⟩
  |_=>exact⟨rfl,.refl _⟩
theorem Fi(l n:Nat)(ds:List D):∀(J:SK),D.lY (l+1) (cH.frzL (cH l n) ds J).1=true/\fO J (cH.frzL (cH l n) ds J).2:=by
 induction ds with
 |nil=>intro J;exact⟨rfl,.refl _⟩
 |cons d ds ihd =>
  intro J;obtain⟨h1,h2⟩:=Cq l n d J;obtain⟨h3,h4⟩:=ihd (cH l n d J).2;simp only[cH.frzL,D.lY,ah];exact⟨⟨h1,h3⟩,h2.trans h4⟩
theorem IG(l:Nat):∀(e:Env) (J:SK),(∀p∈(pQ l e J).1,p.2.low (l+1)=true)/\fO J (pQ l e J).2
 |[],J=>⟨by simp[pQ],.refl _⟩
 |(t,d)::e,J=>by
  obtain⟨h1,h2⟩:=Cq l deep d J;obtain⟨h3,h4⟩:=IG l e (cH l deep d J).2;simp only[pQ];refine⟨?_,h2.trans h4⟩;intro p hp;rcases bx.1 hp with rfl | hp
  .exact h1
  .exact h3 p hp
theorem CP{J:SK}(h:rn J){l i v:Nat}{cs:List D}(hc:cells? J l i v=some cs)(hl:l+1<J.length):D.lY (l+1) cs=true:=by
 unfold cells? at hc;split at hc
 case h_2=>cases hc
 rename_i v' cs' hb;split at hc
 case isFalse=>cases hc
 cases hc;exact h l i _ hb hl
theorem AN{n:Nat}{a b:List D}:D.lY n (a++b)=true↔D.lY n a=true/\D.lY n b=true:=by
 simp only[EM,aU];exact⟨λh=>⟨λd hd=>h d (.inl hd),λd hd=>h d (.inr hd)⟩,λh d hd=>hd.elim (h.1 d) (h.2 d)⟩
theorem IP{n k:Nat}{a:List D}(h:D.lY n a=true):D.lY n (a.take k)=true:=by
 rw[EM]at h ⊢;exact λd hd=>h d (dC hd)
theorem IN{n k:Nat}{a:List D}(h:D.lY n a=true):D.lY n (a.drop k)=true:=by
 rw[EM]at h ⊢;exact λd hd=>h d (dB hd)
theorem Zm{J J':SK}{d:D}{o:Mo}{ds:List D}(h:DT J o ds=some (d,J'))(hk:o.calm=true):J'=J:=by
 unfold DT at h;split at h
 .simp[Mo.calm]at hk
 .simp[Mo.calm]at hk
 .split at h
  .split at h
   .split at h<;>first | (cases h;done) | (cases h;rfl)
   .cases h
  .cases h
 .simp[Mo.calm]at hk
 .simp only[ad,au]at h;obtain⟨_,_,_,rfl⟩:=h;rfl
 .simp[Mo.calm]at hk
 .split at h
  .split at h
   .split at h
    .split at h
     .cases h;rfl
     .cases h
    .cases h
   .cases h
  .cases h
 .cases h
theorem Ze{J J':SK}{d:D}{o:Me}{ds:List D}(h:WB J o ds=some (d,J')):J'=J:=by
 unfold WB at h;split at h
 .cases h
 .simp only[ak,ad,au]at h;obtain⟨_,_,_,_,_,rfl⟩:=h;rfl
 .cases h;rfl
 .split at h<;>cases h;rfl
 .split at h<;>cases h;rfl
 .cases h
theorem Rz{e:Env}{J J':SK}{d:D}{k:K}(h:bX e J k=some (d,J'))(hk:k.calm=true):J'=J:=by
 by_cases hm:∃o xs,k=.mp o xs
 .obtain⟨o,xs,rfl⟩:=hm;exact Zm h hk
 by_cases hm':∃o xs,k=.me o xs
 .obtain⟨o,xs,rfl⟩:=hm';exact Ze h
 cases k<;>(try (exact absurd ⟨_,_,rfl⟩ hm))<;>(try (exact absurd ⟨_,_,rfl⟩ hm'))<;>clear hm hm'<;>simp only[K.calm,aD]at hk<;>simp only[bX,aX,reduceCtorEq]at h<;>(repeat' split at h)<;>
  simp only[ad,ak,ae,au,Prod.exists,reduceCtorEq,exists_eq_left,and_false,exists_false]at h<;>(try split at h)<;>
  simp_all<;>(try (obtain⟨_,_,h⟩:=h;simp_all))<;>(try grind)
theorem Uo{e:Env}{J J':SK}{d:D}{nb:List (Nat×Nat)}{sz:Nat}{a x:bS}(h:bX e J (.st nb sz a x)=some (d,J')):fO J J':=by
 simp only[bX]at h;split at h
 case h_2=>cases h
 split at h
 case h_2=>cases h
 rename_i l i v off hX _ cs hcs;split at h
 case h_2=>cases h
 rename_i p hcells;split at h
 case isFalse=>cases h
 rename_i hc;split at h
 .rename_i htop;split at h
  .rename_i p' J1 hnb;cases h;have hg:=tC _ _ _ _ _ hnb;exact hg.trans (fO.set λhl=>by have:=hg.len;omega)
  .cases h
 .rename_i htop;cases h;obtain⟨h1,h2⟩:=Fi l deep p J;refine⟨dL.trans h2.len,λhl=>(h2.low hl).set λhlt=>?_⟩;have hcl:=CP hl hcs (by have:=h2.len;omega);simp only[aF.low,AN];exact⟨⟨IP hcl,h1⟩,IN hcl⟩
theorem Lt{e:Env}{J J':SK}{d:D}{w bytes:Nat}{s x:bS}(h:bX e J (.app w bytes s x)=some (d,J')):fO J J':=by
 simp only[bX,aX,ak]at h;obtain⟨⟨m,xs⟩,he,h⟩:=h;dsimp only at h;split at h
 .split at h
  case isFalse=>cases h
  split at h
  .cases h;exact .refl _
  .simp only[ak]at h;obtain⟨⟨l,i,J1⟩,hn,h⟩:=h;cases h;exact .new hn
 .split at h
  case h_2=>cases h
  rename_i l i v off n w' hX _ cs hcs;split at h
  case isFalse=>cases h
  split at h
  .cases h;exact .set λhl=>by omega
  .cases h;obtain⟨h1,h2⟩:=Fi l deep xs J;refine⟨dL.trans h2.len,λhl=>(h2.low hl).set λhlt=>?_⟩;have hcl:=CP hl hcs (by have:=h2.len;omega);simp only[aF.low,AN];exact⟨IP (IN hcl),h1⟩
 .cases h
theorem Zc{n j:Nat}{a:List D}{x:D}(h:D.lY n a=true)(hx:x.low n=true):D.lY n (a.set j x)=true:=by
 rw[EM]at h ⊢;intro d hd;rcases List.mem_or_eq_of_mem_set hd with h1 | rfl
 .exact h d h1
 .exact hx
theorem abQ{J J':SK}{d:D}{o:Mo}{ds:List D}(h:DT J o ds=some (d,J')):fO J J':=by
 unfold DT at h;split at h
 .simp only[ad,au,Prod.exists]at h;obtain⟨l,i,J1,hn,_,rfl⟩:=h;exact .new hn
 .simp only[ad,au,Prod.exists]at h;obtain⟨l,i,J1,hn,_,rfl⟩:=h;exact .new hn
 .split at h
  .split at h
   .split at h<;>first | (cases h;done) | (cases h;exact .refl _)
   .cases h
  .cases h
 .rename_i ky m k v;split at h
  .rename_i l i es hm;obtain⟨rfl,hcs⟩:=QZ hm;split at h
   case isFalse=>cases h
   rename_i hc;have hlow:l+1<J.length->k.low (l+1)=true/\v.low (l+1)=true:=λhl=>by
    rcases hc.2 with h1 | ⟨h1,h2⟩
    .omega
    .exact⟨tF h1,tF h2⟩
   split at h
   .cases h;refine⟨dL,λhS=>hS.set λhl=>?_⟩;have hcl:=CP hS hcs hl;obtain⟨h1,h2⟩:=hlow hl;simp only[aF.low];exact Zc hcl (by simp[D.low,D.lY,h1,h2])
   .cases h;refine⟨dL,λhS=>hS.set λhl=>?_⟩;have hcl:=CP hS hcs hl;obtain⟨h1,h2⟩:=hlow hl;simp only[aF.low,AN];exact⟨hcl,by simp[D.low,D.lY,h1,h2]⟩
   .cases h
  .cases h
 .simp only[ad,au]at h;obtain⟨_,_,_,rfl⟩:=h;exact .refl _
 .split at h
  .simp only[ad,au,Prod.exists]at h;obtain⟨l,i,J1,hn,_,rfl⟩:=h;exact .new hn
  .cases h
 .split at h
  .split at h
   .split at h
    .split at h
     .cases h;exact .refl _
     .cases h
    .cases h
   .cases h
  .cases h
 .cases h
theorem ZZ{e:Env}{J J':SK}{d:D}:∀{k:K},bX e J k=some (d,J')->fO J J'
 |.st ..,h=>Uo h
 |.app ..,h=>Lt h
 |.VC ..,h=>Lt (UT h)
 |.apz w bytes s x,h=>by
  simp only[bX,ad,Prod.exists]at h;obtain⟨d1,J1,h1,h2⟩:=h;obtain⟨h3,h4⟩:=Cq 0 deep d1 J1;rw[h2]at h4;exact(Lt (by rw[Pb];exact h1)).trans h4
 |.cvz x,h=>by
  simp only[bX]at h;split at h
  case h_2=>cases h
  split at h
  case isFalse=>cases h
  split at h
  case h_2=>cases h
  cases h;exact .set λ_=>trivial
 |.VA nb cs,h=>by
  simp only[bX,aX,ak]at h;obtain⟨⟨cs',J1⟩,hnb,⟨l,i,J2⟩,hn,h⟩:=h;cases h;exact(tC _ _ _ _ _ hnb).trans (.new hn)
 |.LG w,h=>by
  simp only[bX,aX,ak]at h;obtain⟨⟨l,i,J2⟩,hn,h⟩:=h;cases h;exact .new hn
 |.bxn nb x,h=>by
  simp only[bX,aX,ak]at h;obtain⟨cs,_,⟨cs',J1⟩,hnb,⟨l,i,J2⟩,hn,h⟩:=h;cases h;exact(tC _ _ _ _ _ hnb).trans (.new hn)
 |.Mn x,h=>by
  simp only[bX,aX,ak]at h;obtain⟨cs,_,⟨l,i,J2⟩,hn,h⟩:=h;cases h;exact .new hn
 |.Yr ..,h=>by
  simp only[bX,aX,ak]at h;obtain⟨cs,_,⟨l,i,J2⟩,hn,h⟩:=h;cases h;exact .new hn
 |.mks ..,h=>by
  simp only[bX]at h;split at h
  .split at h
   .simp only[aX,ak]at h;obtain⟨⟨l,i,J2⟩,hn,h⟩:=h;cases h;exact .new hn
   .cases h
  .cases h
 |.mv _,h=>same h rfl
 |.pick ..,h=>same h rfl
 |.CK ..,h=>by simp[bX]at h
 |.Mm _,h=>same h rfl
 |.GM _,h=>by simp[bX]at h
 |.Ml ..,h=>same h rfl
 |.bsi ..,h=>same h rfl
 |.ld ..,h=>same h rfl
 |.Y7 ..,h=>same h rfl
 |.Wz ..,h=>same h rfl
 |.Wr os sz a x,h=>Uo (UU h)
 |.isn ..,h=>same h rfl
 |.nck ..,h=>same h rfl
 |.WA ..,h=>same h rfl
 |.Iq ..,h=>by simp[bX]at h
 |.bin ..,h=>same h rfl
 |.eqv ..,h=>same h rfl
 |.un ..,h=>same h rfl
 |.YB ..,h=>same h rfl
 |.Zj ..,h=>same h rfl
 |.slc ..,h=>same h rfl
 |.S7 ..,h=>same h rfl
 |.Mq ..,h=>same h rfl
 |.fld ..,h=>same h rfl
 |.Mt ..,h=>same h rfl
 |.IL ..,h=>same h rfl
 |.OB ..,h=>same h rfl
 |.My ..,h=>same h rfl
 |.SI ..,h=>same h rfl
 |.mn ..,h=>same h rfl
 |.mx ..,h=>same h rfl
 |.cpi ..,h=>same h rfl
 |.bse,h=>same h rfl
 |.ape ..,h=>same h rfl
 |.ext ..,h=>same h rfl
 |.IY ..,h=>same h rfl
 |.mp ..,h=>abQ h
 |.me ..,h=>same h rfl
 |.Zk ..,h=>same h rfl
 |.tas ..,h=>same h rfl
 |.isi ..,h=>same h rfl
 |.Zx _,h=>by simp[bX]at h
 |.RO,h=>by simp[bX]at h
 |.call ..,h=>by simp[bX]at h
where
 same {e:Env} {J J':SK} {d:D} {k:K} (h:bX e J k=some (d,J')) (hk:k.calm=true):fO J J':=by
  rw[Rz h hk];exact .refl _
end Go.Abs
