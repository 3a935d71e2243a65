import Derived.Test.YtpapbbojmclkgaaGreatDoorBase7
import Derived.MapKept
import Derived.WideKeyRuns
import Derived.Maps.RangeRun
import Derived.Test.YtpapbbojmclkgaaGreatDoorBase6
set_option linter.all false
namespace Go.Abs
open Go
theorem PN{J:SK}{d:D}{l i:Nat}{es:List D}(h:Dg J d=some (l,i,es)):d=.jU l i/\cells? J l i 0=some es:=by
 unfold Dg at h;split at h
 .simp only[ad,ar]at h;obtain⟨cs,h1,rfl,rfl,rfl⟩:=h;exact⟨rfl,h1⟩
 .cases h
theorem LZ{ky:Ky}{k:D}:∀{es:List D} {j:Nat} {v:D},pD ky k es=some (some (j,v))->∃k',es[j]?=some (.cK [k',v])/\sS ky k k'=some true
 |[],j,v,h=>by simp[pD]at h
 |x::es,j,v,h=>by
  unfold pD at h;split at h
  .rename_i heq;cases heq
  .rename_i k' v' es' heq;cases heq;split at h
   .rename_i hq;cases h;exact⟨k',rfl,hq⟩
   .simp only[ad]at h;obtain⟨x1,h1,x2,rfl,h2⟩:=h;cases h2;obtain⟨j0,v0⟩:=x2;obtain⟨k0,h3,h4⟩:=LZ h1;exact⟨k0,by simpa using h3,h4⟩
   .cases h
  .cases h
section
variable {P:Program} {g:G} {w:World}
theorem J7:∀{ks:List (Option IntKind)} {p q:List D},Cg ks p q=some true->p=q
 |[],p,q,h=>by obtain⟨rfl,rfl,_⟩:=vB h;rfl
 |some k::ks,p,q,h=>by
  obtain⟨a,x,c,y,b0,rfl,rfl,h0,hb⟩:=tG h;simp only[Bool.true_eq,af,beq_iff_eq]at hb;obtain⟨rfl,rfl⟩:=hb;rw[J7 h0]
 |none::ks,p,q,h=>by
  obtain⟨a,x,c,y,b0,rfl,rfl,h0,hb⟩:=yi h;simp only[Bool.true_eq,af,beq_iff_eq]at hb;obtain⟨rfl,rfl⟩:=hb;rw[J7 h0]
theorem Gf(n:Nat):∀{ks:List (Option IntKind)} {p q:List D} {b:Bool},Cg ks p q=some b->∀{xs ys:List Value},bN g p xs->bN g p ys->xs=ys/\(xs.zip ys).all (λz=>Instr.sameBits n z.1 z.2)=true
 |[],p,q,b,h,xs,ys,hx,hy=>by
  obtain⟨rfl,rfl,_⟩:=vB h;cases hx;cases hy;exact⟨rfl,rfl⟩
 |some k::ks,p,q,b,h,xs,ys,hx,hy=>by
  obtain⟨a,x,c,y,b0,rfl,rfl,h0,hb⟩:=tG h;cases hx with
  |cons _ v1 _ vs1 h1 h2 =>
   cases hy with
   |cons _ v2 _ vs2 h3 h4 =>
    obtain rfl:=h1.eO;obtain rfl:=h3.eO;obtain⟨h5,h6⟩:=Gf n h0 h2 h4;subst h5;exact⟨rfl,by simp only[List.zip_cons_cons,jm,h6,Instr.sameBits,BEq.rfl,Bool.and_self]⟩
 |none::ks,p,q,b,h,xs,ys,hx,hy=>by
  obtain⟨a,x,c,y,b0,rfl,rfl,h0,hb⟩:=yi h;cases hx with
  |cons _ v1 _ vs1 h1 h2 =>
   cases hy with
   |cons _ v2 _ vs2 h3 h4 =>
    obtain rfl:=h1.oh;obtain rfl:=h3.oh;obtain⟨h5,h6⟩:=Gf n h0 h2 h4;subst h5;exact⟨rfl,by simp only[List.zip_cons_cons,jm,h6,Instr.sameBits,BEq.rfl,Bool.and_self]⟩
theorem adk{a b:ByteArray}(h:a.data.toList=b.data.toList):a=b:=by
 apply ByteArray.ext;exact fS.1 h
theorem XA{ky:Ky}{a b:D}{x y:Value}(h:sS ky a b=some true)(hx:bQ g a x)(hy:bQ g b y):x=y/\Instr.sameBits 10000 y x=true:=by
 unfold sS at h;split at h
 .split at h
  .rename_i s1 s2;simp only[ae,beq_iff_eq]at h;subst h;obtain⟨b1,rfl,h1⟩:=hx.lr;obtain⟨b2,rfl,h2⟩:=hy.lr;obtain rfl:=adk (h1.trans h2.symm);exact⟨rfl,by rw[Instr.sameBits,beq_toListBytes];exact beq_self_eq_true _⟩
  .cases h
 .rename_i ag ks;split at h
  .rename_i p q hp hq;obtain rfl:=J7 h;have h1:=vL hx hp;have h2:=vL hy hq;cases ag with
   |true =>
    simp only[vP,if_true]at h1 h2;obtain⟨xs,rfl,h3,_⟩:=h1;obtain⟨ys,rfl,h4,_⟩:=h2;obtain⟨h5,h6⟩:=Gf 9999 h h4 h3;obtain rfl:=fS.1 h5;exact⟨rfl,by simp only[Instr.sameBits,BEq.rfl,Bool.true_and];exact h6⟩
   |false =>
    simp only[vP,aD,if_false]at h1 h2;obtain⟨h5,h6⟩:=Gf 10000 h h2 h1;simp only[jV,and_true]at h5;subst h5;exact⟨rfl,by simpa using h6⟩
  .cases h
theorem Kt{t:TypeId}{ky:Ky}(h:Ks P t=some ky):(P.underlying t=some .string/\ky=none)\/(∃k,P.underlying t=some (.int k)/\ky=some (false,[some k])) \/
  ∃fs ks,P.underlying t=some (.struct fs)/\lN P 20 t=some ks/\ky=some (true,ks)/\fs.toList.all (λf=>match P.underlying f.type with | some (.int _)=>true | some .bool=>true | _=>false)=true:=by
 unfold Ks at h;split at h
 .rename_i hu;cases h;exact .inl ⟨hu,rfl⟩
 .rename_i k hu;cases h;exact .inr (.inl ⟨k,hu,rfl⟩)
 .rename_i fs hu;split at h
  .rename_i hall;obtain⟨ks,hks,rfl⟩:=ad.1 h;exact .inr (.inr ⟨fs,ks,hu,hks,rfl,hall⟩)
  .cases h
 .cases h
theorem Mf{t:TypeId}{ky:Ky}(hk:Ks P t=some ky){a b:D}{c:Bool}{x y:Value}(h:sS ky a b=some c)(hx:bQ g a x)(hy:bQ g b y):(Op.equal t x y).run P w=.ok c w:=by
 have key:∀ag ks,lN P 20 t=some ks->u0 P t=some ag->sS (some (ag,ks)) a b=some c->(Op.equal t x y).run P w=.ok c w:=by
  intro ag ks hks hag hq;simp only[sS]at hq;split at hq
  case h_2=>cases hq
  rename_i p q hp hq2;obtain⟨ag',hag',_,hEq⟩:=GQ (P:=P) (g:=g) (w:=w) 20 t ks hks;rw[hag]at hag';cases hag';exact hEq 10000 (by omega) p q x y c (vL hx hp) (vL hy hq2) hq
 rcases Kt hk with⟨hu,rfl⟩ | ⟨k,hu,rfl⟩ | ⟨fs,ks,hu,hks,rfl,_⟩
 .simp only[sS]at h;split at h
  case h_2=>cases h
  rename_i s1 s2;cases h;obtain⟨b1,rfl,h1⟩:=hx.lr;obtain⟨b2,rfl,h2⟩:=hy.lr;have:=run_equalIn_string (P:=P) w 9999 t b1 b2 hu;simp only[Op.equal,Op.maxDepth];rw[this,ByteArray.toList_eq,ByteArray.toList_eq,h1,h2]
 .exact key false [some k] (by simp[lN,hu]) (by simp[u0,hu]) h
 .exact key true ks hks (by simp[u0,hu]) h
def Found(dL:List MapEntry)(r:Option (Nat×D))(g:G)(o:Option (Nat×Value))(i:Nat):Prop :=
 match r with
 |none=>o=none
 |some (j,v)=>∃e,dL[j]?=some e/\o=some (i+j,e.val)/\bQ g v e.val
theorem Ob{k v:D}{a b:Value}(h:bQ g (.cK [k,v]) (.tuple #[a,b])):bQ g k a/\bQ g v b:=by
 cases h with
 |cK _ _ hr =>
  cases hr with
  |cons _ _ _ _ h1 h2=>cases h2 with | cons _ _ _ _ h3 h4=>exact⟨h1,h3⟩
theorem JQ{t:TypeId}{ky:Ky}(hk:Ks P t=some ky){k:D}{x:Value}(hx:bQ g k x):∀(es:List D) (dL:List MapEntry) (r:Option (Nat×D)) (i:Nat),bN g es (dL.map λe => .tuple #[e.key,e.val])->pD ky k es=some r ->
  ∃o,(Instr.findAsking t x dL i).run P w=.ok o w/\Found dL r g o i
 |[],dL,r,i,hr,h=>by
  cases dL with
  |nil=>simp only[pD,ae]at h;subst h;exact⟨none,by simp[Instr.findAsking],rfl⟩
  |cons e dL=>cases hr
 |d::es,dL,r,i,hr,h=>by
  cases dL with
  |nil=>cases hr
  |cons e dL =>
   rw[aM]at hr;cases hr with
   |cons _ _ _ _ hr1 hr2 =>
   unfold pD at h;split at h
   .rename_i heq;cases heq
   .rename_i k' v es' heq;cases heq;obtain⟨hk1,hv1⟩:=Ob hr1;split at h
    .rename_i hq;cases h;have he:=Mf (w:=w) hk hq hx hk1;refine⟨some (i,e.val),by simp[Instr.findAsking,he],e,rfl,by simp,hv1⟩
    .rename_i hq;simp only[ad]at h;obtain⟨r1,h1,rfl⟩:=h;have he:=Mf (w:=w) hk hq hx hk1;obtain⟨o,ho,hf⟩:=JQ hk hx es dL r1 (i+1) hr2 h1;refine⟨o,by simp[Instr.findAsking,he,ho],?_⟩;cases r1 with
     |none=>exact hf
     |some y =>
      obtain⟨e1,h3,h4,h5⟩:=hf;exact⟨e1,by simpa using h3,by rw[h4];congr 2;omega,h5⟩
    .cases h
   .cases h
theorem Ny{t:TypeId}{ky:Ky}{dsc:TypeDesc}{k:D}{x:Value}(hs:∀k' y c,sS ky k k'=some c->bQ g k' y->Instr.sameNow dsc x y=some c):∀(es:List D) (dL:List MapEntry) (r:Option (Nat×D)) (i:Nat),bN g es (dL.map λe => .tuple #[e.key,e.val])->pD ky k es=some r ->
  ∃o,Instr.findNow dsc x dL i=some o/\Found dL r g o i
 |[],dL,r,i,hr,h=>by
  cases dL with
  |nil=>simp only[pD,ae]at h;subst h;exact⟨none,by simp[Instr.findNow],rfl⟩
  |cons e dL=>cases hr
 |d::es,dL,r,i,hr,h=>by
  cases dL with
  |nil=>cases hr
  |cons e dL =>
   rw[aM]at hr;cases hr with
   |cons _ _ _ _ hr1 hr2 =>
   unfold pD at h;split at h
   .rename_i heq;cases heq
   .rename_i k' v es' heq;cases heq;obtain⟨hk1,hv1⟩:=Ob hr1;split at h
    .rename_i hq;cases h;exact⟨some (i,e.val),by simp[Instr.findNow,hs _ _ _ hq hk1],e,rfl,by simp,hv1⟩
    .rename_i hq;simp only[ad]at h;obtain⟨r1,h1,rfl⟩:=h;obtain⟨o,ho,hf⟩:=Ny (t:=t) hs es dL r1 (i+1) hr2 h1;refine⟨o,by simp[Instr.findNow,hs _ _ _ hq hk1,ho],?_⟩;cases r1 with
     |none=>exact hf
     |some y =>
      obtain⟨e1,h3,h4,h5⟩:=hf;exact⟨e1,by simpa using h3,by rw[h4];congr 2;omega,h5⟩
    .cases h
   .cases h
theorem Ac{t:TypeId}{ky:Ky}(hk:Ks P t=some ky){k:D}{x:Value}(hx:bQ g k x){es:List D}{dL:List MapEntry}{r:Option (Nat×D)}(hr:bN g es (dL.map λe => .tuple #[e.key,e.val]))(h:pD ky k es=some r)
  (hself:(sS ky k k).isSome=true):∃o,(Instr.findKey t x dL).run P w=.ok o w/\Found dL r g o 0:=by
 rcases Kt hk with⟨hu,rfl⟩ | ⟨kk,hu,rfl⟩ | ⟨fs,ks,hu,hks,rfl,_⟩
 .obtain⟨o,h1,h2⟩:=Ny (t:=t) (ky:=none) (k:=k) (x:=x) (dsc:=.string) (λk' y c hq hy=>by
   simp only[sS]at hq;split at hq
   case h_2=>cases hq
   cases hq;obtain⟨b1,rfl,h1⟩:=hx.lr;obtain⟨b2,rfl,h2⟩:=hy.lr;simp only[Instr.sameNow];rw[beq_toListBytes,ByteArray.toList_eq,ByteArray.toList_eq,h1,h2]) es dL r 0 hr h
  exact⟨o,MapKept.run_findKey hu h1,h2⟩
 .obtain⟨o,h1,h2⟩:=Ny (t:=t) (ky:=some (false,[some kk])) (k:=k) (x:=x) (dsc:=.int kk) (λk' y c hq hy=>by
   simp only[sS]at hq;split at hq
   case h_2=>cases hq
   rename_i p q hp hq2;have hx1:=vL hx hp;have hy1:=vL hy hq2;simp only[vP,aD,if_false]at hx1 hy1;obtain⟨a,xs,b,ys,b0,rfl,rfl,h0,rfl⟩:=tG hq;obtain⟨rfl,rfl,rfl⟩:=vB h0;cases hx1 with
   |cons _ _ _ _ g1 _ =>
    cases hy1 with
    |cons _ _ _ _ g2 _ =>
     obtain rfl:=g1.eO;obtain rfl:=g2.eO;simp[Instr.sameNow]) es dL r 0 hr h
  exact⟨o,MapKept.run_findKey hu h1,h2⟩
 .obtain⟨o,h1,h2⟩:=JQ (w:=w) hk hx es dL r 0 hr h;refine⟨o,?_,h2⟩;rw[run_findKey_eq w (by simp[hu])];exact h1
theorem CV(em:Bool){xs:Array Value}{p:List D}(hx:bN g p xs.toList)(h1x:∀y∈xs.toList,y.oneCell'=true):
  ∀(fs:List Field) (o:Nat) (ks:List (Option IntKind)) (q:List D) (b:Bool),lN.kindsF P (lN P 19) o fs=some ks->fs.all (λf=>match P.underlying f.type with | some (.int _)=>true | some .bool=>true | _=>false)=true ->
   Cg ks (p.drop o) q=some b ->
   (forIn (m:=Sem) fs PUnit.unit λf _=>do
    if f.name ≠ "_" then Instr.checkKey em 9999 f.type (<- part f.type xs f.offset)
    pure (ForInStep.yield PUnit.unit)).run P w=.ok PUnit.unit w
 |[],o,ks,q,b,hk,ha,he=>by simp
 |f::fs,o,ks,q,b,hk,ha,he=>by
  simp only[lN.kindsF]at hk;split at hk
  case h_2=>cases hk
  rename_i k1 hk1;split at hk
  case isFalse=>cases hk
  rename_i hc;obtain⟨hname,hoff,hsz,hpos⟩:=hc;simp only[ad]at hk;obtain⟨k2,hk2,rfl⟩:=hk;simp only[jm,af]at ha;obtain⟨l1,l2⟩:=Es _ _ _ _ he;obtain⟨b1,b2,e1,e2,rfl⟩:=yh _ _ _ _ _ he;simp only[aV,List.length_drop]at l1 l2;have ih:=CV em hx h1x fs (o+k1.length) k2 (q.drop k1.length) b2 hk2 ha.2 (by simpa[dh]using e2);have one:∃a,(part f.type xs o).run P w=.ok a w/\(Instr.checkKey em 9999 f.type a).run P w=.ok () w:=by
   have h0:=ha.1;split at h0
   .rename_i k hu;have hk1':k1=[some k]:=by simp[lN,hu]at hk1;exact hk1.symm
    subst hk1';obtain⟨a,hpa,hra⟩:=EB (P:=P) (w:=w) (ag:=false) (n:=1) (o:=o) (by simp[u0,hu]) hsz (λ_=>rfl) hx h1x (by simp only[aE,aY]at l1 ⊢;omega);simp only[vP,aD,if_false]at hra;obtain⟨a0,x0,c0,y0,b0,e3,_,_,_⟩:=tG e1;simp only[aE,aY,cq]at e3;rw[e3]at hra;cases hra with
    |cons _ _ _ _ g1 g2 =>
     obtain rfl:=g1.eO;exact⟨_,hpa,MapKept.run_checkKey (d:=.int k) hu (by simp[MapKept.IsKey]) em 9998⟩
   .rename_i hu;have hk1':k1=[none]:=by simp[lN,hu]at hk1;exact hk1.symm
    subst hk1';obtain⟨a,hpa,hra⟩:=EB (P:=P) (w:=w) (ag:=false) (n:=1) (o:=o) (by simp[u0,hu]) hsz (λ_=>rfl) hx h1x (by simp only[aE,aY]at l1 ⊢;omega);simp only[vP,aD,if_false]at hra;obtain⟨a0,x0,c0,y0,b0,e3,_,_,_⟩:=yi e1;simp only[aE,aY,cq]at e3;rw[e3]at hra;cases hra with
    |cons _ _ _ _ g1 g2 =>
     obtain rfl:=g1.oh;exact⟨_,hpa,MapKept.run_checkKey (d:=.bool) hu (by simp[MapKept.IsKey]) em 9998⟩
   .cases h0
  obtain⟨a,h1,h2⟩:=one;rw[List.forIn_cons];rw[hoff];simp only[hname,ne_eq,not_false_eq_true,if_true,Sem.run_bind,h1,h2,Result.andThen_ok,Sem.run_pure];exact ih
theorem Gd{t:TypeId}{ky:Ky}(hk:Ks P t=some ky){k:D}{x:Value}(hx:bQ g k x)(hself:(sS ky k k).isSome=true)(em:Bool):(Instr.checkKey em 10000 t x).run P w=.ok () w:=by
 rcases Kt hk with⟨hu,rfl⟩ | ⟨kk,hu,rfl⟩ | ⟨fs,ks,hu,hks,rfl,hall⟩
 .refine MapKept.run_checkKey (d:=.string) hu ?_ em 9999;obtain⟨c,hc⟩:=dH.1 hself;simp only[sS]at hc;split at hc
  case h_2=>cases hc
  obtain⟨b1,rfl,h1⟩:=hx.lr;simp[MapKept.IsKey]
 .refine MapKept.run_checkKey (d:=.int kk) hu ?_ em 9999;obtain⟨c,hc⟩:=dH.1 hself;simp only[sS]at hc;split at hc
  case h_2=>cases hc
  rename_i p q hp hq2;have hx1:=vL hx hp;simp only[vP,aD,if_false]at hx1;obtain⟨a,xs,b,ys,b0,rfl,_,h0,rfl⟩:=tG hc;obtain⟨rfl,_,rfl⟩:=vB h0;cases hx1 with
  |cons _ _ _ _ g1 _ =>
   obtain rfl:=g1.eO;simp[MapKept.IsKey]
 .obtain⟨c,hc⟩:=dH.1 hself;simp only[sS]at hc;split at hc
  case h_2=>cases hc
  rename_i p q hp hq2;have hx1:=vL hx hp;simp only[vP,if_true]at hx1;obtain⟨xs,rfl,hxr,h1x⟩:=hx1;have hks':lN.kindsF P (lN P 19) 0 fs.toList=some ks:=by
   have:=hks;rw[lN,hu]at this;dsimp only at this;split at this
   .cases this
   .exact this
  have hrun:=CV (P:=P) (w:=w) em hxr h1x fs.toList 0 ks q c hks' hall (by simpa using hc);rw[show(10000:Nat)=9999+1 from rfl,Instr.checkKey];simp only[Sem.run_bind,run_underlying hu,Result.andThen_ok];rw[<- Array.forIn_toList];simp at hrun ⊢;rw[hrun];rfl
end
section
variable {P:Program} {CR:fh} {base fb:Nat} {V:List Nat} {g:G} {J J':SK} {w:World} {B:Nat->Nat} {e:Env} {tmps:Array Value} {df:List Deferred} {d:D}
theorem Inv.XX(hi:Inv CR base g J w){l i:Nat}(hn:fR J (.cells 0 [])=some (l,i,J')):
  Inv CR base (g.cT l i (.mp w.heap.size)) J' (w.alloc (.map #[] 0))/\Ev g w (g.cT l i (.mp w.heap.size)) (w.alloc (.map #[] 0)):=by
 obtain⟨h1,h2,h3,_,_⟩:=jL hn;have hnone:=hi.Ey h1;have hle:g.le (g.cT l i (.mp w.heap.size)):=G.jR λL0 e=>by rw[hnone]at e;cases e
 refine⟨hi.He l i hle h3 (λl' i' c=>G.bK c) (λl' i' L b c e eb=>alloc_old (hi.lo l' i' L b e eb).2) ?_ ?_ ?_ ?_ (by simp) ⟨_,G.aL⟩ (λb v hb=>alloc_old (hi.jh hb)),⟨hle,rfl,rfl,rfl,by simp,λb hb _=>alloc_old hb,?_,λb o v hv => .inl hv⟩⟩
 .intro L e;rw[G.aL]at e;cases e;exact⟨_,h2,rfl,#[],0,sW,.nil,by simp[SL]⟩
 .intro b o v e;obtain⟨h1,h2⟩:=hi.oc b o v e;exact⟨(ie (alloc_old (hi.jh e))).trans h1,h2⟩
 .intro l' i' L b e eb o;by_cases c:l'=l/\i'=i
  .obtain⟨rfl,rfl⟩:=c;rw[G.aL]at e;cases e;cases eb;cases e':(g.cT l' i' (.mp w.heap.size)).oc w.heap.size o with
   |none=>rfl
   |some v=>have:=hi.jh (b:=w.heap.size) (o:=o) (v:=v) e';omega
  .rw[G.bK c]at e;exact hi.sep l' i' L b e eb o
 .intro L b e eb;rw[G.aL]at e;cases e;cases eb;refine⟨hi.ge,by simp,λl' i' L' c e' eb'=>?_⟩;have:=(hi.lo l' i' L' _ e' eb').2;omega
 .intro b hb;obtain⟨l',i',L,e,eb⟩:=hb;by_cases c:l'=l/\i'=i
  .obtain⟨rfl,rfl⟩:=c;rw[G.aL]at e;cases e;cases eb;exact .inr (aN _)
  .rw[G.bK c]at e;exact .inl ⟨l',i',L,e,eb⟩
theorem Inv.adW(hi:Inv CR base g J w){l i T ee:Nat}(hn:fR J (.cells 2 [.int .i64 (T:Nat),.int .i64 (ee:Nat),.str []])=some (l,i,J')):
  Inv CR base (g.cT l i (.ob w.heap.size none)) J' (w.alloc (.cells #[.pointer none,.slice none 0 0] T))/\Ev g w (g.cT l i (.ob w.heap.size none)) (w.alloc (.cells #[.pointer none,.slice none 0 0] T)):=by
 obtain⟨h1,h2,h3,_,_⟩:=jL hn;have hnone:=hi.Ey h1;have hle:g.le (g.cT l i (.ob w.heap.size none)):=G.jR λL0 e=>by rw[hnone]at e;cases e
 have hown:∀b,(Loc.ob w.heap.size none).owns b->w.heap.size=b:=λb h=>by
  rcases h with h | h
  .exact h
  .cases h
 refine⟨hi.He l i hle h3 (λl' i' c=>G.bK c) (λl' i' L b c e eb=>alloc_old (hi.lo l' i' L b e eb).2) ?_ ?_ ?_ ?_ (by simp) ⟨_,G.aL⟩ (λb v hb=>alloc_old (hi.jh hb)),⟨hle,rfl,rfl,rfl,by simp,λb hb _=>alloc_old hb,?_,λb o v hv => .inl hv⟩⟩
 .intro L e;rw[G.aL]at e;cases e;exact⟨_,h2,rfl,T,ee,[],.pointer none,.slice none 0 0,rfl,sW,.inl rfl,World.ownsRowF_nil _ _ _ _,rfl,by simp⟩
 .intro b o v e;obtain⟨h1,h2⟩:=hi.oc b o v e;exact⟨(ie (alloc_old (hi.jh e))).trans h1,h2⟩
 .intro l' i' L b e eb o;by_cases c:l'=l/\i'=i
  .obtain⟨rfl,rfl⟩:=c;rw[G.aL]at e;cases e;obtain rfl:=hown b eb;cases e':(g.cT l' i' (.ob w.heap.size none)).oc w.heap.size o with
   |none=>rfl
   |some v=>have:=hi.jh (b:=w.heap.size) (o:=o) (v:=v) e';omega
  .rw[G.bK c]at e;exact hi.sep l' i' L b e eb o
 .intro L b e eb;rw[G.aL]at e;cases e;obtain rfl:=hown b eb;refine⟨hi.ge,by simp,λl' i' L' c e' eb'=>?_⟩;have:=(hi.lo l' i' L' _ e' eb').2;omega
 .intro b hb;obtain⟨l',i',L,e,eb⟩:=hb;by_cases c:l'=l/\i'=i
  .obtain⟨rfl,rfl⟩:=c;rw[G.aL]at e;cases e;obtain rfl:=hown b eb;exact .inr (aN _)
  .rw[G.bK c]at e;exact .inl ⟨l',i',L,e,eb⟩
theorem Inv.Yq(hi:Inv CR base g J w){l i b:Nat}{b0:aG}{es:List D}(hL:g.loc l i=some (.mp b))(hb:dZ J l i=some b0){dL:Array MapEntry}{clock:Nat}
  (hr:bN g es (dL.toList.map λe => .tuple #[e.key,e.val])) (hm:SL dL.toList clock) {w':World} (hw:w'={w with heap:=w.heap.setIfInBounds b (.map dL clock) }):
  Inv CR base (g.cT l i (.mp b)) (bj J l i (.cells 0 es)) w'/\Ev g w (g.cT l i (.mp b)) w':=by
 subst hw;have hlt:=(hi.lo l i _ b hL rfl).2;have hle:g.le (g.cT l i (.mp b)):=G.jR λL0 e=>by rw[hL]at e;cases e;exact Loc.le_refl _
 refine hi.setCells hL hb (Loc.le_refl _) ⟨rfl,dL,clock,by simp[hlt],hr.mono hle,hm⟩ (λb' hb' hne=>?_) rfl rfl rfl (by simp) (λb' hb' => .inl hb');have:b≠b':=λhh=>hne (by rw[hh];rfl)
 simp[this]
theorem BK(hi:Inv CR base g J w){m:D}{c:Value}(hr:bQ g m c){l i:Nat}{es:List D}(h:Dg J m=some (l,i,es)):
  ∃b dL clock v,c=.map (some b)/\g.loc l i=some (.mp b)/\dZ J l i=some (.cells v es)/\w.heap[b]?=some (.map dL clock)/\bN g es (dL.toList.map λe => .tuple #[e.key,e.val])/\SL dL.toList clock:=by
 obtain⟨rfl,hcs⟩:=PN h;unfold cells? at hcs;split at hcs
 case h_2=>cases hcs
 rename_i v' cs' hblk;split at hcs
 case isFalse=>cases hcs
 cases hcs;cases hr with
 |jU _ _ b hl =>
  obtain⟨b0,hb0,hrel⟩:=hi.xJ l i _ hl;rw[hblk]at hb0;cases hb0;exact hrel.elim
 |Tg _ _ b hl =>
  obtain⟨b0,hb0,hrel⟩:=hi.xJ l i _ hl;rw[hblk]at hb0;cases hb0;obtain⟨_,dL,clock,h1,h2,h3⟩:=hrel;exact⟨b,dL,clock,v',rfl,hl,hblk,h1,h2,h3⟩
 |Xx _ _ b L hl hc =>
  obtain⟨b0,hb0,hrel⟩:=hi.xJ l i _ hl;rw[hblk]at hb0;cases hb0;rcases hc with rfl | rfl
  .rename_i hv0;obtain⟨hv1,_⟩:=hrel;omega
  .exact hrel.elim
 |Uk _ _ b L hl hc =>
  obtain⟨b0,hb0,hrel⟩:=hi.xJ l i _ hl;rw[hblk]at hb0;cases hb0;rcases hc with⟨c,rfl⟩ | rfl
  .rename_i hv0;obtain⟨hv1,_⟩:=hrel;omega
  .exact hrel.elim
theorem ahU(hi:Inv CR base g J w){t:TypeId}{ρ:Operand->Value}(h:bR e J (.mp .make [])=some (d,J'))(o:Oper)(ho:o.op=.makeMap t none):fj P CR base g w B e ρ o d J':=by
 simp only[bR,bW,Dc,ad,ar,Prod.exists]at h;obtain⟨l,i,J1,hn,rfl,rfl⟩:=h;obtain⟨i1,e1⟩:=hi.XX hn;exact .val (.map (some w.heap.size)) (by
  have hrun:(Instr.makeMap t none).run P w=.ok (.map (some w.heap.size)) (w.alloc (.map #[] 0)):=rfl;simp only[execOp,ho,Option.map_none,Sem.run_bind,hrun,Result.andThen_ok,Sem.run_pure]) e1 i1 (.Tg l i _ G.aL)
theorem ahR(hi:Inv CR base g J w){el ee:TypeId}{ρ:Operand->Value}(hz:qX P el=some [.zg,.bz])
  (h:bR e J (.mp (.K8 el ee) [])=some (d,J')) (o:Oper) (ho:o.op=.alloc el):fj P CR base g w B e ρ o d J':=by
 obtain⟨i0,v,hinfo,hzero,hrz,h1⟩:=tp g hz;simp only[bR,bW,Dc,ad,ar,Prod.exists]at h;obtain⟨l,i,J1,hn,rfl,rfl⟩:=h;obtain⟨i1,e1⟩:=hi.adW hn;have hv:v.cells = #[.pointer none,.slice none 0 0]:=by
  generalize v.cells=a at hrz;obtain⟨a⟩:=a;dsimp only at hrz;cases hrz with
  |cons _ c _ cs k1 k2 =>
   cases k2 with
   |cons _ c2 _ cs2 k3 k4 =>
    cases k4;cases k1;cases k3;rfl
 have hrun:=HV (w:=w) hinfo hzero;rw[hv]at hrun;exact .val (.pointer (some ⟨w.heap.size,0,none⟩)) (by simp[execOp,ho,hrun]) e1 i1 (.Uk l i _ _ G.aL (.inl ⟨_,rfl⟩))
theorem aeQ(hi:Inv CR base g J w){t kt et:TypeId}{ik:IntKind}{n:Int}(h:bR e J (.mp .make [])=some (d,J'))(ht:P.underlying t=some (.map kt et))(o:Oper)(ho:o.op=.makeMap t (some (.const (.int ik n)))):fj P CR base g w B e (Act.mk tmps df).eval o d J':=by
 simp only[bR,bW,Dc,ad,ar,Prod.exists]at h;obtain⟨l,i,J1,hn,rfl,rfl⟩:=h;obtain⟨i1,e1⟩:=hi.XX hn;exact .val (.map (some w.heap.size)) (by
  have hrun:(Instr.makeMap t (some (.int ik n))).run P w=.ok (.map (some w.heap.size)) (w.alloc (.map #[] 0)):=by
   simp only[Instr.makeMap,Sem.run_bind,bD ht,Result.andThen_ok];rfl
  have hev:(Act.mk tmps df).eval (.const (.int ik n))=.int ik n:=rfl;simp only[execOp,ho,aZ,hev,Sem.run_bind,hrun,Result.andThen_ok,Sem.run_pure]) e1 i1 (.Tg l i _ G.aL)
theorem aeR(hf:Fr fb V g w B e tmps)(hi:Inv CR base g J w){x:Operand}{X:bP}{t kt et:TypeId}{args:Array Operand}{ts:Array TypeId}{r:List Operand}{tr:List TypeId}(hx:bO x=some X)
  (ht:P.underlying t=some (.map kt et)) (ha:args.toList=x::r) (hts:ts.toList=t::tr)
  (h:bR e J (.mp .len [X])=some (d,J')) (o:Oper) (ho:o.op=.call {callee:=.builtin .len,args,argTypes:=ts }):fj P CR base g w B e (Act.mk tmps df).eval o d J':=by
 have hr:=hf.bB (df:=df) hx;obtain rfl:args=(x::r).toArray:=by rw[<- ha]
 obtain rfl:ts=(t::tr).toArray:=by rw[<- hts]
 simp only[bR,aM,bW,Dc,ad,ar,Prod.exists]at h;obtain⟨l,i,es,hm,rfl,rfl⟩:=h;obtain⟨b,dL,clock,v,hc,hl,hblk,hheap,hrel,hok⟩:=BK hi hr hm;have hlen:=hrel.length;simp only[bG,Array.length_toList]at hlen;refine .pure hi (c:=.int .i64 dL.size) ?_ (by rw[hlen];exact cU.of (.int _ _));simp[execOp,ho,resolve,invoke,builtin,Builtin.len_,hc,bD ht,goInt,MapKept.run_getObj_map hheap]
theorem Od{t:TypeId}{z:D}(g:G)(h:zvC P t=some z):∃i v,P.info? t=some i/\i.zero=some v/\bQ g z v:=by
 unfold zvC at h;split at h
 .rename_i i hi;split at h
  .rename_i v hv;exact⟨i,v,hi,hv,JX g h⟩
  .cases h
 .cases h
theorem aeP(hf:Fr fb V g w B e tmps)(hi:Inv CR base g J w){x y:Operand}{X Y:bP}{t kt et:TypeId}{ky:Ky}{z:D}{ok:Bool}(hx:bO x=some X)(hy:bO y=some Y)
  (ht:P.underlying t=some (.map kt et)) (hk:Ks P kt=some ky) (hz:zvC P et=some z)
  (h:bR e J (.mp (.get ky z ok) [X,Y])=some (d,J')) (o:Oper) (ho:o.op=.lookup t x y ok):fj P CR base g w B e (Act.mk tmps df).eval o d J':=by
 have hr:=hf.bB (df:=df) hx;have hr':=hf.bB (df:=df) hy;simp only[bR,aM,bW,Dc]at h;split at h
 case h_2=>cases h
 rename_i l i es hm;split at h
 case isFalse=>cases h
 rename_i hself;obtain⟨b,dL,clock,v,hc,hl,hblk,hheap,hrel,hok⟩:=BK hi hr hm;have hck:=Gd (w:=w) hk hr' hself dL.isEmpty;obtain⟨iz,zv,hz1,hz2,hz3⟩:=Od g hz;split at h
 .rename_i j v1 hfk;cases h;obtain⟨o1,ho1,e1,_,rfl,hv1⟩:=Ac (w:=w) hk hr' hrel hfk hself;cases ok
  .refine .pure hi (c:=e1.val) ?_ (cU.of (by simpa using hv1));simp[execOp,ho,Instr.lookup,bD ht,hc,MapKept.run_getObj_map hheap,hck,ho1]
  .refine .pure hi (c:=.tuple #[e1.val,.bool true]) ?_ (cU.of (by simpa using bQ.cK _ #[e1.val,.bool true] (.cons _ _ _ _ hv1 (.cons _ _ _ _ (.bool true) .nil))));simp[execOp,ho,Instr.lookup,bD ht,hc,MapKept.run_getObj_map hheap,hck,ho1]
 .rename_i hfk;cases h;obtain⟨o1,ho1,hf1⟩:=Ac (w:=w) hk hr' hrel hfk hself;obtain rfl:o1=none:=hf1;cases ok
  .refine .pure hi (c:=zv) ?_ (cU.of (by simpa using hz3));simp[execOp,ho,Instr.lookup,bD ht,hc,MapKept.run_getObj_map hheap,hck,ho1,gz hz1 hz2]
  .refine .pure hi (c:=.tuple #[zv,.bool false]) ?_ (cU.of (by simpa using bQ.cK _ #[zv,.bool false] (.cons _ _ _ _ hz3 (.cons _ _ _ _ (.bool false) .nil))));simp[execOp,ho,Instr.lookup,bD ht,hc,MapKept.run_getObj_map hheap,hck,ho1,gz hz1 hz2]
 .cases h
theorem bN.set{g:G}:∀{ds:List D} {cs:List Value} {j:Nat} {d:D} {c:Value},bN g ds cs->bQ g d c->bN g (ds.set j d) (cs.set j c)
 |[],[],_,_,_,_,_=>by simpa using bN.nil
 |_::_,_::_,0,_,_,.cons _ _ _ _ h1 h2,h => .cons _ _ _ _ h h2
 |_::_,_::_,j+1,_,_,.cons _ _ _ _ h1 h2,h => .cons _ _ _ _ h1 (h2.set h)
theorem Yp(hf:Fr fb V g w B e tmps)(hi:Inv CR base g J w){x y u:Operand}{X Y U:bP}{t kt et:TypeId}{ky:Ky}(hx:bO x=some X)(hy:bO y=some Y)(hu:bO u=some U)
  (ht:P.underlying t=some (.map kt et)) (hk:Ks P kt=some ky)
  (h:bR e J (.mp (.put ky) [X,Y,U])=some (d,J')) (o:Oper) (ho:o.op=.mapUpdate t x y u\/o.op=.insert t x y u):fj P CR base g w B e (Act.mk tmps df).eval o d J':=by
 have hr:=hf.bB (df:=df) hx;have hr':=hf.bB (df:=df) hy;have hru:=hf.bB (df:=df) hu;simp only[bR,aM,bW,Dc]at h;split at h
 case h_2=>cases h
 rename_i l i es hm;split at h
 case isFalse=>cases h
 rename_i hself;obtain⟨b,dL,clock,v,hc,hl,hblk,hheap,hrel,hok⟩:=BK hi hr hm;have hck:=Gd (w:=w) hk hr' hself.1 false;generalize hkv:(Act.mk tmps df).eval y=kv at *
 generalize huv:(Act.mk tmps df).eval u=uv at *
 have hnew:bQ g (.cK [bB e Y,bB e U]) (.tuple #[kv,uv]):=.cK _ _ (.cons _ _ _ _ hr' (.cons _ _ _ _ hru .nil));split at h
 .rename_i j v1 hfk;cases h;obtain⟨o1,ho1,e1,he1,rfl,hv1⟩:=Ac (w:=w) hk hr' hrel hfk hself.1;obtain⟨k',hk',hkq⟩:=LZ hfk;have hj:dL[j]?=some e1:=by simpa using he1
  have hold:bQ g k' e1.key:=by
   obtain⟨c0,hc0,hr0⟩:=hrel.get hk';rw[lR,he1]at hc0;cases hc0;exact(Ob hr0).1
  obtain⟨hsame,hbits⟩:=XA hkq hr' hold;have hlist:(dL.modify j λe=>{e with key:=kv,val:=uv }).toList=dL.toList.set j {e1 with key:=kv,val:=uv }:=by
   rw[Array.toList_modify];apply ez;intro n;rw[List.getElem?_modify,List.getElem?_set];by_cases hn:j=n
   .subst hn;have hlt:=(aB.1 he1).1;have hlt2:j<dL.size:=by simpa using hlt
    have hje:dL[j]=e1:=(de.1 hj).2;simp[he1,hlt2,hje]
   .simp[hn]
  obtain⟨i1,ev1⟩:=hi.Yq (es:=es.set j (.cK [bB e Y,bB e U])) (dL:=dL.modify j λe=>{e with key:=kv,val:=uv }) (clock:=clock) (w':={w with heap:=w.heap.setIfInBounds b (.map (dL.modify j λe=>{e with key:=kv,val:=uv }) clock) }) hl hblk (by
    rw[hlist,List.map_set];exact hrel.set hnew) (by
    have hlt:=(aB.1 he1);rw[hlist];refine⟨?_,by rw[List.length_set];exact hok.2⟩;rw[List.map_set,List.length_set];have:(dL.toList.map (·.born)).set j e1.born=dL.toList.map (·.born):=by
     apply ez;intro n;rw[List.getElem?_set];by_cases hn:j=n
     .subst hn;have hlt2:j<dL.size:=by simpa using hlt.1
      have hje:dL[j]=e1:=(de.1 hj).2;simp[he1,hlt2,hje]
     .simp[hn]
    rw[this];exact hok.1) rfl
  refine⟨.skip,Go.undef,_,_,?_,rfl,ev1,i1,.undef _⟩;have hkts:∀w:World,(Instr.keyThatStays e1.key kv).run P w=.ok kv w:=λw=>by simp[Instr.keyThatStays,hbits]
  rcases ho with ho | ho<;>simp[execOp,ho,Instr.mapUpdate,bD ht,hc,hkv,huv,MapKept.run_getObj_map hheap,hck,ho1,hj,hkts,MapKept.run_setObj_map _ hheap]
 .rename_i hfk;cases h;obtain⟨o1,ho1,hf1⟩:=Ac (w:=w) hk hr' hrel hfk hself.1;obtain rfl:o1=none:=hf1;obtain⟨i1,ev1⟩:=hi.Yq (es:=es++[.cK [bB e Y,bB e U]]) (dL:=dL.push {key:=kv,val:=uv,born:=clock }) (clock:=clock+1) (w':={w with heap:=w.heap.setIfInBounds b (.map (dL.push {key:=kv,val:=uv,born:=clock }) (clock+1)) }) hl hblk (by
    rw[Array.toList_push,List.map_append];exact hrel.append (.cons _ _ _ _ hnew .nil)) (by
    rw[Array.toList_push];have h2:=hok.2;refine⟨?_,by simp only[aV,aE,aY];omega⟩;rw[List.map_append,hok.1,aV,aE,aY,cq,List.range_succ];simp only[aM,bW,h2]) rfl
  refine⟨.skip,Go.undef,_,_,?_,rfl,ev1,i1,.undef _⟩;rcases ho with ho | ho<;>simp[execOp,ho,Instr.mapUpdate,bD ht,hc,hkv,huv,MapKept.run_getObj_map hheap,hck,ho1,MapKept.run_setObj_map _ hheap]
 .cases h
theorem Inv.aaB(hi:Inv CR base g J w){l i lm im bm n:Nat}(hn:fR J (.cells 1 [.jU lm im,.int .i64 (n:Nat)])=some (l,i,J'))(hm:g.loc lm im=some (.mp bm)):
  Inv CR base (g.cT l i (.it w.heap.size)) J' (w.alloc (.mapIter (some bm) n #[] n))/\Ev g w (g.cT l i (.it w.heap.size)) (w.alloc (.mapIter (some bm) n #[] n)):=by
 obtain⟨h1,h2,h3,_,_⟩:=jL hn;have hnone:=hi.Ey h1;have hle:g.le (g.cT l i (.it w.heap.size)):=G.jR λL0 e=>by rw[hnone]at e;cases e
 refine⟨hi.He l i hle h3 (λl' i' c=>G.bK c) (λl' i' L b c e eb=>alloc_old (hi.lo l' i' L b e eb).2) ?_ ?_ ?_ ?_ (by simp) ⟨_,G.aL⟩ (λb v hb=>alloc_old (hi.jh hb)),⟨hle,rfl,rfl,rfl,by simp,λb hb _=>alloc_old hb,?_,λb o v hv => .inl hv⟩⟩
 .intro L e;rw[G.aL]at e;cases e;have hm2:(g.cT l i (.it w.heap.size)).loc lm im=some (.mp bm):=by
   rw[G.bK λhh=>by rw[hh.1,hh.2,hnone]at hm;cases hm];exact hm
  exact⟨_,h2,rfl,lm,im,bm,n,[],rfl,hm2,sW,List.nodup_nil,by simp⟩
 .intro b o v e;obtain⟨h1,h2⟩:=hi.oc b o v e;exact⟨(ie (alloc_old (hi.jh e))).trans h1,h2⟩
 .intro l' i' L b e eb o;by_cases c:l'=l/\i'=i
  .obtain⟨rfl,rfl⟩:=c;rw[G.aL]at e;cases e;cases eb;cases e':(g.cT l' i' (.it w.heap.size)).oc w.heap.size o with
   |none=>rfl
   |some v=>have:=hi.jh (b:=w.heap.size) (o:=o) (v:=v) e';omega
  .rw[G.bK c]at e;exact hi.sep l' i' L b e eb o
 .intro L b e eb;rw[G.aL]at e;cases e;cases eb;refine⟨hi.ge,by simp,λl' i' L' c e' eb'=>?_⟩;have:=(hi.lo l' i' L' _ e' eb').2;omega
 .intro b hb;obtain⟨l',i',L,e,eb⟩:=hb;by_cases c:l'=l/\i'=i
  .obtain⟨rfl,rfl⟩:=c;rw[G.aL]at e;cases e;cases eb;exact .inr (aN _)
  .rw[G.bK c]at e;exact .inl ⟨l',i',L,e,eb⟩
theorem ahX(hf:Fr fb V g w B e tmps)(hi:Inv CR base g J w){x:Operand}{X:bP}{t kt et:TypeId}(hx:bO x=some X)(ht:P.underlying t=some (.map kt et))
  (h:bR e J (.mp .rng [X])=some (d,J')) (o:Oper) (ho:o.op=.range t x):fj P CR base g w B e (Act.mk tmps df).eval o d J':=by
 have hr:=hf.bB (df:=df) hx;simp only[bR,aM,bW,Dc]at h;split at h
 case h_2=>cases h
 rename_i lm im es hm;obtain⟨b,dL,clock,v,hc,hl,hblk,hheap,hrel,hok⟩:=BK hi hr hm;simp only[ad,ar,Prod.exists]at h;obtain⟨l,i,J1,hn,rfl,rfl⟩:=h;have hlen:=hrel.length;simp only[bG]at hlen;have hck:clock=es.length:=by rw[hlen];exact hok.2
 obtain⟨i1,e1⟩:=hi.aaB hn hl;have hrun:=run_range_map (P:=P) w t kt et b dL clock ht hheap;rw[hck]at hrun;exact .val (.pointer (some ⟨w.heap.size,0,none⟩)) (by simp[execOp,ho,hc,hrun]) e1 i1 (.Xx l i _ _ G.aL (.inl rfl))
theorem ahJ(hf:Fr fb V g w B e tmps)(hi:Inv CR base g J w){x:Operand}{X:bP}(hx:bO x=some X)
  (h:bR e J (.mp .ent [X])=some (d,J')) (o:Oper) (ho:o.op=.entry x):fj P CR base g w B e (Act.mk tmps df).eval o d J':=by
 have hr:=hf.bB (df:=df) hx;simp only[bR,aM,bW]at h;generalize bB e X=dx at hr h;cases dx<;>simp only[Dc,reduceCtorEq]at h;rename_i l i;split at h
 case h_2=>cases h
 rename_i m n j rest hcs;split at h
 case h_2=>cases h
 rename_i lm im es hm;split at h
 case isFalse=>cases h
 rename_i hlen;split at h
 case h_2=>cases h
 rename_i k v hj;cases h;unfold cells? at hcs;split at hcs
 case h_2=>cases hcs
 rename_i v' cs' hblk;split at hcs
 case isFalse=>cases hcs
 rename_i hv1;cases hcs;generalize hcv:(Act.mk tmps df).eval x=cv at hr;cases hr with
 |jU _ _ b hl =>
  obtain⟨b0,hb0,hrel⟩:=hi.xJ l i _ hl;rw[hblk]at hb0;cases hb0;exact hrel.elim
 |Tg _ _ b hl =>
  obtain⟨b0,hb0,hrel⟩:=hi.xJ l i _ hl;rw[hblk]at hb0;cases hb0;have:=hrel.1;omega
 |Uk _ _ b L hl hc =>
  obtain⟨b0,hb0,hrel⟩:=hi.xJ l i _ hl;rw[hblk]at hb0;cases hb0;rcases hc with⟨c,rfl⟩ | rfl
  .have:=hrel.1;omega
  .exact hrel.elim
 |Xx _ _ b L hl hc =>
  obtain⟨b0,hb0,hrel⟩:=hi.xJ l i _ hl;rw[hblk]at hb0;cases hb0;rcases hc with rfl | rfl
  rotate_left
  .exact hrel.elim
  obtain⟨_,lm',im',bm,n',js,hcs,hlm,hheap,hnd,hlt⟩:=hrel;cases js with
  |nil=>simp at hcs
  |cons j' js =>
   simp only[aM,jV,D.int.injEq,true_and]at hcs;obtain⟨rfl,rfl,rfl,_⟩:=hcs;obtain⟨b2,dL,clock,v2,hc2,hl2,hblk2,hheap2,hrel2,hok⟩:=BK hi (.Tg lm' im' bm hlm) hm;cases hc2;have hlen2:=hrel2.length;simp only[bG]at hlen2;obtain⟨c0,hc0,hr0⟩:=hrel2.get hj;rw[lR]at hc0;simp only[Int.toNat_natCast]at hc0;obtain⟨e1,he1,rfl⟩:=ad.1 hc0;have hborn:e1.born=j':=by
    have h1:=congrArg (λl=>l[j']?) hok.1;simp only[lR,he1,aZ]at h1;have h2:=(aB.1 he1).1;rw[List.getElem?_range h2]at h1;exact Option.some.inj h1
   have hck:clock=n':=by have:=hok.2;omega
   have hnd2:(dL.toList.map (·.born)).Nodup:=by rw[hok.1];exact List.nodup_range
   have hit:w.heap[b]?=some (.mapIter (some bm) n' (js.reverse.toArray.push e1.born) clock):=by
    rw[hheap,hborn,hck];simp
   have hrun:=run_entry_at (P:=P) w b bm n' js.reverse.toArray dL clock e1 hit hheap2 (aj he1) hnd2;refine .pure hi (c:=.tuple #[e1.key,e1.val]) ?_ (cU.of hr0);simp[execOp,ho,hcv,hrun]
end
variable {P:Program} {CR:fh} {base fb:Nat} {V:List Nat} {g:G} {J J':SK} {w:World} {B:Nat->Nat} {e:Env} {tmps:Array Value} {df:List Deferred} {d:D}
theorem ahT(hf:Fr fb V g w B e tmps)(hi:Inv CR base g J w){x:Operand}{X:bP}{t:TypeId}(hx:bO x=some X)(hc:P.concrete t=true)
  (h:bR e J (.XN t X)=some (d,J')) (o:Oper) (ho:o.op=.makeInterface t x):fj P CR base g w B e (Act.mk tmps df).eval o d J':=by
 have hr:=hf.bB (df:=df) hx;simp only[bR,ae,ar]at h;obtain⟨rfl,rfl⟩:=h;exact .pure hi (c:=.iface t ((Act.mk tmps df).eval x)) (by simp[execOp,ho,run_makeInterface w t _ hc]) (cU.of (.ui t _ _ hr))
theorem acj(hf:Fr fb V g w B e tmps)(hi:Inv CR base g J w){x:Operand}{X:bP}{t xt:TypeId}{dsc:TypeDesc}{ok:Bool}{z:Option D}(hx:bO x=some X)(ht:P.underlying t=some dsc)(hn:∀ms,dsc ≠ .interface ms)
  (hz:if ok then ∃z0,z=some z0/\zvC P t=some z0 else z=none)
  (h:bR e J (.YU t z X)=some (d,J')) (o:Oper) (ho:o.op=.typeAssert x xt t ok):fj P CR base g w B e (Act.mk tmps df).eval o d J':=by
 have hr:=hf.bB (df:=df) hx;simp only[bR,ad,ar]at h;obtain⟨d0,h,rfl,rfl⟩:=h;generalize hcx:(Act.mk tmps df).eval x=cx at hr;generalize bB e X=dx at hr h;cases hr with
 |ui t' d1 c h1 =>
  simp only[R4]at h;cases ok with
  |true =>
   simp only[if_true]at hz;obtain⟨z0,rfl,hz⟩:=hz;obtain⟨iz,zv,hz1,hz2,hz3⟩:=Od g hz;simp only[ae]at h;by_cases htt:t'=t
   .rw[if_pos htt]at h;subst h;refine .pure hi (c:=.tuple #[c,.bool true]) ?_ (cU.of (.cK _ #[c,.bool true] (.cons _ _ _ _ h1 (.cons _ _ _ _ (.bool true) .nil))));simp only[execOp,ho,hcx,Instr.typeAssert,Sem.run_bind,run_underlying ht,Result.andThen_ok];cases dsc<;>first | exact absurd rfl (hn _) | simp[htt]
   .rw[if_neg htt]at h;subst h;refine .pure hi (c:=.tuple #[zv,.bool false]) ?_ (cU.of (.cK _ #[zv,.bool false] (.cons _ _ _ _ hz3 (.cons _ _ _ _ (.bool false) .nil))));simp only[execOp,ho,hcx,Instr.typeAssert,Sem.run_bind,run_underlying ht,Result.andThen_ok];cases dsc<;>first | exact absurd rfl (hn _) | simp[htt,gz hz1 hz2]
  |false =>
   simp only[aD,if_false]at hz;subst hz;simp only at h;split at h
   case isFalse=>cases h
   rename_i htt;cases h;refine .pure hi (c:=c) ?_ (cU.of h1);simp only[execOp,ho,hcx,Instr.typeAssert,Sem.run_bind,run_underlying ht,Result.andThen_ok];cases dsc<;>first | exact absurd rfl (hn _) | simp[htt]
 |nK =>
  simp only[R4,ad]at h;obtain⟨z1,rfl,rfl⟩:=h;cases ok with
  |true =>
   simp only[if_true]at hz;obtain⟨z0,hz0,hz⟩:=hz;cases hz0;obtain⟨iz,zv,hz1,hz2,hz3⟩:=Od g hz;refine .pure hi (c:=.tuple #[zv,.bool false]) ?_ (cU.of (.cK _ #[zv,.bool false] (.cons _ _ _ _ hz3 (.cons _ _ _ _ (.bool false) .nil))));simp only[execOp,ho,hcx,Instr.typeAssert,Sem.run_bind,run_underlying ht,Result.andThen_ok];cases dsc<;>first | exact absurd rfl (hn _) | simp[gz hz1 hz2]
  |false=>simp at hz
 |_=>simp[R4]at h
theorem HW{t:TypeId}{ms:Array (String×TypeId)}(n:Nat)(ht:P.underlying t=some (.interface ms))(w:World):(Op.equalIn (n+1) t .nilIface .nilIface).run P w=.ok true w:=by
 rw[Op.equalIn];simp[run_underlying ht]
theorem I3{t t':TypeId}{c:Value}{ms:Array (String×TypeId)}(n:Nat)(ht:P.underlying t=some (.interface ms))(w:World):(Op.equalIn (n+1) t (.iface t' c) .nilIface).run P w=.ok false w:=by
 rw[Op.equalIn];simp[run_underlying ht]
theorem KM{t:TypeId}{ms:Array (String×TypeId)}(ht:P.underlying t=some (.interface ms))(w:World):(Op.equal t .nilIface .nilIface).run P w=.ok true w:=HW 9999 ht w
theorem Lm{t t':TypeId}{c:Value}{ms:Array (String×TypeId)}(ht:P.underlying t=some (.interface ms))(w:World):(Op.equal t (.iface t' c) .nilIface).run P w=.ok false w:=I3 9999 ht w
theorem acg(hf:Fr fb V g w B e tmps)(hi:Inv CR base g J w){x:Operand}{X:bP}{t u:TypeId}{ms:Array (String×TypeId)}{neg:Bool}(hx:bO x=some X)(ht:P.underlying t=some (.interface ms))
  (h:bR e J (.isi neg X)=some (d,J')) (o:Oper) (ho:o.op=.binOp (if neg then .neq else .eql) t x (.const .nilIface) u):fj P CR base g w B e (Act.mk tmps df).eval o d J':=by
 have hr:=hf.bB (df:=df) hx;simp only[bR,ad,ar]at h;obtain⟨b,h,rfl,rfl⟩:=h;have hev:(Act.mk tmps df).eval (.const .nilIface)=.nilIface:=rfl;generalize hcx:(Act.mk tmps df).eval x=cx at hr;generalize bB e X=dx at hr h;cases hr with
 |nK =>
  cases h;refine .pure hi (c:=.bool (if neg then false else true)) ?_ (cU.of (by cases neg<;>exact .bool _));cases neg<;>simp[execOp,ho,hcx,hev,eqGuard,binOp,KM ht]
 |ui t' d1 c h1 =>
  cases h;refine .pure hi (c:=.bool (if neg then true else false)) ?_ (cU.of (by cases neg<;>exact .bool _));cases neg<;>simp[execOp,ho,hcx,hev,eqGuard,binOp,Lm ht]
 |_=>cases h
section
variable {P:Program} {CR:fh} {base fb:Nat} {V:List Nat} {g:G} {J J':SK} {w:World} {B:Nat->Nat} {e:Env} {tmps:Array Value} {df:List Deferred}
 {a:tx} {ops:Array Oper} {key:Nat} {k:K} {d:D}
theorem Q8(hf:Fr fb V g w B e tmps)(hi:Inv CR base g J w){x y:Operand}{X Y:bP}{t u:TypeId}{b:BinOp}(hx:bO x=some X)(hy:bO y=some Y)
  (hk:eqC P b t X Y=some k) (h:bR e J k=some (d,J')) (o:Oper) (ho:o.op=.binOp b t x y u):fj P CR base g w B e (Act.mk tmps df).eval o d J':=by
 unfold eqC at hk;split at hk
 case h_2=>cases hk
 rename_i ks hks;split at hk
 .cases hk
 rename_i hg;have hg':P.eqGuardType P.depth t=false:=by simpa using hg
 split at hk
 .obtain⟨ag,hag,rfl⟩:=ad.1 hk;exact acf hf hi hx hy hks hag hg' h o (by simpa using ho)
 .obtain⟨ag,hag,rfl⟩:=ad.1 hk;exact acf hf hi hx hy hks hag hg' h o (by simpa using ho)
 .cases hk
theorem aa2{ag:Bool}{sz:Nat}{X:bP}{r:D×SK}(h:bR e J (.Vf ag sz X)=some r):bR e J (.ld ag sz X)=some r:=by
 simp only[bR]at h ⊢;cases hx:bB e X<;>rw[hx]at h<;>try (cases h;done)
 simpa[HR]using h
theorem aa1{ag:Bool}{sz:Nat}{X:bP}{r:D×SK}(h:bR e J (.Ve ag sz X)=some r):bR e J (.ld ag sz X)=some r:=by
 simp only[bR]at h ⊢;cases hr:Vi J (bB e X)with
 |none=>rw[hr]at h;cases h
 |some cs =>
  rw[hr]at h;have:HR J (bB e X)=some cs:=by
   generalize bB e X=dx at hr;unfold Vi at hr;split at hr
   .exact hr
   .cases hr
  rw[this];exact h
theorem ES{w:World}(d:Nat){t el:TypeId}{a:Option Addr}(h:P.underlying t=some (.pointer el)):(Op.equalIn (d+1) t (.pointer a) (.pointer none)).run P w=.ok a.isNone w:=by
 cases a<;>simp[Op.equalIn,bD h]
theorem Dj{w:World}(d:Nat){t el:TypeId}{a:Option Addr}{n c:Nat}(h:P.underlying t=some (.slice el)):(Op.equalIn (d+1) t (.slice a n c) (.slice none 0 0)).run P w=.ok a.isNone w:=by
 cases a<;>simp[Op.equalIn,bD h]
theorem ahM(hi:Inv CR base g J w){x y:Operand}{X:bP}{t u:TypeId}{b:BinOp}{ps bo:Bool}{cx cy:Value}(e1:(Act.mk tmps df).eval x=cx)(e2:(Act.mk tmps df).eval y=cy)
  (hg:∀b,(eqGuard b t x y cx cy).run P w=.ok () w) (hb:binOp .eql t cx cy=(do pure (.bool (<- Op.equal t cx cy)))) (hb':binOp .neq t cx cy=(do pure (.bool (!(<- Op.equal t cx cy)))))
  (heq:(Op.equal t cx cy).run P w=.ok bo w) (hn:Lh ps (bB e X)=some bo)
  (hk:YQ ps b X=some k) (h:bR e J k=some (d,J')) (o:Oper) (ho:o.op=.binOp b t x y u):fj P CR base g w B e (Act.mk tmps df).eval o d J':=by
 unfold YQ at hk;split at hk
 .cases hk;simp only[bR,hn,aZ,ae,ar]at h;obtain⟨rfl,rfl⟩:=h;refine .pure hi ?_ (cU.of (.bool _));simp[execOp,ho,e1,e2,hg,hb,heq]
 .cases hk;simp only[bR,hn,aZ,ae,ar]at h;obtain⟨rfl,rfl⟩:=h;refine .pure hi ?_ (cU.of (.bool _));simp[execOp,ho,e1,e2,hg,hb',heq]
 .cases hk
theorem PC{ps:Bool}{b:BinOp}{X:bP}(hk:YQ ps b X=some k)(h:bR e J k=some (d,J')):∃bo,Lh ps (bB e X)=some bo:=by
 unfold YQ at hk;split at hk<;>cases hk<;>simp only[bR,ad]at h<;>obtain⟨b,hb,_⟩:=h<;>exact⟨b,hb⟩
theorem ahN(hf:Fr fb V g w B e tmps)(hi:Inv CR base g J w){x y:Operand}{X:bP}{t u el:TypeId}{b:BinOp}(hx:bO x=some X)(hy:bO y=some (.c .zg))(ht:P.underlying t=some (.pointer el))
  (hk:YQ true b X=some k) (h:bR e J k=some (d,J')) (o:Oper) (ho:o.op=.binOp b t x y u):fj P CR base g w B e (Act.mk tmps df).eval o d J':=by
 have hr:=hf.bB (df:=df) hx;have hr':=hf.bB (df:=df) hy;have e2:(Act.mk tmps df).eval y=.pointer none:=by
  generalize (Act.mk tmps df).eval y=c at hr';cases hr';rfl
 obtain⟨bo,hn⟩:=PC hk h;have:∃a,(Act.mk tmps df).eval x=.pointer a/\bo=a.isNone:=by
  generalize bB e X=dx at hr hn;generalize (Act.mk tmps df).eval x=cx at hr;cases hr<;>simp[Lh]at hn
  .exact⟨none,rfl,by simp[<- hn]⟩
  .exact⟨_,rfl,by simp[<- hn]⟩
  .exact⟨_,rfl,by simp[<- hn]⟩
 obtain⟨a,e1,rfl⟩:=this;refine ahM hi e1 e2 (λb=>by simp[eqGuard]) rfl rfl (ES 9999 ht) hn hk h o ho
theorem ahO(hf:Fr fb V g w B e tmps)(hi:Inv CR base g J w){x y:Operand}{X:bP}{t u el:TypeId}{b:BinOp}(hx:bO x=some X)(hy:bO y=some (.c .bz))(ht:P.underlying t=some (.slice el))
  (hk:YQ false b X=some k) (h:bR e J k=some (d,J')) (o:Oper) (ho:o.op=.binOp b t x y u):fj P CR base g w B e (Act.mk tmps df).eval o d J':=by
 have hr:=hf.bB (df:=df) hx;have hr':=hf.bB (df:=df) hy;have e2:(Act.mk tmps df).eval y=.slice none 0 0:=by
  generalize (Act.mk tmps df).eval y=c at hr';cases hr';rfl
 obtain⟨bo,hn⟩:=PC hk h;have:∃a n c,(Act.mk tmps df).eval x=.slice a n c/\bo=a.isNone:=by
  generalize bB e X=dx at hr hn;generalize (Act.mk tmps df).eval x=cx at hr;cases hr<;>simp[Lh]at hn
  .exact⟨none,_,_,rfl,by simp[<- hn]⟩
  .exact⟨_,_,_,rfl,by simp[<- hn.2]⟩
  .rename_i l i v off n w a cap L h1 h2 h3 h4 h5 h6 h7;refine⟨a,n,cap,rfl,?_⟩;cases a with
   |none=>have:=h4 rfl;omega
   |some a=>simp[<- hn.2]
 obtain⟨a,n,c,e1,rfl⟩:=this;refine ahM hi e1 e2 (λb=>by simp[eqGuard]) rfl rfl (Dj 9999 ht) hn hk h o ho
theorem ahW(hf:Fr fb V g w B e tmps)(hi:Inv CR base g J w){x:Operand}{X:bP}(hx:bO x=some X)(h:bR e J (.nck X)=some (d,J'))(o:Oper)(ho:o.op=.nilCheck x):
  fj P CR base g w B e (Act.mk tmps df).eval o d J':=by
 have hr:=hf.bB (df:=df) hx;simp only[bR]at h;generalize bB e X=dx at hr h;have key:(∃a,(Act.mk tmps df).eval x=.pointer (some a))/\d=dx/\J'=J:=by
  generalize (Act.mk tmps df).eval x=cx at hr;cases hr<;>simp at h
  .exact⟨⟨_,rfl⟩,h.1.symm,h.2.symm⟩
  .exact⟨⟨_,rfl⟩,h.1.symm,h.2.symm⟩
 obtain⟨⟨a,e1⟩,rfl,rfl⟩:=key;rw[e1]at hr;exact .pure hi (c:=.pointer (some a)) (by simp[execOp,ho,e1]) (cU.of hr)
theorem Mc{x:Operand}(h:CB x=true):x=.const (.slice none 0 0):=by
 unfold CB at h;split at h
 .rfl
 .cases h
theorem ae0(hf:Fr fb V g w B e tmps)(hi:Inv CR base g J w){o:Oper}(hk:kC P a ops key o=some k)(h:bR e J k=some (d,J')):
  fj P CR base g w B e (Act.mk tmps df).eval o d J':=by
 unfold kC at hk;split at hk
 .rename_i x ho;obtain⟨X,hX,rfl⟩:=ad.1 hk;exact RK hf hi hX h o (.inl ho)
 .rename_i x ho;split at hk
  .rename_i hnil _ _;split at hk
   .obtain⟨X,hX,rfl⟩:=ad.1 hk;exact aeS hi h o (by rw[ho,Mc hnil])
   .obtain⟨X,hX,rfl⟩:=ad.1 hk;exact RK hf hi hX h o (.inr ho)
  .obtain⟨X,hX,rfl⟩:=ad.1 hk;exact RK hf hi hX h o (.inr ho)
 .rename_i c x y ho;split at hk
  .rename_i c' x' y' h1 h2 h3;cases hk;exact aeT hf hi h1 h2 h3 h o ho
  .cases hk
 .rename_i el ho;split at hk
  .rename_i z d0 hz _;split at hk
   .split at hk
    case h_2=>cases hk
    split at hk
    case h_2=>cases hk
    split at hk
    case h_2=>cases hk
    cases hk;exact ahR hi hz h o ho
   cases hk;split at h
   .cases h
   .exact ahx hi hz h o ho
  .cases hk
 .rename_i t x ho;split at hk
  .rename_i x' d0 hx _;cases hk;split at h
   .cases h
   split at h
   .split at h
    .exact aeJ hf hi hx h o ho
    .exact ahF hf hi hx h o ho
   .exact aeI hf hi hx h o ho
  .cases hk
 .rename_i t ps ho;split at hk
  .rename_i fs z ht hz;split at hk
   .rename_i hall;obtain⟨parts,hp,rfl⟩:=ad.1 hk;exact NW hf hi ht hz hall hp h o ho
   .cases hk
  .rename_i n el z ht hz;split at hk
   .rename_i wd hw;obtain⟨parts,hp,rfl⟩:=ad.1 hk;exact Qe hf hi ht hw hz hp h o ho
   .cases hk
  .cases hk
 .rename_i t n ps ho;split at hk
  .rename_i el ht;split at hk
   .rename_i wd z d0 hw hz _;split at hk
    .rename_i hc;obtain⟨parts,hp,rfl⟩:=ad.1 hk;dsimp only at h;split at h
     .rename_i hn;simp only[af,az]at hn;obtain⟨⟨rfl,hpe⟩,_⟩:=hn;exact ahC hf hi ht hw hz hc.1 hc.2.1 hc.2.2 hp (by simpa using hpe) h o ho
     split at h
     .exact ahE hf hi ht hw hz hc.1 hc.2.1 hc.2.2 hp h o ho
     .exact ahD hf hi ht hw hz hc.1 hc.2.1 hc.2.2 hp h o ho
    .cases hk
   .cases hk
  .cases hk
 .rename_i t x ho;split at hk
  .rename_i ag sz n hag hsz hx;split at hk
   .rename_i hc;simp only[af,az]at hc;cases hk;have hxe:x=.tmp n:=by
     cases x<;>simp only[bO,ae,bP.t.injEq,reduceCtorEq,ad,and_false,exists_false]at hx;rw[hx]
    split at h
    .exact ahP hf hi hag hsz hc.1 hc.2 h o (by rw[ho,hxe])
    .split at h
     .exact aeO hf hi hx hag hsz hc.1 hc.2 (aa2 h) o ho
     split at h
     .exact aeO hf hi hx hag hsz hc.1 hc.2 (aa1 h) o ho
     .exact aeO hf hi hx hag hsz hc.1 hc.2 h o ho
   .cases hk
  .cases hk
 .rename_i t x y ho;split at hk
  .rename_i sz n y' hsz hx hy;cases hk;split at h
   .cases h
   .split at h
    .exact ah1 hf hi hx hy hsz (TF h) o ho
    .exact ah1 hf hi hx hy hsz h o ho
  .cases hk
 .rename_i b t x y u ho;split at hk
  .rename_i hx hy;cases hk;exact ahB hf hi hx hy h o ho
  .rename_i hx hy;exact Q8 hf hi hx hy hk h o ho
  .rename_i hx hy;exact Q8 hf hi hx hy hk h o ho
  .rename_i hx hy;exact Q8 hf hi hx hy hk h o ho
  .rename_i ht hx hy;split at hk
   .cases hk;exact aeU hf hi hx hy h o ho
   .cases hk;exact aci hf hi hx hy h o ho
   .cases hk;exact aci hf hi hx hy h o ho
   .cases hk
  .rename_i ht hx hy;exact ahN hf hi hx hy ht hk h o ho
  .rename_i ht hx hy;split at hk
   .rename_i hsz;split at hk
    .cases hk;exact ach (neg:=false) hf hi hx hy ht hsz h o ho
    .cases hk;exact ach (neg:=true) hf hi hx hy ht hsz h o ho
    .cases hk
   .cases hk
  .rename_i ht hx hy;exact ahO hf hi hx hy ht hk h o ho
  .rename_i ht hx hy;split at hk
   .cases hk;exact acg (neg:=false) hf hi hx ht h o ho
   .cases hk;exact acg (neg:=true) hf hi hx ht h o ho
   .cases hk
  .cases hk
 .rename_i x ho;obtain⟨X,hX,rfl⟩:=ad.1 hk;exact ahW hf hi hX h o ho
 .rename_i b t x ho;obtain⟨X,hX,rfl⟩:=ad.1 hk;exact aj8 hf hi hX h o ho
 .rename_i s t x ho;split at hk
  .rename_i hs ht hx;cases hk;exact ahH hf hi hx hs ht h o ho
  .rename_i hs ht hx;split at hk
   .rename_i he hw;cases hk;exact ahA hf hi hx hs he ht h o ho
   .cases hk
  .rename_i hs ht hx;split at hk
   .rename_i he hw;cases hk;exact ahZ hf hi hx hs he ht h o ho
   .cases hk
  .rename_i hs ht hx;split at hk
   .rename_i hst;subst hst;split at hk
    .rename_i he;cases hk;exact ahI hf hi hx hs he h o ho
    .cases hk
   .cases hk
  .cases hk
 .rename_i t x ho;split at hk
  .rename_i ht hx;obtain⟨wd,hw,rfl⟩:=ad.1 hk;exact ahY hf hi hx ht h o ho
  .cases hk
 .rename_i f xs ys ho;split at hk
  .rename_i hx hy;cases hk;exact ahS hf hi hx hy h o ho
  .cases hk
 .rename_i t x y ho;split at hk
  .rename_i el ht;split at hk
   .rename_i hw hb hz hx hy;split at hk
    .rename_i hc;cases hk;exact ahV hf hi hx hy ht hw hb hz hc.1 hc.2 h o ho
    .cases hk
   .cases hk
  .cases hk
 .rename_i t x lo hh mx ho;split at hk
  .rename_i ht hx hlo hhi hmx;obtain⟨wd,hw,rfl⟩:=ad.1 hk;exact ah0 hf hi hx ht hw hlo hhi hmx h o ho
  .rename_i ht hx hlo hhi hmx;obtain⟨wd,hw,rfl⟩:=ad.1 hk;have hm:mx=none:=by
    cases mx with
    |none=>rfl
    |some m=>simp[zi,ad]at hmx
   subst hm;exact aeW hf hi hx ht hw hlo hhi h o ho
  .rename_i ht hx hlo hhi hmx;cases hk;have hm:mx=none:=by
    cases mx with
    |none=>rfl
    |some m=>simp[zi,ad]at hmx
   subst hm;exact aeY hf hi hx ht hlo hhi h o ho
  .cases hk
 .rename_i s x i ho;split at hk
  .rename_i fs x' hs hx;split at hk
   .rename_i off sz hfc;split at hk
    .rename_i hpos;cases hk;exact aeK hf hi hx hs hfc hpos h o ho
    .cases hk
   .cases hk
  .cases hk
 .rename_i s x i ho;split at hk
  .rename_i fs x' hs hx;split at hk
   .rename_i f hfi;split at hk
    .rename_i hag hsz;split at hk
     .cases hk;exact ahL hf hi hx hs hfi hag hsz h o ho
     .cases hk
    .cases hk
   .cases hk
  .cases hk
 .rename_i t x y ho;split at hk
  .rename_i ht hx hy;obtain⟨wd,hw,rfl⟩:=ad.1 hk;exact aeL hf hi hx hy ht hw h o ho
  .rename_i ht hx hy;obtain⟨wd,hw,rfl⟩:=ad.1 hk;exact aeM hf hi hx hy ht hw h o ho
  .cases hk
 .rename_i t x y ho;split at hk
  .rename_i ht hx hy;split at hk
   .rename_i hag hsz;split at hk
    .cases hk;exact aeN hf hi hx hy ht hag hsz h o ho
    .cases hk
   .cases hk
  .rename_i ht hx hy;cases hk;exact aeV hf hi hx hy ht h o ho
  .cases hk
 .rename_i x i ho;obtain⟨X,hX,rfl⟩:=ad.1 hk;exact ahK hf hi hX h o ho
 .rename_i c ho;obtain⟨callee,args,ts⟩:=c;dsimp only at hk;split at hk
  .rename_i f;split at hk
   .cases hk;cases h
   .cases hk
  .split at hk
   .rename_i t tr x r hts ha;split at hk
    .rename_i ht hx;cases hk;exact ahQ hf hi hx ht ha hts h o ho
    .rename_i ht hx;cases hk;exact aeX hf hi hx ht ha hts h o ho
    .rename_i ht hx;cases hk;exact aeR hf hi hx ht ha hts h o ho
    .rename_i ht;cases hk;exact Yo hi (.inl ⟨_,ht⟩) ha hts h o ho
    .rename_i ht;split at hk
     .rename_i hr;cases hk;exact Yo hi (.inr ⟨_,_,ht,hr⟩) ha hts h o ho
     .cases hk
    .cases hk
   .cases hk
  .cases hk;cases h
  .split at hk
   .rename_i ha;split at hk
    .rename_i hx hy;cases hk;exact aj6 hf hi hx hy ha h o ho
    .cases hk
   .cases hk
  .split at hk
   .rename_i ha;split at hk
    .rename_i hx hy;cases hk;exact aj7 hf hi hx hy ha h o ho
    .cases hk
   .cases hk
  .split at hk
   .rename_i t u x y hts ha;split at hk
    .rename_i uu x' y' ht hu0 hx hy;split at hk
     case isFalse=>cases hk
     rename_i huu;have hu:P.underlying u=some .string\/∃e2,P.underlying u=some (.slice e2):=by
      cases uu<;>simp[Yi]at huu
      .exact .inl hu0
      .exact .inr ⟨_,hu0⟩
     split at hk
     .rename_i hw hb hz;split at hk
      .rename_i hc;cases hk;split at h
       .rename_i hn;simp only[af]at hn;exact ahG hf hi (Mc hn.1) hy ha hts ht hu hw hb hz hc.2.2.2 hc.2.1 hc.2.2.1 h o ho
       .split at h
        .rename_i hn;simp only[af]at hn;obtain⟨v,rfl⟩:∃v,x=.tmp v:=by
          have:=hn.2;cases x<;>simp[YH]at this;exact⟨_,rfl⟩
         exact ahy hf hi rfl hy ha hts ht hu hw hb hz hc.2.2.2 hc.2.1 hc.2.2.1 h o ho
        split at h
        .exact ahz hf hi hx hy ha hts ht hu hw hb hz hc.2.2.2 hc.2.1 hc.2.2.1 h o ho
        split at h
        .exact Yn hf hi hx hy ha hts ht hu hw hb hz hc.2.2.2 hc.2.1 hc.2.2.1 (TE h) o ho
        .exact Yn hf hi hx hy ha hts ht hu hw hb hz hc.2.2.2 hc.2.1 hc.2.2.1 h o ho
      .cases hk
     .cases hk
    .cases hk
   .cases hk
  .cases hk
 .rename_i t x ho;split at hk
  .rename_i hc;obtain⟨X,hX,rfl⟩:=ad.1 hk;exact ahT hf hi hX hc h o ho
  .cases hk
 .rename_i x xt t ok ho;split at hk
  .cases hk
  .rename_i dsc x' hnot ht hx;split at hk
   .rename_i hok;subst hok;obtain⟨z,hz,rfl⟩:=ad.1 hk;exact acj hf hi hx ht (λms hms=>by subst hms;exact hnot _ rfl) (by simpa using hz) h o ho
   .rename_i hok;cases hk;exact acj hf hi hx ht (λms hms=>by subst hms;exact hnot _ rfl) (by simp[hok]) h o ho
  .cases hk
 .rename_i x ho;obtain⟨X,hX,rfl⟩:=ad.1 hk;cases h
 .rename_i t ho;cases hk;exact ahU hi h o ho
 .rename_i t k n ho;split at hk
  .rename_i ht;cases hk;exact aeQ hi h ht o ho
  .cases hk
 .rename_i t x ho;split at hk
  .rename_i ht hx;cases hk;exact ahX hf hi hx ht h o ho
  .cases hk
 .rename_i x ho;split at hk
  .rename_i hx;cases hk;exact ahJ hf hi hx h o ho
  .cases hk
 .rename_i t x y ok ho;split at hk
  .rename_i ht hx hy;split at hk
   .rename_i hky hz;cases hk;exact aeP hf hi hx hy ht hky hz h o ho
   .cases hk
  .cases hk
 .rename_i t m x y ho;split at hk
  .rename_i ht hm hx hy;split at hk
   .rename_i hky;cases hk;exact Yp hf hi hm hx hy ht hky h o (.inl ho)
   .cases hk
  .cases hk
 .rename_i t m x y ho;split at hk
  .rename_i ht hm hx hy;split at hk
   .rename_i hky;cases hk;exact Yp hf hi hm hx hy ht hky h o (.inr ho)
   .cases hk
  .cases hk
 .cases hk
end
mutual
def D.low(n:Nat):D->Bool
 |.ref l .. => decide (l<n)
 |.sl l .. => decide (l<n)
 |.jU l _=>decide (l<n)
 |.vr .. => true
 |.emp=>true
 |.own _ cs=>D.lO n cs
 |.agg cs=>D.lO n cs
 |.cK cs=>D.lO n cs
 |.bg cs=>D.lO n cs
 |.bT _ cs=>D.lO n cs
 |.fn _ a b=>D.lO n a && D.lO n b
 |.undef=>true
 |.bool _=>true
 |.int _ _=>true
 |.str _=>true
 |.zg=>true
 |.bz=>true
 |.pR=>true
 |.ui _ d=>D.low n d
 |.nK=>true
def D.lO(n:Nat):List D->Bool
 |[]=>true
 |d::ds=>D.low n d && D.lO n ds
end
theorem DZ{n:Nat}{ds:List D}:D.lO n ds=true↔∀d∈ds,d.low n=true:=by
 induction ds with
 |nil=>simp[D.lO]
 |cons d ds ih=>simp[D.lO,ih]
mutual
theorem sX{n:Nat}:∀{d:D},d.clean=true->d.low n=true
 |.ref ..,h=>by simp[D.clean]at h
 |.sl ..,h=>by simp[D.clean]at h
 |.jU ..,h=>by simp[D.clean]at h
 |.vr ..,_=>rfl
 |.emp,_=>rfl
 |.own _ cs,h=>po (ds:=cs) (by simpa[D.clean]using h)
 |.agg cs,h=>po (ds:=cs) (by simpa[D.clean]using h)
 |.cK cs,h=>po (ds:=cs) (by simpa[D.clean]using h)
 |.bg cs,h=>po (ds:=cs) (by simpa[D.clean]using h)
 |.bT _ cs,h=>po (ds:=cs) (by simpa[D.clean]using h)
 |.fn _ a b,h=>by
  simp only[D.clean,af]at h;simp only[D.low,af];exact⟨po h.1,po h.2⟩
 |.undef,_=>rfl
 |.bool _,_=>rfl
 |.int _ _,_=>rfl
 |.str _,_=>rfl
 |.zg,_=>rfl
 |.bz,_=>rfl
 |.pR,_=>rfl
 |.ui _ d,h=>sX (d:=d) (by simpa[D.clean]using h)
 |.nK,_=>rfl
theorem po{n:Nat}:∀{ds:List D},D.bf ds=true->D.lO n ds=true
 |[],_=>rfl
 |d::ds,h=>by
  simp only[D.bf,af]at h;simp only[D.lO,af];exact⟨sX h.1,po h.2⟩
end
mutual
theorem bQ.low{g:G}{n:Nat}(hn:∀l i L,g.loc l i=some L->l<n):∀{d:D} {c:Value},bQ g d c->d.low n=true
 |_,_,.undef c=>rfl
 |_,_,.bool b=>rfl
 |_,_,.int k n=>rfl
 |_,_,.str s=>rfl
 |_,_,.agg ds cs hr h1=>bN.low hn hr
 |_,_,.cK ds cs hr=>bN.low hn hr
 |_,_,.zg=>rfl
 |_,_,.ref l i v off b o L e hv hc hn'=>by simp only[D.low,az];exact hn l i L e
 |_,_,.bg ds b o vs hr hl=>bN.low hn hl
 |_,_,.bz=>rfl
 |_,_,.zA=>rfl
 |_,_,.bT n' ds a cap vs hn' hr hs hl=>bN.low hn hl
 |_,_,.sl l i v off n' w a cap L e hv hn' ha hs hc hc'=>by simp only[D.low,az];exact hn l i L e
 |_,_,.fn f fs cs fs' cs' h1 h2=>by simp only[D.low,af];exact⟨bN.low hn h1,bN.low hn h2⟩
 |_,_,.pR=>rfl
 |_,_,.jU l i b e=>by simp only[D.low,az];exact hn l i _ e
 |_,_,.Tg l i b e=>by simp only[D.low,az];exact hn l i _ e
 |_,_,.Xx l i b L e hc=>by simp only[D.low,az];exact hn l i _ e
 |_,_,.Uk l i b L e hc=>by simp only[D.low,az];exact hn l i _ e
 |_,_,.ui t d c h1=>by rw[D.low];exact bQ.low hn h1
 |_,_,.nK=>rfl
theorem bN.low{g:G}{n:Nat}(hn:∀l i L,g.loc l i=some L->l<n):∀{ds:List D} {cs:List Value},bN g ds cs->D.lO n ds=true
 |_,_,.nil=>rfl
 |_,_,.cons d c ds cs h1 h2=>by simp only[D.lO,af];exact⟨bQ.low hn h1,bN.low hn h2⟩
end
def G.cut(g:G)(n:Nat):G:=⟨λl i=>if l<n then g.loc l i else none,g.oc⟩
theorem G.rW{g:G}{n l i:Nat}(h:l<n):(g.cut n).loc l i=g.loc l i:=by simp[G.cut,h]
theorem G.yc{g:G}{n l i:Nat}{L:Loc}(h:(g.cut n).loc l i=some L):l<n/\g.loc l i=some L:=by
 simp only[G.cut]at h;split at h
 .exact⟨by assumption,h⟩
 .cases h
mutual
theorem bQ.cut{g:G}{n:Nat}:∀{d:D} {c:Value},bQ g d c->d.low n=true->bQ (g.cut n) d c
 |_,_,.undef c,_ => .undef c
 |_,_,.bool b,_ => .bool b
 |_,_,.int k n,_ => .int k n
 |_,_,.str s,_ => .str s
 |_,_,.agg ds cs hr h1,h => .agg ds cs (bN.cut hr h) h1
 |_,_,.cK ds cs hr,h => .cK ds cs (bN.cut hr h)
 |_,_,.zg,_ => .zg
 |_,_,.ref l i v off b o L e hv hc hn',h => .ref l i v off b o L ((G.rW (by simpa[D.low]using h)).trans e) hv hc hn'
 |_,_,.bg ds b o vs hr hl,h => .bg ds b o vs hr (bN.cut hl h)
 |_,_,.bz,_ => .bz
 |_,_,.zA,_ => .zA
 |_,_,.bT n' ds a cap vs hn' hr hs hl,h => .bT n' ds a cap vs hn' hr hs (bN.cut hl h)
 |_,_,.sl l i v off n' w a cap L e hv hn' ha hs hc hc',h => .sl l i v off n' w a cap L ((G.rW (by simpa[D.low]using h)).trans e) hv hn' ha hs hc hc'
 |_,_,.fn f fs cs fs' cs' h1 h2,h=>by
  simp only[D.low,af]at h;exact .fn f fs cs fs' cs' (bN.cut h1 h.1) (bN.cut h2 h.2)
 |_,_,.pR,_ => .pR
 |_,_,.jU l i b e,h => .jU l i b ((G.rW (by simpa[D.low]using h)).trans e)
 |_,_,.Tg l i b e,h => .Tg l i b ((G.rW (by simpa[D.low]using h)).trans e)
 |_,_,.Xx l i b L e hc,h => .Xx l i b L ((G.rW (by simpa[D.low]using h)).trans e) hc
 |_,_,.Uk l i b L e hc,h => .Uk l i b L ((G.rW (by simpa[D.low]using h)).trans e) hc
 |_,_,.ui t d c h1,h => .ui t d c (bQ.cut h1 h)
 |_,_,.nK,_ => .nK
theorem bN.cut{g:G}{n:Nat}:∀{ds:List D} {cs:List Value},bN g ds cs->D.lO n ds=true->bN (g.cut n) ds cs
 |_,_,.nil,_ => .nil
 |_,_,.cons d c ds cs h1 h2,h=>by
  simp only[D.lO,af]at h;exact .cons d c ds cs (bQ.cut h1 h.1) (bN.cut h2 h.2)
end
mutual
theorem D1{n m:Nat}(hm:n<=m):∀{d:D},d.low n=true->d.low m=true
 |.ref l ..,h=>by simp only[D.low,az]at h ⊢;omega
 |.sl l ..,h=>by simp only[D.low,az]at h ⊢;omega
 |.jU l _,h=>by simp only[D.low,az]at h ⊢;omega
 |.vr ..,_=>rfl
 |.emp,_=>rfl
 |.own _ cs,h=>qG (ds:=cs) hm h
 |.agg cs,h=>qG (ds:=cs) hm h
 |.cK cs,h=>qG (ds:=cs) hm h
 |.bg cs,h=>qG (ds:=cs) hm h
 |.bT _ cs,h=>qG (ds:=cs) hm h
 |.fn _ a b,h=>by
  simp only[D.low,af]at h ⊢;exact⟨qG hm h.1,qG hm h.2⟩
 |.undef,_=>rfl
 |.bool _,_=>rfl
 |.int _ _,_=>rfl
 |.str _,_=>rfl
 |.zg,_=>rfl
 |.bz,_=>rfl
 |.pR,_=>rfl
 |.ui _ d,h=>D1 (d:=d) hm h
 |.nK,_=>rfl
theorem qG{n m:Nat}(hm:n<=m):∀{ds:List D},D.lO n ds=true->D.lO m ds=true
 |[],_=>rfl
 |d::ds,h=>by
  simp only[D.lO,af]at h ⊢;exact⟨D1 hm h.1,qG hm h.2⟩
end
def aG.low(n:Nat):aG->Prop
 |.cells _ cs=>D.lO n cs=true
 |.dead=>True
 |.loop lp=>∀t,(get lp.env t).low n=true
def pW(J:SK):Prop:=∀l i b,dZ J l i=some b->l+1<J.length->b.low (l+1)
theorem pW.set{J:SK}(h:pW J){l i:Nat}{b:aG}(hb:l+1<J.length->b.low (l+1)):pW (bj J l i b):=by
 intro l' i' b' h1 h2;rw[dK]at h2;by_cases hc:l'=l/\i'=i
 .obtain⟨rfl,rfl⟩:=hc;cases h0:dZ J l' i' with
  |none =>
   have:dZ (bj J l' i' b) l' i'=none:=by
    unfold bj;cases hs:eT J l' with
    |none=>exact h0
    |some s =>
     simp only[dZ,ti (CJ hs),Option.bind_some];simp only[dZ,hs,Option.bind_some]at h0;rw[List.getElem?_eq_none_iff]at h0 ⊢;simpa using h0
   rw[this]at h1;cases h1
  |some b0=>rw[nL h0]at h1;cases h1;exact hb h2
 .rw[eD hc]at h1;exact h l' i' b' h1 h2
theorem pW.new{J J':SK}(h:pW J){l i:Nat}{b:aG}(hn:fR J b=some (l,i,J')):pW J':=by
 obtain⟨h1,h2,h3,h4,h5⟩:=jL hn;intro l' i' b' e hl;by_cases hc:l'=l/\i'=i
 .omega
 .rw[h3 l' i' hc]at e;exact h l' i' b' e (by omega)
structure fO(J J':SK):Prop where
 len:J'.length=J.length
 low:pW J->pW J'
theorem fO.refl(J:SK):fO J J:=⟨rfl,id⟩
theorem fO.trans{a b c:SK}(h:fO a b)(h':fO b c):fO a c:=⟨h'.len.trans h.len,λx=>h'.low (h.low x)⟩
theorem fO.new{J J':SK}{l i:Nat}{b:aG}(hn:fR J b=some (l,i,J')):fO J J':=⟨(jL hn).2.2.2.1,λh=>h.new hn⟩
theorem fO.set{J:SK}{l i:Nat}{b:aG}(hb:l+1<J.length->b.low (l+1)):fO J (bj J l i b):=⟨dK,λh=>h.set hb⟩
theorem sU:∀(nb:List (Nat×Nat)) (cs cs':List D) (J J':SK),kj nb cs J=some (cs',J')->fO J J'
 |[],cs,cs',J,J',h=>by simp only[kj,ae,ar]at h;obtain⟨rfl,rfl⟩:=h;exact .refl _
 |(p,w)::r,cs,cs',J,J',h=>by
  simp only[kj]at h;split at h
  .simp only[aW,ak]at h;obtain⟨⟨l,i,J1⟩,hn,h⟩:=h;exact(fO.new hn).trans (sU r _ _ _ _ h)
  .exact sU r _ _ _ _ h
theorem BJ(l:Nat):∀(n:Nat) (d:D) (J:SK),(cF l n d J).1.low (l+1)=true/\fO J (cF l n d J).2
 |0,d,J=>⟨rfl,.refl _⟩
 |n+1,d,J=>by
  have ih:∀(ds:List D) (J:SK),D.lO (l+1) (cF.frzL (cF l n) ds J).1=true/\fO J (cF.frzL (cF l n) ds J).2:=by
   intro ds;induction ds with
   |nil=>intro J;exact⟨rfl,.refl _⟩
   |cons d ds ihd =>
    intro J;obtain⟨h1,h2⟩:=BJ l n d J;obtain⟨h3,h4⟩:=ihd (cF l n d J).2;simp only[cF.frzL,D.lO,af];exact⟨⟨h1,h3⟩,h2.trans h4⟩
  simp only[cF];split
  .rename_i hc;exact⟨sX hc,.refl _⟩
  cases d with
  |agg cs=>exact ih cs J
  |cK cs=>exact ih cs J
  |bg cs=>exact ih cs J
  |bT m cs=>exact ih cs J
  |own s cs=>exact ih cs J
  |fn f a b =>
   obtain⟨h1,h2⟩:=ih a J;obtain⟨h3,h4⟩:=ih b (cF.frzL (cF l n) a J).2;refine⟨?_,h2.trans h4⟩;simp only[D.low,af];exact⟨h1,h3⟩
  |ref l' i v off =>
   dsimp only;split
   .refine⟨?_,.refl _⟩;simp only[D.low,az];omega
   .exact⟨rfl,.refl _⟩
  |jU l' i =>
   dsimp only;split
   .refine⟨?_,.refl _⟩;simp only[D.low,az];omega
   .exact⟨rfl,.refl _⟩
  |sl l' i v off m w =>
   dsimp only;split
   .refine⟨?_,.refl _⟩;simp only[D.low,az];omega
   .split
    .rename_i cs hcs;obtain⟨h1,h2⟩:=ih ((cs.drop off).take (m*w)) (bj J l' i .dead);exact⟨h1,(fO.set (b:=.dead) λ_=>trivial).trans h2⟩
    .exact⟨rfl,.refl _⟩
  |_=>exact⟨rfl,.refl _⟩
theorem Eu(l n:Nat)(ds:List D):∀(J:SK),D.lO (l+1) (cF.frzL (cF l n) ds J).1=true/\fO J (cF.frzL (cF l n) ds J).2:=by
 induction ds with
 |nil=>intro J;exact⟨rfl,.refl _⟩
 |cons d ds ihd =>
  intro J;obtain⟨h1,h2⟩:=BJ l n d J;obtain⟨h3,h4⟩:=ihd (cF l n d J).2;simp only[cF.frzL,D.lO,af];exact⟨⟨h1,h3⟩,h2.trans h4⟩
theorem HB(l:Nat):∀(e:Env) (J:SK),(∀p∈(pj l e J).1,p.2.low (l+1)=true)/\fO J (pj l e J).2
 |[],J=>⟨by simp[pj],.refl _⟩
 |(t,d)::e,J=>by
  obtain⟨h1,h2⟩:=BJ l deep d J;obtain⟨h3,h4⟩:=HB l e (cF l deep d J).2;simp only[pj];refine⟨?_,h2.trans h4⟩;intro p hp;rcases bw.1 hp with rfl | hp
  .exact h1
  .exact h3 p hp
theorem Cc{J:SK}(h:pW J){l i v:Nat}{cs:List D}(hc:cells? J l i v=some cs)(hl:l+1<J.length):D.lO (l+1) cs=true:=by
 unfold cells? at hc;split at hc
 case h_2=>cases hc
 rename_i v' cs' hb;split at hc
 case isFalse=>cases hc
 cases hc;exact h l i _ hb hl
theorem Ak{n:Nat}{a b:List D}:D.lO n (a++b)=true↔D.lO n a=true/\D.lO n b=true:=by
 simp only[DZ,aT];exact⟨λh=>⟨λd hd=>h d (.inl hd),λd hd=>h d (.inr hd)⟩,λh d hd=>hd.elim (h.1 d) (h.2 d)⟩
theorem HJ{n k:Nat}{a:List D}(h:D.lO n a=true):D.lO n (a.take k)=true:=by
 rw[DZ]at h ⊢;exact λd hd=>h d (cY hd)
theorem HI{n k:Nat}{a:List D}(h:D.lO n a=true):D.lO n (a.drop k)=true:=by
 rw[DZ]at h ⊢;exact λd hd=>h d (cX hd)
theorem XP{J J':SK}{d:D}{o:Mo}{ds:List D}(h:Dc J o ds=some (d,J'))(hk:o.calm=true):J'=J:=by
 unfold Dc at h;split at h
 .simp[Mo.calm]at hk
 .simp[Mo.calm]at hk
 .split at h
  .split at h
   .split at h<;>first | (cases h;done) | (cases h;rfl)
   .cases h
  .cases h
 .simp[Mo.calm]at hk
 .simp only[ad,ar]at h;obtain⟨_,_,_,rfl⟩:=h;rfl
 .simp[Mo.calm]at hk
 .split at h
  .split at h
   .split at h
    .split at h
     .cases h;rfl
     .cases h
    .cases h
   .cases h
  .cases h
 .cases h
theorem XH{J J':SK}{d:D}{o:Me}{ds:List D}(h:Vh J o ds=some (d,J')):J'=J:=by
 unfold Vh at h;split at h
 .cases h
 .simp only[ak,ad,ar]at h;obtain⟨_,_,_,_,_,rfl⟩:=h;rfl
 .cases h;rfl
 .split at h<;>cases h;rfl
 .split at h<;>cases h;rfl
 .cases h
theorem Qk{e:Env}{J J':SK}{d:D}{k:K}(h:bR e J k=some (d,J'))(hk:k.calm=true):J'=J:=by
 by_cases hm:∃o xs,k=.mp o xs
 .obtain⟨o,xs,rfl⟩:=hm;exact XP h hk
 by_cases hm':∃o xs,k=.me o xs
 .obtain⟨o,xs,rfl⟩:=hm';exact XH h
 cases k<;>(try (exact absurd ⟨_,_,rfl⟩ hm))<;>(try (exact absurd ⟨_,_,rfl⟩ hm'))<;>clear hm hm'<;>simp only[K.calm,aD]at hk<;>simp only[bR,aW,reduceCtorEq]at h<;>(repeat' split at h)<;>
  simp only[ad,ak,ae,ar,Prod.exists,reduceCtorEq,exists_eq_left,and_false,exists_false]at h<;>(try split at h)<;>
  simp_all<;>(try (obtain⟨_,_,h⟩:=h;simp_all))<;>(try grind)
theorem S8{e:Env}{J J':SK}{d:D}{nb:List (Nat×Nat)}{sz:Nat}{a x:bP}(h:bR e J (.st nb sz a x)=some (d,J')):fO J J':=by
 simp only[bR]at h;split at h
 case h_2=>cases h
 split at h
 case h_2=>cases h
 rename_i l i v off hX _ cs hcs;split at h
 case h_2=>cases h
 rename_i p hcells;split at h
 case isFalse=>cases h
 rename_i hc;split at h
 .rename_i htop;split at h
  .rename_i p' J1 hnb;cases h;have hg:=sU _ _ _ _ _ hnb;exact hg.trans (fO.set λhl=>by have:=hg.len;omega)
  .cases h
 .rename_i htop;cases h;obtain⟨h1,h2⟩:=Eu l deep p J;refine⟨dK.trans h2.len,λhl=>(h2.low hl).set λhlt=>?_⟩;have hcl:=Cc hl hcs (by have:=h2.len;omega);simp only[aG.low,Ak];exact⟨⟨HJ hcl,h1⟩,HI hcl⟩
theorem Kl{e:Env}{J J':SK}{d:D}{w bytes:Nat}{s x:bP}(h:bR e J (.app w bytes s x)=some (d,J')):fO J J':=by
 simp only[bR,aW,ak]at h;obtain⟨⟨m,xs⟩,he,h⟩:=h;dsimp only at h;split at h
 .split at h
  case isFalse=>cases h
  split at h
  .cases h;exact .refl _
  .simp only[ak]at h;obtain⟨⟨l,i,J1⟩,hn,h⟩:=h;cases h;exact .new hn
 .split at h
  case h_2=>cases h
  rename_i l i v off n w' hX _ cs hcs;split at h
  case isFalse=>cases h
  split at h
  .cases h;exact .set λhl=>by omega
  .cases h;obtain⟨h1,h2⟩:=Eu l deep xs J;refine⟨dK.trans h2.len,λhl=>(h2.low hl).set λhlt=>?_⟩;have hcl:=Cc hl hcs (by have:=h2.len;omega);simp only[aG.low,Ak];exact⟨HJ (HI hcl),h1⟩
 .cases h
theorem XF{n j:Nat}{a:List D}{x:D}(h:D.lO n a=true)(hx:x.low n=true):D.lO n (a.set j x)=true:=by
 rw[DZ]at h ⊢;intro d hd;rcases List.mem_or_eq_of_mem_set hd with h1 | rfl
 .exact h d h1
 .exact hx
theorem aad{J J':SK}{d:D}{o:Mo}{ds:List D}(h:Dc J o ds=some (d,J')):fO J J':=by
 unfold Dc at h;split at h
 .simp only[ad,ar,Prod.exists]at h;obtain⟨l,i,J1,hn,_,rfl⟩:=h;exact .new hn
 .simp only[ad,ar,Prod.exists]at h;obtain⟨l,i,J1,hn,_,rfl⟩:=h;exact .new hn
 .split at h
  .split at h
   .split at h<;>first | (cases h;done) | (cases h;exact .refl _)
   .cases h
  .cases h
 .rename_i ky m k v;split at h
  .rename_i l i es hm;obtain⟨rfl,hcs⟩:=PN hm;split at h
   case isFalse=>cases h
   rename_i hc;have hlow:l+1<J.length->k.low (l+1)=true/\v.low (l+1)=true:=λhl=>by
    rcases hc.2 with h1 | ⟨h1,h2⟩
    .omega
    .exact⟨sX h1,sX h2⟩
   split at h
   .cases h;refine⟨dK,λhS=>hS.set λhl=>?_⟩;have hcl:=Cc hS hcs hl;obtain⟨h1,h2⟩:=hlow hl;simp only[aG.low];exact XF hcl (by simp[D.low,D.lO,h1,h2])
   .cases h;refine⟨dK,λhS=>hS.set λhl=>?_⟩;have hcl:=Cc hS hcs hl;obtain⟨h1,h2⟩:=hlow hl;simp only[aG.low,Ak];exact⟨hcl,by simp[D.low,D.lO,h1,h2]⟩
   .cases h
  .cases h
 .simp only[ad,ar]at h;obtain⟨_,_,_,rfl⟩:=h;exact .refl _
 .split at h
  .simp only[ad,ar,Prod.exists]at h;obtain⟨l,i,J1,hn,_,rfl⟩:=h;exact .new hn
  .cases h
 .split at h
  .split at h
   .split at h
    .split at h
     .cases h;exact .refl _
     .cases h
    .cases h
   .cases h
  .cases h
 .cases h
theorem Yt{e:Env}{J J':SK}{d:D}:∀{k:K},bR e J k=some (d,J')->fO J J'
 |.st ..,h=>S8 h
 |.app ..,h=>Kl h
 |.Ui ..,h=>Kl (TE h)
 |.YM w bytes s x,h=>by
  simp only[bR,ad,Prod.exists]at h;obtain⟨d1,J1,h1,h2⟩:=h;obtain⟨h3,h4⟩:=BJ 0 deep d1 J1;rw[h2]at h4;exact(Kl (by rw[N2];exact h1)).trans h4
 |.cvz x,h=>by
  simp only[bR]at h;split at h
  case h_2=>cases h
  split at h
  case isFalse=>cases h
  split at h
  case h_2=>cases h
  cases h;exact .set λ_=>trivial
 |.Ug nb cs,h=>by
  simp only[bR,aW,ak]at h;obtain⟨⟨cs',J1⟩,hnb,⟨l,i,J2⟩,hn,h⟩:=h;cases h;exact(sU _ _ _ _ _ hnb).trans (.new hn)
 |.KA w,h=>by
  simp only[bR,aW,ak]at h;obtain⟨⟨l,i,J2⟩,hn,h⟩:=h;cases h;exact .new hn
 |.YO nb x,h=>by
  simp only[bR,aW,ak]at h;obtain⟨cs,_,⟨cs',J1⟩,hnb,⟨l,i,J2⟩,hn,h⟩:=h;cases h;exact(sU _ _ _ _ _ hnb).trans (.new hn)
 |.La x,h=>by
  simp only[bR,aW,ak]at h;obtain⟨cs,_,⟨l,i,J2⟩,hn,h⟩:=h;cases h;exact .new hn
 |.WU ..,h=>by
  simp only[bR,aW,ak]at h;obtain⟨cs,_,⟨l,i,J2⟩,hn,h⟩:=h;cases h;exact .new hn
 |.YR ..,h=>by
  simp only[bR]at h;split at h
  .split at h
   .simp only[aW,ak]at h;obtain⟨⟨l,i,J2⟩,hn,h⟩:=h;cases h;exact .new hn
   .cases h
  .cases h
 |.mv _,h=>same h rfl
 |.pick ..,h=>same h rfl
 |.B7 ..,h=>by simp[bR]at h
 |.K9 _,h=>same h rfl
 |.FM _,h=>by simp[bR]at h
 |.K8 ..,h=>same h rfl
 |.YN ..,h=>same h rfl
 |.ld ..,h=>same h rfl
 |.Vf ..,h=>same h rfl
 |.Ve ..,h=>same h rfl
 |.U6 os sz a x,h=>S8 (TF h)
 |.isn ..,h=>same h rfl
 |.nck ..,h=>same h rfl
 |.Vg ..,h=>same h rfl
 |.H5 ..,h=>by simp[bR]at h
 |.bin ..,h=>same h rfl
 |.eqv ..,h=>same h rfl
 |.un ..,h=>same h rfl
 |.W4 ..,h=>same h rfl
 |.XM ..,h=>same h rfl
 |.Vj ..,h=>same h rfl
 |.RN ..,h=>same h rfl
 |.Lc ..,h=>same h rfl
 |.fld ..,h=>same h rfl
 |.Lf ..,h=>same h rfl
 |.HG ..,h=>same h rfl
 |.Nq ..,h=>same h rfl
 |.Li ..,h=>same h rfl
 |.Rn ..,h=>same h rfl
 |.mn ..,h=>same h rfl
 |.mx ..,h=>same h rfl
 |.YP ..,h=>same h rfl
 |.bse,h=>same h rfl
 |.ape ..,h=>same h rfl
 |.ext ..,h=>same h rfl
 |.I2 ..,h=>same h rfl
 |.mp ..,h=>aad h
 |.me ..,h=>same h rfl
 |.XN ..,h=>same h rfl
 |.YU ..,h=>same h rfl
 |.isi ..,h=>same h rfl
 |.XZ _,h=>by simp[bR]at h
 |.QA,h=>by simp[bR]at h
 |.call ..,h=>by simp[bR]at h
where
 same {e:Env} {J J':SK} {d:D} {k:K} (h:bR e J k=some (d,J')) (hk:k.calm=true):fO J J':=by
  rw[Qk h hk];exact .refl _
end Go.Abs
