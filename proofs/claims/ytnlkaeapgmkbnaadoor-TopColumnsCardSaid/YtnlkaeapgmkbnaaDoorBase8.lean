import Derived.Test.YtnlkaeapgmkbnaaDoorBase7
import Derived.Test.YtnlkaeapgmkbnaaDoorBase5
import Derived.MapKept
import Derived.WideKeyRuns
import Derived.Maps.RangeRun
import Derived.Test.YtnlkaeapgmkbnaaDoorBase4
import Derived.Test.YtnlkaeapgmkbnaaDoorBase6
set_option linter.all false
namespace Go.Abs
open Go
theorem tQ{σ:SK}{d:D}{l i:Nat}{es:List D}(h:mO σ d=some (l,i,es)):d=.fJ l i∧cells? σ l i 0=some es:=by
 unfold mO at h;split at h
 ·simp only[ab,af]at h;obtain⟨cs,h1,rfl,rfl,rfl⟩:=h;exact⟨rfl,h1⟩
 ·cases h
theorem rp{ky:Ky}{k:D}:∀{es:List D} {j:Nat} {v:D},jP ky k es=some (some (j,v))→∃k',es[j]?=some (.er [k',v])∧kM ky k k'=some true
 |[],j,v,h=>by simp[jP]at h
 |x::es,j,v,h=>by
  unfold jP at h;split at h
  ·rename_i heq;cases heq
  ·rename_i k' v' es' heq;cases heq;split at h
   ·rename_i hq;cases h;exact⟨k',rfl,hq⟩
   ·simp only[ab]at h;obtain⟨x1,h1,x2,rfl,h2⟩:=h;cases h2;obtain⟨j0,v0⟩:=x2;obtain⟨k0,h3,h4⟩:=rp h1;exact⟨k0,by simpa using h3,h4⟩
   ·cases h
  ·cases h
section
variable {P:Program} {g:G} {w:World}
theorem pE:∀{ks:List (Option IntKind)} {p q:List D},kY ks p q=some true→p=q
 |[],p,q,h=>by obtain⟨rfl,rfl,_⟩:=jd h;rfl
 |some k::ks,p,q,h=>by
  obtain⟨a,x,c,y,b0,rfl,rfl,h0,hb⟩:=iC h;simp only[Bool.true_eq,ah,beq_iff_eq]at hb;obtain⟨rfl,rfl⟩:=hb;rw[pE h0]
 |none::ks,p,q,h=>by
  obtain⟨a,x,c,y,b0,rfl,rfl,h0,hb⟩:=jO h;simp only[Bool.true_eq,ah,beq_iff_eq]at hb;obtain⟨rfl,rfl⟩:=hb;rw[pE h0]
theorem nj(n:Nat):∀{ks:List (Option IntKind)} {p q:List D} {b:Bool},kY ks p q=some b→∀{xs ys:List Value},aH g p xs→aH g p ys→xs=ys∧(xs.zip ys).all (fun z=>Instr.sameBits n z.1 z.2)=true
 |[],p,q,b,h,xs,ys,hx,hy=>by
  obtain⟨rfl,rfl,_⟩:=jd h;cases hx;cases hy;exact⟨rfl,rfl⟩
 |some k::ks,p,q,b,h,xs,ys,hx,hy=>by
  obtain⟨a,x,c,y,b0,rfl,rfl,h0,hb⟩:=iC h;cases hx with
  |cons _ v1 _ vs1 h1 h2 =>
   cases hy with
   |cons _ v2 _ vs2 h3 h4 =>
    obtain rfl:=h1.bW;obtain rfl:=h3.bW;obtain⟨h5,h6⟩:=nj n h0 h2 h4;subst h5;exact⟨rfl,by simp only[List.zip_cons_cons,gO,h6,Instr.sameBits,BEq.rfl,Bool.and_self]⟩
 |none::ks,p,q,b,h,xs,ys,hx,hy=>by
  obtain⟨a,x,c,y,b0,rfl,rfl,h0,hb⟩:=jO h;cases hx with
  |cons _ v1 _ vs1 h1 h2 =>
   cases hy with
   |cons _ v2 _ vs2 h3 h4 =>
    obtain rfl:=h1.fu;obtain rfl:=h3.fu;obtain⟨h5,h6⟩:=nj n h0 h2 h4;subst h5;exact⟨rfl,by simp only[List.zip_cons_cons,gO,h6,Instr.sameBits,BEq.rfl,Bool.and_self]⟩
theorem E5{a b:ByteArray}(h:a.data.toList=b.data.toList):a=b:=by
 apply ByteArray.ext;exact dc.1 h
theorem yk{ky:Ky}{a b:D}{x y:Value}(h:kM ky a b=some true)(hx:aI g a x)(hy:aI g b y):x=y∧Instr.sameBits 10000 y x=true:=by
 unfold kM at h;split at h
 ·split at h
  ·rename_i s1 s2;simp only[ad,beq_iff_eq]at h;subst h;obtain⟨b1,rfl,h1⟩:=hx.ei;obtain⟨b2,rfl,h2⟩:=hy.ei;obtain rfl:=E5 (h1.trans h2.symm);exact⟨rfl,by rw[Instr.sameBits,beq_toListBytes];exact beq_self_eq_true _⟩
  ·cases h
 ·rename_i ag ks;split at h
  ·rename_i p q hp hq;obtain rfl:=pE h;have h1:=ji hx hp;have h2:=ji hy hq;cases ag with
   |true =>
    simp only[jj,if_true]at h1 h2;obtain⟨xs,rfl,h3,_⟩:=h1;obtain⟨ys,rfl,h4,_⟩:=h2;obtain⟨h5,h6⟩:=nj 9999 h h4 h3;obtain rfl:=dc.1 h5;exact⟨rfl,by simp only[Instr.sameBits,BEq.rfl,Bool.true_and];exact h6⟩
   |false =>
    simp only[jj,ai,if_false]at h1 h2;obtain⟨h5,h6⟩:=nj 10000 h h2 h1;simp only[fq,and_true]at h5;subst h5;exact⟨rfl,by simpa using h6⟩
  ·cases h
theorem pL{t:TypeId}{ky:Ky}(h:pK P t=some ky):(P.underlying t=some .string∧ky=none)∨(∃k,P.underlying t=some (.int k)∧ky=some (false,[some k])) ∨
  ∃fs ks,P.underlying t=some (.struct fs)∧ep P 20 t=some ks∧ky=some (true,ks)∧fs.toList.all (fun f=>match P.underlying f.type with | some (.int _)=>true | some .bool=>true | _=>false)=true:=by
 unfold pK at h;split at h
 ·rename_i hu;cases h;exact .inl ⟨hu,rfl⟩
 ·rename_i k hu;cases h;exact .inr (.inl ⟨k,hu,rfl⟩)
 ·rename_i fs hu;split at h
  ·rename_i hall;obtain⟨ks,hks,rfl⟩:=ab.1 h;exact .inr (.inr ⟨fs,ks,hu,hks,rfl,hall⟩)
  ·cases h
 ·cases h
theorem rF{t:TypeId}{ky:Ky}(hk:pK P t=some ky){a b:D}{c:Bool}{x y:Value}(h:kM ky a b=some c)(hx:aI g a x)(hy:aI g b y):(Op.equal t x y).run P w=.ok c w:=by
 have key:∀ag ks,ep P 20 t=some ks→iU P t=some ag→kM (some (ag,ks)) a b=some c→(Op.equal t x y).run P w=.ok c w:=by
  intro ag ks hks hag hq;simp only[kM]at hq;split at hq
  case h_2=>cases hq
  rename_i p q hp hq2;obtain⟨ag',hag',_,hEq⟩:=nz (P:=P) (g:=g) (w:=w) 20 t ks hks;rw[hag]at hag';cases hag';exact hEq 10000 (by omega) p q x y c (ji hx hp) (ji hy hq2) hq
 rcases pL hk with⟨hu,rfl⟩ | ⟨k,hu,rfl⟩ | ⟨fs,ks,hu,hks,rfl,_⟩
 ·simp only[kM]at h;split at h
  case h_2=>cases h
  rename_i s1 s2;cases h;obtain⟨b1,rfl,h1⟩:=hx.ei;obtain⟨b2,rfl,h2⟩:=hy.ei;have:=run_equalIn_string (P:=P) w 9999 t b1 b2 hu;simp only[Op.equal,Op.maxDepth];rw[this,ByteArray.toList_eq,ByteArray.toList_eq,h1,h2]
 ·exact key false [some k] (by simp[ep,hu]) (by simp[iU,hu]) h
 ·exact key true ks hks (by simp[iU,hu]) h
def Found(bA:List MapEntry)(r:Option (Nat×D))(g:G)(o:Option (Nat×Value))(i:Nat):Prop :=
 match r with
 |none=>o=none
 |some (j,v)=>∃e,bA[j]?=some e∧o=some (i+j,e.val)∧aI g v e.val
theorem sN{k v:D}{a b:Value}(h:aI g (.er [k,v]) (.tuple #[a,b])):aI g k a∧aI g v b:=by
 cases h with
 |er _ _ hr =>
  cases hr with
  |cons _ _ _ _ h1 h2=>cases h2 with | cons _ _ _ _ h3 h4=>exact⟨h1,h3⟩
theorem pk{t:TypeId}{ky:Ky}(hk:pK P t=some ky){k:D}{x:Value}(hx:aI g k x):∀(es:List D) (bA:List MapEntry) (r:Option (Nat×D)) (i:Nat),aH g es (bA.map fun e => .tuple #[e.key,e.val])→jP ky k es=some r →
  ∃o,(Instr.findAsking t x bA i).run P w=.ok o w∧Found bA r g o i
 |[],bA,r,i,hr,h=>by
  cases bA with
  |nil=>simp only[jP,ad]at h;subst h;exact⟨none,by simp[Instr.findAsking],rfl⟩
  |cons e bA=>cases hr
 |d::es,bA,r,i,hr,h=>by
  cases bA with
  |nil=>cases hr
  |cons e bA =>
   rw[aw]at hr;cases hr with
   |cons _ _ _ _ hr1 hr2 =>
   unfold jP at h;split at h
   ·rename_i heq;cases heq
   ·rename_i k' v es' heq;cases heq;obtain⟨hk1,hv1⟩:=sN hr1;split at h
    ·rename_i hq;cases h;have he:=rF (w:=w) hk hq hx hk1;refine⟨some (i,e.val),by simp[Instr.findAsking,he],e,rfl,by simp,hv1⟩
    ·rename_i hq;simp only[ab]at h;obtain⟨r1,h1,rfl⟩:=h;have he:=rF (w:=w) hk hq hx hk1;obtain⟨o,ho,hf⟩:=pk hk hx es bA r1 (i+1) hr2 h1;refine⟨o,by simp[Instr.findAsking,he,ho],?_⟩;cases r1 with
     |none=>exact hf
     |some y =>
      obtain⟨e1,h3,h4,h5⟩:=hf;exact⟨e1,by simpa using h3,by rw[h4];congr 2;omega,h5⟩
    ·cases h
   ·cases h
theorem sj{t:TypeId}{ky:Ky}{dsc:TypeDesc}{k:D}{x:Value}(hs:∀k' y c,kM ky k k'=some c→aI g k' y→Instr.sameNow dsc x y=some c):∀(es:List D) (bA:List MapEntry) (r:Option (Nat×D)) (i:Nat),aH g es (bA.map fun e => .tuple #[e.key,e.val])→jP ky k es=some r →
  ∃o,Instr.findNow dsc x bA i=some o∧Found bA r g o i
 |[],bA,r,i,hr,h=>by
  cases bA with
  |nil=>simp only[jP,ad]at h;subst h;exact⟨none,by simp[Instr.findNow],rfl⟩
  |cons e bA=>cases hr
 |d::es,bA,r,i,hr,h=>by
  cases bA with
  |nil=>cases hr
  |cons e bA =>
   rw[aw]at hr;cases hr with
   |cons _ _ _ _ hr1 hr2 =>
   unfold jP at h;split at h
   ·rename_i heq;cases heq
   ·rename_i k' v es' heq;cases heq;obtain⟨hk1,hv1⟩:=sN hr1;split at h
    ·rename_i hq;cases h;exact⟨some (i,e.val),by simp[Instr.findNow,hs _ _ _ hq hk1],e,rfl,by simp,hv1⟩
    ·rename_i hq;simp only[ab]at h;obtain⟨r1,h1,rfl⟩:=h;obtain⟨o,ho,hf⟩:=sj (t:=t) hs es bA r1 (i+1) hr2 h1;refine⟨o,by simp[Instr.findNow,hs _ _ _ hq hk1,ho],?_⟩;cases r1 with
     |none=>exact hf
     |some y =>
      obtain⟨e1,h3,h4,h5⟩:=hf;exact⟨e1,by simpa using h3,by rw[h4];congr 2;omega,h5⟩
    ·cases h
   ·cases h
theorem kg{t:TypeId}{ky:Ky}(hk:pK P t=some ky){k:D}{x:Value}(hx:aI g k x){es:List D}{bA:List MapEntry}{r:Option (Nat×D)}(hr:aH g es (bA.map fun e => .tuple #[e.key,e.val]))(h:jP ky k es=some r)
  (hself:(kM ky k k).isSome=true):∃o,(Instr.findKey t x bA).run P w=.ok o w∧Found bA r g o 0:=by
 rcases pL hk with⟨hu,rfl⟩ | ⟨kk,hu,rfl⟩ | ⟨fs,ks,hu,hks,rfl,_⟩
 ·obtain⟨o,h1,h2⟩:=sj (t:=t) (ky:=none) (k:=k) (x:=x) (dsc:=.string) (fun k' y c hq hy=>by
   simp only[kM]at hq;split at hq
   case h_2=>cases hq
   cases hq;obtain⟨b1,rfl,h1⟩:=hx.ei;obtain⟨b2,rfl,h2⟩:=hy.ei;simp only[Instr.sameNow];rw[beq_toListBytes,ByteArray.toList_eq,ByteArray.toList_eq,h1,h2]) es bA r 0 hr h
  exact⟨o,MapKept.run_findKey hu h1,h2⟩
 ·obtain⟨o,h1,h2⟩:=sj (t:=t) (ky:=some (false,[some kk])) (k:=k) (x:=x) (dsc:=.int kk) (fun k' y c hq hy=>by
   simp only[kM]at hq;split at hq
   case h_2=>cases hq
   rename_i p q hp hq2;have hx1:=ji hx hp;have hy1:=ji hy hq2;simp only[jj,ai,if_false]at hx1 hy1;obtain⟨a,xs,b,ys,b0,rfl,rfl,h0,rfl⟩:=iC hq;obtain⟨rfl,rfl,rfl⟩:=jd h0;cases hx1 with
   |cons _ _ _ _ g1 _ =>
    cases hy1 with
    |cons _ _ _ _ g2 _ =>
     obtain rfl:=g1.bW;obtain rfl:=g2.bW;simp[Instr.sameNow]) es bA r 0 hr h
  exact⟨o,MapKept.run_findKey hu h1,h2⟩
 ·obtain⟨o,h1,h2⟩:=pk (w:=w) hk hx es bA r 0 hr h;refine⟨o,?_,h2⟩;rw[run_findKey_eq w (by simp[hu])];exact h1
theorem lF(em:Bool){xs:Array Value}{p:List D}(hx:aH g p xs.toList)(h1x:∀y∈xs.toList,y.oneCell'=true):
  ∀(fs:List Field) (o:Nat) (ks:List (Option IntKind)) (q:List D) (b:Bool),ep.kindsF P (ep P 19) o fs=some ks→fs.all (fun f=>match P.underlying f.type with | some (.int _)=>true | some .bool=>true | _=>false)=true →
   kY ks (p.drop o) q=some b →
   (forIn (m:=Sem) fs PUnit.unit fun f _=>do
    if f.name ≠ "_" then Instr.checkKey em 9999 f.type (← part f.type xs f.offset)
    pure (ForInStep.yield PUnit.unit)).run P w=.ok PUnit.unit w
 |[],o,ks,q,b,hk,ha,he=>by simp
 |f::fs,o,ks,q,b,hk,ha,he=>by
  simp only[ep.kindsF]at hk;split at hk
  case h_2=>cases hk
  rename_i k1 hk1;split at hk
  case isFalse=>cases hk
  rename_i hc;obtain⟨hname,hoff,hsz,hpos⟩:=hc;simp only[ab]at hk;obtain⟨k2,hk2,rfl⟩:=hk;simp only[gO,ah]at ha;obtain⟨l1,l2⟩:=mb _ _ _ _ he;obtain⟨b1,b2,e1,e2,rfl⟩:=jN _ _ _ _ _ he;simp only[cr,List.length_drop]at l1 l2;have ih:=lF em hx h1x fs (o+k1.length) k2 (q.drop k1.length) b2 hk2 ha.2 (by simpa[fZ]using e2);have one:∃a,(part f.type xs o).run P w=.ok a w∧(Instr.checkKey em 9999 f.type a).run P w=.ok () w:=by
   have h0:=ha.1;split at h0
   ·rename_i k hu;have hk1':k1=[some k]:=by simp[ep,hu]at hk1;exact hk1.symm
    subst hk1';obtain⟨a,hpa,hra⟩:=ml (P:=P) (w:=w) (ag:=false) (n:=1) (o:=o) (by simp[iU,hu]) hsz (fun _=>rfl) hx h1x (by simp only[aZ,bD]at l1 ⊢;omega);simp only[jj,ai,if_false]at hra;obtain⟨a0,x0,c0,y0,b0,e3,_,_,_⟩:=iC e1;simp only[aZ,bD,cn]at e3;rw[e3]at hra;cases hra with
    |cons _ _ _ _ g1 g2 =>
     obtain rfl:=g1.bW;exact⟨_,hpa,MapKept.run_checkKey (d:=.int k) hu (by simp[MapKept.IsKey]) em 9998⟩
   ·rename_i hu;have hk1':k1=[none]:=by simp[ep,hu]at hk1;exact hk1.symm
    subst hk1';obtain⟨a,hpa,hra⟩:=ml (P:=P) (w:=w) (ag:=false) (n:=1) (o:=o) (by simp[iU,hu]) hsz (fun _=>rfl) hx h1x (by simp only[aZ,bD]at l1 ⊢;omega);simp only[jj,ai,if_false]at hra;obtain⟨a0,x0,c0,y0,b0,e3,_,_,_⟩:=jO e1;simp only[aZ,bD,cn]at e3;rw[e3]at hra;cases hra with
    |cons _ _ _ _ g1 g2 =>
     obtain rfl:=g1.fu;exact⟨_,hpa,MapKept.run_checkKey (d:=.bool) hu (by simp[MapKept.IsKey]) em 9998⟩
   ·cases h0
  obtain⟨a,h1,h2⟩:=one;rw[List.forIn_cons];rw[hoff];simp only[hname,ne_eq,not_false_eq_true,if_true,Sem.run_bind,h1,h2,Result.andThen_ok,Sem.run_pure];exact ih
theorem nh{t:TypeId}{ky:Ky}(hk:pK P t=some ky){k:D}{x:Value}(hx:aI g k x)(hself:(kM ky k k).isSome=true)(em:Bool):(Instr.checkKey em 10000 t x).run P w=.ok () w:=by
 rcases pL hk with⟨hu,rfl⟩ | ⟨kk,hu,rfl⟩ | ⟨fs,ks,hu,hks,rfl,hall⟩
 ·refine MapKept.run_checkKey (d:=.string) hu ?_ em 9999;obtain⟨c,hc⟩:=bz.1 hself;simp only[kM]at hc;split at hc
  case h_2=>cases hc
  obtain⟨b1,rfl,h1⟩:=hx.ei;simp[MapKept.IsKey]
 ·refine MapKept.run_checkKey (d:=.int kk) hu ?_ em 9999;obtain⟨c,hc⟩:=bz.1 hself;simp only[kM]at hc;split at hc
  case h_2=>cases hc
  rename_i p q hp hq2;have hx1:=ji hx hp;simp only[jj,ai,if_false]at hx1;obtain⟨a,xs,b,ys,b0,rfl,_,h0,rfl⟩:=iC hc;obtain⟨rfl,_,rfl⟩:=jd h0;cases hx1 with
  |cons _ _ _ _ g1 _ =>
   obtain rfl:=g1.bW;simp[MapKept.IsKey]
 ·obtain⟨c,hc⟩:=bz.1 hself;simp only[kM]at hc;split at hc
  case h_2=>cases hc
  rename_i p q hp hq2;have hx1:=ji hx hp;simp only[jj,if_true]at hx1;obtain⟨xs,rfl,hxr,h1x⟩:=hx1;have hks':ep.kindsF P (ep P 19) 0 fs.toList=some ks:=by
   have:=hks;rw[ep,hu]at this;dsimp only at this;split at this
   ·cases this
   ·exact this
  have hrun:=lF (P:=P) (w:=w) em hxr h1x fs.toList 0 ks q c hks' hall (by simpa using hc);rw[show(10000:Nat)=9999+1 from rfl,Instr.checkKey];simp only[Sem.run_bind,run_underlying hu,Result.andThen_ok];rw[← Array.forIn_toList];simp at hrun ⊢;rw[hrun];rfl
end
section
variable {P:Program} {CR:cm} {base fb:Nat} {V:List Nat} {g:G} {σ σ':SK} {w:World} {B:Nat→Nat} {e:Env} {tmps:Array Value} {df:List Deferred} {d:D}
theorem Inv.yB(hi:Inv CR base g σ w){l i:Nat}(hn:cG σ (.cells 0 [])=some (l,i,σ')):
  Inv CR base (g.bf l i (.mp w.heap.size)) σ' (w.alloc (.map #[] 0))∧Ev g w (g.bf l i (.mp w.heap.size)) (w.alloc (.map #[] 0)):=by
 obtain⟨h1,h2,h3,_,_⟩:=du hn;have hnone:=hi.mi h1;have hle:g.le (g.bf l i (.mp w.heap.size)):=G.dX fun L0 e=>by rw[hnone]at e;cases e
 refine⟨hi.nI l i hle h3 (fun l' i' c=>G.aD c) (fun l' i' L b c e eb=>alloc_old (hi.lo l' i' L b e eb).2) ?_ ?_ ?_ ?_ (by simp) ⟨_,G.aj⟩ (fun b v hb=>alloc_old (hi.di hb)),⟨hle,rfl,rfl,rfl,by simp,fun b hb _=>alloc_old hb,?_,fun b o v hv => .inl hv⟩⟩
 ·intro L e;rw[G.aj]at e;cases e;exact⟨_,h2,rfl,#[],0,ic,.nil,by simp[u0]⟩
 ·intro b o v e;obtain⟨h1,h2⟩:=hi.fp b o v e;exact⟨(cQ (alloc_old (hi.di e))).trans h1,h2⟩
 ·intro l' i' L b e eb o;by_cases c:l'=l∧i'=i
  ·obtain⟨rfl,rfl⟩:=c;rw[G.aj]at e;cases e;cases eb;cases e':(g.bf l' i' (.mp w.heap.size)).fp w.heap.size o with
   |none=>rfl
   |some v=>have:=hi.di (b:=w.heap.size) (o:=o) (v:=v) e';omega
  ·rw[G.aD c]at e;exact hi.sep l' i' L b e eb o
 ·intro L b e eb;rw[G.aj]at e;cases e;cases eb;refine⟨hi.ge,by simp,fun l' i' L' c e' eb'=>?_⟩;have:=(hi.lo l' i' L' _ e' eb').2;omega
 ·intro b hb;obtain⟨l',i',L,e,eb⟩:=hb;by_cases c:l'=l∧i'=i
  ·obtain⟨rfl,rfl⟩:=c;rw[G.aj]at e;cases e;cases eb;exact .inr (al _)
  ·rw[G.aD c]at e;exact .inl ⟨l',i',L,e,eb⟩
theorem Inv.Gw(hi:Inv CR base g σ w){l i T ee:Nat}(hn:cG σ (.cells 2 [.int .i64 (T:Nat),.int .i64 (ee:Nat),.str []])=some (l,i,σ')):
  Inv CR base (g.bf l i (.ob w.heap.size none)) σ' (w.alloc (.cells #[.pointer none,.slice none 0 0] T))∧Ev g w (g.bf l i (.ob w.heap.size none)) (w.alloc (.cells #[.pointer none,.slice none 0 0] T)):=by
 obtain⟨h1,h2,h3,_,_⟩:=du hn;have hnone:=hi.mi h1;have hle:g.le (g.bf l i (.ob w.heap.size none)):=G.dX fun L0 e=>by rw[hnone]at e;cases e
 have hown:∀b,(Loc.ob w.heap.size none).owns b→w.heap.size=b:=fun b h=>by
  rcases h with h | h
  ·exact h
  ·cases h
 refine⟨hi.nI l i hle h3 (fun l' i' c=>G.aD c) (fun l' i' L b c e eb=>alloc_old (hi.lo l' i' L b e eb).2) ?_ ?_ ?_ ?_ (by simp) ⟨_,G.aj⟩ (fun b v hb=>alloc_old (hi.di hb)),⟨hle,rfl,rfl,rfl,by simp,fun b hb _=>alloc_old hb,?_,fun b o v hv => .inl hv⟩⟩
 ·intro L e;rw[G.aj]at e;cases e;exact⟨_,h2,rfl,T,ee,[],.pointer none,.slice none 0 0,rfl,ic,.inl rfl,World.ownsRowF_nil _ _ _ _,rfl,by simp⟩
 ·intro b o v e;obtain⟨h1,h2⟩:=hi.fp b o v e;exact⟨(cQ (alloc_old (hi.di e))).trans h1,h2⟩
 ·intro l' i' L b e eb o;by_cases c:l'=l∧i'=i
  ·obtain⟨rfl,rfl⟩:=c;rw[G.aj]at e;cases e;obtain rfl:=hown b eb;cases e':(g.bf l' i' (.ob w.heap.size none)).fp w.heap.size o with
   |none=>rfl
   |some v=>have:=hi.di (b:=w.heap.size) (o:=o) (v:=v) e';omega
  ·rw[G.aD c]at e;exact hi.sep l' i' L b e eb o
 ·intro L b e eb;rw[G.aj]at e;cases e;obtain rfl:=hown b eb;refine⟨hi.ge,by simp,fun l' i' L' c e' eb'=>?_⟩;have:=(hi.lo l' i' L' _ e' eb').2;omega
 ·intro b hb;obtain⟨l',i',L,e,eb⟩:=hb;by_cases c:l'=l∧i'=i
  ·obtain⟨rfl,rfl⟩:=c;rw[G.aj]at e;cases e;obtain rfl:=hown b eb;exact .inr (al _)
  ·rw[G.aD c]at e;exact .inl ⟨l',i',L,e,eb⟩
theorem Inv.yP(hi:Inv CR base g σ w){l i b:Nat}{b0:b8}{es:List D}(hL:g.loc l i=some (.mp b))(hb:bS σ l i=some b0){bA:Array MapEntry}{clock:Nat}
  (hr:aH g es (bA.toList.map fun e => .tuple #[e.key,e.val])) (hm:u0 bA.toList clock) {w':World} (hw:w'={w with heap:=w.heap.setIfInBounds b (.map bA clock) }):
  Inv CR base (g.bf l i (.mp b)) (az σ l i (.cells 0 es)) w'∧Ev g w (g.bf l i (.mp b)) w':=by
 subst hw;have hlt:=(hi.lo l i _ b hL rfl).2;have hle:g.le (g.bf l i (.mp b)):=G.dX fun L0 e=>by rw[hL]at e;cases e;exact Loc.le_refl _
 refine hi.setCells hL hb (Loc.le_refl _) ⟨rfl,bA,clock,by simp[hlt],hr.mono hle,hm⟩ (fun b' hb' hne=>?_) rfl rfl rfl (by simp) (fun b' hb' => .inl hb');have:b≠b':=fun hh=>hne (by rw[hh];rfl)
 simp[this]
theorem kN(hi:Inv CR base g σ w){m:D}{c:Value}(hr:aI g m c){l i:Nat}{es:List D}(h:mO σ m=some (l,i,es)):
  ∃b bA clock v,c=.map (some b)∧g.loc l i=some (.mp b)∧bS σ l i=some (.cells v es)∧w.heap[b]?=some (.map bA clock)∧aH g es (bA.toList.map fun e => .tuple #[e.key,e.val])∧u0 bA.toList clock:=by
 obtain⟨rfl,hcs⟩:=tQ h;unfold cells? at hcs;split at hcs
 case h_2=>cases hcs
 rename_i v' cs' hblk;split at hcs
 case isFalse=>cases hcs
 cases hcs;cases hr with
 |fJ _ _ b hl =>
  obtain⟨b0,hb0,hrel⟩:=hi.jZ l i _ hl;rw[hblk]at hb0;cases hb0;exact hrel.elim
 |wc _ _ b hl =>
  obtain⟨b0,hb0,hrel⟩:=hi.jZ l i _ hl;rw[hblk]at hb0;cases hb0;obtain⟨_,bA,clock,h1,h2,h3⟩:=hrel;exact⟨b,bA,clock,v',rfl,hl,hblk,h1,h2,h3⟩
 |zh _ _ b L hl hc =>
  obtain⟨b0,hb0,hrel⟩:=hi.jZ l i _ hl;rw[hblk]at hb0;cases hb0;rcases hc with rfl | rfl
  ·rename_i hv0;obtain⟨hv1,_⟩:=hrel;omega
  ·exact hrel.elim
 |wE _ _ b L hl hc =>
  obtain⟨b0,hb0,hrel⟩:=hi.jZ l i _ hl;rw[hblk]at hb0;cases hb0;rcases hc with⟨c,rfl⟩ | rfl
  ·rename_i hv0;obtain⟨hv1,_⟩:=hrel;omega
  ·exact hrel.elim
theorem L9(hi:Inv CR base g σ w){t:TypeId}{ρ:Operand→Value}(h:aK e σ (.mp .make [])=some (d,σ'))(o:Oper)(ho:o.op=.makeMap t none):b9 P CR base g w B e ρ o d σ':=by
 simp only[aK,aS,pZ,ab,af,Prod.exists]at h;obtain⟨l,i,σ1,hn,rfl,rfl⟩:=h;obtain⟨i1,e1⟩:=hi.yB hn;exact .val (.map (some w.heap.size)) (by
  have hrun:(Instr.makeMap t none).run P w=.ok (.map (some w.heap.size)) (w.alloc (.map #[] 0)):=rfl;simp only[execOp,ho,Option.map_none,Sem.run_bind,hrun,Result.andThen_ok,Sem.run_pure]) e1 i1 (.wc l i _ G.aj)
theorem L6(hi:Inv CR base g σ w){el ee:TypeId}{ρ:Operand→Value}(hz:gM P el=some [.j3,.cH])
  (h:aK e σ (.mp (.kR el ee) [])=some (d,σ')) (o:Oper) (ho:o.op=.alloc el):b9 P CR base g w B e ρ o d σ':=by
 obtain⟨i0,v,hinfo,hzero,hrz,h1⟩:=ir g hz;simp only[aK,aS,pZ,ab,af,Prod.exists]at h;obtain⟨l,i,σ1,hn,rfl,rfl⟩:=h;obtain⟨i1,e1⟩:=hi.Gw hn;have hv:v.cells = #[.pointer none,.slice none 0 0]:=by
  generalize v.cells=a at hrz;obtain⟨a⟩:=a;dsimp only at hrz;cases hrz with
  |cons _ c _ cs k1 k2 =>
   cases k2 with
   |cons _ c2 _ cs2 k3 k4 =>
    cases k4;cases k1;cases k3;rfl
 have hrun:=oc (w:=w) hinfo hzero;rw[hv]at hrun;exact .val (.pointer (some ⟨w.heap.size,0,none⟩)) (by simp[execOp,ho,hrun]) e1 i1 (.wE l i _ _ G.aj (.inl ⟨_,rfl⟩))
theorem G9(hi:Inv CR base g σ w){t kt et:TypeId}{ik:IntKind}{n:Int}(h:aK e σ (.mp .make [])=some (d,σ'))(ht:P.underlying t=some (.map kt et))(o:Oper)(ho:o.op=.makeMap t (some (.const (.int ik n)))):b9 P CR base g w B e (Act.mk tmps df).eval o d σ':=by
 simp only[aK,aS,pZ,ab,af,Prod.exists]at h;obtain⟨l,i,σ1,hn,rfl,rfl⟩:=h;obtain⟨i1,e1⟩:=hi.yB hn;exact .val (.map (some w.heap.size)) (by
  have hrun:(Instr.makeMap t (some (.int ik n))).run P w=.ok (.map (some w.heap.size)) (w.alloc (.map #[] 0)):=by
   simp only[Instr.makeMap,Sem.run_bind,aB ht,Result.andThen_ok];rfl
  have hev:(Act.mk tmps df).eval (.const (.int ik n))=.int ik n:=rfl;simp only[execOp,ho,aG,hev,Sem.run_bind,hrun,Result.andThen_ok,Sem.run_pure]) e1 i1 (.wc l i _ G.aj)
theorem Ha(hf:Fr fb V g w B e tmps)(hi:Inv CR base g σ w){x:Operand}{X:aM}{t kt et:TypeId}{args:Array Operand}{ts:Array TypeId}{r:List Operand}{tr:List TypeId}(hx:aF x=some X)
  (ht:P.underlying t=some (.map kt et)) (ha:args.toList=x::r) (hts:ts.toList=t::tr)
  (h:aK e σ (.mp .len [X])=some (d,σ')) (o:Oper) (ho:o.op=.call {callee:=.builtin .len,args,argTypes:=ts }):b9 P CR base g w B e (Act.mk tmps df).eval o d σ':=by
 have hr:=hf.aC (df:=df) hx;obtain rfl:args=(x::r).toArray:=by rw[← ha]
 obtain rfl:ts=(t::tr).toArray:=by rw[← hts]
 simp only[aK,aw,aS,pZ,ab,af,Prod.exists]at h;obtain⟨l,i,es,hm,rfl,rfl⟩:=h;obtain⟨b,bA,clock,v,hc,hl,hblk,hheap,hrel,hok⟩:=kN hi hr hm;have hlen:=hrel.length;simp only[jr,Array.length_toList]at hlen;refine .pure hi (c:=.int .i64 bA.size) ?_ (by rw[hlen];exact a8.of (.int _ _));simp[execOp,ho,resolve,invoke,builtin,Builtin.len_,hc,aB ht,goInt,MapKept.run_getObj_map hheap]
theorem sP{t:TypeId}{z:D}(g:G)(h:HZ P t=some z):∃i v,P.info? t=some i∧i.zero=some v∧aI g z v:=by
 unfold HZ at h;split at h
 ·rename_i i hi;split at h
  ·rename_i v hv;exact⟨i,v,hi,hv,px g h⟩
  ·cases h
 ·cases h
theorem G8(hf:Fr fb V g w B e tmps)(hi:Inv CR base g σ w){x y:Operand}{X Y:aM}{t kt et:TypeId}{ky:Ky}{z:D}{ok:Bool}(hx:aF x=some X)(hy:aF y=some Y)
  (ht:P.underlying t=some (.map kt et)) (hk:pK P kt=some ky) (hz:HZ P et=some z)
  (h:aK e σ (.mp (.get ky z ok) [X,Y])=some (d,σ')) (o:Oper) (ho:o.op=.lookup t x y ok):b9 P CR base g w B e (Act.mk tmps df).eval o d σ':=by
 have hr:=hf.aC (df:=df) hx;have hr':=hf.aC (df:=df) hy;simp only[aK,aw,aS,pZ]at h;split at h
 case h_2=>cases h
 rename_i l i es hm;split at h
 case isFalse=>cases h
 rename_i hself;obtain⟨b,bA,clock,v,hc,hl,hblk,hheap,hrel,hok⟩:=kN hi hr hm;have hck:=nh (w:=w) hk hr' hself bA.isEmpty;obtain⟨iz,zv,hz1,hz2,hz3⟩:=sP g hz;split at h
 ·rename_i j v1 hfk;cases h;obtain⟨o1,ho1,e1,_,rfl,hv1⟩:=kg (w:=w) hk hr' hrel hfk hself;cases ok
  ·refine .pure hi (c:=e1.val) ?_ (a8.of (by simpa using hv1));simp[execOp,ho,Instr.lookup,aB ht,hc,MapKept.run_getObj_map hheap,hck,ho1]
  ·refine .pure hi (c:=.tuple #[e1.val,.bool true]) ?_ (a8.of (by simpa using aI.er _ #[e1.val,.bool true] (.cons _ _ _ _ hv1 (.cons _ _ _ _ (.bool true) .nil))));simp[execOp,ho,Instr.lookup,aB ht,hc,MapKept.run_getObj_map hheap,hck,ho1]
 ·rename_i hfk;cases h;obtain⟨o1,ho1,hf1⟩:=kg (w:=w) hk hr' hrel hfk hself;obtain rfl:o1=none:=hf1;cases ok
  ·refine .pure hi (c:=zv) ?_ (a8.of (by simpa using hz3));simp[execOp,ho,Instr.lookup,aB ht,hc,MapKept.run_getObj_map hheap,hck,ho1,cI hz1 hz2]
  ·refine .pure hi (c:=.tuple #[zv,.bool false]) ?_ (a8.of (by simpa using aI.er _ #[zv,.bool false] (.cons _ _ _ _ hz3 (.cons _ _ _ _ (.bool false) .nil))));simp[execOp,ho,Instr.lookup,aB ht,hc,MapKept.run_getObj_map hheap,hck,ho1,cI hz1 hz2]
 ·cases h
theorem aH.set{g:G}:∀{ds:List D} {cs:List Value} {j:Nat} {d:D} {c:Value},aH g ds cs→aI g d c→aH g (ds.set j d) (cs.set j c)
 |[],[],_,_,_,_,_=>by simpa using aH.nil
 |_::_,_::_,0,_,_,.cons _ _ _ _ h1 h2,h => .cons _ _ _ _ h h2
 |_::_,_::_,j+1,_,_,.cons _ _ _ _ h1 h2,h => .cons _ _ _ _ h1 (h2.set h)
theorem yO(hf:Fr fb V g w B e tmps)(hi:Inv CR base g σ w){x y u:Operand}{X Y U:aM}{t kt et:TypeId}{ky:Ky}(hx:aF x=some X)(hy:aF y=some Y)(hu:aF u=some U)
  (ht:P.underlying t=some (.map kt et)) (hk:pK P kt=some ky)
  (h:aK e σ (.mp (.put ky) [X,Y,U])=some (d,σ')) (o:Oper) (ho:o.op=.mapUpdate t x y u∨o.op=.insert t x y u):b9 P CR base g w B e (Act.mk tmps df).eval o d σ':=by
 have hr:=hf.aC (df:=df) hx;have hr':=hf.aC (df:=df) hy;have hru:=hf.aC (df:=df) hu;simp only[aK,aw,aS,pZ]at h;split at h
 case h_2=>cases h
 rename_i l i es hm;split at h
 case isFalse=>cases h
 rename_i hself;obtain⟨b,bA,clock,v,hc,hl,hblk,hheap,hrel,hok⟩:=kN hi hr hm;have hck:=nh (w:=w) hk hr' hself.1 false;generalize hkv:(Act.mk tmps df).eval y=kv at *
 generalize huv:(Act.mk tmps df).eval u=uv at *
 have hnew:aI g (.er [aC e Y,aC e U]) (.tuple #[kv,uv]):=.er _ _ (.cons _ _ _ _ hr' (.cons _ _ _ _ hru .nil));split at h
 ·rename_i j v1 hfk;cases h;obtain⟨o1,ho1,e1,he1,rfl,hv1⟩:=kg (w:=w) hk hr' hrel hfk hself.1;obtain⟨k',hk',hkq⟩:=rp hfk;have hj:bA[j]?=some e1:=by simpa using he1
  have hold:aI g k' e1.key:=by
   obtain⟨c0,hc0,hr0⟩:=hrel.get hk';rw[fL,he1]at hc0;cases hc0;exact(sN hr0).1
  obtain⟨hsame,hbits⟩:=yk hkq hr' hold;have hlist:(bA.modify j fun e=>{e with key:=kv,val:=uv }).toList=bA.toList.set j {e1 with key:=kv,val:=uv }:=by
   rw[Array.toList_modify];apply eA;intro n;rw[List.getElem?_modify,List.getElem?_set];by_cases hn:j=n
   ·subst hn;have hlt:=(ar.1 he1).1;have hlt2:j<bA.size:=by simpa using hlt
    have hje:bA[j]=e1:=(bX.1 hj).2;simp[he1,hlt2,hje]
   ·simp[hn]
  obtain⟨i1,ev1⟩:=hi.yP (es:=es.set j (.er [aC e Y,aC e U])) (bA:=bA.modify j fun e=>{e with key:=kv,val:=uv }) (clock:=clock) (w':={w with heap:=w.heap.setIfInBounds b (.map (bA.modify j fun e=>{e with key:=kv,val:=uv }) clock) }) hl hblk (by
    rw[hlist,List.map_set];exact hrel.set hnew) (by
    have hlt:=(ar.1 he1);rw[hlist];refine⟨?_,by rw[List.length_set];exact hok.2⟩;rw[List.map_set,List.length_set];have:(bA.toList.map (·.born)).set j e1.born=bA.toList.map (·.born):=by
     apply eA;intro n;rw[List.getElem?_set];by_cases hn:j=n
     ·subst hn;have hlt2:j<bA.size:=by simpa using hlt.1
      have hje:bA[j]=e1:=(bX.1 hj).2;simp[he1,hlt2,hje]
     ·simp[hn]
    rw[this];exact hok.1) rfl
  refine⟨.skip,Go.undef,_,_,?_,rfl,ev1,i1,.undef _⟩;have hkts:∀w:World,(Instr.keyThatStays e1.key kv).run P w=.ok kv w:=fun w=>by simp[Instr.keyThatStays,hbits]
  rcases ho with ho | ho<;>simp[execOp,ho,Instr.mapUpdate,aB ht,hc,hkv,huv,MapKept.run_getObj_map hheap,hck,ho1,hj,hkts,MapKept.run_setObj_map _ hheap]
 ·rename_i hfk;cases h;obtain⟨o1,ho1,hf1⟩:=kg (w:=w) hk hr' hrel hfk hself.1;obtain rfl:o1=none:=hf1;obtain⟨i1,ev1⟩:=hi.yP (es:=es++[.er [aC e Y,aC e U]]) (bA:=bA.push {key:=kv,val:=uv,born:=clock }) (clock:=clock+1) (w':={w with heap:=w.heap.setIfInBounds b (.map (bA.push {key:=kv,val:=uv,born:=clock }) (clock+1)) }) hl hblk (by
    rw[Array.toList_push,List.map_append];exact hrel.append (.cons _ _ _ _ hnew .nil)) (by
    rw[Array.toList_push];have h2:=hok.2;refine⟨?_,by simp only[cr,aZ,bD];omega⟩;rw[List.map_append,hok.1,cr,aZ,bD,cn,List.range_succ];simp only[aw,aS,h2]) rfl
  refine⟨.skip,Go.undef,_,_,?_,rfl,ev1,i1,.undef _⟩;rcases ho with ho | ho<;>simp[execOp,ho,Instr.mapUpdate,aB ht,hc,hkv,huv,MapKept.run_getObj_map hheap,hck,ho1,MapKept.run_setObj_map _ hheap]
 ·cases h
theorem Inv.zV(hi:Inv CR base g σ w){l i lm im bm n:Nat}(hn:cG σ (.cells 1 [.fJ lm im,.int .i64 (n:Nat)])=some (l,i,σ'))(hm:g.loc lm im=some (.mp bm)):
  Inv CR base (g.bf l i (.it w.heap.size)) σ' (w.alloc (.mapIter (some bm) n #[] n))∧Ev g w (g.bf l i (.it w.heap.size)) (w.alloc (.mapIter (some bm) n #[] n)):=by
 obtain⟨h1,h2,h3,_,_⟩:=du hn;have hnone:=hi.mi h1;have hle:g.le (g.bf l i (.it w.heap.size)):=G.dX fun L0 e=>by rw[hnone]at e;cases e
 refine⟨hi.nI l i hle h3 (fun l' i' c=>G.aD c) (fun l' i' L b c e eb=>alloc_old (hi.lo l' i' L b e eb).2) ?_ ?_ ?_ ?_ (by simp) ⟨_,G.aj⟩ (fun b v hb=>alloc_old (hi.di hb)),⟨hle,rfl,rfl,rfl,by simp,fun b hb _=>alloc_old hb,?_,fun b o v hv => .inl hv⟩⟩
 ·intro L e;rw[G.aj]at e;cases e;have hm2:(g.bf l i (.it w.heap.size)).loc lm im=some (.mp bm):=by
   rw[G.aD fun hh=>by rw[hh.1,hh.2,hnone]at hm;cases hm];exact hm
  exact⟨_,h2,rfl,lm,im,bm,n,[],rfl,hm2,ic,List.nodup_nil,by simp⟩
 ·intro b o v e;obtain⟨h1,h2⟩:=hi.fp b o v e;exact⟨(cQ (alloc_old (hi.di e))).trans h1,h2⟩
 ·intro l' i' L b e eb o;by_cases c:l'=l∧i'=i
  ·obtain⟨rfl,rfl⟩:=c;rw[G.aj]at e;cases e;cases eb;cases e':(g.bf l' i' (.it w.heap.size)).fp w.heap.size o with
   |none=>rfl
   |some v=>have:=hi.di (b:=w.heap.size) (o:=o) (v:=v) e';omega
  ·rw[G.aD c]at e;exact hi.sep l' i' L b e eb o
 ·intro L b e eb;rw[G.aj]at e;cases e;cases eb;refine⟨hi.ge,by simp,fun l' i' L' c e' eb'=>?_⟩;have:=(hi.lo l' i' L' _ e' eb').2;omega
 ·intro b hb;obtain⟨l',i',L,e,eb⟩:=hb;by_cases c:l'=l∧i'=i
  ·obtain⟨rfl,rfl⟩:=c;rw[G.aj]at e;cases e;cases eb;exact .inr (al _)
  ·rw[G.aD c]at e;exact .inl ⟨l',i',L,e,eb⟩
theorem Mc(hf:Fr fb V g w B e tmps)(hi:Inv CR base g σ w){x:Operand}{X:aM}{t kt et:TypeId}(hx:aF x=some X)(ht:P.underlying t=some (.map kt et))
  (h:aK e σ (.mp .MS [X])=some (d,σ')) (o:Oper) (ho:o.op=.range t x):b9 P CR base g w B e (Act.mk tmps df).eval o d σ':=by
 have hr:=hf.aC (df:=df) hx;simp only[aK,aw,aS,pZ]at h;split at h
 case h_2=>cases h
 rename_i lm im es hm;obtain⟨b,bA,clock,v,hc,hl,hblk,hheap,hrel,hok⟩:=kN hi hr hm;simp only[ab,af,Prod.exists]at h;obtain⟨l,i,σ1,hn,rfl,rfl⟩:=h;have hlen:=hrel.length;simp only[jr]at hlen;have hck:clock=es.length:=by rw[hlen];exact hok.2
 obtain⟨i1,e1⟩:=hi.zV hn hl;have hrun:=run_range_map (P:=P) w t kt et b bA clock ht hheap;rw[hck]at hrun;exact .val (.pointer (some ⟨w.heap.size,0,none⟩)) (by simp[execOp,ho,hc,hrun]) e1 i1 (.zh l i _ _ G.aj (.inl rfl))
theorem LU(hf:Fr fb V g w B e tmps)(hi:Inv CR base g σ w){x:Operand}{X:aM}(hx:aF x=some X)
  (h:aK e σ (.mp .Hu [X])=some (d,σ')) (o:Oper) (ho:o.op=.entry x):b9 P CR base g w B e (Act.mk tmps df).eval o d σ':=by
 have hr:=hf.aC (df:=df) hx;simp only[aK,aw,aS]at h;generalize aC e X=dx at hr h;cases dx<;>simp only[pZ,reduceCtorEq]at h;rename_i l i;split at h
 case h_2=>cases h
 rename_i m n j rest hcs;split at h
 case h_2=>cases h
 rename_i lm im es hm;split at h
 case isFalse=>cases h
 rename_i hlen;split at h
 case h_2=>cases h
 rename_i k v hj;cases h;unfold cells? at hcs;split at hcs
 case h_2=>cases hcs
 rename_i v' cs' hblk;split at hcs
 case isFalse=>cases hcs
 rename_i hv1;cases hcs;generalize hcv:(Act.mk tmps df).eval x=cv at hr;cases hr with
 |fJ _ _ b hl =>
  obtain⟨b0,hb0,hrel⟩:=hi.jZ l i _ hl;rw[hblk]at hb0;cases hb0;exact hrel.elim
 |wc _ _ b hl =>
  obtain⟨b0,hb0,hrel⟩:=hi.jZ l i _ hl;rw[hblk]at hb0;cases hb0;have:=hrel.1;omega
 |wE _ _ b L hl hc =>
  obtain⟨b0,hb0,hrel⟩:=hi.jZ l i _ hl;rw[hblk]at hb0;cases hb0;rcases hc with⟨c,rfl⟩ | rfl
  ·have:=hrel.1;omega
  ·exact hrel.elim
 |zh _ _ b L hl hc =>
  obtain⟨b0,hb0,hrel⟩:=hi.jZ l i _ hl;rw[hblk]at hb0;cases hb0;rcases hc with rfl | rfl
  rotate_left
  ·exact hrel.elim
  obtain⟨_,lm',im',bm,n',js,hcs,hlm,hheap,hnd,hlt⟩:=hrel;cases js with
  |nil=>simp at hcs
  |cons j' js =>
   simp only[aw,fq,D.int.injEq,true_and]at hcs;obtain⟨rfl,rfl,rfl,_⟩:=hcs;obtain⟨b2,bA,clock,v2,hc2,hl2,hblk2,hheap2,hrel2,hok⟩:=kN hi (.wc lm' im' bm hlm) hm;cases hc2;have hlen2:=hrel2.length;simp only[jr]at hlen2;obtain⟨c0,hc0,hr0⟩:=hrel2.get hj;rw[fL]at hc0;simp only[Int.toNat_natCast]at hc0;obtain⟨e1,he1,rfl⟩:=ab.1 hc0;have hborn:e1.born=j':=by
    have h1:=congrArg (fun l=>l[j']?) hok.1;simp only[fL,he1,aG]at h1;have h2:=(ar.1 he1).1;rw[List.getElem?_range h2]at h1;exact Option.some.inj h1
   have hck:clock=n':=by have:=hok.2;omega
   have hnd2:(bA.toList.map (·.born)).Nodup:=by rw[hok.1];exact List.nodup_range
   have hit:w.heap[b]?=some (.mapIter (some bm) n' (js.reverse.toArray.push e1.born) clock):=by
    rw[hheap,hborn,hck];simp
   have hrun:=run_entry_at (P:=P) w b bm n' js.reverse.toArray bA clock e1 hit hheap2 (av he1) hnd2;refine .pure hi (c:=.tuple #[e1.key,e1.val]) ?_ (a8.of hr0);simp[execOp,ho,hcv,hrun]
end
variable {P:Program} {CR:cm} {base fb:Nat} {V:List Nat} {g:G} {σ σ':SK} {w:World} {B:Nat→Nat} {e:Env} {tmps:Array Value} {df:List Deferred} {d:D}
theorem L8(hf:Fr fb V g w B e tmps)(hi:Inv CR base g σ w){x:Operand}{X:aM}{t:TypeId}(hx:aF x=some X)(hc:P.concrete t=true)
  (h:aK e σ (.HH t X)=some (d,σ')) (o:Oper) (ho:o.op=.makeInterface t x):b9 P CR base g w B e (Act.mk tmps df).eval o d σ':=by
 have hr:=hf.aC (df:=df) hx;simp only[aK,ad,af]at h;obtain⟨rfl,rfl⟩:=h;exact .pure hi (c:=.iface t ((Act.mk tmps df).eval x)) (by simp[execOp,ho,run_makeInterface w t _ hc]) (a8.of (.nu t _ _ hr))
theorem EE(hf:Fr fb V g w B e tmps)(hi:Inv CR base g σ w){x:Operand}{X:aM}{t xt:TypeId}{dsc:TypeDesc}{ok:Bool}{z:Option D}(hx:aF x=some X)(ht:P.underlying t=some dsc)(hn:∀ms,dsc ≠ .interface ms)
  (hz:if ok then ∃z0,z=some z0∧HZ P t=some z0 else z=none)
  (h:aK e σ (.Ho t z X)=some (d,σ')) (o:Oper) (ho:o.op=.typeAssert x xt t ok):b9 P CR base g w B e (Act.mk tmps df).eval o d σ':=by
 have hr:=hf.aC (df:=df) hx;simp only[aK,ab,af]at h;obtain⟨d0,h,rfl,rfl⟩:=h;generalize hcx:(Act.mk tmps df).eval x=cx at hr;generalize aC e X=dx at hr h;cases hr with
 |nu t' d1 c h1 =>
  simp only[Am]at h;cases ok with
  |true =>
   simp only[if_true]at hz;obtain⟨z0,rfl,hz⟩:=hz;obtain⟨iz,zv,hz1,hz2,hz3⟩:=sP g hz;simp only[ad]at h;by_cases htt:t'=t
   ·rw[if_pos htt]at h;subst h;refine .pure hi (c:=.tuple #[c,.bool true]) ?_ (a8.of (.er _ #[c,.bool true] (.cons _ _ _ _ h1 (.cons _ _ _ _ (.bool true) .nil))));simp only[execOp,ho,hcx,Instr.typeAssert,Sem.run_bind,run_underlying ht,Result.andThen_ok];cases dsc<;>first | exact absurd rfl (hn _) | simp[htt]
   ·rw[if_neg htt]at h;subst h;refine .pure hi (c:=.tuple #[zv,.bool false]) ?_ (a8.of (.er _ #[zv,.bool false] (.cons _ _ _ _ hz3 (.cons _ _ _ _ (.bool false) .nil))));simp only[execOp,ho,hcx,Instr.typeAssert,Sem.run_bind,run_underlying ht,Result.andThen_ok];cases dsc<;>first | exact absurd rfl (hn _) | simp[htt,cI hz1 hz2]
  |false =>
   simp only[ai,if_false]at hz;subst hz;simp only at h;split at h
   case isFalse=>cases h
   rename_i htt;cases h;refine .pure hi (c:=c) ?_ (a8.of h1);simp only[execOp,ho,hcx,Instr.typeAssert,Sem.run_bind,run_underlying ht,Result.andThen_ok];cases dsc<;>first | exact absurd rfl (hn _) | simp[htt]
 |ia =>
  simp only[Am,ab]at h;obtain⟨z1,rfl,rfl⟩:=h;cases ok with
  |true =>
   simp only[if_true]at hz;obtain⟨z0,hz0,hz⟩:=hz;cases hz0;obtain⟨iz,zv,hz1,hz2,hz3⟩:=sP g hz;refine .pure hi (c:=.tuple #[zv,.bool false]) ?_ (a8.of (.er _ #[zv,.bool false] (.cons _ _ _ _ hz3 (.cons _ _ _ _ (.bool false) .nil))));simp only[execOp,ho,hcx,Instr.typeAssert,Sem.run_bind,run_underlying ht,Result.andThen_ok];cases dsc<;>first | exact absurd rfl (hn _) | simp[cI hz1 hz2]
  |false=>simp at hz
 |_=>simp[Am]at h
theorem od{t:TypeId}{ms:Array (String×TypeId)}(n:Nat)(ht:P.underlying t=some (.interface ms))(w:World):(Op.equalIn (n+1) t .nilIface .nilIface).run P w=.ok true w:=by
 rw[Op.equalIn];simp[run_underlying ht]
theorem oM{t t':TypeId}{c:Value}{ms:Array (String×TypeId)}(n:Nat)(ht:P.underlying t=some (.interface ms))(w:World):(Op.equalIn (n+1) t (.iface t' c) .nilIface).run P w=.ok false w:=by
 rw[Op.equalIn];simp[run_underlying ht]
theorem pT{t:TypeId}{ms:Array (String×TypeId)}(ht:P.underlying t=some (.interface ms))(w:World):(Op.equal t .nilIface .nilIface).run P w=.ok true w:=od 9999 ht w
theorem q7{t t':TypeId}{c:Value}{ms:Array (String×TypeId)}(ht:P.underlying t=some (.interface ms))(w:World):(Op.equal t (.iface t' c) .nilIface).run P w=.ok false w:=oM 9999 ht w
theorem EB(hf:Fr fb V g w B e tmps)(hi:Inv CR base g σ w){x:Operand}{X:aM}{t u:TypeId}{ms:Array (String×TypeId)}{neg:Bool}(hx:aF x=some X)(ht:P.underlying t=some (.interface ms))
  (h:aK e σ (.Gi neg X)=some (d,σ')) (o:Oper) (ho:o.op=.binOp (if neg then .neq else .eql) t x (.const .nilIface) u):b9 P CR base g w B e (Act.mk tmps df).eval o d σ':=by
 have hr:=hf.aC (df:=df) hx;simp only[aK,ab,af]at h;obtain⟨b,h,rfl,rfl⟩:=h;have hev:(Act.mk tmps df).eval (.const .nilIface)=.nilIface:=rfl;generalize hcx:(Act.mk tmps df).eval x=cx at hr;generalize aC e X=dx at hr h;cases hr with
 |ia =>
  cases h;refine .pure hi (c:=.bool (if neg then false else true)) ?_ (a8.of (by cases neg<;>exact .bool _));cases neg<;>simp[execOp,ho,hcx,hev,eqGuard,binOp,pT ht]
 |nu t' d1 c h1 =>
  cases h;refine .pure hi (c:=.bool (if neg then true else false)) ?_ (a8.of (by cases neg<;>exact .bool _));cases neg<;>simp[execOp,ho,hcx,hev,eqGuard,binOp,q7 ht]
 |_=>cases h
section
variable {P:Program} {CR:cm} {base fb:Nat} {V:List Nat} {g:G} {σ σ':SK} {w:World} {B:Nat→Nat} {e:Env} {tmps:Array Value} {df:List Deferred}
 {a:jq} {ops:Array Oper} {key:Nat} {k:K} {d:D}
theorem uw(hf:Fr fb V g w B e tmps)(hi:Inv CR base g σ w){x y:Operand}{X Y:aM}{t u:TypeId}{b:BinOp}(hx:aF x=some X)(hy:aF y=some Y)
  (hk:Fh P b t X Y=some k) (h:aK e σ k=some (d,σ')) (o:Oper) (ho:o.op=.binOp b t x y u):b9 P CR base g w B e (Act.mk tmps df).eval o d σ':=by
 unfold Fh at hk;split at hk
 case h_2=>cases hk
 rename_i ks hks;split at hk
 ·cases hk
 rename_i hg;have hg':P.eqGuardType P.depth t=false:=by simpa using hg
 split at hk
 ·obtain⟨ag,hag,rfl⟩:=ab.1 hk;exact EA hf hi hx hy hks hag hg' h o (by simpa using ho)
 ·obtain⟨ag,hag,rfl⟩:=ab.1 hk;exact EA hf hi hx hy hks hag hg' h o (by simpa using ho)
 ·cases hk
theorem Aj{ag:Bool}{sz:Nat}{X:aM}{r:D×SK}(h:aK e σ (.HC ag sz X)=some r):aK e σ (.ld ag sz X)=some r:=by
 simp only[aK]at h ⊢;cases hx:aC e X<;>rw[hx]at h<;>try (cases h;done)
 simpa[oX]using h
theorem Ai{ag:Bool}{sz:Nat}{X:aM}{r:D×SK}(h:aK e σ (.zi ag sz X)=some r):aK e σ (.ld ag sz X)=some r:=by
 simp only[aK]at h ⊢;cases hr:z8 σ (aC e X)with
 |none=>rw[hr]at h;cases h
 |some cs =>
  rw[hr]at h;have:oX σ (aC e X)=some cs:=by
   generalize aC e X=dx at hr;unfold z8 at hr;split at hr
   ·exact hr
   ·cases hr
  rw[this];exact h
theorem mD{w:World}(d:Nat){t el:TypeId}{a:Option Addr}(h:P.underlying t=some (.pointer el)):(Op.equalIn (d+1) t (.pointer a) (.pointer none)).run P w=.ok a.isNone w:=by
 cases a<;>simp[Op.equalIn,aB h]
theorem run_equalIn_slice_nil{w:World}(d:Nat){t el:TypeId}{a:Option Addr}{n c:Nat}(h:P.underlying t=some (.slice el)):(Op.equalIn (d+1) t (.slice a n c) (.slice none 0 0)).run P w=.ok a.isNone w:=by
 cases a<;>simp[Op.equalIn,aB h]
theorem LX(hi:Inv CR base g σ w){x y:Operand}{X:aM}{t u:TypeId}{b:BinOp}{ps bo:Bool}{cx cy:Value}(e1:(Act.mk tmps df).eval x=cx)(e2:(Act.mk tmps df).eval y=cy)
  (hg:∀b,(eqGuard b t x y cx cy).run P w=.ok () w) (hb:binOp .eql t cx cy=(do pure (.bool (← Op.equal t cx cy)))) (hb':binOp .neq t cx cy=(do pure (.bool (!(← Op.equal t cx cy)))))
  (heq:(Op.equal t cx cy).run P w=.ok bo w) (hn:vW ps (aC e X)=some bo)
  (hk:zg ps b X=some k) (h:aK e σ k=some (d,σ')) (o:Oper) (ho:o.op=.binOp b t x y u):b9 P CR base g w B e (Act.mk tmps df).eval o d σ':=by
 unfold zg at hk;split at hk
 ·cases hk;simp only[aK,hn,aG,ad,af]at h;obtain⟨rfl,rfl⟩:=h;refine .pure hi ?_ (a8.of (.bool _));simp[execOp,ho,e1,e2,hg,hb,heq]
 ·cases hk;simp only[aK,hn,aG,ad,af]at h;obtain⟨rfl,rfl⟩:=h;refine .pure hi ?_ (a8.of (.bool _));simp[execOp,ho,e1,e2,hg,hb',heq]
 ·cases hk
theorem tJ{ps:Bool}{b:BinOp}{X:aM}(hk:zg ps b X=some k)(h:aK e σ k=some (d,σ')):∃bo,vW ps (aC e X)=some bo:=by
 unfold zg at hk;split at hk<;>cases hk<;>simp only[aK,ab]at h<;>obtain⟨b,hb,_⟩:=h<;>exact⟨b,hb⟩
theorem LY(hf:Fr fb V g w B e tmps)(hi:Inv CR base g σ w){x y:Operand}{X:aM}{t u el:TypeId}{b:BinOp}(hx:aF x=some X)(hy:aF y=some (.c .j3))(ht:P.underlying t=some (.pointer el))
  (hk:zg true b X=some k) (h:aK e σ k=some (d,σ')) (o:Oper) (ho:o.op=.binOp b t x y u):b9 P CR base g w B e (Act.mk tmps df).eval o d σ':=by
 have hr:=hf.aC (df:=df) hx;have hr':=hf.aC (df:=df) hy;have e2:(Act.mk tmps df).eval y=.pointer none:=by
  generalize (Act.mk tmps df).eval y=c at hr';cases hr';rfl
 obtain⟨bo,hn⟩:=tJ hk h;have:∃a,(Act.mk tmps df).eval x=.pointer a∧bo=a.isNone:=by
  generalize aC e X=dx at hr hn;generalize (Act.mk tmps df).eval x=cx at hr;cases hr<;>simp[vW]at hn
  ·exact⟨none,rfl,by simp[← hn]⟩
  ·exact⟨_,rfl,by simp[← hn]⟩
  ·exact⟨_,rfl,by simp[← hn]⟩
 obtain⟨a,e1,rfl⟩:=this;refine LX hi e1 e2 (fun b=>by simp[eqGuard]) rfl rfl (mD 9999 ht) hn hk h o ho
theorem LZ(hf:Fr fb V g w B e tmps)(hi:Inv CR base g σ w){x y:Operand}{X:aM}{t u el:TypeId}{b:BinOp}(hx:aF x=some X)(hy:aF y=some (.c .cH))(ht:P.underlying t=some (.slice el))
  (hk:zg false b X=some k) (h:aK e σ k=some (d,σ')) (o:Oper) (ho:o.op=.binOp b t x y u):b9 P CR base g w B e (Act.mk tmps df).eval o d σ':=by
 have hr:=hf.aC (df:=df) hx;have hr':=hf.aC (df:=df) hy;have e2:(Act.mk tmps df).eval y=.slice none 0 0:=by
  generalize (Act.mk tmps df).eval y=c at hr';cases hr';rfl
 obtain⟨bo,hn⟩:=tJ hk h;have:∃a n c,(Act.mk tmps df).eval x=.slice a n c∧bo=a.isNone:=by
  generalize aC e X=dx at hr hn;generalize (Act.mk tmps df).eval x=cx at hr;cases hr<;>simp[vW]at hn
  ·exact⟨none,_,_,rfl,by simp[← hn]⟩
  ·exact⟨_,_,_,rfl,by simp[← hn.2]⟩
  ·rename_i l i v off n w a cap L h1 h2 h3 h4 h5 h6 h7;refine⟨a,n,cap,rfl,?_⟩;cases a with
   |none=>have:=h4 rfl;omega
   |some a=>simp[← hn.2]
 obtain⟨a,n,c,e1,rfl⟩:=this;refine LX hi e1 e2 (fun b=>by simp[eqGuard]) rfl rfl (run_equalIn_slice_nil 9999 ht) hn hk h o ho
theorem Mb(hf:Fr fb V g w B e tmps)(hi:Inv CR base g σ w){x:Operand}{X:aM}(hx:aF x=some X)(h:aK e σ (.sV X)=some (d,σ'))(o:Oper)(ho:o.op=.nilCheck x):
  b9 P CR base g w B e (Act.mk tmps df).eval o d σ':=by
 have hr:=hf.aC (df:=df) hx;simp only[aK]at h;generalize aC e X=dx at hr h;have key:(∃a,(Act.mk tmps df).eval x=.pointer (some a))∧d=dx∧σ'=σ:=by
  generalize (Act.mk tmps df).eval x=cx at hr;cases hr<;>simp at h
  ·exact⟨⟨_,rfl⟩,h.1.symm,h.2.symm⟩
  ·exact⟨⟨_,rfl⟩,h.1.symm,h.2.symm⟩
 obtain⟨⟨a,e1⟩,rfl,rfl⟩:=key;rw[e1]at hr;exact .pure hi (c:=.pointer (some a)) (by simp[execOp,ho,e1]) (a8.of hr)
theorem rE{x:Operand}(h:lj x=true):x=.const (.slice none 0 0):=by
 unfold lj at h;split at h
 ·rfl
 ·cases h
theorem Hk(hf:Fr fb V g w B e tmps)(hi:Inv CR base g σ w){o:Oper}(hk:kC P a ops key o=some k)(h:aK e σ k=some (d,σ')):
  b9 P CR base g w B e (Act.mk tmps df).eval o d σ':=by
 unfold kC at hk;split at hk
 ·rename_i x ho;obtain⟨X,hX,rfl⟩:=ab.1 hk;exact uM hf hi hX h o (.inl ho)
 ·rename_i x ho;split at hk
  ·rename_i hnil _ _;split at hk
   ·obtain⟨X,hX,rfl⟩:=ab.1 hk;exact Hb hi h o (by rw[ho,rE hnil])
   ·obtain⟨X,hX,rfl⟩:=ab.1 hk;exact uM hf hi hX h o (.inr ho)
  ·obtain⟨X,hX,rfl⟩:=ab.1 hk;exact uM hf hi hX h o (.inr ho)
 ·rename_i c x y ho;split at hk
  ·rename_i c' x' y' h1 h2 h3;cases hk;exact Hc hf hi h1 h2 h3 h o ho
  ·cases hk
 ·rename_i el ho;split at hk
  ·rename_i z d0 hz _;split at hk
   ·split at hk
    case h_2=>cases hk
    split at hk
    case h_2=>cases hk
    split at hk
    case h_2=>cases hk
    cases hk;exact L6 hi hz h o ho
   cases hk;split at h
   ·cases h
   ·exact LH hi hz h o ho
  ·cases hk
 ·rename_i t x ho;split at hk
  ·rename_i x' d0 hx _;cases hk;split at h
   ·cases h
   split at h
   ·split at h
    ·exact G2 hf hi hx h o ho
    ·exact LP hf hi hx h o ho
   ·exact G1 hf hi hx h o ho
  ·cases hk
 ·rename_i t ps ho;split at hk
  ·rename_i fs z ht hz;split at hk
   ·rename_i hall;obtain⟨parts,hp,rfl⟩:=ab.1 hk;exact sA hf hi ht hz hall hp h o ho
   ·cases hk
  ·rename_i n el z ht hz;split at hk
   ·rename_i wd hw;obtain⟨parts,hp,rfl⟩:=ab.1 hk;exact tV hf hi ht hw hz hp h o ho
   ·cases hk
  ·cases hk
 ·rename_i t n ps ho;split at hk
  ·rename_i el ht;split at hk
   ·rename_i wd z d0 hw hz _;split at hk
    ·rename_i hc;obtain⟨parts,hp,rfl⟩:=ab.1 hk;dsimp only at h;split at h
     ·rename_i hn;simp only[ah,aq]at hn;obtain⟨⟨rfl,hpe⟩,_⟩:=hn;exact LM hf hi ht hw hz hc.1 hc.2.1 hc.2.2 hp (by simpa using hpe) h o ho
     split at h
     ·exact LO hf hi ht hw hz hc.1 hc.2.1 hc.2.2 hp h o ho
     ·exact LN hf hi ht hw hz hc.1 hc.2.1 hc.2.2 hp h o ho
    ·cases hk
   ·cases hk
  ·cases hk
 ·rename_i t x ho;split at hk
  ·rename_i ag sz n hag hsz hx;split at hk
   ·rename_i hc;simp only[ah,aq]at hc;cases hk;have hxe:x=.tmp n:=by
     cases x<;>simp only[aF,ad,aM.t.injEq,reduceCtorEq,ab,and_false,exists_false]at hx;rw[hx]
    split at h
    ·exact L4 hf hi hag hsz hc.1 hc.2 h o (by rw[ho,hxe])
    ·split at h
     ·exact G7 hf hi hx hag hsz hc.1 hc.2 (Aj h) o ho
     split at h
     ·exact G7 hf hi hx hag hsz hc.1 hc.2 (Ai h) o ho
     ·exact G7 hf hi hx hag hsz hc.1 hc.2 h o ho
   ·cases hk
  ·cases hk
 ·rename_i t x y ho;split at hk
  ·rename_i sz n y' hsz hx hy;cases hk;split at h
   ·cases h
   ·split at h
    ·exact Mh hf hi hx hy hsz (vE h) o ho
    ·exact Mh hf hi hx hy hsz h o ho
  ·cases hk
 ·rename_i b t x y u ho;split at hk
  ·rename_i hx hy;cases hk;exact LL hf hi hx hy h o ho
  ·rename_i hx hy;exact uw hf hi hx hy hk h o ho
  ·rename_i hx hy;exact uw hf hi hx hy hk h o ho
  ·rename_i hx hy;exact uw hf hi hx hy hk h o ho
  ·rename_i ht hx hy;split at hk
   ·cases hk;exact Hd hf hi hx hy h o ho
   ·cases hk;exact ED hf hi hx hy h o ho
   ·cases hk;exact ED hf hi hx hy h o ho
   ·cases hk
  ·rename_i ht hx hy;exact LY hf hi hx hy ht hk h o ho
  ·rename_i ht hx hy;split at hk
   ·rename_i hsz;split at hk
    ·cases hk;exact EC (neg:=false) hf hi hx hy ht hsz h o ho
    ·cases hk;exact EC (neg:=true) hf hi hx hy ht hsz h o ho
    ·cases hk
   ·cases hk
  ·rename_i ht hx hy;exact LZ hf hi hx hy ht hk h o ho
  ·rename_i ht hx hy;split at hk
   ·cases hk;exact EB (neg:=false) hf hi hx ht h o ho
   ·cases hk;exact EB (neg:=true) hf hi hx ht h o ho
   ·cases hk
  ·cases hk
 ·rename_i x ho;obtain⟨X,hX,rfl⟩:=ab.1 hk;exact Mb hf hi hX h o ho
 ·rename_i b t x ho;obtain⟨X,hX,rfl⟩:=ab.1 hk;exact NQ hf hi hX h o ho
 ·rename_i s t x ho;split at hk
  ·rename_i hs ht hx;cases hk;exact LR hf hi hx hs ht h o ho
  ·rename_i hs ht hx;split at hk
   ·rename_i he hw;cases hk;exact LK hf hi hx hs he ht h o ho
   ·cases hk
  ·rename_i hs ht hx;split at hk
   ·rename_i he hw;cases hk;exact Mf hf hi hx hs he ht h o ho
   ·cases hk
  ·rename_i hs ht hx;split at hk
   ·rename_i hst;subst hst;split at hk
    ·rename_i he;cases hk;exact LS hf hi hx hs he h o ho
    ·cases hk
   ·cases hk
  ·cases hk
 ·rename_i t x ho;split at hk
  ·rename_i ht hx;obtain⟨wd,hw,rfl⟩:=ab.1 hk;exact Md hf hi hx ht h o ho
  ·cases hk
 ·rename_i f xs ys ho;split at hk
  ·rename_i hx hy;cases hk;exact L7 hf hi hx hy h o ho
  ·cases hk
 ·rename_i t x y ho;split at hk
  ·rename_i el ht;split at hk
   ·rename_i hw hb hz hx hy;split at hk
    ·rename_i hc;cases hk;exact Ma hf hi hx hy ht hw hb hz hc.1 hc.2 h o ho
    ·cases hk
   ·cases hk
  ·cases hk
 ·rename_i t x lo hh mx ho;split at hk
  ·rename_i ht hx hlo hhi hmx;obtain⟨wd,hw,rfl⟩:=ab.1 hk;exact Mg hf hi hx ht hw hlo hhi hmx h o ho
  ·rename_i ht hx hlo hhi hmx;obtain⟨wd,hw,rfl⟩:=ab.1 hk;have hm:mx=none:=by
    cases mx with
    |none=>rfl
    |some m=>simp[jU,ab]at hmx
   subst hm;exact Hf hf hi hx ht hw hlo hhi h o ho
  ·rename_i ht hx hlo hhi hmx;cases hk;have hm:mx=none:=by
    cases mx with
    |none=>rfl
    |some m=>simp[jU,ab]at hmx
   subst hm;exact Hh hf hi hx ht hlo hhi h o ho
  ·cases hk
 ·rename_i s x i ho;split at hk
  ·rename_i fs x' hs hx;split at hk
   ·rename_i off sz hfc;split at hk
    ·rename_i hpos;cases hk;exact G3 hf hi hx hs hfc hpos h o ho
    ·cases hk
   ·cases hk
  ·cases hk
 ·rename_i s x i ho;split at hk
  ·rename_i fs x' hs hx;split at hk
   ·rename_i f hfi;split at hk
    ·rename_i hag hsz;split at hk
     ·cases hk;exact LW hf hi hx hs hfi hag hsz h o ho
     ·cases hk
    ·cases hk
   ·cases hk
  ·cases hk
 ·rename_i t x y ho;split at hk
  ·rename_i ht hx hy;obtain⟨wd,hw,rfl⟩:=ab.1 hk;exact G4 hf hi hx hy ht hw h o ho
  ·rename_i ht hx hy;obtain⟨wd,hw,rfl⟩:=ab.1 hk;exact G5 hf hi hx hy ht hw h o ho
  ·cases hk
 ·rename_i t x y ho;split at hk
  ·rename_i ht hx hy;split at hk
   ·rename_i hag hsz;split at hk
    ·cases hk;exact G6 hf hi hx hy ht hag hsz h o ho
    ·cases hk
   ·cases hk
  ·rename_i ht hx hy;cases hk;exact He hf hi hx hy ht h o ho
  ·cases hk
 ·rename_i x i ho;obtain⟨X,hX,rfl⟩:=ab.1 hk;exact LV hf hi hX h o ho
 ·rename_i c ho;obtain⟨callee,args,ts⟩:=c;dsimp only at hk;split at hk
  ·rename_i f;split at hk
   ·cases hk;cases h
   ·cases hk
  ·split at hk
   ·rename_i t tr x r hts ha;split at hk
    ·rename_i ht hx;cases hk;exact L5 hf hi hx ht ha hts h o ho
    ·rename_i ht hx;cases hk;exact Hg hf hi hx ht ha hts h o ho
    ·rename_i ht hx;cases hk;exact Ha hf hi hx ht ha hts h o ho
    ·rename_i ht;cases hk;exact yN hi (.inl ⟨_,ht⟩) ha hts h o ho
    ·rename_i ht;split at hk
     ·rename_i hr;cases hk;exact yN hi (.inr ⟨_,_,ht,hr⟩) ha hts h o ho
     ·cases hk
    ·cases hk
   ·cases hk
  ·cases hk;cases h
  ·split at hk
   ·rename_i ha;split at hk
    ·rename_i hx hy;cases hk;exact NO hf hi hx hy ha h o ho
    ·cases hk
   ·cases hk
  ·split at hk
   ·rename_i ha;split at hk
    ·rename_i hx hy;cases hk;exact NP hf hi hx hy ha h o ho
    ·cases hk
   ·cases hk
  ·split at hk
   ·rename_i t u x y hts ha;split at hk
    ·rename_i uu x' y' ht hu0 hx hy;split at hk
     case isFalse=>cases hk
     rename_i huu;have hu:P.underlying u=some .string∨∃e2,P.underlying u=some (.slice e2):=by
      cases uu<;>simp[yK]at huu
      ·exact .inl hu0
      ·exact .inr ⟨_,hu0⟩
     split at hk
     ·rename_i hw hb hz;split at hk
      ·rename_i hc;cases hk;split at h
       ·rename_i hn;simp only[ah]at hn;exact LQ hf hi (rE hn.1) hy ha hts ht hu hw hb hz hc.2.2.2 hc.2.1 hc.2.2.1 h o ho
       ·split at h
        ·rename_i hn;simp only[ah]at hn;obtain⟨v,rfl⟩:∃v,x=.tmp v:=by
          have:=hn.2;cases x<;>simp[yX]at this;exact⟨_,rfl⟩
         exact LI hf hi rfl hy ha hts ht hu hw hb hz hc.2.2.2 hc.2.1 hc.2.2.1 h o ho
        split at h
        ·exact LJ hf hi hx hy ha hts ht hu hw hb hz hc.2.2.2 hc.2.1 hc.2.2.1 h o ho
        split at h
        ·exact yM hf hi hx hy ha hts ht hu hw hb hz hc.2.2.2 hc.2.1 hc.2.2.1 (vD h) o ho
        ·exact yM hf hi hx hy ha hts ht hu hw hb hz hc.2.2.2 hc.2.1 hc.2.2.1 h o ho
      ·cases hk
     ·cases hk
    ·cases hk
   ·cases hk
  ·cases hk
 ·rename_i t x ho;split at hk
  ·rename_i hc;obtain⟨X,hX,rfl⟩:=ab.1 hk;exact L8 hf hi hX hc h o ho
  ·cases hk
 ·rename_i x xt t ok ho;split at hk
  ·cases hk
  ·rename_i dsc x' hnot ht hx;split at hk
   ·rename_i hok;subst hok;obtain⟨z,hz,rfl⟩:=ab.1 hk;exact EE hf hi hx ht (fun ms hms=>by subst hms;exact hnot _ rfl) (by simpa using hz) h o ho
   ·rename_i hok;cases hk;exact EE hf hi hx ht (fun ms hms=>by subst hms;exact hnot _ rfl) (by simp[hok]) h o ho
  ·cases hk
 ·rename_i x ho;obtain⟨X,hX,rfl⟩:=ab.1 hk;cases h
 ·rename_i t ho;cases hk;exact L9 hi h o ho
 ·rename_i t k n ho;split at hk
  ·rename_i ht;cases hk;exact G9 hi h ht o ho
  ·cases hk
 ·rename_i t x ho;split at hk
  ·rename_i ht hx;cases hk;exact Mc hf hi hx ht h o ho
  ·cases hk
 ·rename_i x ho;split at hk
  ·rename_i hx;cases hk;exact LU hf hi hx h o ho
  ·cases hk
 ·rename_i t x y ok ho;split at hk
  ·rename_i ht hx hy;split at hk
   ·rename_i hky hz;cases hk;exact G8 hf hi hx hy ht hky hz h o ho
   ·cases hk
  ·cases hk
 ·rename_i t m x y ho;split at hk
  ·rename_i ht hm hx hy;split at hk
   ·rename_i hky;cases hk;exact yO hf hi hm hx hy ht hky h o (.inl ho)
   ·cases hk
  ·cases hk
 ·rename_i t m x y ho;split at hk
  ·rename_i ht hm hx hy;split at hk
   ·rename_i hky;cases hk;exact yO hf hi hm hx hy ht hky h o (.inr ho)
   ·cases hk
  ·cases hk
 ·cases hk
end
mutual
def D.low(n:Nat):D→Bool
 |.ref l .. => decide (l<n)
 |.sl l .. => decide (l<n)
 |.fJ l _=>decide (l<n)
 |.vr .. => true
 |.emp=>true
 |.own _ cs=>D.eZ n cs
 |.agg cs=>D.eZ n cs
 |.er cs=>D.eZ n cs
 |.bE cs=>D.eZ n cs
 |.ch _ cs=>D.eZ n cs
 |.fn _ a b=>D.eZ n a && D.eZ n b
 |.undef=>true
 |.bool _=>true
 |.int _ _=>true
 |.str _=>true
 |.j3=>true
 |.cH=>true
 |.lL=>true
 |.nu _ d=>D.low n d
 |.ia=>true
def D.eZ(n:Nat):List D→Bool
 |[]=>true
 |d::ds=>D.low n d && D.eZ n ds
end
theorem lY{n:Nat}{ds:List D}:D.eZ n ds=true↔∀d∈ds,d.low n=true:=by
 induction ds with
 |nil=>simp[D.eZ]
 |cons d ds ih=>simp[D.eZ,ih]
mutual
theorem ie{n:Nat}:∀{d:D},d.clean=true→d.low n=true
 |.ref ..,h=>by simp[D.clean]at h
 |.sl ..,h=>by simp[D.clean]at h
 |.fJ ..,h=>by simp[D.clean]at h
 |.vr ..,_=>rfl
 |.emp,_=>rfl
 |.own _ cs,h=>gf (ds:=cs) (by simpa[D.clean]using h)
 |.agg cs,h=>gf (ds:=cs) (by simpa[D.clean]using h)
 |.er cs,h=>gf (ds:=cs) (by simpa[D.clean]using h)
 |.bE cs,h=>gf (ds:=cs) (by simpa[D.clean]using h)
 |.ch _ cs,h=>gf (ds:=cs) (by simpa[D.clean]using h)
 |.fn _ a b,h=>by
  simp only[D.clean,ah]at h;simp only[D.low,ah];exact⟨gf h.1,gf h.2⟩
 |.undef,_=>rfl
 |.bool _,_=>rfl
 |.int _ _,_=>rfl
 |.str _,_=>rfl
 |.j3,_=>rfl
 |.cH,_=>rfl
 |.lL,_=>rfl
 |.nu _ d,h=>ie (d:=d) (by simpa[D.clean]using h)
 |.ia,_=>rfl
theorem gf{n:Nat}:∀{ds:List D},D.bp ds=true→D.eZ n ds=true
 |[],_=>rfl
 |d::ds,h=>by
  simp only[D.bp,ah]at h;simp only[D.eZ,ah];exact⟨ie h.1,gf h.2⟩
end
mutual
theorem aI.low{g:G}{n:Nat}(hn:∀l i L,g.loc l i=some L→l<n):∀{d:D} {c:Value},aI g d c→d.low n=true
 |_,_,.undef c=>rfl
 |_,_,.bool b=>rfl
 |_,_,.int k n=>rfl
 |_,_,.str s=>rfl
 |_,_,.agg ds cs hr h1=>aH.low hn hr
 |_,_,.er ds cs hr=>aH.low hn hr
 |_,_,.j3=>rfl
 |_,_,.ref l i v off b o L e hv hc hn'=>by simp only[D.low,aq];exact hn l i L e
 |_,_,.bE ds b o vs hr hl=>aH.low hn hl
 |_,_,.cH=>rfl
 |_,_,.kE=>rfl
 |_,_,.ch n' ds a cap vs hn' hr hs hl=>aH.low hn hl
 |_,_,.sl l i v off n' w a cap L e hv hn' ha hs hc hc'=>by simp only[D.low,aq];exact hn l i L e
 |_,_,.fn f fs cs fs' cs' h1 h2=>by simp only[D.low,ah];exact⟨aH.low hn h1,aH.low hn h2⟩
 |_,_,.lL=>rfl
 |_,_,.fJ l i b e=>by simp only[D.low,aq];exact hn l i _ e
 |_,_,.wc l i b e=>by simp only[D.low,aq];exact hn l i _ e
 |_,_,.zh l i b L e hc=>by simp only[D.low,aq];exact hn l i _ e
 |_,_,.wE l i b L e hc=>by simp only[D.low,aq];exact hn l i _ e
 |_,_,.nu t d c h1=>by rw[D.low];exact aI.low hn h1
 |_,_,.ia=>rfl
theorem aH.low{g:G}{n:Nat}(hn:∀l i L,g.loc l i=some L→l<n):∀{ds:List D} {cs:List Value},aH g ds cs→D.eZ n ds=true
 |_,_,.nil=>rfl
 |_,_,.cons d c ds cs h1 h2=>by simp only[D.eZ,ah];exact⟨aI.low hn h1,aH.low hn h2⟩
end
def G.cut(g:G)(n:Nat):G:=⟨fun l i=>if l<n then g.loc l i else none,g.fp⟩
theorem G.gU{g:G}{n l i:Nat}(h:l<n):(g.cut n).loc l i=g.loc l i:=by simp[G.cut,h]
theorem G.jM{g:G}{n l i:Nat}{L:Loc}(h:(g.cut n).loc l i=some L):l<n∧g.loc l i=some L:=by
 simp only[G.cut]at h;split at h
 ·exact⟨by assumption,h⟩
 ·cases h
mutual
theorem aI.cut{g:G}{n:Nat}:∀{d:D} {c:Value},aI g d c→d.low n=true→aI (g.cut n) d c
 |_,_,.undef c,_ => .undef c
 |_,_,.bool b,_ => .bool b
 |_,_,.int k n,_ => .int k n
 |_,_,.str s,_ => .str s
 |_,_,.agg ds cs hr h1,h => .agg ds cs (aH.cut hr h) h1
 |_,_,.er ds cs hr,h => .er ds cs (aH.cut hr h)
 |_,_,.j3,_ => .j3
 |_,_,.ref l i v off b o L e hv hc hn',h => .ref l i v off b o L ((G.gU (by simpa[D.low]using h)).trans e) hv hc hn'
 |_,_,.bE ds b o vs hr hl,h => .bE ds b o vs hr (aH.cut hl h)
 |_,_,.cH,_ => .cH
 |_,_,.kE,_ => .kE
 |_,_,.ch n' ds a cap vs hn' hr hs hl,h => .ch n' ds a cap vs hn' hr hs (aH.cut hl h)
 |_,_,.sl l i v off n' w a cap L e hv hn' ha hs hc hc',h => .sl l i v off n' w a cap L ((G.gU (by simpa[D.low]using h)).trans e) hv hn' ha hs hc hc'
 |_,_,.fn f fs cs fs' cs' h1 h2,h=>by
  simp only[D.low,ah]at h;exact .fn f fs cs fs' cs' (aH.cut h1 h.1) (aH.cut h2 h.2)
 |_,_,.lL,_ => .lL
 |_,_,.fJ l i b e,h => .fJ l i b ((G.gU (by simpa[D.low]using h)).trans e)
 |_,_,.wc l i b e,h => .wc l i b ((G.gU (by simpa[D.low]using h)).trans e)
 |_,_,.zh l i b L e hc,h => .zh l i b L ((G.gU (by simpa[D.low]using h)).trans e) hc
 |_,_,.wE l i b L e hc,h => .wE l i b L ((G.gU (by simpa[D.low]using h)).trans e) hc
 |_,_,.nu t d c h1,h => .nu t d c (aI.cut h1 h)
 |_,_,.ia,_ => .ia
theorem aH.cut{g:G}{n:Nat}:∀{ds:List D} {cs:List Value},aH g ds cs→D.eZ n ds=true→aH (g.cut n) ds cs
 |_,_,.nil,_ => .nil
 |_,_,.cons d c ds cs h1 h2,h=>by
  simp only[D.eZ,ah]at h;exact .cons d c ds cs (aI.cut h1 h.1) (aH.cut h2 h.2)
end
mutual
theorem lZ{n m:Nat}(hm:n≤m):∀{d:D},d.low n=true→d.low m=true
 |.ref l ..,h=>by simp only[D.low,aq]at h ⊢;omega
 |.sl l ..,h=>by simp only[D.low,aq]at h ⊢;omega
 |.fJ l _,h=>by simp only[D.low,aq]at h ⊢;omega
 |.vr ..,_=>rfl
 |.emp,_=>rfl
 |.own _ cs,h=>gH (ds:=cs) hm h
 |.agg cs,h=>gH (ds:=cs) hm h
 |.er cs,h=>gH (ds:=cs) hm h
 |.bE cs,h=>gH (ds:=cs) hm h
 |.ch _ cs,h=>gH (ds:=cs) hm h
 |.fn _ a b,h=>by
  simp only[D.low,ah]at h ⊢;exact⟨gH hm h.1,gH hm h.2⟩
 |.undef,_=>rfl
 |.bool _,_=>rfl
 |.int _ _,_=>rfl
 |.str _,_=>rfl
 |.j3,_=>rfl
 |.cH,_=>rfl
 |.lL,_=>rfl
 |.nu _ d,h=>lZ (d:=d) hm h
 |.ia,_=>rfl
theorem gH{n m:Nat}(hm:n≤m):∀{ds:List D},D.eZ n ds=true→D.eZ m ds=true
 |[],_=>rfl
 |d::ds,h=>by
  simp only[D.eZ,ah]at h ⊢;exact⟨lZ hm h.1,gH hm h.2⟩
end
def b8.low(n:Nat):b8→Prop
 |.cells _ cs=>D.eZ n cs=true
 |.dead=>True
 |.loop lp=>∀t,(get lp.env t).low n=true
def gu(σ:SK):Prop:=∀l i b,bS σ l i=some b→l+1<σ.length→b.low (l+1)
theorem gu.set{σ:SK}(h:gu σ){l i:Nat}{b:b8}(hb:l+1<σ.length→b.low (l+1)):gu (az σ l i b):=by
 intro l' i' b' h1 h2;rw[bP]at h2;by_cases hc:l'=l∧i'=i
 ·obtain⟨rfl,rfl⟩:=hc;cases h0:bS σ l' i' with
  |none =>
   have:bS (az σ l' i' b) l' i'=none:=by
    unfold az;cases hs:gq σ l' with
    |none=>exact h0
    |some s =>
     simp only[bS,iq (lu hs),Option.bind_some];simp only[bS,hs,Option.bind_some]at h0;rw[List.getElem?_eq_none_iff]at h0 ⊢;simpa using h0
   rw[this]at h1;cases h1
  |some b0=>rw[e6 h0]at h1;cases h1;exact hb h2
 ·rw[bT hc]at h1;exact h l' i' b' h1 h2
theorem gu.new{σ σ':SK}(h:gu σ){l i:Nat}{b:b8}(hn:cG σ b=some (l,i,σ')):gu σ':=by
 obtain⟨h1,h2,h3,h4,h5⟩:=du hn;intro l' i' b' e hl;by_cases hc:l'=l∧i'=i
 ·omega
 ·rw[h3 l' i' hc]at e;exact h l' i' b' e (by omega)
structure ct(σ σ':SK):Prop where
 len:σ'.length=σ.length
 low:gu σ→gu σ'
theorem ct.refl(σ:SK):ct σ σ:=⟨rfl,id⟩
theorem ct.trans{a b c:SK}(h:ct a b)(h':ct b c):ct a c:=⟨h'.len.trans h.len,fun x=>h'.low (h.low x)⟩
theorem ct.new{σ σ':SK}{l i:Nat}{b:b8}(hn:cG σ b=some (l,i,σ')):ct σ σ':=⟨(du hn).2.2.2.1,fun h=>h.new hn⟩
theorem ct.set{σ:SK}{l i:Nat}{b:b8}(hb:l+1<σ.length→b.low (l+1)):ct σ (az σ l i b):=⟨bP,fun h=>h.set hb⟩
theorem hZ:∀(nb:List (Nat×Nat)) (cs cs':List D) (σ σ':SK),dJ nb cs σ=some (cs',σ')→ct σ σ'
 |[],cs,cs',σ,σ',h=>by simp only[dJ,ad,af]at h;obtain⟨rfl,rfl⟩:=h;exact .refl _
 |(p,w)::r,cs,cs',σ,σ',h=>by
  simp only[dJ]at h;split at h
  ·simp only[ak,ae]at h;obtain⟨⟨l,i,σ1⟩,hn,h⟩:=h;exact(ct.new hn).trans (hZ r _ _ _ _ h)
  ·exact hZ r _ _ _ _ h
theorem kL(l:Nat):∀(n:Nat) (d:D) (σ:SK),(bB l n d σ).1.low (l+1)=true∧ct σ (bB l n d σ).2
 |0,d,σ=>⟨rfl,.refl _⟩
 |n+1,d,σ=>by
  have ih:∀(ds:List D) (σ:SK),D.eZ (l+1) (bB.frzL (bB l n) ds σ).1=true∧ct σ (bB.frzL (bB l n) ds σ).2:=by
   intro ds;induction ds with
   |nil=>intro σ;exact⟨rfl,.refl _⟩
   |cons d ds ihd =>
    intro σ;obtain⟨h1,h2⟩:=kL l n d σ;obtain⟨h3,h4⟩:=ihd (bB l n d σ).2;simp only[bB.frzL,D.eZ,ah];exact⟨⟨h1,h3⟩,h2.trans h4⟩
  simp only[bB];split
  ·rename_i hc;exact⟨ie hc,.refl _⟩
  cases d with
  |agg cs=>exact ih cs σ
  |er cs=>exact ih cs σ
  |bE cs=>exact ih cs σ
  |ch m cs=>exact ih cs σ
  |own s cs=>exact ih cs σ
  |fn f a b =>
   obtain⟨h1,h2⟩:=ih a σ;obtain⟨h3,h4⟩:=ih b (bB.frzL (bB l n) a σ).2;refine⟨?_,h2.trans h4⟩;simp only[D.low,ah];exact⟨h1,h3⟩
  |ref l' i v off =>
   dsimp only;split
   ·refine⟨?_,.refl _⟩;simp only[D.low,aq];omega
   ·exact⟨rfl,.refl _⟩
  |fJ l' i =>
   dsimp only;split
   ·refine⟨?_,.refl _⟩;simp only[D.low,aq];omega
   ·exact⟨rfl,.refl _⟩
  |sl l' i v off m w =>
   dsimp only;split
   ·refine⟨?_,.refl _⟩;simp only[D.low,aq];omega
   ·split
    ·rename_i cs hcs;obtain⟨h1,h2⟩:=ih ((cs.drop off).take (m*w)) (az σ l' i .dead);exact⟨h1,(ct.set (b:=.dead) fun _=>trivial).trans h2⟩
    ·exact⟨rfl,.refl _⟩
  |_=>exact⟨rfl,.refl _⟩
theorem mg(l n:Nat)(ds:List D):∀(σ:SK),D.eZ (l+1) (bB.frzL (bB l n) ds σ).1=true∧ct σ (bB.frzL (bB l n) ds σ).2:=by
 induction ds with
 |nil=>intro σ;exact⟨rfl,.refl _⟩
 |cons d ds ihd =>
  intro σ;obtain⟨h1,h2⟩:=kL l n d σ;obtain⟨h3,h4⟩:=ihd (bB l n d σ).2;simp only[bB.frzL,D.eZ,ah];exact⟨⟨h1,h3⟩,h2.trans h4⟩
theorem nX(l:Nat):∀(e:Env) (σ:SK),(∀p∈(gF l e σ).1,p.2.low (l+1)=true)∧ct σ (gF l e σ).2
 |[],σ=>⟨by simp[gF],.refl _⟩
 |(t,d)::e,σ=>by
  obtain⟨h1,h2⟩:=kL l deep d σ;obtain⟨h3,h4⟩:=nX l e (bB l deep d σ).2;simp only[gF];refine⟨?_,h2.trans h4⟩;intro p hp;rcases aJ.1 hp with rfl | hp
  ·exact h1
  ·exact h3 p hp
theorem kV{σ:SK}(h:gu σ){l i v:Nat}{cs:List D}(hc:cells? σ l i v=some cs)(hl:l+1<σ.length):D.eZ (l+1) cs=true:=by
 unfold cells? at hc;split at hc
 case h_2=>cases hc
 rename_i v' cs' hb;split at hc
 case isFalse=>cases hc
 cases hc;exact h l i _ hb hl
theorem lX{n:Nat}{a b:List D}:D.eZ n (a++b)=true↔D.eZ n a=true∧D.eZ n b=true:=by
 simp only[lY,a7];exact⟨fun h=>⟨fun d hd=>h d (.inl hd),fun d hd=>h d (.inr hd)⟩,fun h d hd=>hd.elim (h.1 d) (h.2 d)⟩
theorem rI{n k:Nat}{a:List D}(h:D.eZ n a=true):D.eZ n (a.take k)=true:=by
 rw[lY]at h ⊢;exact fun d hd=>h d (bJ hd)
theorem rH{n k:Nat}{a:List D}(h:D.eZ n a=true):D.eZ n (a.drop k)=true:=by
 rw[lY]at h ⊢;exact fun d hd=>h d (bI hd)
theorem yu{σ σ':SK}{d:D}{o:Mo}{ds:List D}(h:pZ σ o ds=some (d,σ'))(hk:o.calm=true):σ'=σ:=by
 unfold pZ at h;split at h
 ·simp[Mo.calm]at hk
 ·simp[Mo.calm]at hk
 ·split at h
  ·split at h
   ·split at h<;>first | (cases h;done) | (cases h;rfl)
   ·cases h
  ·cases h
 ·simp[Mo.calm]at hk
 ·simp only[ab,af]at h;obtain⟨_,_,_,rfl⟩:=h;rfl
 ·simp[Mo.calm]at hk
 ·split at h
  ·split at h
   ·split at h
    ·split at h
     ·cases h;rfl
     ·cases h
    ·cases h
   ·cases h
  ·cases h
 ·cases h
theorem yp{σ σ':SK}{d:D}{o:Me}{ds:List D}(h:Gq σ o ds=some (d,σ')):σ'=σ:=by
 unfold Gq at h;split at h
 ·cases h
 ·simp only[ae,ab,af]at h;obtain⟨_,_,_,_,_,rfl⟩:=h;rfl
 ·cases h;rfl
 ·split at h<;>cases h;rfl
 ·split at h<;>cases h;rfl
 ·cases h
theorem tY{e:Env}{σ σ':SK}{d:D}{k:K}(h:aK e σ k=some (d,σ'))(hk:k.calm=true):σ'=σ:=by
 by_cases hm:∃o xs,k=.mp o xs
 ·obtain⟨o,xs,rfl⟩:=hm;exact yu h hk
 by_cases hm':∃o xs,k=.me o xs
 ·obtain⟨o,xs,rfl⟩:=hm';exact yp h
 cases k<;>(try (exact absurd ⟨_,_,rfl⟩ hm))<;>(try (exact absurd ⟨_,_,rfl⟩ hm'))<;>clear hm hm'<;>simp only[K.calm,ai]at hk<;>simp only[aK,ak,reduceCtorEq]at h<;>(repeat' split at h)<;>
  simp only[ab,ae,ad,af,Prod.exists,reduceCtorEq,exists_eq_left,and_false,exists_false]at h<;>(try split at h)<;>
  simp_all<;>(try (obtain⟨_,_,h⟩:=h;simp_all))<;>(try grind)
theorem vk{e:Env}{σ σ':SK}{d:D}{nb:List (Nat×Nat)}{sz:Nat}{a x:aM}(h:aK e σ (.st nb sz a x)=some (d,σ')):ct σ σ':=by
 simp only[aK]at h;split at h
 case h_2=>cases h
 split at h
 case h_2=>cases h
 rename_i l i v off hX _ cs hcs;split at h
 case h_2=>cases h
 rename_i p hcells;split at h
 case isFalse=>cases h
 rename_i hc;split at h
 ·rename_i htop;split at h
  ·rename_i p' σ1 hnb;cases h;have hg:=hZ _ _ _ _ _ hnb;exact hg.trans (ct.set fun hl=>by have:=hg.len;omega)
  ·cases h
 ·rename_i htop;cases h;obtain⟨h1,h2⟩:=mg l deep p σ;refine⟨bP.trans h2.len,fun hl=>(h2.low hl).set fun hlt=>?_⟩;have hcl:=kV hl hcs (by have:=h2.len;omega);simp only[b8.low,lX];exact⟨⟨rI hcl,h1⟩,rH hcl⟩
theorem pI{e:Env}{σ σ':SK}{d:D}{w bytes:Nat}{s x:aM}(h:aK e σ (.app w bytes s x)=some (d,σ')):ct σ σ':=by
 simp only[aK,ak,ae]at h;obtain⟨⟨m,xs⟩,he,h⟩:=h;dsimp only at h;split at h
 ·split at h
  case isFalse=>cases h
  split at h
  ·cases h;exact .refl _
  ·simp only[ae]at h;obtain⟨⟨l,i,σ1⟩,hn,h⟩:=h;cases h;exact .new hn
 ·split at h
  case h_2=>cases h
  rename_i l i v off n w' hX _ cs hcs;split at h
  case isFalse=>cases h
  split at h
  ·cases h;exact .set fun hl=>by omega
  ·cases h;obtain⟨h1,h2⟩:=mg l deep xs σ;refine⟨bP.trans h2.len,fun hl=>(h2.low hl).set fun hlt=>?_⟩;have hcl:=kV hl hcs (by have:=h2.len;omega);simp only[b8.low,lX];exact⟨rI (rH hcl),h1⟩
 ·cases h
theorem yn{n j:Nat}{a:List D}{x:D}(h:D.eZ n a=true)(hx:x.low n=true):D.eZ n (a.set j x)=true:=by
 rw[lY]at h ⊢;intro d hd;rcases List.mem_or_eq_of_mem_set hd with h1 | rfl
 ·exact h d h1
 ·exact hx
theorem zK{σ σ':SK}{d:D}{o:Mo}{ds:List D}(h:pZ σ o ds=some (d,σ')):ct σ σ':=by
 unfold pZ at h;split at h
 ·simp only[ab,af,Prod.exists]at h;obtain⟨l,i,σ1,hn,_,rfl⟩:=h;exact .new hn
 ·simp only[ab,af,Prod.exists]at h;obtain⟨l,i,σ1,hn,_,rfl⟩:=h;exact .new hn
 ·split at h
  ·split at h
   ·split at h<;>first | (cases h;done) | (cases h;exact .refl _)
   ·cases h
  ·cases h
 ·rename_i ky m k v;split at h
  ·rename_i l i es hm;obtain⟨rfl,hcs⟩:=tQ hm;split at h
   case isFalse=>cases h
   rename_i hc;have hlow:l+1<σ.length→k.low (l+1)=true∧v.low (l+1)=true:=fun hl=>by
    rcases hc.2 with h1 | ⟨h1,h2⟩
    ·omega
    ·exact⟨ie h1,ie h2⟩
   split at h
   ·cases h;refine⟨bP,fun hS=>hS.set fun hl=>?_⟩;have hcl:=kV hS hcs hl;obtain⟨h1,h2⟩:=hlow hl;simp only[b8.low];exact yn hcl (by simp[D.low,D.eZ,h1,h2])
   ·cases h;refine⟨bP,fun hS=>hS.set fun hl=>?_⟩;have hcl:=kV hS hcs hl;obtain⟨h1,h2⟩:=hlow hl;simp only[b8.low,lX];exact⟨hcl,by simp[D.low,D.eZ,h1,h2]⟩
   ·cases h
  ·cases h
 ·simp only[ab,af]at h;obtain⟨_,_,_,rfl⟩:=h;exact .refl _
 ·split at h
  ·simp only[ab,af,Prod.exists]at h;obtain⟨l,i,σ1,hn,_,rfl⟩:=h;exact .new hn
  ·cases h
 ·split at h
  ·split at h
   ·split at h
    ·split at h
     ·cases h;exact .refl _
     ·cases h
    ·cases h
   ·cases h
  ·cases h
 ·cases h
theorem yQ{e:Env}{σ σ':SK}{d:D}:∀{k:K},aK e σ k=some (d,σ')→ct σ σ'
 |.st ..,h=>vk h
 |.app ..,h=>pI h
 |.zd ..,h=>pI (vD h)
 |.E4 w bytes s x,h=>by
  simp only[aK,ab,Prod.exists]at h;obtain⟨d1,σ1,h1,h2⟩:=h;obtain⟨h3,h4⟩:=kL 0 deep d1 σ1;rw[h2]at h4;exact(pI (by rw[sG];exact h1)).trans h4
 |.Fc x,h=>by
  simp only[aK]at h;split at h
  case h_2=>cases h
  split at h
  case isFalse=>cases h
  split at h
  case h_2=>cases h
  cases h;exact .set fun _=>trivial
 |.ui nb cs,h=>by
  simp only[aK,ak,ae]at h;obtain⟨⟨cs',σ1⟩,hnb,⟨l,i,σ2⟩,hn,h⟩:=h;cases h;exact(hZ _ _ _ _ _ hnb).trans (.new hn)
 |.ln w,h=>by
  simp only[aK,ak,ae]at h;obtain⟨⟨l,i,σ2⟩,hn,h⟩:=h;cases h;exact .new hn
 |.E7 nb x,h=>by
  simp only[aK,ak,ae]at h;obtain⟨cs,_,⟨cs',σ1⟩,hnb,⟨l,i,σ2⟩,hn,h⟩:=h;cases h;exact(hZ _ _ _ _ _ hnb).trans (.new hn)
 |.um x,h=>by
  simp only[aK,ak,ae]at h;obtain⟨cs,_,⟨l,i,σ2⟩,hn,h⟩:=h;cases h;exact .new hn
 |.ze ..,h=>by
  simp only[aK,ak,ae]at h;obtain⟨cs,_,⟨l,i,σ2⟩,hn,h⟩:=h;cases h;exact .new hn
 |.Gt ..,h=>by
  simp only[aK]at h;split at h
  ·split at h
   ·simp only[ak,ae]at h;obtain⟨⟨l,i,σ2⟩,hn,h⟩:=h;cases h;exact .new hn
   ·cases h
  ·cases h
 |.mv _,h=>same h rfl
 |.pick ..,h=>same h rfl
 |.ft ..,h=>by simp[aK]at h
 |.qR _,h=>same h rfl
 |.pq _,h=>by simp[aK]at h
 |.kR ..,h=>same h rfl
 |.sS ..,h=>same h rfl
 |.ld ..,h=>same h rfl
 |.HC ..,h=>same h rfl
 |.zi ..,h=>same h rfl
 |.wA os sz a x,h=>vk (vE h)
 |.Gj ..,h=>same h rfl
 |.sV ..,h=>same h rfl
 |.wG ..,h=>same h rfl
 |.q9 ..,h=>by simp[aK]at h
 |.bin ..,h=>same h rfl
 |.eqv ..,h=>same h rfl
 |.un ..,h=>same h rfl
 |.r8 ..,h=>same h rfl
 |.yq ..,h=>same h rfl
 |.HW ..,h=>same h rfl
 |.pX ..,h=>same h rfl
 |.qT ..,h=>same h rfl
 |.Ek ..,h=>same h rfl
 |.vV ..,h=>same h rfl
 |.oI ..,h=>same h rfl
 |.oJ ..,h=>same h rfl
 |.q5 ..,h=>same h rfl
 |.uC ..,h=>same h rfl
 |.mn ..,h=>same h rfl
 |.mx ..,h=>same h rfl
 |.E9 ..,h=>same h rfl
 |.Hr,h=>same h rfl
 |.E3 ..,h=>same h rfl
 |.ext ..,h=>same h rfl
 |.oA ..,h=>same h rfl
 |.mp ..,h=>zK h
 |.me ..,h=>same h rfl
 |.HH ..,h=>same h rfl
 |.Ho ..,h=>same h rfl
 |.Gi ..,h=>same h rfl
 |.z6 _,h=>by simp[aK]at h
 |.vy,h=>by simp[aK]at h
 |.call ..,h=>by simp[aK]at h
where
 same {e:Env} {σ σ':SK} {d:D} {k:K} (h:aK e σ k=some (d,σ')) (hk:k.calm=true):ct σ σ':=by
  rw[tY h hk];exact .refl _
end Go.Abs
