import Derived.Test.YtcgippbplkagkaaGreatBase7
import Derived.Test.YtcgippbplkagkaaGreatBase5
import Derived.MapKept
import Derived.WideKeyRuns
import Derived.Maps.RangeRun
import Derived.Test.YtcgippbplkagkaaGreatBase4
import Derived.Test.YtcgippbplkagkaaGreatBase6
set_option linter.all false
namespace Go.Abs
open Go
theorem BA{σ:SK}{d:D}{l i:Nat}{es:List D}(h:tE σ d=some (l,i,es)):d=.iN l i∧cells? σ l i 0=some es:=by
 unfold tE at h;split at h
 ·simp only[ab,ai]at h;obtain⟨cs,h1,rfl,rfl,rfl⟩:=h;exact⟨rfl,h1⟩
 ·cases h
theorem zb{ky:Ky}{k:D}:∀{es:List D} {j:Nat} {v:D},nq ky k es=some (some (j,v))→∃k',es[j]?=some (.fj [k',v])∧oh ky k k'=some true
 |[],j,v,h=>by simp[nq]at h
 |x::es,j,v,h=>by
  unfold nq at h;split at h
  ·rename_i heq;cases heq
  ·rename_i k' v' es' heq;cases heq;split at h
   ·rename_i hq;cases h;exact⟨k',rfl,hq⟩
   ·simp only[ab]at h;obtain⟨x1,h1,x2,rfl,h2⟩:=h;cases h2;obtain⟨j0,v0⟩:=x2;obtain⟨k0,h3,h4⟩:=zb h1;exact⟨k0,by simpa using h3,h4⟩
   ·cases h
  ·cases h
section
variable {P:Program} {g:G} {w:World}
theorem xH:∀{ks:List (Option IntKind)} {p q:List D},pV ks p q=some true→p=q
 |[],p,q,h=>by obtain⟨rfl,rfl,_⟩:=nE h;rfl
 |some k::ks,p,q,h=>by
  obtain⟨a,x,c,y,b0,rfl,rfl,h0,hb⟩:=mC h;simp only[Bool.true_eq,ak,beq_iff_eq]at hb;obtain⟨rfl,rfl⟩:=hb;rw[xH h0]
 |none::ks,p,q,h=>by
  obtain⟨a,x,c,y,b0,rfl,rfl,h0,hb⟩:=oO h;simp only[Bool.true_eq,ak,beq_iff_eq]at hb;obtain⟨rfl,rfl⟩:=hb;rw[xH h0]
theorem uN(n:Nat):∀{ks:List (Option IntKind)} {p q:List D} {b:Bool},pV ks p q=some b→∀{xs ys:List Value},aY g p xs→aY g p ys→xs=ys∧(xs.zip ys).all (fun z=>Instr.sameBits n z.1 z.2)=true
 |[],p,q,b,h,xs,ys,hx,hy=>by
  obtain⟨rfl,rfl,_⟩:=nE h;cases hx;cases hy;exact⟨rfl,rfl⟩
 |some k::ks,p,q,b,h,xs,ys,hx,hy=>by
  obtain⟨a,x,c,y,b0,rfl,rfl,h0,hb⟩:=mC h;cases hx with
  |cons _ v1 _ vs1 h1 h2 =>
   cases hy with
   |cons _ v2 _ vs2 h3 h4 =>
    obtain rfl:=h1.cV;obtain rfl:=h3.cV;obtain⟨h5,h6⟩:=uN n h0 h2 h4;subst h5;exact⟨rfl,by simp only[List.zip_cons_cons,lI,h6,Instr.sameBits,BEq.rfl,Bool.and_self]⟩
 |none::ks,p,q,b,h,xs,ys,hx,hy=>by
  obtain⟨a,x,c,y,b0,rfl,rfl,h0,hb⟩:=oO h;cases hx with
  |cons _ v1 _ vs1 h1 h2 =>
   cases hy with
   |cons _ v2 _ vs2 h3 h4 =>
    obtain rfl:=h1.jX;obtain rfl:=h3.jX;obtain⟨h5,h6⟩:=uN n h0 h2 h4;subst h5;exact⟨rfl,by simp only[List.zip_cons_cons,lI,h6,Instr.sameBits,BEq.rfl,Bool.and_self]⟩
theorem Ui{a b:ByteArray}(h:a.data.toList=b.data.toList):a=b:=by
 apply ByteArray.ext;exact gl.1 h
theorem Je{ky:Ky}{a b:D}{x y:Value}(h:oh ky a b=some true)(hx:a8 g a x)(hy:a8 g b y):x=y∧Instr.sameBits 10000 y x=true:=by
 unfold oh at h;split at h
 ·split at h
  ·rename_i s1 s2;simp only[ae,beq_iff_eq]at h;subst h;obtain⟨b1,rfl,h1⟩:=hx.gQ;obtain⟨b2,rfl,h2⟩:=hy.gQ;obtain rfl:=Ui (h1.trans h2.symm);exact⟨rfl,by rw[Instr.sameBits,beq_toListBytes];exact beq_self_eq_true _⟩
  ·cases h
 ·rename_i ag ks;split at h
  ·rename_i p q hp hq;obtain rfl:=xH h;have h1:=nT hx hp;have h2:=nT hy hq;cases ag with
   |true =>
    simp only[nU,if_true]at h1 h2;obtain⟨xs,rfl,h3,_⟩:=h1;obtain⟨ys,rfl,h4,_⟩:=h2;obtain⟨h5,h6⟩:=uN 9999 h h4 h3;obtain rfl:=gl.1 h5;exact⟨rfl,by simp only[Instr.sameBits,BEq.rfl,Bool.true_and];exact h6⟩
   |false =>
    simp only[nU,al,if_false]at h1 h2;obtain⟨h5,h6⟩:=uN 10000 h h2 h1;simp only[ek,and_true]at h5;subst h5;exact⟨rfl,by simpa using h6⟩
  ·cases h
theorem xP{t:TypeId}{ky:Ky}(h:xO P t=some ky):(P.underlying t=some .string∧ky=none)∨(∃k,P.underlying t=some (.int k)∧ky=some (false,[some k])) ∨
  ∃fs ks,P.underlying t=some (.struct fs)∧gY P 20 t=some ks∧ky=some (true,ks)∧fs.toList.all (fun f=>match P.underlying f.type with | some (.int _)=>true | some .bool=>true | _=>false)=true:=by
 unfold xO at h;split at h
 ·rename_i hu;cases h;exact .inl ⟨hu,rfl⟩
 ·rename_i k hu;cases h;exact .inr (.inl ⟨k,hu,rfl⟩)
 ·rename_i fs hu;split at h
  ·rename_i hall;obtain⟨ks,hks,rfl⟩:=ab.1 h;exact .inr (.inr ⟨fs,ks,hu,hks,rfl,hall⟩)
  ·cases h
 ·cases h
theorem zj{t:TypeId}{ky:Ky}(hk:xO P t=some ky){a b:D}{c:Bool}{x y:Value}(h:oh ky a b=some c)(hx:a8 g a x)(hy:a8 g b y):(Op.equal t x y).run P w=.ok c w:=by
 have key:∀ag ks,gY P 20 t=some ks→nw P t=some ag→oh (some (ag,ks)) a b=some c→(Op.equal t x y).run P w=.ok c w:=by
  intro ag ks hks hag hq;simp only[oh]at hq;split at hq
  case h_2=>cases hq
  rename_i p q hp hq2;obtain⟨ag',hag',_,hEq⟩:=uY (P:=P) (g:=g) (w:=w) 20 t ks hks;rw[hag]at hag';cases hag';exact hEq 10000 (by omega) p q x y c (nT hx hp) (nT hy hq2) hq
 rcases xP hk with⟨hu,rfl⟩ | ⟨k,hu,rfl⟩ | ⟨fs,ks,hu,hks,rfl,_⟩
 ·simp only[oh]at h;split at h
  case h_2=>cases h
  rename_i s1 s2;cases h;obtain⟨b1,rfl,h1⟩:=hx.gQ;obtain⟨b2,rfl,h2⟩:=hy.gQ;have:=run_equalIn_string (P:=P) w 9999 t b1 b2 hu;simp only[Op.equal,Op.maxDepth];rw[this,ByteArray.toList_eq,ByteArray.toList_eq,h1,h2]
 ·exact key false [some k] (by simp[gY,hu]) (by simp[nw,hu]) h
 ·exact key true ks hks (by simp[nw,hu]) h
def Found(b9:List MapEntry)(r:Option (Nat×D))(g:G)(o:Option (Nat×Value))(i:Nat):Prop :=
 match r with
 |none=>o=none
 |some (j,v)=>∃e,b9[j]?=some e∧o=some (i+j,e.val)∧a8 g v e.val
theorem Ay{k v:D}{a b:Value}(h:a8 g (.fj [k,v]) (.tuple #[a,b])):a8 g k a∧a8 g v b:=by
 cases h with
 |fj _ _ hr =>
  cases hr with
  |cons _ _ _ _ h1 h2=>cases h2 with | cons _ _ _ _ h3 h4=>exact⟨h1,h3⟩
theorem xn{t:TypeId}{ky:Ky}(hk:xO P t=some ky){k:D}{x:Value}(hx:a8 g k x):∀(es:List D) (b9:List MapEntry) (r:Option (Nat×D)) (i:Nat),aY g es (b9.map fun e => .tuple #[e.key,e.val])→nq ky k es=some r →
  ∃o,(Instr.findAsking t x b9 i).run P w=.ok o w∧Found b9 r g o i
 |[],b9,r,i,hr,h=>by
  cases b9 with
  |nil=>simp only[nq,ae]at h;subst h;exact⟨none,by simp[Instr.findAsking],rfl⟩
  |cons e b9=>cases hr
 |d::es,b9,r,i,hr,h=>by
  cases b9 with
  |nil=>cases hr
  |cons e b9 =>
   rw[aG]at hr;cases hr with
   |cons _ _ _ _ hr1 hr2 =>
   unfold nq at h;split at h
   ·rename_i heq;cases heq
   ·rename_i k' v es' heq;cases heq;obtain⟨hk1,hv1⟩:=Ay hr1;split at h
    ·rename_i hq;cases h;have he:=zj (w:=w) hk hq hx hk1;refine⟨some (i,e.val),by simp[Instr.findAsking,he],e,rfl,by simp,hv1⟩
    ·rename_i hq;simp only[ab]at h;obtain⟨r1,h1,rfl⟩:=h;have he:=zj (w:=w) hk hq hx hk1;obtain⟨o,ho,hf⟩:=xn hk hx es b9 r1 (i+1) hr2 h1;refine⟨o,by simp[Instr.findAsking,he,ho],?_⟩;cases r1 with
     |none=>exact hf
     |some y =>
      obtain⟨e1,h3,h4,h5⟩:=hf;exact⟨e1,by simpa using h3,by rw[h4];congr 2;omega,h5⟩
    ·cases h
   ·cases h
theorem Ac{t:TypeId}{ky:Ky}{dsc:TypeDesc}{k:D}{x:Value}(hs:∀k' y c,oh ky k k'=some c→a8 g k' y→Instr.sameNow dsc x y=some c):∀(es:List D) (b9:List MapEntry) (r:Option (Nat×D)) (i:Nat),aY g es (b9.map fun e => .tuple #[e.key,e.val])→nq ky k es=some r →
  ∃o,Instr.findNow dsc x b9 i=some o∧Found b9 r g o i
 |[],b9,r,i,hr,h=>by
  cases b9 with
  |nil=>simp only[nq,ae]at h;subst h;exact⟨none,by simp[Instr.findNow],rfl⟩
  |cons e b9=>cases hr
 |d::es,b9,r,i,hr,h=>by
  cases b9 with
  |nil=>cases hr
  |cons e b9 =>
   rw[aG]at hr;cases hr with
   |cons _ _ _ _ hr1 hr2 =>
   unfold nq at h;split at h
   ·rename_i heq;cases heq
   ·rename_i k' v es' heq;cases heq;obtain⟨hk1,hv1⟩:=Ay hr1;split at h
    ·rename_i hq;cases h;exact⟨some (i,e.val),by simp[Instr.findNow,hs _ _ _ hq hk1],e,rfl,by simp,hv1⟩
    ·rename_i hq;simp only[ab]at h;obtain⟨r1,h1,rfl⟩:=h;obtain⟨o,ho,hf⟩:=Ac (t:=t) hs es b9 r1 (i+1) hr2 h1;refine⟨o,by simp[Instr.findNow,hs _ _ _ hq hk1,ho],?_⟩;cases r1 with
     |none=>exact hf
     |some y =>
      obtain⟨e1,h3,h4,h5⟩:=hf;exact⟨e1,by simpa using h3,by rw[h4];congr 2;omega,h5⟩
    ·cases h
   ·cases h
theorem pt{t:TypeId}{ky:Ky}(hk:xO P t=some ky){k:D}{x:Value}(hx:a8 g k x){es:List D}{b9:List MapEntry}{r:Option (Nat×D)}(hr:aY g es (b9.map fun e => .tuple #[e.key,e.val]))(h:nq ky k es=some r)
  (hself:(oh ky k k).isSome=true):∃o,(Instr.findKey t x b9).run P w=.ok o w∧Found b9 r g o 0:=by
 rcases xP hk with⟨hu,rfl⟩ | ⟨kk,hu,rfl⟩ | ⟨fs,ks,hu,hks,rfl,_⟩
 ·obtain⟨o,h1,h2⟩:=Ac (t:=t) (ky:=none) (k:=k) (x:=x) (dsc:=.string) (fun k' y c hq hy=>by
   simp only[oh]at hq;split at hq
   case h_2=>cases hq
   cases hq;obtain⟨b1,rfl,h1⟩:=hx.gQ;obtain⟨b2,rfl,h2⟩:=hy.gQ;simp only[Instr.sameNow];rw[beq_toListBytes,ByteArray.toList_eq,ByteArray.toList_eq,h1,h2]) es b9 r 0 hr h
  exact⟨o,MapKept.run_findKey hu h1,h2⟩
 ·obtain⟨o,h1,h2⟩:=Ac (t:=t) (ky:=some (false,[some kk])) (k:=k) (x:=x) (dsc:=.int kk) (fun k' y c hq hy=>by
   simp only[oh]at hq;split at hq
   case h_2=>cases hq
   rename_i p q hp hq2;have hx1:=nT hx hp;have hy1:=nT hy hq2;simp only[nU,al,if_false]at hx1 hy1;obtain⟨a,xs,b,ys,b0,rfl,rfl,h0,rfl⟩:=mC hq;obtain⟨rfl,rfl,rfl⟩:=nE h0;cases hx1 with
   |cons _ _ _ _ g1 _ =>
    cases hy1 with
    |cons _ _ _ _ g2 _ =>
     obtain rfl:=g1.cV;obtain rfl:=g2.cV;simp[Instr.sameNow]) es b9 r 0 hr h
  exact⟨o,MapKept.run_findKey hu h1,h2⟩
 ·obtain⟨o,h1,h2⟩:=xn (w:=w) hk hx es b9 r 0 hr h;refine⟨o,?_,h2⟩;rw[run_findKey_eq w (by simp[hu])];exact h1
theorem rQ(em:Bool){xs:Array Value}{p:List D}(hx:aY g p xs.toList)(h1x:∀y∈xs.toList,y.oneCell'=true):
  ∀(fs:List Field) (o:Nat) (ks:List (Option IntKind)) (q:List D) (b:Bool),gY.kindsF P (gY P 19) o fs=some ks→fs.all (fun f=>match P.underlying f.type with | some (.int _)=>true | some .bool=>true | _=>false)=true →
   pV ks (p.drop o) q=some b →
   (forIn (m:=Sem) fs PUnit.unit fun f _=>do
    if f.name ≠ "_" then Instr.checkKey em 9999 f.type (← part f.type xs f.offset)
    pure (ForInStep.yield PUnit.unit)).run P w=.ok PUnit.unit w
 |[],o,ks,q,b,hk,ha,he=>by simp
 |f::fs,o,ks,q,b,hk,ha,he=>by
  simp only[gY.kindsF]at hk;split at hk
  case h_2=>cases hk
  rename_i k1 hk1;split at hk
  case isFalse=>cases hk
  rename_i hc;obtain⟨hname,hoff,hsz,hpos⟩:=hc;simp only[ab]at hk;obtain⟨k2,hk2,rfl⟩:=hk;simp only[lI,ak]at ha;obtain⟨l1,l2⟩:=sW _ _ _ _ he;obtain⟨b1,b2,e1,e2,rfl⟩:=oN _ _ _ _ _ he;simp only[bS,List.length_drop]at l1 l2;have ih:=rQ em hx h1x fs (o+k1.length) k2 (q.drop k1.length) b2 hk2 ha.2 (by simpa[gw]using e2);have one:∃a,(part f.type xs o).run P w=.ok a w∧(Instr.checkKey em 9999 f.type a).run P w=.ok () w:=by
   have h0:=ha.1;split at h0
   ·rename_i k hu;have hk1':k1=[some k]:=by simp[gY,hu]at hk1;exact hk1.symm
    subst hk1';obtain⟨a,hpa,hra⟩:=td (P:=P) (w:=w) (ag:=false) (n:=1) (o:=o) (by simp[nw,hu]) hsz (fun _=>rfl) hx h1x (by simp only[bq,ch]at l1 ⊢;omega);simp only[nU,al,if_false]at hra;obtain⟨a0,x0,c0,y0,b0,e3,_,_,_⟩:=mC e1;simp only[bq,ch,dA]at e3;rw[e3]at hra;cases hra with
    |cons _ _ _ _ g1 g2 =>
     obtain rfl:=g1.cV;exact⟨_,hpa,MapKept.run_checkKey (d:=.int k) hu (by simp[MapKept.IsKey]) em 9998⟩
   ·rename_i hu;have hk1':k1=[none]:=by simp[gY,hu]at hk1;exact hk1.symm
    subst hk1';obtain⟨a,hpa,hra⟩:=td (P:=P) (w:=w) (ag:=false) (n:=1) (o:=o) (by simp[nw,hu]) hsz (fun _=>rfl) hx h1x (by simp only[bq,ch]at l1 ⊢;omega);simp only[nU,al,if_false]at hra;obtain⟨a0,x0,c0,y0,b0,e3,_,_,_⟩:=oO e1;simp only[bq,ch,dA]at e3;rw[e3]at hra;cases hra with
    |cons _ _ _ _ g1 g2 =>
     obtain rfl:=g1.jX;exact⟨_,hpa,MapKept.run_checkKey (d:=.bool) hu (by simp[MapKept.IsKey]) em 9998⟩
   ·cases h0
  obtain⟨a,h1,h2⟩:=one;rw[List.forIn_cons];rw[hoff];simp only[hname,ne_eq,not_false_eq_true,if_true,Sem.run_bind,h1,h2,Result.andThen_ok,Sem.run_pure];exact ih
theorem uL{t:TypeId}{ky:Ky}(hk:xO P t=some ky){k:D}{x:Value}(hx:a8 g k x)(hself:(oh ky k k).isSome=true)(em:Bool):(Instr.checkKey em 10000 t x).run P w=.ok () w:=by
 rcases xP hk with⟨hu,rfl⟩ | ⟨kk,hu,rfl⟩ | ⟨fs,ks,hu,hks,rfl,hall⟩
 ·refine MapKept.run_checkKey (d:=.string) hu ?_ em 9999;obtain⟨c,hc⟩:=b8.1 hself;simp only[oh]at hc;split at hc
  case h_2=>cases hc
  obtain⟨b1,rfl,h1⟩:=hx.gQ;simp[MapKept.IsKey]
 ·refine MapKept.run_checkKey (d:=.int kk) hu ?_ em 9999;obtain⟨c,hc⟩:=b8.1 hself;simp only[oh]at hc;split at hc
  case h_2=>cases hc
  rename_i p q hp hq2;have hx1:=nT hx hp;simp only[nU,al,if_false]at hx1;obtain⟨a,xs,b,ys,b0,rfl,_,h0,rfl⟩:=mC hc;obtain⟨rfl,_,rfl⟩:=nE h0;cases hx1 with
  |cons _ _ _ _ g1 _ =>
   obtain rfl:=g1.cV;simp[MapKept.IsKey]
 ·obtain⟨c,hc⟩:=b8.1 hself;simp only[oh]at hc;split at hc
  case h_2=>cases hc
  rename_i p q hp hq2;have hx1:=nT hx hp;simp only[nU,if_true]at hx1;obtain⟨xs,rfl,hxr,h1x⟩:=hx1;have hks':gY.kindsF P (gY P 19) 0 fs.toList=some ks:=by
   have:=hks;rw[gY,hu]at this;dsimp only at this;split at this
   ·cases this
   ·exact this
  have hrun:=rQ (P:=P) (w:=w) em hxr h1x fs.toList 0 ks q c hks' hall (by simpa using hc);rw[show(10000:Nat)=9999+1 from rfl,Instr.checkKey];simp only[Sem.run_bind,run_underlying hu,Result.andThen_ok];rw[← Array.forIn_toList];simp at hrun ⊢;rw[hrun];rfl
end
section
variable {P:Program} {CR:dF} {base fb:Nat} {V:List Nat} {g:G} {σ σ':SK} {w:World} {B:Nat→Nat} {e:Env} {tmps:Array Value} {df:List Deferred} {d:D}
theorem Inv.Jq(hi:Inv CR base g σ w){l i:Nat}(hn:dP σ (.cells 0 [])=some (l,i,σ')):
  Inv CR base (g.bK l i (.mp w.heap.size)) σ' (w.alloc (.map #[] 0))∧Ev g w (g.bK l i (.mp w.heap.size)) (w.alloc (.map #[] 0)):=by
 obtain⟨h1,h2,h3,_,_⟩:=fh hn;have hnone:=hi.tb h1;have hle:g.le (g.bK l i (.mp w.heap.size)):=G.gu fun L0 e=>by rw[hnone]at e;cases e
 refine⟨hi.vg l i hle h3 (fun l' i' c=>G.aU c) (fun l' i' L b c e eb=>alloc_old (hi.lo l' i' L b e eb).2) ?_ ?_ ?_ ?_ (by simp) ⟨_,G.ao⟩ (fun b v hb=>alloc_old (hi.eO hb)),⟨hle,rfl,rfl,rfl,by simp,fun b hb _=>alloc_old hb,?_,fun b o v hv => .inl hv⟩⟩
 ·intro L e;rw[G.ao]at e;cases e;exact⟨_,h2,rfl,#[],0,mf,.nil,by simp[Du]⟩
 ·intro b o v e;obtain⟨h1,h2⟩:=hi.jV b o v e;exact⟨(ep (alloc_old (hi.eO e))).trans h1,h2⟩
 ·intro l' i' L b e eb o;by_cases c:l'=l∧i'=i
  ·obtain⟨rfl,rfl⟩:=c;rw[G.ao]at e;cases e;cases eb;cases e':(g.bK l' i' (.mp w.heap.size)).jV w.heap.size o with
   |none=>rfl
   |some v=>have:=hi.eO (b:=w.heap.size) (o:=o) (v:=v) e';omega
  ·rw[G.aU c]at e;exact hi.sep l' i' L b e eb o
 ·intro L b e eb;rw[G.ao]at e;cases e;cases eb;refine⟨hi.ge,by simp,fun l' i' L' c e' eb'=>?_⟩;have:=(hi.lo l' i' L' _ e' eb').2;omega
 ·intro b hb;obtain⟨l',i',L,e,eb⟩:=hb;by_cases c:l'=l∧i'=i
  ·obtain⟨rfl,rfl⟩:=c;rw[G.ao]at e;cases e;cases eb;exact .inr (aw _)
  ·rw[G.aU c]at e;exact .inl ⟨l',i',L,e,eb⟩
theorem Inv.Vi(hi:Inv CR base g σ w){l i T ee:Nat}(hn:dP σ (.cells 2 [.int .i64 (T:Nat),.int .i64 (ee:Nat),.str []])=some (l,i,σ')):
  Inv CR base (g.bK l i (.ob w.heap.size none)) σ' (w.alloc (.cells #[.pointer none,.slice none 0 0] T))∧Ev g w (g.bK l i (.ob w.heap.size none)) (w.alloc (.cells #[.pointer none,.slice none 0 0] T)):=by
 obtain⟨h1,h2,h3,_,_⟩:=fh hn;have hnone:=hi.tb h1;have hle:g.le (g.bK l i (.ob w.heap.size none)):=G.gu fun L0 e=>by rw[hnone]at e;cases e
 have hown:∀b,(Loc.ob w.heap.size none).owns b→w.heap.size=b:=fun b h=>by
  rcases h with h | h
  ·exact h
  ·cases h
 refine⟨hi.vg l i hle h3 (fun l' i' c=>G.aU c) (fun l' i' L b c e eb=>alloc_old (hi.lo l' i' L b e eb).2) ?_ ?_ ?_ ?_ (by simp) ⟨_,G.ao⟩ (fun b v hb=>alloc_old (hi.eO hb)),⟨hle,rfl,rfl,rfl,by simp,fun b hb _=>alloc_old hb,?_,fun b o v hv => .inl hv⟩⟩
 ·intro L e;rw[G.ao]at e;cases e;exact⟨_,h2,rfl,T,ee,[],.pointer none,.slice none 0 0,rfl,mf,.inl rfl,World.ownsRowF_nil _ _ _ _,rfl,by simp⟩
 ·intro b o v e;obtain⟨h1,h2⟩:=hi.jV b o v e;exact⟨(ep (alloc_old (hi.eO e))).trans h1,h2⟩
 ·intro l' i' L b e eb o;by_cases c:l'=l∧i'=i
  ·obtain⟨rfl,rfl⟩:=c;rw[G.ao]at e;cases e;obtain rfl:=hown b eb;cases e':(g.bK l' i' (.ob w.heap.size none)).jV w.heap.size o with
   |none=>rfl
   |some v=>have:=hi.eO (b:=w.heap.size) (o:=o) (v:=v) e';omega
  ·rw[G.aU c]at e;exact hi.sep l' i' L b e eb o
 ·intro L b e eb;rw[G.ao]at e;cases e;obtain rfl:=hown b eb;refine⟨hi.ge,by simp,fun l' i' L' c e' eb'=>?_⟩;have:=(hi.lo l' i' L' _ e' eb').2;omega
 ·intro b hb;obtain⟨l',i',L,e,eb⟩:=hb;by_cases c:l'=l∧i'=i
  ·obtain⟨rfl,rfl⟩:=c;rw[G.ao]at e;cases e;obtain rfl:=hown b eb;exact .inr (aw _)
  ·rw[G.aU c]at e;exact .inl ⟨l',i',L,e,eb⟩
theorem Inv.JE(hi:Inv CR base g σ w){l i b:Nat}{b0:aF}{es:List D}(hL:g.loc l i=some (.mp b))(hb:cM σ l i=some b0){b9:Array MapEntry}{clock:Nat}
  (hr:aY g es (b9.toList.map fun e => .tuple #[e.key,e.val])) (hm:Du b9.toList clock) {w':World} (hw:w'={w with heap:=w.heap.setIfInBounds b (.map b9 clock) }):
  Inv CR base (g.bK l i (.mp b)) (aN σ l i (.cells 0 es)) w'∧Ev g w (g.bK l i (.mp b)) w':=by
 subst hw;have hlt:=(hi.lo l i _ b hL rfl).2;have hle:g.le (g.bK l i (.mp b)):=G.gu fun L0 e=>by rw[hL]at e;cases e;exact Loc.le_refl _
 refine hi.setCells hL hb (Loc.le_refl _) ⟨rfl,b9,clock,by simp[hlt],hr.mono hle,hm⟩ (fun b' hb' hne=>?_) rfl rfl rfl (by simp) (fun b' hb' => .inl hb');have:b≠b':=fun hh=>hne (by rw[hh];rfl)
 simp[this]
theorem qh(hi:Inv CR base g σ w){m:D}{c:Value}(hr:a8 g m c){l i:Nat}{es:List D}(h:tE σ m=some (l,i,es)):
  ∃b b9 clock v,c=.map (some b)∧g.loc l i=some (.mp b)∧cM σ l i=some (.cells v es)∧w.heap[b]?=some (.map b9 clock)∧aY g es (b9.toList.map fun e => .tuple #[e.key,e.val])∧Du b9.toList clock:=by
 obtain⟨rfl,hcs⟩:=BA h;unfold cells? at hcs;split at hcs
 case h_2=>cases hcs
 rename_i v' cs' hblk;split at hcs
 case isFalse=>cases hcs
 cases hcs;cases hr with
 |iN _ _ b hl =>
  obtain⟨b0,hb0,hrel⟩:=hi.o8 l i _ hl;rw[hblk]at hb0;cases hb0;exact hrel.elim
 |EP _ _ b hl =>
  obtain⟨b0,hb0,hrel⟩:=hi.o8 l i _ hl;rw[hblk]at hb0;cases hb0;obtain⟨_,b9,clock,h1,h2,h3⟩:=hrel;exact⟨b,b9,clock,v',rfl,hl,hblk,h1,h2,h3⟩
 |JY _ _ b L hl hc =>
  obtain⟨b0,hb0,hrel⟩:=hi.o8 l i _ hl;rw[hblk]at hb0;cases hb0;rcases hc with rfl | rfl
  ·rename_i hv0;obtain⟨hv1,_⟩:=hrel;omega
  ·exact hrel.elim
 |Fa _ _ b L hl hc =>
  obtain⟨b0,hb0,hrel⟩:=hi.o8 l i _ hl;rw[hblk]at hb0;cases hb0;rcases hc with⟨c,rfl⟩ | rfl
  ·rename_i hv0;obtain⟨hv1,_⟩:=hrel;omega
  ·exact hrel.elim
theorem aae(hi:Inv CR base g σ w){t:TypeId}{ρ:Operand→Value}(h:a7 e σ (.mp .make [])=some (d,σ'))(o:Oper)(ho:o.op=.makeMap t none):dk P CR base g w B e ρ o d σ':=by
 simp only[a7,bf,vk,ab,ai,Prod.exists]at h;obtain⟨l,i,σ1,hn,rfl,rfl⟩:=h;obtain⟨i1,e1⟩:=hi.Jq hn;exact .val (.map (some w.heap.size)) (by
  have hrun:(Instr.makeMap t none).run P w=.ok (.map (some w.heap.size)) (w.alloc (.map #[] 0)):=rfl;simp only[execOp,ho,Option.map_none,Sem.run_bind,hrun,Result.andThen_ok,Sem.run_pure]) e1 i1 (.EP l i _ G.ao)
theorem aab(hi:Inv CR base g σ w){el ee:TypeId}{ρ:Operand→Value}(hz:lE P el=some [.nd,.bw])
  (h:a7 e σ (.mp (.o7 el ee) [])=some (d,σ')) (o:Oper) (ho:o.op=.alloc el):dk P CR base g w B e ρ o d σ':=by
 obtain⟨i0,v,hinfo,hzero,hrz,h1⟩:=mw g hz;simp only[a7,bf,vk,ab,ai,Prod.exists]at h;obtain⟨l,i,σ1,hn,rfl,rfl⟩:=h;obtain⟨i1,e1⟩:=hi.Vi hn;have hv:v.cells = #[.pointer none,.slice none 0 0]:=by
  generalize v.cells=a at hrz;obtain⟨a⟩:=a;dsimp only at hrz;cases hrz with
  |cons _ c _ cs k1 k2 =>
   cases k2 with
   |cons _ c2 _ cs2 k3 k4 =>
    cases k4;cases k1;cases k3;rfl
 have hrun:=vO (w:=w) hinfo hzero;rw[hv]at hrun;exact .val (.pointer (some ⟨w.heap.size,0,none⟩)) (by simp[execOp,ho,hrun]) e1 i1 (.Fa l i _ _ G.ao (.inl ⟨_,rfl⟩))
theorem V3(hi:Inv CR base g σ w){t kt et:TypeId}{ik:IntKind}{n:Int}(h:a7 e σ (.mp .make [])=some (d,σ'))(ht:P.underlying t=some (.map kt et))(o:Oper)(ho:o.op=.makeMap t (some (.const (.int ik n)))):dk P CR base g w B e (Act.mk tmps df).eval o d σ':=by
 simp only[a7,bf,vk,ab,ai,Prod.exists]at h;obtain⟨l,i,σ1,hn,rfl,rfl⟩:=h;obtain⟨i1,e1⟩:=hi.Jq hn;exact .val (.map (some w.heap.size)) (by
  have hrun:(Instr.makeMap t (some (.int ik n))).run P w=.ok (.map (some w.heap.size)) (w.alloc (.map #[] 0)):=by
   simp only[Instr.makeMap,Sem.run_bind,aQ ht,Result.andThen_ok];rfl
  have hev:(Act.mk tmps df).eval (.const (.int ik n))=.int ik n:=rfl;simp only[execOp,ho,aM,hev,Sem.run_bind,hrun,Result.andThen_ok,Sem.run_pure]) e1 i1 (.EP l i _ G.ao)
theorem V4(hf:Fr fb V g w B e tmps)(hi:Inv CR base g σ w){x:Operand}{X:ba}{t kt et:TypeId}{args:Array Operand}{ts:Array TypeId}{r:List Operand}{tr:List TypeId}(hx:aW x=some X)
  (ht:P.underlying t=some (.map kt et)) (ha:args.toList=x::r) (hts:ts.toList=t::tr)
  (h:a7 e σ (.mp .len [X])=some (d,σ')) (o:Oper) (ho:o.op=.call {callee:=.builtin .len,args,argTypes:=ts }):dk P CR base g w B e (Act.mk tmps df).eval o d σ':=by
 have hr:=hf.aR (df:=df) hx;obtain rfl:args=(x::r).toArray:=by rw[← ha]
 obtain rfl:ts=(t::tr).toArray:=by rw[← hts]
 simp only[a7,aG,bf,vk,ab,ai,Prod.exists]at h;obtain⟨l,i,es,hm,rfl,rfl⟩:=h;obtain⟨b,b9,clock,v,hc,hl,hblk,hheap,hrel,hok⟩:=qh hi hr hm;have hlen:=hrel.length;simp only[gZ,Array.length_toList]at hlen;refine .pure hi (c:=.int .i64 b9.size) ?_ (by rw[hlen];exact bI.of (.int _ _));simp[execOp,ho,resolve,invoke,builtin,Builtin.len_,hc,aQ ht,goInt,MapKept.run_getObj_map hheap]
theorem AA{t:TypeId}{z:D}(g:G)(h:Xf P t=some z):∃i v,P.info? t=some i∧i.zero=some v∧a8 g z v:=by
 unfold Xf at h;split at h
 ·rename_i i hi;split at h
  ·rename_i v hv;exact⟨i,v,hi,hv,xB g h⟩
  ·cases h
 ·cases h
theorem V2(hf:Fr fb V g w B e tmps)(hi:Inv CR base g σ w){x y:Operand}{X Y:ba}{t kt et:TypeId}{ky:Ky}{z:D}{ok:Bool}(hx:aW x=some X)(hy:aW y=some Y)
  (ht:P.underlying t=some (.map kt et)) (hk:xO P kt=some ky) (hz:Xf P et=some z)
  (h:a7 e σ (.mp (.get ky z ok) [X,Y])=some (d,σ')) (o:Oper) (ho:o.op=.lookup t x y ok):dk P CR base g w B e (Act.mk tmps df).eval o d σ':=by
 have hr:=hf.aR (df:=df) hx;have hr':=hf.aR (df:=df) hy;simp only[a7,aG,bf,vk]at h;split at h
 case h_2=>cases h
 rename_i l i es hm;split at h
 case isFalse=>cases h
 rename_i hself;obtain⟨b,b9,clock,v,hc,hl,hblk,hheap,hrel,hok⟩:=qh hi hr hm;have hck:=uL (w:=w) hk hr' hself b9.isEmpty;obtain⟨iz,zv,hz1,hz2,hz3⟩:=AA g hz;split at h
 ·rename_i j v1 hfk;cases h;obtain⟨o1,ho1,e1,_,rfl,hv1⟩:=pt (w:=w) hk hr' hrel hfk hself;cases ok
  ·refine .pure hi (c:=e1.val) ?_ (bI.of (by simpa using hv1));simp[execOp,ho,Instr.lookup,aQ ht,hc,MapKept.run_getObj_map hheap,hck,ho1]
  ·refine .pure hi (c:=.tuple #[e1.val,.bool true]) ?_ (bI.of (by simpa using a8.fj _ #[e1.val,.bool true] (.cons _ _ _ _ hv1 (.cons _ _ _ _ (.bool true) .nil))));simp[execOp,ho,Instr.lookup,aQ ht,hc,MapKept.run_getObj_map hheap,hck,ho1]
 ·rename_i hfk;cases h;obtain⟨o1,ho1,hf1⟩:=pt (w:=w) hk hr' hrel hfk hself;obtain rfl:o1=none:=hf1;cases ok
  ·refine .pure hi (c:=zv) ?_ (bI.of (by simpa using hz3));simp[execOp,ho,Instr.lookup,aQ ht,hc,MapKept.run_getObj_map hheap,hck,ho1,dQ hz1 hz2]
  ·refine .pure hi (c:=.tuple #[zv,.bool false]) ?_ (bI.of (by simpa using a8.fj _ #[zv,.bool false] (.cons _ _ _ _ hz3 (.cons _ _ _ _ (.bool false) .nil))));simp[execOp,ho,Instr.lookup,aQ ht,hc,MapKept.run_getObj_map hheap,hck,ho1,dQ hz1 hz2]
 ·cases h
theorem aY.set{g:G}:∀{ds:List D} {cs:List Value} {j:Nat} {d:D} {c:Value},aY g ds cs→a8 g d c→aY g (ds.set j d) (cs.set j c)
 |[],[],_,_,_,_,_=>by simpa using aY.nil
 |_::_,_::_,0,_,_,.cons _ _ _ _ h1 h2,h => .cons _ _ _ _ h h2
 |_::_,_::_,j+1,_,_,.cons _ _ _ _ h1 h2,h => .cons _ _ _ _ h1 (h2.set h)
theorem JD(hf:Fr fb V g w B e tmps)(hi:Inv CR base g σ w){x y u:Operand}{X Y U:ba}{t kt et:TypeId}{ky:Ky}(hx:aW x=some X)(hy:aW y=some Y)(hu:aW u=some U)
  (ht:P.underlying t=some (.map kt et)) (hk:xO P kt=some ky)
  (h:a7 e σ (.mp (.put ky) [X,Y,U])=some (d,σ')) (o:Oper) (ho:o.op=.mapUpdate t x y u∨o.op=.insert t x y u):dk P CR base g w B e (Act.mk tmps df).eval o d σ':=by
 have hr:=hf.aR (df:=df) hx;have hr':=hf.aR (df:=df) hy;have hru:=hf.aR (df:=df) hu;simp only[a7,aG,bf,vk]at h;split at h
 case h_2=>cases h
 rename_i l i es hm;split at h
 case isFalse=>cases h
 rename_i hself;obtain⟨b,b9,clock,v,hc,hl,hblk,hheap,hrel,hok⟩:=qh hi hr hm;have hck:=uL (w:=w) hk hr' hself.1 false;generalize hkv:(Act.mk tmps df).eval y=kv at *
 generalize huv:(Act.mk tmps df).eval u=uv at *
 have hnew:a8 g (.fj [aR e Y,aR e U]) (.tuple #[kv,uv]):=.fj _ _ (.cons _ _ _ _ hr' (.cons _ _ _ _ hru .nil));split at h
 ·rename_i j v1 hfk;cases h;obtain⟨o1,ho1,e1,he1,rfl,hv1⟩:=pt (w:=w) hk hr' hrel hfk hself.1;obtain⟨k',hk',hkq⟩:=zb hfk;have hj:b9[j]?=some e1:=by simpa using he1
  have hold:a8 g k' e1.key:=by
   obtain⟨c0,hc0,hr0⟩:=hrel.get hk';rw[cl,he1]at hc0;cases hc0;exact(Ay hr0).1
  obtain⟨hsame,hbits⟩:=Je hkq hr' hold;have hlist:(b9.modify j fun e=>{e with key:=kv,val:=uv }).toList=b9.toList.set j {e1 with key:=kv,val:=uv }:=by
   rw[Array.toList_modify];apply kh;intro n;rw[List.getElem?_modify,List.getElem?_set];by_cases hn:j=n
   ·subst hn;have hlt:=(an.1 he1).1;have hlt2:j<b9.size:=by simpa using hlt
    have hje:b9[j]=e1:=(cW.1 hj).2;simp[he1,hlt2,hje]
   ·simp[hn]
  obtain⟨i1,ev1⟩:=hi.JE (es:=es.set j (.fj [aR e Y,aR e U])) (b9:=b9.modify j fun e=>{e with key:=kv,val:=uv }) (clock:=clock) (w':={w with heap:=w.heap.setIfInBounds b (.map (b9.modify j fun e=>{e with key:=kv,val:=uv }) clock) }) hl hblk (by
    rw[hlist,List.map_set];exact hrel.set hnew) (by
    have hlt:=(an.1 he1);rw[hlist];refine⟨?_,by rw[List.length_set];exact hok.2⟩;rw[List.map_set,List.length_set];have:(b9.toList.map (·.born)).set j e1.born=b9.toList.map (·.born):=by
     apply kh;intro n;rw[List.getElem?_set];by_cases hn:j=n
     ·subst hn;have hlt2:j<b9.size:=by simpa using hlt.1
      have hje:b9[j]=e1:=(cW.1 hj).2;simp[he1,hlt2,hje]
     ·simp[hn]
    rw[this];exact hok.1) rfl
  refine⟨.skip,Go.undef,_,_,?_,rfl,ev1,i1,.undef _⟩;have hkts:∀w:World,(Instr.keyThatStays e1.key kv).run P w=.ok kv w:=fun w=>by simp[Instr.keyThatStays,hbits]
  rcases ho with ho | ho<;>simp[execOp,ho,Instr.mapUpdate,aQ ht,hc,hkv,huv,MapKept.run_getObj_map hheap,hck,ho1,hj,hkts,MapKept.run_setObj_map _ hheap]
 ·rename_i hfk;cases h;obtain⟨o1,ho1,hf1⟩:=pt (w:=w) hk hr' hrel hfk hself.1;obtain rfl:o1=none:=hf1;obtain⟨i1,ev1⟩:=hi.JE (es:=es++[.fj [aR e Y,aR e U]]) (b9:=b9.push {key:=kv,val:=uv,born:=clock }) (clock:=clock+1) (w':={w with heap:=w.heap.setIfInBounds b (.map (b9.push {key:=kv,val:=uv,born:=clock }) (clock+1)) }) hl hblk (by
    rw[Array.toList_push,List.map_append];exact hrel.append (.cons _ _ _ _ hnew .nil)) (by
    rw[Array.toList_push];have h2:=hok.2;refine⟨?_,by simp only[bS,bq,ch];omega⟩;rw[List.map_append,hok.1,bS,bq,ch,dA,List.range_succ];simp only[aG,bf,h2]) rfl
  refine⟨.skip,Go.undef,_,_,?_,rfl,ev1,i1,.undef _⟩;rcases ho with ho | ho<;>simp[execOp,ho,Instr.mapUpdate,aQ ht,hc,hkv,huv,MapKept.run_getObj_map hheap,hck,ho1,MapKept.run_setObj_map _ hheap]
 ·cases h
theorem Inv.KZ(hi:Inv CR base g σ w){l i lm im bm n:Nat}(hn:dP σ (.cells 1 [.iN lm im,.int .i64 (n:Nat)])=some (l,i,σ'))(hm:g.loc lm im=some (.mp bm)):
  Inv CR base (g.bK l i (.it w.heap.size)) σ' (w.alloc (.mapIter (some bm) n #[] n))∧Ev g w (g.bK l i (.it w.heap.size)) (w.alloc (.mapIter (some bm) n #[] n)):=by
 obtain⟨h1,h2,h3,_,_⟩:=fh hn;have hnone:=hi.tb h1;have hle:g.le (g.bK l i (.it w.heap.size)):=G.gu fun L0 e=>by rw[hnone]at e;cases e
 refine⟨hi.vg l i hle h3 (fun l' i' c=>G.aU c) (fun l' i' L b c e eb=>alloc_old (hi.lo l' i' L b e eb).2) ?_ ?_ ?_ ?_ (by simp) ⟨_,G.ao⟩ (fun b v hb=>alloc_old (hi.eO hb)),⟨hle,rfl,rfl,rfl,by simp,fun b hb _=>alloc_old hb,?_,fun b o v hv => .inl hv⟩⟩
 ·intro L e;rw[G.ao]at e;cases e;have hm2:(g.bK l i (.it w.heap.size)).loc lm im=some (.mp bm):=by
   rw[G.aU fun hh=>by rw[hh.1,hh.2,hnone]at hm;cases hm];exact hm
  exact⟨_,h2,rfl,lm,im,bm,n,[],rfl,hm2,mf,List.nodup_nil,by simp⟩
 ·intro b o v e;obtain⟨h1,h2⟩:=hi.jV b o v e;exact⟨(ep (alloc_old (hi.eO e))).trans h1,h2⟩
 ·intro l' i' L b e eb o;by_cases c:l'=l∧i'=i
  ·obtain⟨rfl,rfl⟩:=c;rw[G.ao]at e;cases e;cases eb;cases e':(g.bK l' i' (.it w.heap.size)).jV w.heap.size o with
   |none=>rfl
   |some v=>have:=hi.eO (b:=w.heap.size) (o:=o) (v:=v) e';omega
  ·rw[G.aU c]at e;exact hi.sep l' i' L b e eb o
 ·intro L b e eb;rw[G.ao]at e;cases e;cases eb;refine⟨hi.ge,by simp,fun l' i' L' c e' eb'=>?_⟩;have:=(hi.lo l' i' L' _ e' eb').2;omega
 ·intro b hb;obtain⟨l',i',L,e,eb⟩:=hb;by_cases c:l'=l∧i'=i
  ·obtain⟨rfl,rfl⟩:=c;rw[G.ao]at e;cases e;cases eb;exact .inr (aw _)
  ·rw[G.aU c]at e;exact .inl ⟨l',i',L,e,eb⟩
theorem aah(hf:Fr fb V g w B e tmps)(hi:Inv CR base g σ w){x:Operand}{X:ba}{t kt et:TypeId}(hx:aW x=some X)(ht:P.underlying t=some (.map kt et))
  (h:a7 e σ (.mp .ZP [X])=some (d,σ')) (o:Oper) (ho:o.op=.range t x):dk P CR base g w B e (Act.mk tmps df).eval o d σ':=by
 have hr:=hf.aR (df:=df) hx;simp only[a7,aG,bf,vk]at h;split at h
 case h_2=>cases h
 rename_i lm im es hm;obtain⟨b,b9,clock,v,hc,hl,hblk,hheap,hrel,hok⟩:=qh hi hr hm;simp only[ab,ai,Prod.exists]at h;obtain⟨l,i,σ1,hn,rfl,rfl⟩:=h;have hlen:=hrel.length;simp only[gZ]at hlen;have hck:clock=es.length:=by rw[hlen];exact hok.2
 obtain⟨i1,e1⟩:=hi.KZ hn hl;have hrun:=run_range_map (P:=P) w t kt et b b9 clock ht hheap;rw[hck]at hrun;exact .val (.pointer (some ⟨w.heap.size,0,none⟩)) (by simp[execOp,ho,hc,hrun]) e1 i1 (.JY l i _ _ G.ao (.inl rfl))
theorem Z3(hf:Fr fb V g w B e tmps)(hi:Inv CR base g σ w){x:Operand}{X:ba}(hx:aW x=some X)
  (h:a7 e σ (.mp .Wq [X])=some (d,σ')) (o:Oper) (ho:o.op=.entry x):dk P CR base g w B e (Act.mk tmps df).eval o d σ':=by
 have hr:=hf.aR (df:=df) hx;simp only[a7,aG,bf]at h;generalize aR e X=dx at hr h;cases dx<;>simp only[vk,reduceCtorEq]at h;rename_i l i;split at h
 case h_2=>cases h
 rename_i m n j rest hcs;split at h
 case h_2=>cases h
 rename_i lm im es hm;split at h
 case isFalse=>cases h
 rename_i hlen;split at h
 case h_2=>cases h
 rename_i k v hj;cases h;unfold cells? at hcs;split at hcs
 case h_2=>cases hcs
 rename_i v' cs' hblk;split at hcs
 case isFalse=>cases hcs
 rename_i hv1;cases hcs;generalize hcv:(Act.mk tmps df).eval x=cv at hr;cases hr with
 |iN _ _ b hl =>
  obtain⟨b0,hb0,hrel⟩:=hi.o8 l i _ hl;rw[hblk]at hb0;cases hb0;exact hrel.elim
 |EP _ _ b hl =>
  obtain⟨b0,hb0,hrel⟩:=hi.o8 l i _ hl;rw[hblk]at hb0;cases hb0;have:=hrel.1;omega
 |Fa _ _ b L hl hc =>
  obtain⟨b0,hb0,hrel⟩:=hi.o8 l i _ hl;rw[hblk]at hb0;cases hb0;rcases hc with⟨c,rfl⟩ | rfl
  ·have:=hrel.1;omega
  ·exact hrel.elim
 |JY _ _ b L hl hc =>
  obtain⟨b0,hb0,hrel⟩:=hi.o8 l i _ hl;rw[hblk]at hb0;cases hb0;rcases hc with rfl | rfl
  rotate_left
  ·exact hrel.elim
  obtain⟨_,lm',im',bm,n',js,hcs,hlm,hheap,hnd,hlt⟩:=hrel;cases js with
  |nil=>simp at hcs
  |cons j' js =>
   simp only[aG,ek,D.int.injEq,true_and]at hcs;obtain⟨rfl,rfl,rfl,_⟩:=hcs;obtain⟨b2,b9,clock,v2,hc2,hl2,hblk2,hheap2,hrel2,hok⟩:=qh hi (.EP lm' im' bm hlm) hm;cases hc2;have hlen2:=hrel2.length;simp only[gZ]at hlen2;obtain⟨c0,hc0,hr0⟩:=hrel2.get hj;rw[cl]at hc0;simp only[Int.toNat_natCast]at hc0;obtain⟨e1,he1,rfl⟩:=ab.1 hc0;have hborn:e1.born=j':=by
    have h1:=congrArg (fun l=>l[j']?) hok.1;simp only[cl,he1,aM]at h1;have h2:=(an.1 he1).1;rw[List.getElem?_range h2]at h1;exact Option.some.inj h1
   have hck:clock=n':=by have:=hok.2;omega
   have hnd2:(b9.toList.map (·.born)).Nodup:=by rw[hok.1];exact List.nodup_range
   have hit:w.heap[b]?=some (.mapIter (some bm) n' (js.reverse.toArray.push e1.born) clock):=by
    rw[hheap,hborn,hck];simp
   have hrun:=run_entry_at (P:=P) w b bm n' js.reverse.toArray b9 clock e1 hit hheap2 (aj he1) hnd2;refine .pure hi (c:=.tuple #[e1.key,e1.val]) ?_ (bI.of hr0);simp[execOp,ho,hcv,hrun]
end
variable {P:Program} {CR:dF} {base fb:Nat} {V:List Nat} {g:G} {σ σ':SK} {w:World} {B:Nat→Nat} {e:Env} {tmps:Array Value} {df:List Deferred} {d:D}
theorem aad(hf:Fr fb V g w B e tmps)(hi:Inv CR base g σ w){x:Operand}{X:ba}{t:TypeId}(hx:aW x=some X)(hc:P.concrete t=true)
  (h:a7 e σ (.To t X)=some (d,σ')) (o:Oper) (ho:o.op=.makeInterface t x):dk P CR base g w B e (Act.mk tmps df).eval o d σ':=by
 have hr:=hf.aR (df:=df) hx;simp only[a7,ae,ai]at h;obtain⟨rfl,rfl⟩:=h;exact .pure hi (c:=.iface t ((Act.mk tmps df).eval x)) (by simp[execOp,ho,run_makeInterface w t _ hc]) (bI.of (.o9 t _ _ hr))
theorem TL(hf:Fr fb V g w B e tmps)(hi:Inv CR base g σ w){x:Operand}{X:ba}{t xt:TypeId}{dsc:TypeDesc}{ok:Bool}{z:Option D}(hx:aW x=some X)(ht:P.underlying t=some dsc)(hn:∀ms,dsc ≠ .interface ms)
  (hz:if ok then ∃z0,z=some z0∧Xf P t=some z0 else z=none)
  (h:a7 e σ (.Ll t z X)=some (d,σ')) (o:Oper) (ho:o.op=.typeAssert x xt t ok):dk P CR base g w B e (Act.mk tmps df).eval o d σ':=by
 have hr:=hf.aR (df:=df) hx;simp only[a7,ab,ai]at h;obtain⟨d0,h,rfl,rfl⟩:=h;generalize hcx:(Act.mk tmps df).eval x=cx at hr;generalize aR e X=dx at hr h;cases hr with
 |o9 t' d1 c h1 =>
  simp only[C4]at h;cases ok with
  |true =>
   simp only[if_true]at hz;obtain⟨z0,rfl,hz⟩:=hz;obtain⟨iz,zv,hz1,hz2,hz3⟩:=AA g hz;simp only[ae]at h;by_cases htt:t'=t
   ·rw[if_pos htt]at h;subst h;refine .pure hi (c:=.tuple #[c,.bool true]) ?_ (bI.of (.fj _ #[c,.bool true] (.cons _ _ _ _ h1 (.cons _ _ _ _ (.bool true) .nil))));simp only[execOp,ho,hcx,Instr.typeAssert,Sem.run_bind,run_underlying ht,Result.andThen_ok];cases dsc<;>first | exact absurd rfl (hn _) | simp[htt]
   ·rw[if_neg htt]at h;subst h;refine .pure hi (c:=.tuple #[zv,.bool false]) ?_ (bI.of (.fj _ #[zv,.bool false] (.cons _ _ _ _ hz3 (.cons _ _ _ _ (.bool false) .nil))));simp only[execOp,ho,hcx,Instr.typeAssert,Sem.run_bind,run_underlying ht,Result.andThen_ok];cases dsc<;>first | exact absurd rfl (hn _) | simp[htt,dQ hz1 hz2]
  |false =>
   simp only[al,if_false]at hz;subst hz;simp only at h;split at h
   case isFalse=>cases h
   rename_i htt;cases h;refine .pure hi (c:=c) ?_ (bI.of h1);simp only[execOp,ho,hcx,Instr.typeAssert,Sem.run_bind,run_underlying ht,Result.andThen_ok];cases dsc<;>first | exact absurd rfl (hn _) | simp[htt]
 |kL =>
  simp only[C4,ab]at h;obtain⟨z1,rfl,rfl⟩:=h;cases ok with
  |true =>
   simp only[if_true]at hz;obtain⟨z0,hz0,hz⟩:=hz;cases hz0;obtain⟨iz,zv,hz1,hz2,hz3⟩:=AA g hz;refine .pure hi (c:=.tuple #[zv,.bool false]) ?_ (bI.of (.fj _ #[zv,.bool false] (.cons _ _ _ _ hz3 (.cons _ _ _ _ (.bool false) .nil))));simp only[execOp,ho,hcx,Instr.typeAssert,Sem.run_bind,run_underlying ht,Result.andThen_ok];cases dsc<;>first | exact absurd rfl (hn _) | simp[dQ hz1 hz2]
  |false=>simp at hz
 |_=>simp[C4]at h
theorem vP{t:TypeId}{ms:Array (String×TypeId)}(n:Nat)(ht:P.underlying t=some (.interface ms))(w:World):(Op.equalIn (n+1) t .nilIface .nilIface).run P w=.ok true w:=by
 rw[Op.equalIn];simp[run_underlying ht]
theorem wK{t t':TypeId}{c:Value}{ms:Array (String×TypeId)}(n:Nat)(ht:P.underlying t=some (.interface ms))(w:World):(Op.equalIn (n+1) t (.iface t' c) .nilIface).run P w=.ok false w:=by
 rw[Op.equalIn];simp[run_underlying ht]
theorem yb{t:TypeId}{ms:Array (String×TypeId)}(ht:P.underlying t=some (.interface ms))(w:World):(Op.equal t .nilIface .nilIface).run P w=.ok true w:=vP 9999 ht w
theorem yN{t t':TypeId}{c:Value}{ms:Array (String×TypeId)}(ht:P.underlying t=some (.interface ms))(w:World):(Op.equal t (.iface t' c) .nilIface).run P w=.ok false w:=wK 9999 ht w
theorem TI(hf:Fr fb V g w B e tmps)(hi:Inv CR base g σ w){x:Operand}{X:ba}{t u:TypeId}{ms:Array (String×TypeId)}{neg:Bool}(hx:aW x=some X)(ht:P.underlying t=some (.interface ms))
  (h:a7 e σ (.KS neg X)=some (d,σ')) (o:Oper) (ho:o.op=.binOp (if neg then .neq else .eql) t x (.const .nilIface) u):dk P CR base g w B e (Act.mk tmps df).eval o d σ':=by
 have hr:=hf.aR (df:=df) hx;simp only[a7,ab,ai]at h;obtain⟨b,h,rfl,rfl⟩:=h;have hev:(Act.mk tmps df).eval (.const .nilIface)=.nilIface:=rfl;generalize hcx:(Act.mk tmps df).eval x=cx at hr;generalize aR e X=dx at hr h;cases hr with
 |kL =>
  cases h;refine .pure hi (c:=.bool (if neg then false else true)) ?_ (bI.of (by cases neg<;>exact .bool _));cases neg<;>simp[execOp,ho,hcx,hev,eqGuard,binOp,yb ht]
 |o9 t' d1 c h1 =>
  cases h;refine .pure hi (c:=.bool (if neg then true else false)) ?_ (bI.of (by cases neg<;>exact .bool _));cases neg<;>simp[execOp,ho,hcx,hev,eqGuard,binOp,yN ht]
 |_=>cases h
section
variable {P:Program} {CR:dF} {base fb:Nat} {V:List Nat} {g:G} {σ σ':SK} {w:World} {B:Nat→Nat} {e:Env} {tmps:Array Value} {df:List Deferred}
 {a:nv} {ops:Array Oper} {key:Nat} {k:K} {d:D}
theorem Cp(hf:Fr fb V g w B e tmps)(hi:Inv CR base g σ w){x y:Operand}{X Y:ba}{t u:TypeId}{b:BinOp}(hx:aW x=some X)(hy:aW y=some Y)
  (hk:Uv P b t X Y=some k) (h:a7 e σ k=some (d,σ')) (o:Oper) (ho:o.op=.binOp b t x y u):dk P CR base g w B e (Act.mk tmps df).eval o d σ':=by
 unfold Uv at hk;split at hk
 case h_2=>cases hk
 rename_i ks hks;split at hk
 ·cases hk
 rename_i hg;have hg':P.eqGuardType P.depth t=false:=by simpa using hg
 split at hk
 ·obtain⟨ag,hag,rfl⟩:=ab.1 hk;exact TH hf hi hx hy hks hag hg' h o (by simpa using ho)
 ·obtain⟨ag,hag,rfl⟩:=ab.1 hk;exact TH hf hi hx hy hks hag hg' h o (by simpa using ho)
 ·cases hk
theorem Lh{ag:Bool}{sz:Nat}{X:ba}{r:D×SK}(h:a7 e σ (.AD ag sz X)=some r):a7 e σ (.ld ag sz X)=some r:=by
 simp only[a7]at h ⊢;cases hx:aR e X<;>rw[hx]at h<;>try (cases h;done)
 simpa[wq]using h
theorem Lg{ag:Bool}{sz:Nat}{X:ba}{r:D×SK}(h:a7 e σ (.JZ ag sz X)=some r):a7 e σ (.ld ag sz X)=some r:=by
 simp only[a7]at h ⊢;cases hr:K8 σ (aR e X)with
 |none=>rw[hr]at h;cases h
 |some cs =>
  rw[hr]at h;have:wq σ (aR e X)=some cs:=by
   generalize aR e X=dx at hr;unfold K8 at hr;split at hr
   ·exact hr
   ·cases hr
  rw[this];exact h
theorem tF{w:World}(d:Nat){t el:TypeId}{a:Option Addr}(h:P.underlying t=some (.pointer el)):(Op.equalIn (d+1) t (.pointer a) (.pointer none)).run P w=.ok a.isNone w:=by
 cases a<;>simp[Op.equalIn,aQ h]
theorem run_equalIn_slice_nil{w:World}(d:Nat){t el:TypeId}{a:Option Addr}{n c:Nat}(h:P.underlying t=some (.slice el)):(Op.equalIn (d+1) t (.slice a n c) (.slice none 0 0)).run P w=.ok a.isNone w:=by
 cases a<;>simp[Op.equalIn,aQ h]
theorem Z6(hi:Inv CR base g σ w){x y:Operand}{X:ba}{t u:TypeId}{b:BinOp}{ps bo:Bool}{cx cy:Value}(e1:(Act.mk tmps df).eval x=cx)(e2:(Act.mk tmps df).eval y=cy)
  (hg:∀b,(eqGuard b t x y cx cy).run P w=.ok () w) (hb:binOp .eql t cx cy=(do pure (.bool (← Op.equal t cx cy)))) (hb':binOp .neq t cx cy=(do pure (.bool (!(← Op.equal t cx cy)))))
  (heq:(Op.equal t cx cy).run P w=.ok bo w) (hn:Aa ps (aR e X)=some bo)
  (hk:JX ps b X=some k) (h:a7 e σ k=some (d,σ')) (o:Oper) (ho:o.op=.binOp b t x y u):dk P CR base g w B e (Act.mk tmps df).eval o d σ':=by
 unfold JX at hk;split at hk
 ·cases hk;simp only[a7,hn,aM,ae,ai]at h;obtain⟨rfl,rfl⟩:=h;refine .pure hi ?_ (bI.of (.bool _));simp[execOp,ho,e1,e2,hg,hb,heq]
 ·cases hk;simp only[a7,hn,aM,ae,ai]at h;obtain⟨rfl,rfl⟩:=h;refine .pure hi ?_ (bI.of (.bool _));simp[execOp,ho,e1,e2,hg,hb',heq]
 ·cases hk
theorem Bu{ps:Bool}{b:BinOp}{X:ba}(hk:JX ps b X=some k)(h:a7 e σ k=some (d,σ')):∃bo,Aa ps (aR e X)=some bo:=by
 unfold JX at hk;split at hk<;>cases hk<;>simp only[a7,ab]at h<;>obtain⟨b,hb,_⟩:=h<;>exact⟨b,hb⟩
theorem Z7(hf:Fr fb V g w B e tmps)(hi:Inv CR base g σ w){x y:Operand}{X:ba}{t u el:TypeId}{b:BinOp}(hx:aW x=some X)(hy:aW y=some (.c .nd))(ht:P.underlying t=some (.pointer el))
  (hk:JX true b X=some k) (h:a7 e σ k=some (d,σ')) (o:Oper) (ho:o.op=.binOp b t x y u):dk P CR base g w B e (Act.mk tmps df).eval o d σ':=by
 have hr:=hf.aR (df:=df) hx;have hr':=hf.aR (df:=df) hy;have e2:(Act.mk tmps df).eval y=.pointer none:=by
  generalize (Act.mk tmps df).eval y=c at hr';cases hr';rfl
 obtain⟨bo,hn⟩:=Bu hk h;have:∃a,(Act.mk tmps df).eval x=.pointer a∧bo=a.isNone:=by
  generalize aR e X=dx at hr hn;generalize (Act.mk tmps df).eval x=cx at hr;cases hr<;>simp[Aa]at hn
  ·exact⟨none,rfl,by simp[← hn]⟩
  ·exact⟨_,rfl,by simp[← hn]⟩
  ·exact⟨_,rfl,by simp[← hn]⟩
 obtain⟨a,e1,rfl⟩:=this;refine Z6 hi e1 e2 (fun b=>by simp[eqGuard]) rfl rfl (tF 9999 ht) hn hk h o ho
theorem Z8(hf:Fr fb V g w B e tmps)(hi:Inv CR base g σ w){x y:Operand}{X:ba}{t u el:TypeId}{b:BinOp}(hx:aW x=some X)(hy:aW y=some (.c .bw))(ht:P.underlying t=some (.slice el))
  (hk:JX false b X=some k) (h:a7 e σ k=some (d,σ')) (o:Oper) (ho:o.op=.binOp b t x y u):dk P CR base g w B e (Act.mk tmps df).eval o d σ':=by
 have hr:=hf.aR (df:=df) hx;have hr':=hf.aR (df:=df) hy;have e2:(Act.mk tmps df).eval y=.slice none 0 0:=by
  generalize (Act.mk tmps df).eval y=c at hr';cases hr';rfl
 obtain⟨bo,hn⟩:=Bu hk h;have:∃a n c,(Act.mk tmps df).eval x=.slice a n c∧bo=a.isNone:=by
  generalize aR e X=dx at hr hn;generalize (Act.mk tmps df).eval x=cx at hr;cases hr<;>simp[Aa]at hn
  ·exact⟨none,_,_,rfl,by simp[← hn]⟩
  ·exact⟨_,_,_,rfl,by simp[← hn.2]⟩
  ·rename_i l i v off n w a cap L h1 h2 h3 h4 h5 h6 h7;refine⟨a,n,cap,rfl,?_⟩;cases a with
   |none=>have:=h4 rfl;omega
   |some a=>simp[← hn.2]
 obtain⟨a,n,c,e1,rfl⟩:=this;refine Z6 hi e1 e2 (fun b=>by simp[eqGuard]) rfl rfl (run_equalIn_slice_nil 9999 ht) hn hk h o ho
theorem aag(hf:Fr fb V g w B e tmps)(hi:Inv CR base g σ w){x:Operand}{X:ba}(hx:aW x=some X)(h:a7 e σ (.uj X)=some (d,σ'))(o:Oper)(ho:o.op=.nilCheck x):
  dk P CR base g w B e (Act.mk tmps df).eval o d σ':=by
 have hr:=hf.aR (df:=df) hx;simp only[a7]at h;generalize aR e X=dx at hr h;have key:(∃a,(Act.mk tmps df).eval x=.pointer (some a))∧d=dx∧σ'=σ:=by
  generalize (Act.mk tmps df).eval x=cx at hr;cases hr<;>simp at h
  ·exact⟨⟨_,rfl⟩,h.1.symm,h.2.symm⟩
  ·exact⟨⟨_,rfl⟩,h.1.symm,h.2.symm⟩
 obtain⟨⟨a,e1⟩,rfl,rfl⟩:=key;rw[e1]at hr;exact .pure hi (c:=.pointer (some a)) (by simp[execOp,ho,e1]) (bI.of hr)
theorem zi{x:Operand}(h:ru x=true):x=.const (.slice none 0 0):=by
 unfold ru at h;split at h
 ·rfl
 ·cases h
theorem Wf(hf:Fr fb V g w B e tmps)(hi:Inv CR base g σ w){o:Oper}(hk:kC P a ops key o=some k)(h:a7 e σ k=some (d,σ')):
  dk P CR base g w B e (Act.mk tmps df).eval o d σ':=by
 unfold kC at hk;split at hk
 ·rename_i x ho;obtain⟨X,hX,rfl⟩:=ab.1 hk;exact CU hf hi hX h o (.inl ho)
 ·rename_i x ho;split at hk
  ·rename_i hnil _ _;split at hk
   ·obtain⟨X,hX,rfl⟩:=ab.1 hk;exact V5 hi h o (by rw[ho,zi hnil])
   ·obtain⟨X,hX,rfl⟩:=ab.1 hk;exact CU hf hi hX h o (.inr ho)
  ·obtain⟨X,hX,rfl⟩:=ab.1 hk;exact CU hf hi hX h o (.inr ho)
 ·rename_i c x y ho;split at hk
  ·rename_i c' x' y' h1 h2 h3;cases hk;exact V6 hf hi h1 h2 h3 h o ho
  ·cases hk
 ·rename_i el ho;split at hk
  ·rename_i z d0 hz _;split at hk
   ·split at hk
    case h_2=>cases hk
    split at hk
    case h_2=>cases hk
    split at hk
    case h_2=>cases hk
    cases hk;exact aab hi hz h o ho
   cases hk;split at h
   ·cases h
   ·exact ZR hi hz h o ho
  ·cases hk
 ·rename_i t x ho;split at hk
  ·rename_i x' d0 hx _;cases hk;split at h
   ·cases h
   split at h
   ·split at h
    ·exact VW hf hi hx h o ho
    ·exact ZZ hf hi hx h o ho
   ·exact VV hf hi hx h o ho
  ·cases hk
 ·rename_i t ps ho;split at hk
  ·rename_i fs z ht hz;split at hk
   ·rename_i hall;obtain⟨parts,hp,rfl⟩:=ab.1 hk;exact Ao hf hi ht hz hall hp h o ho
   ·cases hk
  ·rename_i n el z ht hz;split at hk
   ·rename_i wd hw;obtain⟨parts,hp,rfl⟩:=ab.1 hk;exact BN hf hi ht hw hz hp h o ho
   ·cases hk
  ·cases hk
 ·rename_i t n ps ho;split at hk
  ·rename_i el ht;split at hk
   ·rename_i wd z d0 hw hz _;split at hk
    ·rename_i hc;obtain⟨parts,hp,rfl⟩:=ab.1 hk;dsimp only at h;split at h
     ·rename_i hn;simp only[ak,av]at hn;obtain⟨⟨rfl,hpe⟩,_⟩:=hn;exact ZW hf hi ht hw hz hc.1 hc.2.1 hc.2.2 hp (by simpa using hpe) h o ho
     split at h
     ·exact ZY hf hi ht hw hz hc.1 hc.2.1 hc.2.2 hp h o ho
     ·exact ZX hf hi ht hw hz hc.1 hc.2.1 hc.2.2 hp h o ho
    ·cases hk
   ·cases hk
  ·cases hk
 ·rename_i t x ho;split at hk
  ·rename_i ag sz n hag hsz hx;split at hk
   ·rename_i hc;simp only[ak,av]at hc;cases hk;have hxe:x=.tmp n:=by
     cases x<;>simp only[aW,ae,ba.t.injEq,reduceCtorEq,ab,and_false,exists_false]at hx;rw[hx]
    split at h
    ·exact Z9 hf hi hag hsz hc.1 hc.2 h o (by rw[ho,hxe])
    ·split at h
     ·exact V1 hf hi hx hag hsz hc.1 hc.2 (Lh h) o ho
     split at h
     ·exact V1 hf hi hx hag hsz hc.1 hc.2 (Lg h) o ho
     ·exact V1 hf hi hx hag hsz hc.1 hc.2 h o ho
   ·cases hk
  ·cases hk
 ·rename_i t x y ho;split at hk
  ·rename_i sz n y' hsz hx hy;cases hk;split at h
   ·cases h
   ·split at h
    ·exact aal hf hi hx hy hsz (D9 h) o ho
    ·exact aal hf hi hx hy hsz h o ho
  ·cases hk
 ·rename_i b t x y u ho;split at hk
  ·rename_i hx hy;cases hk;exact ZV hf hi hx hy h o ho
  ·rename_i hx hy;exact Cp hf hi hx hy hk h o ho
  ·rename_i hx hy;exact Cp hf hi hx hy hk h o ho
  ·rename_i hx hy;exact Cp hf hi hx hy hk h o ho
  ·rename_i ht hx hy;split at hk
   ·cases hk;exact V7 hf hi hx hy h o ho
   ·cases hk;exact TK hf hi hx hy h o ho
   ·cases hk;exact TK hf hi hx hy h o ho
   ·cases hk
  ·rename_i ht hx hy;exact Z7 hf hi hx hy ht hk h o ho
  ·rename_i ht hx hy;split at hk
   ·rename_i hsz;split at hk
    ·cases hk;exact TJ (neg:=false) hf hi hx hy ht hsz h o ho
    ·cases hk;exact TJ (neg:=true) hf hi hx hy ht hsz h o ho
    ·cases hk
   ·cases hk
  ·rename_i ht hx hy;exact Z8 hf hi hx hy ht hk h o ho
  ·rename_i ht hx hy;split at hk
   ·cases hk;exact TI (neg:=false) hf hi hx ht h o ho
   ·cases hk;exact TI (neg:=true) hf hi hx ht h o ho
   ·cases hk
  ·cases hk
 ·rename_i x ho;obtain⟨X,hX,rfl⟩:=ab.1 hk;exact aag hf hi hX h o ho
 ·rename_i b t x ho;obtain⟨X,hX,rfl⟩:=ab.1 hk;exact ab5 hf hi hX h o ho
 ·rename_i s t x ho;split at hk
  ·rename_i hs ht hx;cases hk;exact Z1 hf hi hx hs ht h o ho
  ·rename_i hs ht hx;split at hk
   ·rename_i he hw;cases hk;exact ZU hf hi hx hs he ht h o ho
   ·cases hk
  ·rename_i hs ht hx;split at hk
   ·rename_i he hw;cases hk;exact aaj hf hi hx hs he ht h o ho
   ·cases hk
  ·rename_i hs ht hx;split at hk
   ·rename_i hst;subst hst;split at hk
    ·rename_i he;cases hk;exact Z2 hf hi hx hs he h o ho
    ·cases hk
   ·cases hk
  ·cases hk
 ·rename_i t x ho;split at hk
  ·rename_i ht hx;obtain⟨wd,hw,rfl⟩:=ab.1 hk;exact aai hf hi hx ht h o ho
  ·cases hk
 ·rename_i f xs ys ho;split at hk
  ·rename_i hx hy;cases hk;exact aac hf hi hx hy h o ho
  ·cases hk
 ·rename_i t x y ho;split at hk
  ·rename_i el ht;split at hk
   ·rename_i hw hb hz hx hy;split at hk
    ·rename_i hc;cases hk;exact aaf hf hi hx hy ht hw hb hz hc.1 hc.2 h o ho
    ·cases hk
   ·cases hk
  ·cases hk
 ·rename_i t x lo hh mx ho;split at hk
  ·rename_i ht hx hlo hhi hmx;obtain⟨wd,hw,rfl⟩:=ab.1 hk;exact aak hf hi hx ht hw hlo hhi hmx h o ho
  ·rename_i ht hx hlo hhi hmx;obtain⟨wd,hw,rfl⟩:=ab.1 hk;have hm:mx=none:=by
    cases mx with
    |none=>rfl
    |some m=>simp[oU,ab]at hmx
   subst hm;exact V9 hf hi hx ht hw hlo hhi h o ho
  ·rename_i ht hx hlo hhi hmx;cases hk;have hm:mx=none:=by
    cases mx with
    |none=>rfl
    |some m=>simp[oU,ab]at hmx
   subst hm;exact Wb hf hi hx ht hlo hhi h o ho
  ·cases hk
 ·rename_i s x i ho;split at hk
  ·rename_i fs x' hs hx;split at hk
   ·rename_i off sz hfc;split at hk
    ·rename_i hpos;cases hk;exact VX hf hi hx hs hfc hpos h o ho
    ·cases hk
   ·cases hk
  ·cases hk
 ·rename_i s x i ho;split at hk
  ·rename_i fs x' hs hx;split at hk
   ·rename_i f hfi;split at hk
    ·rename_i hag hsz;split at hk
     ·cases hk;exact Z5 hf hi hx hs hfi hag hsz h o ho
     ·cases hk
    ·cases hk
   ·cases hk
  ·cases hk
 ·rename_i t x y ho;split at hk
  ·rename_i ht hx hy;obtain⟨wd,hw,rfl⟩:=ab.1 hk;exact VY hf hi hx hy ht hw h o ho
  ·rename_i ht hx hy;obtain⟨wd,hw,rfl⟩:=ab.1 hk;exact VZ hf hi hx hy ht hw h o ho
  ·cases hk
 ·rename_i t x y ho;split at hk
  ·rename_i ht hx hy;split at hk
   ·rename_i hag hsz;split at hk
    ·cases hk;exact V0 hf hi hx hy ht hag hsz h o ho
    ·cases hk
   ·cases hk
  ·rename_i ht hx hy;cases hk;exact V8 hf hi hx hy ht h o ho
  ·cases hk
 ·rename_i x i ho;obtain⟨X,hX,rfl⟩:=ab.1 hk;exact Z4 hf hi hX h o ho
 ·rename_i c ho;obtain⟨callee,args,ts⟩:=c;dsimp only at hk;split at hk
  ·rename_i f;split at hk
   ·cases hk;cases h
   ·cases hk
  ·split at hk
   ·rename_i t tr x r hts ha;split at hk
    ·rename_i ht hx;cases hk;exact aaa hf hi hx ht ha hts h o ho
    ·rename_i ht hx;cases hk;exact Wa hf hi hx ht ha hts h o ho
    ·rename_i ht hx;cases hk;exact V4 hf hi hx ht ha hts h o ho
    ·rename_i ht;cases hk;exact JC hi (.inl ⟨_,ht⟩) ha hts h o ho
    ·rename_i ht;split at hk
     ·rename_i hr;cases hk;exact JC hi (.inr ⟨_,_,ht,hr⟩) ha hts h o ho
     ·cases hk
    ·cases hk
   ·cases hk
  ·cases hk;cases h
  ·split at hk
   ·rename_i ha;split at hk
    ·rename_i hx hy;cases hk;exact ab3 hf hi hx hy ha h o ho
    ·cases hk
   ·cases hk
  ·split at hk
   ·rename_i ha;split at hk
    ·rename_i hx hy;cases hk;exact ab4 hf hi hx hy ha h o ho
    ·cases hk
   ·cases hk
  ·split at hk
   ·rename_i t u x y hts ha;split at hk
    ·rename_i uu x' y' ht hu0 hx hy;split at hk
     case isFalse=>cases hk
     rename_i huu;have hu:P.underlying u=some .string∨∃e2,P.underlying u=some (.slice e2):=by
      cases uu<;>simp[Jy]at huu
      ·exact .inl hu0
      ·exact .inr ⟨_,hu0⟩
     split at hk
     ·rename_i hw hb hz;split at hk
      ·rename_i hc;cases hk;split at h
       ·rename_i hn;simp only[ak]at hn;exact Z0 hf hi (zi hn.1) hy ha hts ht hu hw hb hz hc.2.2.2 hc.2.1 hc.2.2.1 h o ho
       ·split at h
        ·rename_i hn;simp only[ak]at hn;obtain⟨v,rfl⟩:∃v,x=.tmp v:=by
          have:=hn.2;cases x<;>simp[JO]at this;exact⟨_,rfl⟩
         exact ZS hf hi rfl hy ha hts ht hu hw hb hz hc.2.2.2 hc.2.1 hc.2.2.1 h o ho
        split at h
        ·exact ZT hf hi hx hy ha hts ht hu hw hb hz hc.2.2.2 hc.2.1 hc.2.2.1 h o ho
        split at h
        ·exact JB hf hi hx hy ha hts ht hu hw hb hz hc.2.2.2 hc.2.1 hc.2.2.1 (D8 h) o ho
        ·exact JB hf hi hx hy ha hts ht hu hw hb hz hc.2.2.2 hc.2.1 hc.2.2.1 h o ho
      ·cases hk
     ·cases hk
    ·cases hk
   ·cases hk
  ·cases hk
 ·rename_i t x ho;split at hk
  ·rename_i hc;obtain⟨X,hX,rfl⟩:=ab.1 hk;exact aad hf hi hX hc h o ho
  ·cases hk
 ·rename_i x xt t ok ho;split at hk
  ·cases hk
  ·rename_i dsc x' hnot ht hx;split at hk
   ·rename_i hok;subst hok;obtain⟨z,hz,rfl⟩:=ab.1 hk;exact TL hf hi hx ht (fun ms hms=>by subst hms;exact hnot _ rfl) (by simpa using hz) h o ho
   ·rename_i hok;cases hk;exact TL hf hi hx ht (fun ms hms=>by subst hms;exact hnot _ rfl) (by simp[hok]) h o ho
  ·cases hk
 ·rename_i x ho;obtain⟨X,hX,rfl⟩:=ab.1 hk;cases h
 ·rename_i t ho;cases hk;exact aae hi h o ho
 ·rename_i t k n ho;split at hk
  ·rename_i ht;cases hk;exact V3 hi h ht o ho
  ·cases hk
 ·rename_i t x ho;split at hk
  ·rename_i ht hx;cases hk;exact aah hf hi hx ht h o ho
  ·cases hk
 ·rename_i x ho;split at hk
  ·rename_i hx;cases hk;exact Z3 hf hi hx h o ho
  ·cases hk
 ·rename_i t x y ok ho;split at hk
  ·rename_i ht hx hy;split at hk
   ·rename_i hky hz;cases hk;exact V2 hf hi hx hy ht hky hz h o ho
   ·cases hk
  ·cases hk
 ·rename_i t m x y ho;split at hk
  ·rename_i ht hm hx hy;split at hk
   ·rename_i hky;cases hk;exact JD hf hi hm hx hy ht hky h o (.inl ho)
   ·cases hk
  ·cases hk
 ·rename_i t m x y ho;split at hk
  ·rename_i ht hm hx hy;split at hk
   ·rename_i hky;cases hk;exact JD hf hi hm hx hy ht hky h o (.inr ho)
   ·cases hk
  ·cases hk
 ·cases hk
end
mutual
def D.low(n:Nat):D→Bool
 |.ref l .. => decide (l<n)
 |.sl l .. => decide (l<n)
 |.iN l _=>decide (l<n)
 |.vr .. => true
 |.emp=>true
 |.own _ cs=>D.jw n cs
 |.agg cs=>D.jw n cs
 |.fj cs=>D.jw n cs
 |.aK cs=>D.jw n cs
 |.aE _ cs=>D.jw n cs
 |.fn _ a b=>D.jw n a && D.jw n b
 |.undef=>true
 |.bool _=>true
 |.int _ _=>true
 |.str _=>true
 |.nd=>true
 |.bw=>true
 |.pO=>true
 |.o9 _ d=>D.low n d
 |.kL=>true
def D.jw(n:Nat):List D→Bool
 |[]=>true
 |d::ds=>D.low n d && D.jw n ds
end
theorem sC{n:Nat}{ds:List D}:D.jw n ds=true↔∀d∈ds,d.low n=true:=by
 induction ds with
 |nil=>simp[D.jw]
 |cons d ds ih=>simp[D.jw,ih]
mutual
theorem mg{n:Nat}:∀{d:D},d.clean=true→d.low n=true
 |.ref ..,h=>by simp[D.clean]at h
 |.sl ..,h=>by simp[D.clean]at h
 |.iN ..,h=>by simp[D.clean]at h
 |.vr ..,_=>rfl
 |.emp,_=>rfl
 |.own _ cs,h=>kO (ds:=cs) (by simpa[D.clean]using h)
 |.agg cs,h=>kO (ds:=cs) (by simpa[D.clean]using h)
 |.fj cs,h=>kO (ds:=cs) (by simpa[D.clean]using h)
 |.aK cs,h=>kO (ds:=cs) (by simpa[D.clean]using h)
 |.aE _ cs,h=>kO (ds:=cs) (by simpa[D.clean]using h)
 |.fn _ a b,h=>by
  simp only[D.clean,ak]at h;simp only[D.low,ak];exact⟨kO h.1,kO h.2⟩
 |.undef,_=>rfl
 |.bool _,_=>rfl
 |.int _ _,_=>rfl
 |.str _,_=>rfl
 |.nd,_=>rfl
 |.bw,_=>rfl
 |.pO,_=>rfl
 |.o9 _ d,h=>mg (d:=d) (by simpa[D.clean]using h)
 |.kL,_=>rfl
theorem kO{n:Nat}:∀{ds:List D},D.bF ds=true→D.jw n ds=true
 |[],_=>rfl
 |d::ds,h=>by
  simp only[D.bF,ak]at h;simp only[D.jw,ak];exact⟨mg h.1,kO h.2⟩
end
mutual
theorem a8.low{g:G}{n:Nat}(hn:∀l i L,g.loc l i=some L→l<n):∀{d:D} {c:Value},a8 g d c→d.low n=true
 |_,_,.undef c=>rfl
 |_,_,.bool b=>rfl
 |_,_,.int k n=>rfl
 |_,_,.str s=>rfl
 |_,_,.agg ds cs hr h1=>aY.low hn hr
 |_,_,.fj ds cs hr=>aY.low hn hr
 |_,_,.nd=>rfl
 |_,_,.ref l i v off b o L e hv hc hn'=>by simp only[D.low,av];exact hn l i L e
 |_,_,.aK ds b o vs hr hl=>aY.low hn hl
 |_,_,.bw=>rfl
 |_,_,.pN=>rfl
 |_,_,.aE n' ds a cap vs hn' hr hs hl=>aY.low hn hl
 |_,_,.sl l i v off n' w a cap L e hv hn' ha hs hc hc'=>by simp only[D.low,av];exact hn l i L e
 |_,_,.fn f fs cs fs' cs' h1 h2=>by simp only[D.low,ak];exact⟨aY.low hn h1,aY.low hn h2⟩
 |_,_,.pO=>rfl
 |_,_,.iN l i b e=>by simp only[D.low,av];exact hn l i _ e
 |_,_,.EP l i b e=>by simp only[D.low,av];exact hn l i _ e
 |_,_,.JY l i b L e hc=>by simp only[D.low,av];exact hn l i _ e
 |_,_,.Fa l i b L e hc=>by simp only[D.low,av];exact hn l i _ e
 |_,_,.o9 t d c h1=>by rw[D.low];exact a8.low hn h1
 |_,_,.kL=>rfl
theorem aY.low{g:G}{n:Nat}(hn:∀l i L,g.loc l i=some L→l<n):∀{ds:List D} {cs:List Value},aY g ds cs→D.jw n ds=true
 |_,_,.nil=>rfl
 |_,_,.cons d c ds cs h1 h2=>by simp only[D.jw,ak];exact⟨a8.low hn h1,aY.low hn h2⟩
end
def G.cut(g:G)(n:Nat):G:=⟨fun l i=>if l<n then g.loc l i else none,g.jV⟩
theorem G.lW{g:G}{n l i:Nat}(h:l<n):(g.cut n).loc l i=g.loc l i:=by simp[G.cut,h]
theorem G.oM{g:G}{n l i:Nat}{L:Loc}(h:(g.cut n).loc l i=some L):l<n∧g.loc l i=some L:=by
 simp only[G.cut]at h;split at h
 ·exact⟨by assumption,h⟩
 ·cases h
mutual
theorem a8.cut{g:G}{n:Nat}:∀{d:D} {c:Value},a8 g d c→d.low n=true→a8 (g.cut n) d c
 |_,_,.undef c,_ => .undef c
 |_,_,.bool b,_ => .bool b
 |_,_,.int k n,_ => .int k n
 |_,_,.str s,_ => .str s
 |_,_,.agg ds cs hr h1,h => .agg ds cs (aY.cut hr h) h1
 |_,_,.fj ds cs hr,h => .fj ds cs (aY.cut hr h)
 |_,_,.nd,_ => .nd
 |_,_,.ref l i v off b o L e hv hc hn',h => .ref l i v off b o L ((G.lW (by simpa[D.low]using h)).trans e) hv hc hn'
 |_,_,.aK ds b o vs hr hl,h => .aK ds b o vs hr (aY.cut hl h)
 |_,_,.bw,_ => .bw
 |_,_,.pN,_ => .pN
 |_,_,.aE n' ds a cap vs hn' hr hs hl,h => .aE n' ds a cap vs hn' hr hs (aY.cut hl h)
 |_,_,.sl l i v off n' w a cap L e hv hn' ha hs hc hc',h => .sl l i v off n' w a cap L ((G.lW (by simpa[D.low]using h)).trans e) hv hn' ha hs hc hc'
 |_,_,.fn f fs cs fs' cs' h1 h2,h=>by
  simp only[D.low,ak]at h;exact .fn f fs cs fs' cs' (aY.cut h1 h.1) (aY.cut h2 h.2)
 |_,_,.pO,_ => .pO
 |_,_,.iN l i b e,h => .iN l i b ((G.lW (by simpa[D.low]using h)).trans e)
 |_,_,.EP l i b e,h => .EP l i b ((G.lW (by simpa[D.low]using h)).trans e)
 |_,_,.JY l i b L e hc,h => .JY l i b L ((G.lW (by simpa[D.low]using h)).trans e) hc
 |_,_,.Fa l i b L e hc,h => .Fa l i b L ((G.lW (by simpa[D.low]using h)).trans e) hc
 |_,_,.o9 t d c h1,h => .o9 t d c (a8.cut h1 h)
 |_,_,.kL,_ => .kL
theorem aY.cut{g:G}{n:Nat}:∀{ds:List D} {cs:List Value},aY g ds cs→D.jw n ds=true→aY (g.cut n) ds cs
 |_,_,.nil,_ => .nil
 |_,_,.cons d c ds cs h1 h2,h=>by
  simp only[D.jw,ak]at h;exact .cons d c ds cs (a8.cut h1 h.1) (aY.cut h2 h.2)
end
mutual
theorem sD{n m:Nat}(hm:n≤m):∀{d:D},d.low n=true→d.low m=true
 |.ref l ..,h=>by simp only[D.low,av]at h ⊢;omega
 |.sl l ..,h=>by simp only[D.low,av]at h ⊢;omega
 |.iN l _,h=>by simp only[D.low,av]at h ⊢;omega
 |.vr ..,_=>rfl
 |.emp,_=>rfl
 |.own _ cs,h=>lr (ds:=cs) hm h
 |.agg cs,h=>lr (ds:=cs) hm h
 |.fj cs,h=>lr (ds:=cs) hm h
 |.aK cs,h=>lr (ds:=cs) hm h
 |.aE _ cs,h=>lr (ds:=cs) hm h
 |.fn _ a b,h=>by
  simp only[D.low,ak]at h ⊢;exact⟨lr hm h.1,lr hm h.2⟩
 |.undef,_=>rfl
 |.bool _,_=>rfl
 |.int _ _,_=>rfl
 |.str _,_=>rfl
 |.nd,_=>rfl
 |.bw,_=>rfl
 |.pO,_=>rfl
 |.o9 _ d,h=>sD (d:=d) hm h
 |.kL,_=>rfl
theorem lr{n m:Nat}(hm:n≤m):∀{ds:List D},D.jw n ds=true→D.jw m ds=true
 |[],_=>rfl
 |d::ds,h=>by
  simp only[D.jw,ak]at h ⊢;exact⟨sD hm h.1,lr hm h.2⟩
end
def aF.low(n:Nat):aF→Prop
 |.cells _ cs=>D.jw n cs=true
 |.dead=>True
 |.loop lp=>∀t,(get lp.env t).low n=true
def kX(σ:SK):Prop:=∀l i b,cM σ l i=some b→l+1<σ.length→b.low (l+1)
theorem kX.set{σ:SK}(h:kX σ){l i:Nat}{b:aF}(hb:l+1<σ.length→b.low (l+1)):kX (aN σ l i b):=by
 intro l' i' b' h1 h2;rw[cI]at h2;by_cases hc:l'=l∧i'=i
 ·obtain⟨rfl,rfl⟩:=hc;cases h0:cM σ l' i' with
  |none =>
   have:cM (aN σ l' i' b) l' i'=none:=by
    unfold aN;cases hs:gv σ l' with
    |none=>exact h0
    |some s =>
     simp only[cM,mr (rI hs),Option.bind_some];simp only[cM,hs,Option.bind_some]at h0;rw[List.getElem?_eq_none_iff]at h0 ⊢;simpa using h0
   rw[this]at h1;cases h1
  |some b0=>rw[jx h0]at h1;cases h1;exact hb h2
 ·rw[cN hc]at h1;exact h l' i' b' h1 h2
theorem kX.new{σ σ':SK}(h:kX σ){l i:Nat}{b:aF}(hn:dP σ b=some (l,i,σ')):kX σ':=by
 obtain⟨h1,h2,h3,h4,h5⟩:=fh hn;intro l' i' b' e hl;by_cases hc:l'=l∧i'=i
 ·omega
 ·rw[h3 l' i' hc]at e;exact h l' i' b' e (by omega)
structure dH(σ σ':SK):Prop where
 len:σ'.length=σ.length
 low:kX σ→kX σ'
theorem dH.refl(σ:SK):dH σ σ:=⟨rfl,id⟩
theorem dH.trans{a b c:SK}(h:dH a b)(h':dH b c):dH a c:=⟨h'.len.trans h.len,fun x=>h'.low (h.low x)⟩
theorem dH.new{σ σ':SK}{l i:Nat}{b:aF}(hn:dP σ b=some (l,i,σ')):dH σ σ':=⟨(fh hn).2.2.2.1,fun h=>h.new hn⟩
theorem dH.set{σ:SK}{l i:Nat}{b:aF}(hb:l+1<σ.length→b.low (l+1)):dH σ (aN σ l i b):=⟨cI,fun h=>h.set hb⟩
theorem ma:∀(nb:List (Nat×Nat)) (cs cs':List D) (σ σ':SK),fP nb cs σ=some (cs',σ')→dH σ σ'
 |[],cs,cs',σ,σ',h=>by simp only[fP,ae,ai]at h;obtain⟨rfl,rfl⟩:=h;exact .refl _
 |(p,w)::r,cs,cs',σ,σ',h=>by
  simp only[fP]at h;split at h
  ·simp only[aC,ah]at h;obtain⟨⟨l,i,σ1⟩,hn,h⟩:=h;exact(dH.new hn).trans (ma r _ _ _ _ h)
  ·exact ma r _ _ _ _ h
theorem pY(l:Nat):∀(n:Nat) (d:D) (σ:SK),(cb l n d σ).1.low (l+1)=true∧dH σ (cb l n d σ).2
 |0,d,σ=>⟨rfl,.refl _⟩
 |n+1,d,σ=>by
  have ih:∀(ds:List D) (σ:SK),D.jw (l+1) (cb.frzL (cb l n) ds σ).1=true∧dH σ (cb.frzL (cb l n) ds σ).2:=by
   intro ds;induction ds with
   |nil=>intro σ;exact⟨rfl,.refl _⟩
   |cons d ds ihd =>
    intro σ;obtain⟨h1,h2⟩:=pY l n d σ;obtain⟨h3,h4⟩:=ihd (cb l n d σ).2;simp only[cb.frzL,D.jw,ak];exact⟨⟨h1,h3⟩,h2.trans h4⟩
  simp only[cb];split
  ·rename_i hc;exact⟨mg hc,.refl _⟩
  cases d with
  |agg cs=>exact ih cs σ
  |fj cs=>exact ih cs σ
  |aK cs=>exact ih cs σ
  |aE m cs=>exact ih cs σ
  |own s cs=>exact ih cs σ
  |fn f a b =>
   obtain⟨h1,h2⟩:=ih a σ;obtain⟨h3,h4⟩:=ih b (cb.frzL (cb l n) a σ).2;refine⟨?_,h2.trans h4⟩;simp only[D.low,ak];exact⟨h1,h3⟩
  |ref l' i v off =>
   dsimp only;split
   ·refine⟨?_,.refl _⟩;simp only[D.low,av];omega
   ·exact⟨rfl,.refl _⟩
  |iN l' i =>
   dsimp only;split
   ·refine⟨?_,.refl _⟩;simp only[D.low,av];omega
   ·exact⟨rfl,.refl _⟩
  |sl l' i v off m w =>
   dsimp only;split
   ·refine⟨?_,.refl _⟩;simp only[D.low,av];omega
   ·split
    ·rename_i cs hcs;obtain⟨h1,h2⟩:=ih ((cs.drop off).take (m*w)) (aN σ l' i .dead);exact⟨h1,(dH.set (b:=.dead) fun _=>trivial).trans h2⟩
    ·exact⟨rfl,.refl _⟩
  |_=>exact⟨rfl,.refl _⟩
theorem s9(l n:Nat)(ds:List D):∀(σ:SK),D.jw (l+1) (cb.frzL (cb l n) ds σ).1=true∧dH σ (cb.frzL (cb l n) ds σ).2:=by
 induction ds with
 |nil=>intro σ;exact⟨rfl,.refl _⟩
 |cons d ds ihd =>
  intro σ;obtain⟨h1,h2⟩:=pY l n d σ;obtain⟨h3,h4⟩:=ihd (cb l n d σ).2;simp only[cb.frzL,D.jw,ak];exact⟨⟨h1,h3⟩,h2.trans h4⟩
theorem vG(l:Nat):∀(e:Env) (σ:SK),(∀p∈(kJ l e σ).1,p.2.low (l+1)=true)∧dH σ (kJ l e σ).2
 |[],σ=>⟨by simp[kJ],.refl _⟩
 |(t,d)::e,σ=>by
  obtain⟨h1,h2⟩:=pY l deep d σ;obtain⟨h3,h4⟩:=vG l e (cb l deep d σ).2;simp only[kJ];refine⟨?_,h2.trans h4⟩;intro p hp;rcases bj.1 hp with rfl | hp
  ·exact h1
  ·exact h3 p hp
theorem re{σ:SK}(h:kX σ){l i v:Nat}{cs:List D}(hc:cells? σ l i v=some cs)(hl:l+1<σ.length):D.jw (l+1) cs=true:=by
 unfold cells? at hc;split at hc
 case h_2=>cases hc
 rename_i v' cs' hb;split at hc
 case isFalse=>cases hc
 cases hc;exact h l i _ hb hl
theorem sB{n:Nat}{a b:List D}:D.jw n (a++b)=true↔D.jw n a=true∧D.jw n b=true:=by
 simp only[sC,aX];exact⟨fun h=>⟨fun d hd=>h d (.inl hd),fun d hd=>h d (.inr hd)⟩,fun h d hd=>hd.elim (h.1 d) (h.2 d)⟩
theorem zo{n k:Nat}{a:List D}(h:D.jw n a=true):D.jw n (a.take k)=true:=by
 rw[sC]at h ⊢;exact fun d hd=>h d (cq hd)
theorem zn{n k:Nat}{a:List D}(h:D.jw n a=true):D.jw n (a.drop k)=true:=by
 rw[sC]at h ⊢;exact fun d hd=>h d (cp hd)
theorem Jn{σ σ':SK}{d:D}{o:Mo}{ds:List D}(h:vk σ o ds=some (d,σ'))(hk:o.calm=true):σ'=σ:=by
 unfold vk at h;split at h
 ·simp[Mo.calm]at hk
 ·simp[Mo.calm]at hk
 ·split at h
  ·split at h
   ·split at h<;>first | (cases h;done) | (cases h;rfl)
   ·cases h
  ·cases h
 ·simp[Mo.calm]at hk
 ·simp only[ab,ai]at h;obtain⟨_,_,_,rfl⟩:=h;rfl
 ·simp[Mo.calm]at hk
 ·split at h
  ·split at h
   ·split at h
    ·split at h
     ·cases h;rfl
     ·cases h
    ·cases h
   ·cases h
  ·cases h
 ·cases h
theorem Jk{σ σ':SK}{d:D}{o:Me}{ds:List D}(h:Vc σ o ds=some (d,σ')):σ'=σ:=by
 unfold Vc at h;split at h
 ·cases h
 ·simp only[ah,ab,ai]at h;obtain⟨_,_,_,_,_,rfl⟩:=h;rfl
 ·cases h;rfl
 ·split at h<;>cases h;rfl
 ·split at h<;>cases h;rfl
 ·cases h
theorem BQ{e:Env}{σ σ':SK}{d:D}{k:K}(h:a7 e σ k=some (d,σ'))(hk:k.calm=true):σ'=σ:=by
 by_cases hm:∃o xs,k=.mp o xs
 ·obtain⟨o,xs,rfl⟩:=hm;exact Jn h hk
 by_cases hm':∃o xs,k=.me o xs
 ·obtain⟨o,xs,rfl⟩:=hm';exact Jk h
 cases k<;>(try (exact absurd ⟨_,_,rfl⟩ hm))<;>(try (exact absurd ⟨_,_,rfl⟩ hm'))<;>clear hm hm'<;>simp only[K.calm,al]at hk<;>simp only[a7,aC,reduceCtorEq]at h<;>(repeat' split at h)<;>
  simp only[ab,ah,ae,ai,Prod.exists,reduceCtorEq,exists_eq_left,and_false,exists_false]at h<;>(try split at h)<;>
  simp_all<;>(try (obtain⟨_,_,h⟩:=h;simp_all))<;>(try grind)
theorem DL{e:Env}{σ σ':SK}{d:D}{nb:List (Nat×Nat)}{sz:Nat}{a x:ba}(h:a7 e σ (.st nb sz a x)=some (d,σ')):dH σ σ':=by
 simp only[a7]at h;split at h
 case h_2=>cases h
 split at h
 case h_2=>cases h
 rename_i l i v off hX _ cs hcs;split at h
 case h_2=>cases h
 rename_i p hcells;split at h
 case isFalse=>cases h
 rename_i hc;split at h
 ·rename_i htop;split at h
  ·rename_i p' σ1 hnb;cases h;have hg:=ma _ _ _ _ _ hnb;exact hg.trans (dH.set fun hl=>by have:=hg.len;omega)
  ·cases h
 ·rename_i htop;cases h;obtain⟨h1,h2⟩:=s9 l deep p σ;refine⟨cI.trans h2.len,fun hl=>(h2.low hl).set fun hlt=>?_⟩;have hcl:=re hl hcs (by have:=h2.len;omega);simp only[aF.low,sB];exact⟨⟨zo hcl,h1⟩,zn hcl⟩
theorem xK{e:Env}{σ σ':SK}{d:D}{w bytes:Nat}{s x:ba}(h:a7 e σ (.app w bytes s x)=some (d,σ')):dH σ σ':=by
 simp only[a7,aC,ah]at h;obtain⟨⟨m,xs⟩,he,h⟩:=h;dsimp only at h;split at h
 ·split at h
  case isFalse=>cases h
  split at h
  ·cases h;exact .refl _
  ·simp only[ah]at h;obtain⟨⟨l,i,σ1⟩,hn,h⟩:=h;cases h;exact .new hn
 ·split at h
  case h_2=>cases h
  rename_i l i v off n w' hX _ cs hcs;split at h
  case isFalse=>cases h
  split at h
  ·cases h;exact .set fun hl=>by omega
  ·cases h;obtain⟨h1,h2⟩:=s9 l deep xs σ;refine⟨cI.trans h2.len,fun hl=>(h2.low hl).set fun hlt=>?_⟩;have hcl:=re hl hcs (by have:=h2.len;omega);simp only[aF.low,sB];exact⟨zo (zn hcl),h1⟩
 ·cases h
theorem Ji{n j:Nat}{a:List D}{x:D}(h:D.jw n a=true)(hx:x.low n=true):D.jw n (a.set j x)=true:=by
 rw[sC]at h ⊢;intro d hd;rcases List.mem_or_eq_of_mem_set hd with h1 | rfl
 ·exact h d h1
 ·exact hx
theorem KO{σ σ':SK}{d:D}{o:Mo}{ds:List D}(h:vk σ o ds=some (d,σ')):dH σ σ':=by
 unfold vk at h;split at h
 ·simp only[ab,ai,Prod.exists]at h;obtain⟨l,i,σ1,hn,_,rfl⟩:=h;exact .new hn
 ·simp only[ab,ai,Prod.exists]at h;obtain⟨l,i,σ1,hn,_,rfl⟩:=h;exact .new hn
 ·split at h
  ·split at h
   ·split at h<;>first | (cases h;done) | (cases h;exact .refl _)
   ·cases h
  ·cases h
 ·rename_i ky m k v;split at h
  ·rename_i l i es hm;obtain⟨rfl,hcs⟩:=BA hm;split at h
   case isFalse=>cases h
   rename_i hc;have hlow:l+1<σ.length→k.low (l+1)=true∧v.low (l+1)=true:=fun hl=>by
    rcases hc.2 with h1 | ⟨h1,h2⟩
    ·omega
    ·exact⟨mg h1,mg h2⟩
   split at h
   ·cases h;refine⟨cI,fun hS=>hS.set fun hl=>?_⟩;have hcl:=re hS hcs hl;obtain⟨h1,h2⟩:=hlow hl;simp only[aF.low];exact Ji hcl (by simp[D.low,D.jw,h1,h2])
   ·cases h;refine⟨cI,fun hS=>hS.set fun hl=>?_⟩;have hcl:=re hS hcs hl;obtain⟨h1,h2⟩:=hlow hl;simp only[aF.low,sB];exact⟨hcl,by simp[D.low,D.jw,h1,h2]⟩
   ·cases h
  ·cases h
 ·simp only[ab,ai]at h;obtain⟨_,_,_,rfl⟩:=h;exact .refl _
 ·split at h
  ·simp only[ab,ai,Prod.exists]at h;obtain⟨l,i,σ1,hn,_,rfl⟩:=h;exact .new hn
  ·cases h
 ·split at h
  ·split at h
   ·split at h
    ·split at h
     ·cases h;exact .refl _
     ·cases h
    ·cases h
   ·cases h
  ·cases h
 ·cases h
theorem JF{e:Env}{σ σ':SK}{d:D}:∀{k:K},a7 e σ k=some (d,σ')→dH σ σ'
 |.st ..,h=>DL h
 |.app ..,h=>xK h
 |.JU ..,h=>xK (D8 h)
 |.JV w bytes s x,h=>by
  simp only[a7,ab,Prod.exists]at h;obtain⟨d1,σ1,h1,h2⟩:=h;obtain⟨h3,h4⟩:=pY 0 deep d1 σ1;rw[h2]at h4;exact(xK (by rw[Au];exact h1)).trans h4
 |.Ur x,h=>by
  simp only[a7]at h;split at h
  case h_2=>cases h
  split at h
  case isFalse=>cases h
  split at h
  case h_2=>cases h
  cases h;exact .set fun _=>trivial
 |.Ch nb cs,h=>by
  simp only[a7,aC,ah]at h;obtain⟨⟨cs',σ1⟩,hnb,⟨l,i,σ2⟩,hn,h⟩:=h;cases h;exact(ma _ _ _ _ _ hnb).trans (.new hn)
 |.rC w,h=>by
  simp only[a7,aC,ah]at h;obtain⟨⟨l,i,σ2⟩,hn,h⟩:=h;cases h;exact .new hn
 |.JW nb x,h=>by
  simp only[a7,aC,ah]at h;obtain⟨cs,_,⟨cs',σ1⟩,hnb,⟨l,i,σ2⟩,hn,h⟩:=h;cases h;exact(ma _ _ _ _ _ hnb).trans (.new hn)
 |.xr x,h=>by
  simp only[a7,aC,ah]at h;obtain⟨cs,_,⟨l,i,σ2⟩,hn,h⟩:=h;cases h;exact .new hn
 |.Fb ..,h=>by
  simp only[a7,aC,ah]at h;obtain⟨cs,_,⟨l,i,σ2⟩,hn,h⟩:=h;cases h;exact .new hn
 |.Jl ..,h=>by
  simp only[a7]at h;split at h
  ·split at h
   ·simp only[aC,ah]at h;obtain⟨⟨l,i,σ2⟩,hn,h⟩:=h;cases h;exact .new hn
   ·cases h
  ·cases h
 |.mv _,h=>same h rfl
 |.pick ..,h=>same h rfl
 |.fR ..,h=>by simp[a7]at h
 |.yC _,h=>same h rfl
 |.xu _,h=>by simp[a7]at h
 |.o7 ..,h=>same h rfl
 |.wH ..,h=>same h rfl
 |.ld ..,h=>same h rfl
 |.AD ..,h=>same h rfl
 |.JZ ..,h=>same h rfl
 |.E3 os sz a x,h=>DL (D9 h)
 |.KT ..,h=>same h rfl
 |.uj ..,h=>same h rfl
 |.Ff ..,h=>same h rfl
 |.wM ..,h=>by simp[a7]at h
 |.bin ..,h=>same h rfl
 |.eqv ..,h=>same h rfl
 |.un ..,h=>same h rfl
 |.Fc ..,h=>same h rfl
 |.wo ..,h=>same h rfl
 |.Lf ..,h=>same h rfl
 |.CW ..,h=>same h rfl
 |.yG ..,h=>same h rfl
 |.Wu ..,h=>same h rfl
 |.lH ..,h=>same h rfl
 |.wI ..,h=>same h rfl
 |.Bp ..,h=>same h rfl
 |.yK ..,h=>same h rfl
 |.CA ..,h=>same h rfl
 |.mn ..,h=>same h rfl
 |.mx ..,h=>same h rfl
 |.Un ..,h=>same h rfl
 |.Wn,h=>same h rfl
 |.Uh ..,h=>same h rfl
 |.ext ..,h=>same h rfl
 |.uA ..,h=>same h rfl
 |.mp ..,h=>KO h
 |.me ..,h=>same h rfl
 |.To ..,h=>same h rfl
 |.Ll ..,h=>same h rfl
 |.KS ..,h=>same h rfl
 |.Fg _,h=>by simp[a7]at h
 |.CQ,h=>by simp[a7]at h
 |.call ..,h=>by simp[a7]at h
where
 same {e:Env} {σ σ':SK} {d:D} {k:K} (h:a7 e σ k=some (d,σ')) (hk:k.calm=true):dH σ σ':=by
  rw[BQ h hk];exact .refl _
end Go.Abs
