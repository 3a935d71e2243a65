import Derived.Test.YtfgljaglidhjiaaGreatDoorBase7
import Derived.Test.YtfgljaglidhjiaaGreatDoorBase5
import Derived.MapKept
import Derived.WideKeyRuns
import Derived.Maps.RangeRun
import Derived.Test.YtfgljaglidhjiaaGreatDoorBase4
import Derived.Test.YtfgljaglidhjiaaGreatDoorBase6
set_option linter.all false
namespace Go.Abs
open Go
theorem O3{σ:SK}{d:D}{l i:Nat}{es:List D}(h:BN σ d=some (l,i,es)):d=.mB l i∧cells? σ l i 0=some es:=by
 unfold BN at h;split at h
 ·simp only[ad,an]at h;obtain⟨cs,h1,rfl,rfl,rfl⟩:=h;exact⟨rfl,h1⟩
 ·cases h
theorem LF{ky:Ky}{k:D}:∀{es:List D} {j:Nat} {v:D},re ky k es=some (some (j,v))→∃k',es[j]?=some (.dM [k',v])∧sU ky k k'=some true
 |[],j,v,h=>by simp[re]at h
 |x::es,j,v,h=>by
  unfold re at h;split at h
  ·rename_i heq;cases heq
  ·rename_i k' v' es' heq;cases heq;split at h
   ·rename_i hq;cases h;exact⟨k',rfl,hq⟩
   ·simp only[ad]at h;obtain⟨x1,h1,x2,rfl,h2⟩:=h;cases h2;obtain⟨j0,v0⟩:=x2;obtain⟨k0,h3,h4⟩:=LF h1;exact⟨k0,by simpa using h3,h4⟩
   ·cases h
  ·cases h
section
variable {P:Program} {g:G} {w:World}
theorem J1:∀{ks:List (Option IntKind)} {p q:List D},AG ks p q=some true→p=q
 |[],p,q,h=>by obtain⟨rfl,rfl,_⟩:=vi h;rfl
 |some k::ks,p,q,h=>by
  obtain⟨a,x,c,y,b0,rfl,rfl,h0,hb⟩:=tI h;simp only[Bool.true_eq,af,beq_iff_eq]at hb;obtain⟨rfl,rfl⟩:=hb;rw[J1 h0]
 |none::ks,p,q,h=>by
  obtain⟨a,x,c,y,b0,rfl,rfl,h0,hb⟩:=xu h;simp only[Bool.true_eq,af,beq_iff_eq]at hb;obtain⟨rfl,rfl⟩:=hb;rw[J1 h0]
theorem F9(n:Nat):∀{ks:List (Option IntKind)} {p q:List D} {b:Bool},AG ks p q=some b→∀{xs ys:List Value},bF g p xs→bF g p ys→xs=ys∧(xs.zip ys).all (fun z=>Instr.sameBits n z.1 z.2)=true
 |[],p,q,b,h,xs,ys,hx,hy=>by
  obtain⟨rfl,rfl,_⟩:=vi h;cases hx;cases hy;exact⟨rfl,rfl⟩
 |some k::ks,p,q,b,h,xs,ys,hx,hy=>by
  obtain⟨a,x,c,y,b0,rfl,rfl,h0,hb⟩:=tI h;cases hx with
  |cons _ v1 _ vs1 h1 h2 =>
   cases hy with
   |cons _ v2 _ vs2 h3 h4 =>
    obtain rfl:=h1.fp;obtain rfl:=h3.fp;obtain⟨h5,h6⟩:=F9 n h0 h2 h4;subst h5;exact⟨rfl,by simp only[List.zip_cons_cons,jL,h6,Instr.sameBits,BEq.rfl,Bool.and_self]⟩
 |none::ks,p,q,b,h,xs,ys,hx,hy=>by
  obtain⟨a,x,c,y,b0,rfl,rfl,h0,hb⟩:=xu h;cases hx with
  |cons _ v1 _ vs1 h1 h2 =>
   cases hy with
   |cons _ v2 _ vs2 h3 h4 =>
    obtain rfl:=h1.pk;obtain rfl:=h3.pk;obtain⟨h5,h6⟩:=F9 n h0 h2 h4;subst h5;exact⟨rfl,by simp only[List.zip_cons_cons,jL,h6,Instr.sameBits,BEq.rfl,Bool.and_self]⟩
theorem ap6{a b:ByteArray}(h:a.data.toList=b.data.toList):a=b:=by
 apply ByteArray.ext;exact gR.1 h
theorem ag5{ky:Ky}{a b:D}{x y:Value}(h:sU ky a b=some true)(hx:bK g a x)(hy:bK g b y):x=y∧Instr.sameBits 10000 y x=true:=by
 unfold sU at h;split at h
 ·split at h
  ·rename_i s1 s2;simp only[ae,beq_iff_eq]at h;subst h;obtain⟨b1,rfl,h1⟩:=hx.my;obtain⟨b2,rfl,h2⟩:=hy.my;obtain rfl:=ap6 (h1.trans h2.symm);exact⟨rfl,by rw[Instr.sameBits,beq_toListBytes];exact beq_self_eq_true _⟩
  ·cases h
 ·rename_i ag ks;split at h
  ·rename_i p q hp hq;obtain rfl:=J1 h;have h1:=vw hx hp;have h2:=vw hy hq;cases ag with
   |true =>
    simp only[vy,if_true]at h1 h2;obtain⟨xs,rfl,h3,_⟩:=h1;obtain⟨ys,rfl,h4,_⟩:=h2;obtain⟨h5,h6⟩:=F9 9999 h h4 h3;obtain rfl:=gR.1 h5;exact⟨rfl,by simp only[Instr.sameBits,BEq.rfl,Bool.true_and];exact h6⟩
   |false =>
    simp only[vy,az,if_false]at h1 h2;obtain⟨h5,h6⟩:=F9 10000 h h2 h1;simp only[kF,and_true]at h5;subst h5;exact⟨rfl,by simpa using h6⟩
  ·cases h
theorem J9{t:TypeId}{ky:Ky}(h:J8 P t=some ky):(P.underlying t=some .string∧ky=none)∨(∃k,P.underlying t=some (.int k)∧ky=some (false,[some k])) ∨
  ∃fs ks,P.underlying t=some (.struct fs)∧mI P 20 t=some ks∧ky=some (true,ks)∧fs.toList.all (fun f=>match P.underlying f.type with | some (.int _)=>true | some .bool=>true | _=>false)=true:=by
 unfold J8 at h;split at h
 ·rename_i hu;cases h;exact .inl ⟨hu,rfl⟩
 ·rename_i k hu;cases h;exact .inr (.inl ⟨k,hu,rfl⟩)
 ·rename_i fs hu;split at h
  ·rename_i hall;obtain⟨ks,hks,rfl⟩:=ad.1 h;exact .inr (.inr ⟨fs,ks,hu,hks,rfl,hall⟩)
  ·cases h
 ·cases h
theorem LP{t:TypeId}{ky:Ky}(hk:J8 P t=some ky){a b:D}{c:Bool}{x y:Value}(h:sU ky a b=some c)(hx:bK g a x)(hy:bK g b y):(Op.equal t x y).run P w=.ok c w:=by
 have key:∀ag ks,mI P 20 t=some ks→uV P t=some ag→sU (some (ag,ks)) a b=some c→(Op.equal t x y).run P w=.ok c w:=by
  intro ag ks hks hag hq;simp only[sU]at hq;split at hq
  case h_2=>cases hq
  rename_i p q hp hq2;obtain⟨ag',hag',_,hEq⟩:=Gm (P:=P) (g:=g) (w:=w) 20 t ks hks;rw[hag]at hag';cases hag';exact hEq 10000 (by omega) p q x y c (vw hx hp) (vw hy hq2) hq
 rcases J9 hk with⟨hu,rfl⟩ | ⟨k,hu,rfl⟩ | ⟨fs,ks,hu,hks,rfl,_⟩
 ·simp only[sU]at h;split at h
  case h_2=>cases h
  rename_i s1 s2;cases h;obtain⟨b1,rfl,h1⟩:=hx.my;obtain⟨b2,rfl,h2⟩:=hy.my;have:=run_equalIn_string (P:=P) w 9999 t b1 b2 hu;simp only[Op.equal,Op.maxDepth];rw[this,ByteArray.toList_eq,ByteArray.toList_eq,h1,h2]
 ·exact key false [some k] (by simp[mI,hu]) (by simp[uV,hu]) h
 ·exact key true ks hks (by simp[uV,hu]) h
def Found(dK:List MapEntry)(r:Option (Nat×D))(g:G)(o:Option (Nat×Value))(i:Nat):Prop :=
 match r with
 |none=>o=none
 |some (j,v)=>∃e,dK[j]?=some e∧o=some (i+j,e.val)∧bK g v e.val
theorem Nx{k v:D}{a b:Value}(h:bK g (.dM [k,v]) (.tuple #[a,b])):bK g k a∧bK g v b:=by
 cases h with
 |dM _ _ hr =>
  cases hr with
  |cons _ _ _ _ h1 h2=>cases h2 with | cons _ _ _ _ h3 h4=>exact⟨h1,h3⟩
theorem JJ{t:TypeId}{ky:Ky}(hk:J8 P t=some ky){k:D}{x:Value}(hx:bK g k x):∀(es:List D) (dK:List MapEntry) (r:Option (Nat×D)) (i:Nat),bF g es (dK.map fun e => .tuple #[e.key,e.val])→re ky k es=some r →
  ∃o,(Instr.findAsking t x dK i).run P w=.ok o w∧Found dK r g o i
 |[],dK,r,i,hr,h=>by
  cases dK with
  |nil=>simp only[re,ae]at h;subst h;exact⟨none,by simp[Instr.findAsking],rfl⟩
  |cons e dK=>cases hr
 |d::es,dK,r,i,hr,h=>by
  cases dK with
  |nil=>cases hr
  |cons e dK =>
   rw[aQ]at hr;cases hr with
   |cons _ _ _ _ hr1 hr2 =>
   unfold re at h;split at h
   ·rename_i heq;cases heq
   ·rename_i k' v es' heq;cases heq;obtain⟨hk1,hv1⟩:=Nx hr1;split at h
    ·rename_i hq;cases h;have he:=LP (w:=w) hk hq hx hk1;refine⟨some (i,e.val),by simp[Instr.findAsking,he],e,rfl,by simp,hv1⟩
    ·rename_i hq;simp only[ad]at h;obtain⟨r1,h1,rfl⟩:=h;have he:=LP (w:=w) hk hq hx hk1;obtain⟨o,ho,hf⟩:=JJ hk hx es dK r1 (i+1) hr2 h1;refine⟨o,by simp[Instr.findAsking,he,ho],?_⟩;cases r1 with
     |none=>exact hf
     |some y =>
      obtain⟨e1,h3,h4,h5⟩:=hf;exact⟨e1,by simpa using h3,by rw[h4];congr 2;omega,h5⟩
    ·cases h
   ·cases h
theorem M5{t:TypeId}{ky:Ky}{dsc:TypeDesc}{k:D}{x:Value}(hs:∀k' y c,sU ky k k'=some c→bK g k' y→Instr.sameNow dsc x y=some c):∀(es:List D) (dK:List MapEntry) (r:Option (Nat×D)) (i:Nat),bF g es (dK.map fun e => .tuple #[e.key,e.val])→re ky k es=some r →
  ∃o,Instr.findNow dsc x dK i=some o∧Found dK r g o i
 |[],dK,r,i,hr,h=>by
  cases dK with
  |nil=>simp only[re,ae]at h;subst h;exact⟨none,by simp[Instr.findNow],rfl⟩
  |cons e dK=>cases hr
 |d::es,dK,r,i,hr,h=>by
  cases dK with
  |nil=>cases hr
  |cons e dK =>
   rw[aQ]at hr;cases hr with
   |cons _ _ _ _ hr1 hr2 =>
   unfold re at h;split at h
   ·rename_i heq;cases heq
   ·rename_i k' v es' heq;cases heq;obtain⟨hk1,hv1⟩:=Nx hr1;split at h
    ·rename_i hq;cases h;exact⟨some (i,e.val),by simp[Instr.findNow,hs _ _ _ hq hk1],e,rfl,by simp,hv1⟩
    ·rename_i hq;simp only[ad]at h;obtain⟨r1,h1,rfl⟩:=h;obtain⟨o,ho,hf⟩:=M5 (t:=t) hs es dK r1 (i+1) hr2 h1;refine⟨o,by simp[Instr.findNow,hs _ _ _ hq hk1,ho],?_⟩;cases r1 with
     |none=>exact hf
     |some y =>
      obtain⟨e1,h3,h4,h5⟩:=hf;exact⟨e1,by simpa using h3,by rw[h4];congr 2;omega,h5⟩
    ·cases h
   ·cases h
theorem yy{t:TypeId}{ky:Ky}(hk:J8 P t=some ky){k:D}{x:Value}(hx:bK g k x){es:List D}{dK:List MapEntry}{r:Option (Nat×D)}(hr:bF g es (dK.map fun e => .tuple #[e.key,e.val]))(h:re ky k es=some r)
  (hself:(sU ky k k).isSome=true):∃o,(Instr.findKey t x dK).run P w=.ok o w∧Found dK r g o 0:=by
 rcases J9 hk with⟨hu,rfl⟩ | ⟨kk,hu,rfl⟩ | ⟨fs,ks,hu,hks,rfl,_⟩
 ·obtain⟨o,h1,h2⟩:=M5 (t:=t) (ky:=none) (k:=k) (x:=x) (dsc:=.string) (fun k' y c hq hy=>by
   simp only[sU]at hq;split at hq
   case h_2=>cases hq
   cases hq;obtain⟨b1,rfl,h1⟩:=hx.my;obtain⟨b2,rfl,h2⟩:=hy.my;simp only[Instr.sameNow];rw[beq_toListBytes,ByteArray.toList_eq,ByteArray.toList_eq,h1,h2]) es dK r 0 hr h
  exact⟨o,MapKept.run_findKey hu h1,h2⟩
 ·obtain⟨o,h1,h2⟩:=M5 (t:=t) (ky:=some (false,[some kk])) (k:=k) (x:=x) (dsc:=.int kk) (fun k' y c hq hy=>by
   simp only[sU]at hq;split at hq
   case h_2=>cases hq
   rename_i p q hp hq2;have hx1:=vw hx hp;have hy1:=vw hy hq2;simp only[vy,az,if_false]at hx1 hy1;obtain⟨a,xs,b,ys,b0,rfl,rfl,h0,rfl⟩:=tI hq;obtain⟨rfl,rfl,rfl⟩:=vi h0;cases hx1 with
   |cons _ _ _ _ g1 _ =>
    cases hy1 with
    |cons _ _ _ _ g2 _ =>
     obtain rfl:=g1.fp;obtain rfl:=g2.fp;simp[Instr.sameNow]) es dK r 0 hr h
  exact⟨o,MapKept.run_findKey hu h1,h2⟩
 ·obtain⟨o,h1,h2⟩:=JJ (w:=w) hk hx es dK r 0 hr h;refine⟨o,?_,h2⟩;rw[run_findKey_eq w (by simp[hu])];exact h1
theorem Bb(em:Bool){xs:Array Value}{p:List D}(hx:bF g p xs.toList)(h1x:∀y∈xs.toList,y.oneCell'=true):
  ∀(fs:List Field) (o:Nat) (ks:List (Option IntKind)) (q:List D) (b:Bool),mI.kindsF P (mI P 19) o fs=some ks→fs.all (fun f=>match P.underlying f.type with | some (.int _)=>true | some .bool=>true | _=>false)=true →
   AG ks (p.drop o) q=some b →
   (forIn (m:=Sem) fs PUnit.unit fun f _=>do
    if f.name ≠ "_" then Instr.checkKey em 9999 f.type (← part f.type xs f.offset)
    pure (ForInStep.yield PUnit.unit)).run P w=.ok PUnit.unit w
 |[],o,ks,q,b,hk,ha,he=>by simp
 |f::fs,o,ks,q,b,hk,ha,he=>by
  simp only[mI.kindsF]at hk;split at hk
  case h_2=>cases hk
  rename_i k1 hk1;split at hk
  case isFalse=>cases hk
  rename_i hc;obtain⟨hname,hoff,hsz,hpos⟩:=hc;simp only[ad]at hk;obtain⟨k2,hk2,rfl⟩:=hk;simp only[jL,af]at ha;obtain⟨l1,l2⟩:=C5 _ _ _ _ he;obtain⟨b1,b2,e1,e2,rfl⟩:=xr _ _ _ _ _ he;simp only[bB,List.length_drop]at l1 l2;have ih:=Bb em hx h1x fs (o+k1.length) k2 (q.drop k1.length) b2 hk2 ha.2 (by simpa[lM]using e2);have one:∃a,(part f.type xs o).run P w=.ok a w∧(Instr.checkKey em 9999 f.type a).run P w=.ok () w:=by
   have h0:=ha.1;split at h0
   ·rename_i k hu;have hk1':k1=[some k]:=by simp[mI,hu]at hk1;exact hk1.symm
    subst hk1';obtain⟨a,hpa,hra⟩:=De (P:=P) (w:=w) (ag:=false) (n:=1) (o:=o) (by simp[uV,hu]) hsz (fun _=>rfl) hx h1x (by simp only[aL,bG]at l1 ⊢;omega);simp only[vy,az,if_false]at hra;obtain⟨a0,x0,c0,y0,b0,e3,_,_,_⟩:=tI e1;simp only[aL,bG,cf]at e3;rw[e3]at hra;cases hra with
    |cons _ _ _ _ g1 g2 =>
     obtain rfl:=g1.fp;exact⟨_,hpa,MapKept.run_checkKey (d:=.int k) hu (by simp[MapKept.IsKey]) em 9998⟩
   ·rename_i hu;have hk1':k1=[none]:=by simp[mI,hu]at hk1;exact hk1.symm
    subst hk1';obtain⟨a,hpa,hra⟩:=De (P:=P) (w:=w) (ag:=false) (n:=1) (o:=o) (by simp[uV,hu]) hsz (fun _=>rfl) hx h1x (by simp only[aL,bG]at l1 ⊢;omega);simp only[vy,az,if_false]at hra;obtain⟨a0,x0,c0,y0,b0,e3,_,_,_⟩:=xu e1;simp only[aL,bG,cf]at e3;rw[e3]at hra;cases hra with
    |cons _ _ _ _ g1 g2 =>
     obtain rfl:=g1.pk;exact⟨_,hpa,MapKept.run_checkKey (d:=.bool) hu (by simp[MapKept.IsKey]) em 9998⟩
   ·cases h0
  obtain⟨a,h1,h2⟩:=one;rw[List.forIn_cons];rw[hoff];simp only[hname,ne_eq,not_false_eq_true,if_true,Sem.run_bind,h1,h2,Result.andThen_ok,Sem.run_pure];exact ih
theorem F5{t:TypeId}{ky:Ky}(hk:J8 P t=some ky){k:D}{x:Value}(hx:bK g k x)(hself:(sU ky k k).isSome=true)(em:Bool):(Instr.checkKey em 10000 t x).run P w=.ok () w:=by
 rcases J9 hk with⟨hu,rfl⟩ | ⟨kk,hu,rfl⟩ | ⟨fs,ks,hu,hks,rfl,hall⟩
 ·refine MapKept.run_checkKey (d:=.string) hu ?_ em 9999;obtain⟨c,hc⟩:=dB.1 hself;simp only[sU]at hc;split at hc
  case h_2=>cases hc
  obtain⟨b1,rfl,h1⟩:=hx.my;simp[MapKept.IsKey]
 ·refine MapKept.run_checkKey (d:=.int kk) hu ?_ em 9999;obtain⟨c,hc⟩:=dB.1 hself;simp only[sU]at hc;split at hc
  case h_2=>cases hc
  rename_i p q hp hq2;have hx1:=vw hx hp;simp only[vy,az,if_false]at hx1;obtain⟨a,xs,b,ys,b0,rfl,_,h0,rfl⟩:=tI hc;obtain⟨rfl,_,rfl⟩:=vi h0;cases hx1 with
  |cons _ _ _ _ g1 _ =>
   obtain rfl:=g1.fp;simp[MapKept.IsKey]
 ·obtain⟨c,hc⟩:=dB.1 hself;simp only[sU]at hc;split at hc
  case h_2=>cases hc
  rename_i p q hp hq2;have hx1:=vw hx hp;simp only[vy,if_true]at hx1;obtain⟨xs,rfl,hxr,h1x⟩:=hx1;have hks':mI.kindsF P (mI P 19) 0 fs.toList=some ks:=by
   have:=hks;rw[mI,hu]at this;dsimp only at this;split at this
   ·cases this
   ·exact this
  have hrun:=Bb (P:=P) (w:=w) em hxr h1x fs.toList 0 ks q c hks' hall (by simpa using hc);rw[show(10000:Nat)=9999+1 from rfl,Instr.checkKey];simp only[Sem.run_bind,run_underlying hu,Result.andThen_ok];rw[← Array.forIn_toList];simp at hrun ⊢;rw[hrun];rfl
end
section
variable {P:Program} {CR:gC} {base fb:Nat} {V:List Nat} {g:G} {σ σ':SK} {w:World} {B:Nat→Nat} {e:Env} {tmps:Array Value} {df:List Deferred} {d:D}
theorem Inv.ahr(hi:Inv CR base g σ w){l i:Nat}(hn:ij σ (.cells 0 [])=some (l,i,σ')):
  Inv CR base (g.cJ l i (.mp w.heap.size)) σ' (w.alloc (.map #[] 0))∧Ev g w (g.cJ l i (.mp w.heap.size)) (w.alloc (.map #[] 0)):=by
 obtain⟨h1,h2,h3,_,_⟩:=j7 hn;have hnone:=hi.Dc h1;have hle:g.le (g.cJ l i (.mp w.heap.size)):=G.kA fun L0 e=>by rw[hnone]at e;cases e
 refine⟨hi.HP l i hle h3 (fun l' i' c=>G.bE c) (fun l' i' L b c e eb=>alloc_old (hi.lo l' i' L b e eb).2) ?_ ?_ ?_ ?_ (by simp) ⟨_,G.aH⟩ (fun b v hb=>alloc_old (hi.jG hb)),⟨hle,rfl,rfl,rfl,by simp,fun b hb _=>alloc_old hb,?_,fun b o v hv => .inl hv⟩⟩
 ·intro L e;rw[G.aH]at e;cases e;exact⟨_,h2,rfl,#[],0,sY,.nil,by simp[Rl]⟩
 ·intro b o v e;obtain⟨h1,h2⟩:=hi.rk b o v e;exact⟨(jV (alloc_old (hi.jG e))).trans h1,h2⟩
 ·intro l' i' L b e eb o;by_cases c:l'=l∧i'=i
  ·obtain⟨rfl,rfl⟩:=c;rw[G.aH]at e;cases e;cases eb;cases e':(g.cJ l' i' (.mp w.heap.size)).rk w.heap.size o with
   |none=>rfl
   |some v=>have:=hi.jG (b:=w.heap.size) (o:=o) (v:=v) e';omega
  ·rw[G.bE c]at e;exact hi.sep l' i' L b e eb o
 ·intro L b e eb;rw[G.aH]at e;cases e;cases eb;refine⟨hi.ge,by simp,fun l' i' L' c e' eb'=>?_⟩;have:=(hi.lo l' i' L' _ e' eb').2;omega
 ·intro b hb;obtain⟨l',i',L,e,eb⟩:=hb;by_cases c:l'=l∧i'=i
  ·obtain⟨rfl,rfl⟩:=c;rw[G.aH]at e;cases e;cases eb;exact .inr (aK _)
  ·rw[G.bE c]at e;exact .inl ⟨l',i',L,e,eb⟩
theorem Inv.at0(hi:Inv CR base g σ w){l i T ee:Nat}(hn:ij σ (.cells 2 [.int .i64 (T:Nat),.int .i64 (ee:Nat),.str []])=some (l,i,σ')):
  Inv CR base (g.cJ l i (.ob w.heap.size none)) σ' (w.alloc (.cells #[.pointer none,.slice none 0 0] T))∧Ev g w (g.cJ l i (.ob w.heap.size none)) (w.alloc (.cells #[.pointer none,.slice none 0 0] T)):=by
 obtain⟨h1,h2,h3,_,_⟩:=j7 hn;have hnone:=hi.Dc h1;have hle:g.le (g.cJ l i (.ob w.heap.size none)):=G.kA fun L0 e=>by rw[hnone]at e;cases e
 have hown:∀b,(Loc.ob w.heap.size none).owns b→w.heap.size=b:=fun b h=>by
  rcases h with h | h
  ·exact h
  ·cases h
 refine⟨hi.HP l i hle h3 (fun l' i' c=>G.bE c) (fun l' i' L b c e eb=>alloc_old (hi.lo l' i' L b e eb).2) ?_ ?_ ?_ ?_ (by simp) ⟨_,G.aH⟩ (fun b v hb=>alloc_old (hi.jG hb)),⟨hle,rfl,rfl,rfl,by simp,fun b hb _=>alloc_old hb,?_,fun b o v hv => .inl hv⟩⟩
 ·intro L e;rw[G.aH]at e;cases e;exact⟨_,h2,rfl,T,ee,[],.pointer none,.slice none 0 0,rfl,sY,.inl rfl,World.ownsRowF_nil _ _ _ _,rfl,by simp⟩
 ·intro b o v e;obtain⟨h1,h2⟩:=hi.rk b o v e;exact⟨(jV (alloc_old (hi.jG e))).trans h1,h2⟩
 ·intro l' i' L b e eb o;by_cases c:l'=l∧i'=i
  ·obtain⟨rfl,rfl⟩:=c;rw[G.aH]at e;cases e;obtain rfl:=hown b eb;cases e':(g.cJ l' i' (.ob w.heap.size none)).rk w.heap.size o with
   |none=>rfl
   |some v=>have:=hi.jG (b:=w.heap.size) (o:=o) (v:=v) e';omega
  ·rw[G.bE c]at e;exact hi.sep l' i' L b e eb o
 ·intro L b e eb;rw[G.aH]at e;cases e;obtain rfl:=hown b eb;refine⟨hi.ge,by simp,fun l' i' L' c e' eb'=>?_⟩;have:=(hi.lo l' i' L' _ e' eb').2;omega
 ·intro b hb;obtain⟨l',i',L,e,eb⟩:=hb;by_cases c:l'=l∧i'=i
  ·obtain⟨rfl,rfl⟩:=c;rw[G.aH]at e;cases e;obtain rfl:=hown b eb;exact .inr (aK _)
  ·rw[G.bE c]at e;exact .inl ⟨l',i',L,e,eb⟩
theorem Inv.ahM(hi:Inv CR base g σ w){l i b:Nat}{b0:aF}{es:List D}(hL:g.loc l i=some (.mp b))(hb:ej σ l i=some b0){dK:Array MapEntry}{clock:Nat}
  (hr:bF g es (dK.toList.map fun e => .tuple #[e.key,e.val])) (hm:Rl dK.toList clock) {w':World} (hw:w'={w with heap:=w.heap.setIfInBounds b (.map dK clock) }):
  Inv CR base (g.cJ l i (.mp b)) (aW σ l i (.cells 0 es)) w'∧Ev g w (g.cJ l i (.mp b)) w':=by
 subst hw;have hlt:=(hi.lo l i _ b hL rfl).2;have hle:g.le (g.cJ l i (.mp b)):=G.kA fun L0 e=>by rw[hL]at e;cases e;exact Loc.le_refl _
 refine hi.setCells hL hb (Loc.le_refl _) ⟨rfl,dK,clock,by simp[hlt],hr.mono hle,hm⟩ (fun b' hb' hne=>?_) rfl rfl rfl (by simp) (fun b' hb' => .inl hb');have:b≠b':=fun hh=>hne (by rw[hh];rfl)
 simp[this]
theorem zT(hi:Inv CR base g σ w){m:D}{c:Value}(hr:bK g m c){l i:Nat}{es:List D}(h:BN σ m=some (l,i,es)):
  ∃b dK clock v,c=.map (some b)∧g.loc l i=some (.mp b)∧ej σ l i=some (.cells v es)∧w.heap[b]?=some (.map dK clock)∧bF g es (dK.toList.map fun e => .tuple #[e.key,e.val])∧Rl dK.toList clock:=by
 obtain⟨rfl,hcs⟩:=O3 h;unfold cells? at hcs;split at hcs
 case h_2=>cases hcs
 rename_i v' cs' hblk;split at hcs
 case isFalse=>cases hcs
 cases hcs;cases hr with
 |mB _ _ b hl =>
  obtain⟨b0,hb0,hrel⟩:=hi.xU l i _ hl;rw[hblk]at hb0;cases hb0;exact hrel.elim
 |Tw _ _ b hl =>
  obtain⟨b0,hb0,hrel⟩:=hi.xU l i _ hl;rw[hblk]at hb0;cases hb0;obtain⟨_,dK,clock,h1,h2,h3⟩:=hrel;exact⟨b,dK,clock,v',rfl,hl,hblk,h1,h2,h3⟩
 |itv _ _ b L hl hc =>
  obtain⟨b0,hb0,hrel⟩:=hi.xU l i _ hl;rw[hblk]at hb0;cases hb0;rcases hc with rfl | rfl
  ·rename_i hv0;obtain⟨hv1,_⟩:=hrel;omega
  ·exact hrel.elim
 |Um _ _ b L hl hc =>
  obtain⟨b0,hb0,hrel⟩:=hi.xU l i _ hl;rw[hblk]at hb0;cases hb0;rcases hc with⟨c,rfl⟩ | rfl
  ·rename_i hv0;obtain⟨hv1,_⟩:=hrel;omega
  ·exact hrel.elim
theorem ay7(hi:Inv CR base g σ w){t:TypeId}{ρ:Operand→Value}(h:bN e σ (.mp .make [])=some (d,σ'))(o:Oper)(ho:o.op=.makeMap t none):fY P CR base g w B e ρ o d σ':=by
 simp only[bN,bV,BO,ad,an,Prod.exists]at h;obtain⟨l,i,σ1,hn,rfl,rfl⟩:=h;obtain⟨i1,e1⟩:=hi.ahr hn;exact .val (.map (some w.heap.size)) (by
  have hrun:(Instr.makeMap t none).run P w=.ok (.map (some w.heap.size)) (w.alloc (.map #[] 0)):=rfl;simp only[execOp,ho,Option.map_none,Sem.run_bind,hrun,Result.andThen_ok,Sem.run_pure]) e1 i1 (.Tw l i _ G.aH)
theorem ay4(hi:Inv CR base g σ w){el ee:TypeId}{ρ:Operand→Value}(hz:rT P el=some [.xH,.aG])
  (h:bN e σ (.mp (.lK el ee) [])=some (d,σ')) (o:Oper) (ho:o.op=.alloc el):fY P CR base g w B e ρ o d σ':=by
 obtain⟨i0,v,hinfo,hzero,hrz,h1⟩:=tn g hz;simp only[bN,bV,BO,ad,an,Prod.exists]at h;obtain⟨l,i,σ1,hn,rfl,rfl⟩:=h;obtain⟨i1,e1⟩:=hi.at0 hn;have hv:v.cells = #[.pointer none,.slice none 0 0]:=by
  generalize v.cells=a at hrz;obtain⟨a⟩:=a;dsimp only at hrz;cases hrz with
  |cons _ c _ cs k1 k2 =>
   cases k2 with
   |cons _ c2 _ cs2 k3 k4 =>
    cases k4;cases k1;cases k3;rfl
 have hrun:=HL (w:=w) hinfo hzero;rw[hv]at hrun;exact .val (.pointer (some ⟨w.heap.size,0,none⟩)) (by simp[execOp,ho,hrun]) e1 i1 (.Um l i _ _ G.aH (.inl ⟨_,rfl⟩))
theorem auP(hi:Inv CR base g σ w){t kt et:TypeId}{ik:IntKind}{n:Int}(h:bN e σ (.mp .make [])=some (d,σ'))(ht:P.underlying t=some (.map kt et))(o:Oper)(ho:o.op=.makeMap t (some (.const (.int ik n)))):fY P CR base g w B e (Act.mk tmps df).eval o d σ':=by
 simp only[bN,bV,BO,ad,an,Prod.exists]at h;obtain⟨l,i,σ1,hn,rfl,rfl⟩:=h;obtain⟨i1,e1⟩:=hi.ahr hn;exact .val (.map (some w.heap.size)) (by
  have hrun:(Instr.makeMap t (some (.int ik n))).run P w=.ok (.map (some w.heap.size)) (w.alloc (.map #[] 0)):=by
   simp only[Instr.makeMap,Sem.run_bind,bq ht,Result.andThen_ok];rfl
  have hev:(Act.mk tmps df).eval (.const (.int ik n))=.int ik n:=rfl;simp only[execOp,ho,aU,hev,Sem.run_bind,hrun,Result.andThen_ok,Sem.run_pure]) e1 i1 (.Tw l i _ G.aH)
theorem auQ(hf:Fr fb V g w B e tmps)(hi:Inv CR base g σ w){x:Operand}{X:bM}{t kt et:TypeId}{args:Array Operand}{ts:Array TypeId}{r:List Operand}{tr:List TypeId}(hx:bH x=some X)
  (ht:P.underlying t=some (.map kt et)) (ha:args.toList=x::r) (hts:ts.toList=t::tr)
  (h:bN e σ (.mp .len [X])=some (d,σ')) (o:Oper) (ho:o.op=.call {callee:=.builtin .len,args,argTypes:=ts }):fY P CR base g w B e (Act.mk tmps df).eval o d σ':=by
 have hr:=hf.bj (df:=df) hx;obtain rfl:args=(x::r).toArray:=by rw[← ha]
 obtain rfl:ts=(t::tr).toArray:=by rw[← hts]
 simp only[bN,aQ,bV,BO,ad,an,Prod.exists]at h;obtain⟨l,i,es,hm,rfl,rfl⟩:=h;obtain⟨b,dK,clock,v,hc,hl,hblk,hheap,hrel,hok⟩:=zT hi hr hm;have hlen:=hrel.length;simp only[dP,Array.length_toList]at hlen;refine .pure hi (c:=.int .i64 dK.size) ?_ (by rw[hlen];exact cK.of (.int _ _));simp[execOp,ho,resolve,invoke,builtin,Builtin.len_,hc,bq ht,goInt,MapKept.run_getObj_map hheap]
theorem Nz{t:TypeId}{z:D}(g:G)(h:zvC P t=some z):∃i v,P.info? t=some i∧i.zero=some v∧bK g z v:=by
 unfold zvC at h;split at h
 ·rename_i i hi;split at h
  ·rename_i v hv;exact⟨i,v,hi,hv,JR g h⟩
  ·cases h
 ·cases h
theorem auO(hf:Fr fb V g w B e tmps)(hi:Inv CR base g σ w){x y:Operand}{X Y:bM}{t kt et:TypeId}{ky:Ky}{z:D}{ok:Bool}(hx:bH x=some X)(hy:bH y=some Y)
  (ht:P.underlying t=some (.map kt et)) (hk:J8 P kt=some ky) (hz:zvC P et=some z)
  (h:bN e σ (.mp (.get ky z ok) [X,Y])=some (d,σ')) (o:Oper) (ho:o.op=.lookup t x y ok):fY P CR base g w B e (Act.mk tmps df).eval o d σ':=by
 have hr:=hf.bj (df:=df) hx;have hr':=hf.bj (df:=df) hy;simp only[bN,aQ,bV,BO]at h;split at h
 case h_2=>cases h
 rename_i l i es hm;split at h
 case isFalse=>cases h
 rename_i hself;obtain⟨b,dK,clock,v,hc,hl,hblk,hheap,hrel,hok⟩:=zT hi hr hm;have hck:=F5 (w:=w) hk hr' hself dK.isEmpty;obtain⟨iz,zv,hz1,hz2,hz3⟩:=Nz g hz;split at h
 ·rename_i j v1 hfk;cases h;obtain⟨o1,ho1,e1,_,rfl,hv1⟩:=yy (w:=w) hk hr' hrel hfk hself;cases ok
  ·refine .pure hi (c:=e1.val) ?_ (cK.of (by simpa using hv1));simp[execOp,ho,Instr.lookup,bq ht,hc,MapKept.run_getObj_map hheap,hck,ho1]
  ·refine .pure hi (c:=.tuple #[e1.val,.bool true]) ?_ (cK.of (by simpa using bK.dM _ #[e1.val,.bool true] (.cons _ _ _ _ hv1 (.cons _ _ _ _ (.bool true) .nil))));simp[execOp,ho,Instr.lookup,bq ht,hc,MapKept.run_getObj_map hheap,hck,ho1]
 ·rename_i hfk;cases h;obtain⟨o1,ho1,hf1⟩:=yy (w:=w) hk hr' hrel hfk hself;obtain rfl:o1=none:=hf1;cases ok
  ·refine .pure hi (c:=zv) ?_ (cK.of (by simpa using hz3));simp[execOp,ho,Instr.lookup,bq ht,hc,MapKept.run_getObj_map hheap,hck,ho1,iq hz1 hz2]
  ·refine .pure hi (c:=.tuple #[zv,.bool false]) ?_ (cK.of (by simpa using bK.dM _ #[zv,.bool false] (.cons _ _ _ _ hz3 (.cons _ _ _ _ (.bool false) .nil))));simp[execOp,ho,Instr.lookup,bq ht,hc,MapKept.run_getObj_map hheap,hck,ho1,iq hz1 hz2]
 ·cases h
theorem bF.set{g:G}:∀{ds:List D} {cs:List Value} {j:Nat} {d:D} {c:Value},bF g ds cs→bK g d c→bF g (ds.set j d) (cs.set j c)
 |[],[],_,_,_,_,_=>by simpa using bF.nil
 |_::_,_::_,0,_,_,.cons _ _ _ _ h1 h2,h => .cons _ _ _ _ h h2
 |_::_,_::_,j+1,_,_,.cons _ _ _ _ h1 h2,h => .cons _ _ _ _ h1 (h2.set h)
theorem ahJ(hf:Fr fb V g w B e tmps)(hi:Inv CR base g σ w){x y u:Operand}{X Y U:bM}{t kt et:TypeId}{ky:Ky}(hx:bH x=some X)(hy:bH y=some Y)(hu:bH u=some U)
  (ht:P.underlying t=some (.map kt et)) (hk:J8 P kt=some ky)
  (h:bN e σ (.mp (.put ky) [X,Y,U])=some (d,σ')) (o:Oper) (ho:o.op=.mapUpdate t x y u∨o.op=.insert t x y u):fY P CR base g w B e (Act.mk tmps df).eval o d σ':=by
 have hr:=hf.bj (df:=df) hx;have hr':=hf.bj (df:=df) hy;have hru:=hf.bj (df:=df) hu;simp only[bN,aQ,bV,BO]at h;split at h
 case h_2=>cases h
 rename_i l i es hm;split at h
 case isFalse=>cases h
 rename_i hself;obtain⟨b,dK,clock,v,hc,hl,hblk,hheap,hrel,hok⟩:=zT hi hr hm;have hck:=F5 (w:=w) hk hr' hself.1 false;generalize hkv:(Act.mk tmps df).eval y=kv at *
 generalize huv:(Act.mk tmps df).eval u=uv at *
 have hnew:bK g (.dM [bj e Y,bj e U]) (.tuple #[kv,uv]):=.dM _ _ (.cons _ _ _ _ hr' (.cons _ _ _ _ hru .nil));split at h
 ·rename_i j v1 hfk;cases h;obtain⟨o1,ho1,e1,he1,rfl,hv1⟩:=yy (w:=w) hk hr' hrel hfk hself.1;obtain⟨k',hk',hkq⟩:=LF hfk;have hj:dK[j]?=some e1:=by simpa using he1
  have hold:bK g k' e1.key:=by
   obtain⟨c0,hc0,hr0⟩:=hrel.get hk';rw[mO,he1]at hc0;cases hc0;exact(Nx hr0).1
  obtain⟨hsame,hbits⟩:=ag5 hkq hr' hold;have hlist:(dK.modify j fun e=>{e with key:=kv,val:=uv }).toList=dK.toList.set j {e1 with key:=kv,val:=uv }:=by
   rw[Array.toList_modify];apply eS;intro n;rw[List.getElem?_modify,List.getElem?_set];by_cases hn:j=n
   ·subst hn;have hlt:=(aD.1 he1).1;have hlt2:j<dK.size:=by simpa using hlt
    have hje:dK[j]=e1:=(cY.1 hj).2;simp[he1,hlt2,hje]
   ·simp[hn]
  obtain⟨i1,ev1⟩:=hi.ahM (es:=es.set j (.dM [bj e Y,bj e U])) (dK:=dK.modify j fun e=>{e with key:=kv,val:=uv }) (clock:=clock) (w':={w with heap:=w.heap.setIfInBounds b (.map (dK.modify j fun e=>{e with key:=kv,val:=uv }) clock) }) hl hblk (by
    rw[hlist,List.map_set];exact hrel.set hnew) (by
    have hlt:=(aD.1 he1);rw[hlist];refine⟨?_,by rw[List.length_set];exact hok.2⟩;rw[List.map_set,List.length_set];have:(dK.toList.map (·.born)).set j e1.born=dK.toList.map (·.born):=by
     apply eS;intro n;rw[List.getElem?_set];by_cases hn:j=n
     ·subst hn;have hlt2:j<dK.size:=by simpa using hlt.1
      have hje:dK[j]=e1:=(cY.1 hj).2;simp[he1,hlt2,hje]
     ·simp[hn]
    rw[this];exact hok.1) rfl
  refine⟨.skip,Go.undef,_,_,?_,rfl,ev1,i1,.undef _⟩;have hkts:∀w:World,(Instr.keyThatStays e1.key kv).run P w=.ok kv w:=fun w=>by simp[Instr.keyThatStays,hbits]
  rcases ho with ho | ho<;>simp[execOp,ho,Instr.mapUpdate,bq ht,hc,hkv,huv,MapKept.run_getObj_map hheap,hck,ho1,hj,hkts,MapKept.run_setObj_map _ hheap]
 ·rename_i hfk;cases h;obtain⟨o1,ho1,hf1⟩:=yy (w:=w) hk hr' hrel hfk hself.1;obtain rfl:o1=none:=hf1;obtain⟨i1,ev1⟩:=hi.ahM (es:=es++[.dM [bj e Y,bj e U]]) (dK:=dK.push {key:=kv,val:=uv,born:=clock }) (clock:=clock+1) (w':={w with heap:=w.heap.setIfInBounds b (.map (dK.push {key:=kv,val:=uv,born:=clock }) (clock+1)) }) hl hblk (by
    rw[Array.toList_push,List.map_append];exact hrel.append (.cons _ _ _ _ hnew .nil)) (by
    rw[Array.toList_push];have h2:=hok.2;refine⟨?_,by simp only[bB,aL,bG];omega⟩;rw[List.map_append,hok.1,bB,aL,bG,cf,List.range_succ];simp only[aQ,bV,h2]) rfl
  refine⟨.skip,Go.undef,_,_,?_,rfl,ev1,i1,.undef _⟩;rcases ho with ho | ho<;>simp[execOp,ho,Instr.mapUpdate,bq ht,hc,hkv,huv,MapKept.run_getObj_map hheap,hck,ho1,MapKept.run_setObj_map _ hheap]
 ·cases h
theorem Inv.ajt(hi:Inv CR base g σ w){l i lm im bm n:Nat}(hn:ij σ (.cells 1 [.mB lm im,.int .i64 (n:Nat)])=some (l,i,σ'))(hm:g.loc lm im=some (.mp bm)):
  Inv CR base (g.cJ l i (.it w.heap.size)) σ' (w.alloc (.mapIter (some bm) n #[] n))∧Ev g w (g.cJ l i (.it w.heap.size)) (w.alloc (.mapIter (some bm) n #[] n)):=by
 obtain⟨h1,h2,h3,_,_⟩:=j7 hn;have hnone:=hi.Dc h1;have hle:g.le (g.cJ l i (.it w.heap.size)):=G.kA fun L0 e=>by rw[hnone]at e;cases e
 refine⟨hi.HP l i hle h3 (fun l' i' c=>G.bE c) (fun l' i' L b c e eb=>alloc_old (hi.lo l' i' L b e eb).2) ?_ ?_ ?_ ?_ (by simp) ⟨_,G.aH⟩ (fun b v hb=>alloc_old (hi.jG hb)),⟨hle,rfl,rfl,rfl,by simp,fun b hb _=>alloc_old hb,?_,fun b o v hv => .inl hv⟩⟩
 ·intro L e;rw[G.aH]at e;cases e;have hm2:(g.cJ l i (.it w.heap.size)).loc lm im=some (.mp bm):=by
   rw[G.bE fun hh=>by rw[hh.1,hh.2,hnone]at hm;cases hm];exact hm
  exact⟨_,h2,rfl,lm,im,bm,n,[],rfl,hm2,sY,List.nodup_nil,by simp⟩
 ·intro b o v e;obtain⟨h1,h2⟩:=hi.rk b o v e;exact⟨(jV (alloc_old (hi.jG e))).trans h1,h2⟩
 ·intro l' i' L b e eb o;by_cases c:l'=l∧i'=i
  ·obtain⟨rfl,rfl⟩:=c;rw[G.aH]at e;cases e;cases eb;cases e':(g.cJ l' i' (.it w.heap.size)).rk w.heap.size o with
   |none=>rfl
   |some v=>have:=hi.jG (b:=w.heap.size) (o:=o) (v:=v) e';omega
  ·rw[G.bE c]at e;exact hi.sep l' i' L b e eb o
 ·intro L b e eb;rw[G.aH]at e;cases e;cases eb;refine⟨hi.ge,by simp,fun l' i' L' c e' eb'=>?_⟩;have:=(hi.lo l' i' L' _ e' eb').2;omega
 ·intro b hb;obtain⟨l',i',L,e,eb⟩:=hb;by_cases c:l'=l∧i'=i
  ·obtain⟨rfl,rfl⟩:=c;rw[G.aH]at e;cases e;cases eb;exact .inr (aK _)
  ·rw[G.bE c]at e;exact .inl ⟨l',i',L,e,eb⟩
theorem aza(hf:Fr fb V g w B e tmps)(hi:Inv CR base g σ w){x:Operand}{X:bM}{t kt et:TypeId}(hx:bH x=some X)(ht:P.underlying t=some (.map kt et))
  (h:bN e σ (.mp .rng [X])=some (d,σ')) (o:Oper) (ho:o.op=.range t x):fY P CR base g w B e (Act.mk tmps df).eval o d σ':=by
 have hr:=hf.bj (df:=df) hx;simp only[bN,aQ,bV,BO]at h;split at h
 case h_2=>cases h
 rename_i lm im es hm;obtain⟨b,dK,clock,v,hc,hl,hblk,hheap,hrel,hok⟩:=zT hi hr hm;simp only[ad,an,Prod.exists]at h;obtain⟨l,i,σ1,hn,rfl,rfl⟩:=h;have hlen:=hrel.length;simp only[dP]at hlen;have hck:clock=es.length:=by rw[hlen];exact hok.2
 obtain⟨i1,e1⟩:=hi.ajt hn hl;have hrun:=run_range_map (P:=P) w t kt et b dK clock ht hheap;rw[hck]at hrun;exact .val (.pointer (some ⟨w.heap.size,0,none⟩)) (by simp[execOp,ho,hc,hrun]) e1 i1 (.itv l i _ _ G.aH (.inl rfl))
theorem ayW(hf:Fr fb V g w B e tmps)(hi:Inv CR base g σ w){x:Operand}{X:bM}(hx:bH x=some X)
  (h:bN e σ (.mp .ent [X])=some (d,σ')) (o:Oper) (ho:o.op=.entry x):fY P CR base g w B e (Act.mk tmps df).eval o d σ':=by
 have hr:=hf.bj (df:=df) hx;simp only[bN,aQ,bV]at h;generalize bj e X=dx at hr h;cases dx<;>simp only[BO,reduceCtorEq]at h;rename_i l i;split at h
 case h_2=>cases h
 rename_i m n j rest hcs;split at h
 case h_2=>cases h
 rename_i lm im es hm;split at h
 case isFalse=>cases h
 rename_i hlen;split at h
 case h_2=>cases h
 rename_i k v hj;cases h;unfold cells? at hcs;split at hcs
 case h_2=>cases hcs
 rename_i v' cs' hblk;split at hcs
 case isFalse=>cases hcs
 rename_i hv1;cases hcs;generalize hcv:(Act.mk tmps df).eval x=cv at hr;cases hr with
 |mB _ _ b hl =>
  obtain⟨b0,hb0,hrel⟩:=hi.xU l i _ hl;rw[hblk]at hb0;cases hb0;exact hrel.elim
 |Tw _ _ b hl =>
  obtain⟨b0,hb0,hrel⟩:=hi.xU l i _ hl;rw[hblk]at hb0;cases hb0;have:=hrel.1;omega
 |Um _ _ b L hl hc =>
  obtain⟨b0,hb0,hrel⟩:=hi.xU l i _ hl;rw[hblk]at hb0;cases hb0;rcases hc with⟨c,rfl⟩ | rfl
  ·have:=hrel.1;omega
  ·exact hrel.elim
 |itv _ _ b L hl hc =>
  obtain⟨b0,hb0,hrel⟩:=hi.xU l i _ hl;rw[hblk]at hb0;cases hb0;rcases hc with rfl | rfl
  rotate_left
  ·exact hrel.elim
  obtain⟨_,lm',im',bm,n',js,hcs,hlm,hheap,hnd,hlt⟩:=hrel;cases js with
  |nil=>simp at hcs
  |cons j' js =>
   simp only[aQ,kF,D.int.injEq,true_and]at hcs;obtain⟨rfl,rfl,rfl,_⟩:=hcs;obtain⟨b2,dK,clock,v2,hc2,hl2,hblk2,hheap2,hrel2,hok⟩:=zT hi (.Tw lm' im' bm hlm) hm;cases hc2;have hlen2:=hrel2.length;simp only[dP]at hlen2;obtain⟨c0,hc0,hr0⟩:=hrel2.get hj;rw[mO]at hc0;simp only[Int.toNat_natCast]at hc0;obtain⟨e1,he1,rfl⟩:=ad.1 hc0;have hborn:e1.born=j':=by
    have h1:=congrArg (fun l=>l[j']?) hok.1;simp only[mO,he1,aU]at h1;have h2:=(aD.1 he1).1;rw[List.getElem?_range h2]at h1;exact Option.some.inj h1
   have hck:clock=n':=by have:=hok.2;omega
   have hnd2:(dK.toList.map (·.born)).Nodup:=by rw[hok.1];exact List.nodup_range
   have hit:w.heap[b]?=some (.mapIter (some bm) n' (js.reverse.toArray.push e1.born) clock):=by
    rw[hheap,hborn,hck];simp
   have hrun:=run_entry_at (P:=P) w b bm n' js.reverse.toArray dK clock e1 hit hheap2 (aj he1) hnd2;refine .pure hi (c:=.tuple #[e1.key,e1.val]) ?_ (cK.of hr0);simp[execOp,ho,hcv,hrun]
end
variable {P:Program} {CR:gC} {base fb:Nat} {V:List Nat} {g:G} {σ σ':SK} {w:World} {B:Nat→Nat} {e:Env} {tmps:Array Value} {df:List Deferred} {d:D}
theorem ay6(hf:Fr fb V g w B e tmps)(hi:Inv CR base g σ w){x:Operand}{X:bM}{t:TypeId}(hx:bH x=some X)(hc:P.concrete t=true)
  (h:bN e σ (.mki t X)=some (d,σ')) (o:Oper) (ho:o.op=.makeInterface t x):fY P CR base g w B e (Act.mk tmps df).eval o d σ':=by
 have hr:=hf.bj (df:=df) hx;simp only[bN,ae,an]at h;obtain⟨rfl,rfl⟩:=h;exact .pure hi (c:=.iface t ((Act.mk tmps df).eval x)) (by simp[execOp,ho,run_makeInterface w t _ hc]) (cK.of (.ud t _ _ hr))
theorem apk(hf:Fr fb V g w B e tmps)(hi:Inv CR base g σ w){x:Operand}{X:bM}{t xt:TypeId}{dsc:TypeDesc}{ok:Bool}{z:Option D}(hx:bH x=some X)(ht:P.underlying t=some dsc)(hn:∀ms,dsc ≠ .interface ms)
  (hz:if ok then ∃z0,z=some z0∧zvC P t=some z0 else z=none)
  (h:bN e σ (.tas t z X)=some (d,σ')) (o:Oper) (ho:o.op=.typeAssert x xt t ok):fY P CR base g w B e (Act.mk tmps df).eval o d σ':=by
 have hr:=hf.bj (df:=df) hx;simp only[bN,ad,an]at h;obtain⟨d0,h,rfl,rfl⟩:=h;generalize hcx:(Act.mk tmps df).eval x=cx at hr;generalize bj e X=dx at hr h;cases hr with
 |ud t' d1 c h1 =>
  simp only[QY]at h;cases ok with
  |true =>
   simp only[if_true]at hz;obtain⟨z0,rfl,hz⟩:=hz;obtain⟨iz,zv,hz1,hz2,hz3⟩:=Nz g hz;simp only[ae]at h;by_cases htt:t'=t
   ·rw[if_pos htt]at h;subst h;refine .pure hi (c:=.tuple #[c,.bool true]) ?_ (cK.of (.dM _ #[c,.bool true] (.cons _ _ _ _ h1 (.cons _ _ _ _ (.bool true) .nil))));simp only[execOp,ho,hcx,Instr.typeAssert,Sem.run_bind,run_underlying ht,Result.andThen_ok];cases dsc<;>first | exact absurd rfl (hn _) | simp[htt]
   ·rw[if_neg htt]at h;subst h;refine .pure hi (c:=.tuple #[zv,.bool false]) ?_ (cK.of (.dM _ #[zv,.bool false] (.cons _ _ _ _ hz3 (.cons _ _ _ _ (.bool false) .nil))));simp only[execOp,ho,hcx,Instr.typeAssert,Sem.run_bind,run_underlying ht,Result.andThen_ok];cases dsc<;>first | exact absurd rfl (hn _) | simp[htt,iq hz1 hz2]
  |false =>
   simp only[az,if_false]at hz;subst hz;simp only at h;split at h
   case isFalse=>cases h
   rename_i htt;cases h;refine .pure hi (c:=c) ?_ (cK.of h1);simp only[execOp,ho,hcx,Instr.typeAssert,Sem.run_bind,run_underlying ht,Result.andThen_ok];cases dsc<;>first | exact absurd rfl (hn _) | simp[htt]
 |pg =>
  simp only[QY,ad]at h;obtain⟨z1,rfl,rfl⟩:=h;cases ok with
  |true =>
   simp only[if_true]at hz;obtain⟨z0,hz0,hz⟩:=hz;cases hz0;obtain⟨iz,zv,hz1,hz2,hz3⟩:=Nz g hz;refine .pure hi (c:=.tuple #[zv,.bool false]) ?_ (cK.of (.dM _ #[zv,.bool false] (.cons _ _ _ _ hz3 (.cons _ _ _ _ (.bool false) .nil))));simp only[execOp,ho,hcx,Instr.typeAssert,Sem.run_bind,run_underlying ht,Result.andThen_ok];cases dsc<;>first | exact absurd rfl (hn _) | simp[iq hz1 hz2]
  |false=>simp at hz
 |_=>simp[QY]at h
theorem HM{t:TypeId}{ms:Array (String×TypeId)}(n:Nat)(ht:P.underlying t=some (.interface ms))(w:World):(Op.equalIn (n+1) t .nilIface .nilIface).run P w=.ok true w:=by
 rw[Op.equalIn];simp[run_underlying ht]
theorem IM{t t':TypeId}{c:Value}{ms:Array (String×TypeId)}(n:Nat)(ht:P.underlying t=some (.interface ms))(w:World):(Op.equalIn (n+1) t (.iface t' c) .nilIface).run P w=.ok false w:=by
 rw[Op.equalIn];simp[run_underlying ht]
theorem Kl{t:TypeId}{ms:Array (String×TypeId)}(ht:P.underlying t=some (.interface ms))(w:World):(Op.equal t .nilIface .nilIface).run P w=.ok true w:=HM 9999 ht w
theorem Li{t t':TypeId}{c:Value}{ms:Array (String×TypeId)}(ht:P.underlying t=some (.interface ms))(w:World):(Op.equal t (.iface t' c) .nilIface).run P w=.ok false w:=IM 9999 ht w
theorem aph(hf:Fr fb V g w B e tmps)(hi:Inv CR base g σ w){x:Operand}{X:bM}{t u:TypeId}{ms:Array (String×TypeId)}{neg:Bool}(hx:bH x=some X)(ht:P.underlying t=some (.interface ms))
  (h:bN e σ (.isi neg X)=some (d,σ')) (o:Oper) (ho:o.op=.binOp (if neg then .neq else .eql) t x (.const .nilIface) u):fY P CR base g w B e (Act.mk tmps df).eval o d σ':=by
 have hr:=hf.bj (df:=df) hx;simp only[bN,ad,an]at h;obtain⟨b,h,rfl,rfl⟩:=h;have hev:(Act.mk tmps df).eval (.const .nilIface)=.nilIface:=rfl;generalize hcx:(Act.mk tmps df).eval x=cx at hr;generalize bj e X=dx at hr h;cases hr with
 |pg =>
  cases h;refine .pure hi (c:=.bool (if neg then false else true)) ?_ (cK.of (by cases neg<;>exact .bool _));cases neg<;>simp[execOp,ho,hcx,hev,eqGuard,binOp,Kl ht]
 |ud t' d1 c h1 =>
  cases h;refine .pure hi (c:=.bool (if neg then true else false)) ?_ (cK.of (by cases neg<;>exact .bool _));cases neg<;>simp[execOp,ho,hcx,hev,eqGuard,binOp,Li ht]
 |_=>cases h
section
variable {P:Program} {CR:gC} {base fb:Nat} {V:List Nat} {g:G} {σ σ':SK} {w:World} {B:Nat→Nat} {e:Env} {tmps:Array Value} {df:List Deferred}
 {a:bP} {ops:Array Oper} {key:Nat} {k:K} {d:D}
theorem Qe(hf:Fr fb V g w B e tmps)(hi:Inv CR base g σ w){x y:Operand}{X Y:bM}{t u:TypeId}{b:BinOp}(hx:bH x=some X)(hy:bH y=some Y)
  (hk:eqC P b t X Y=some k) (h:bN e σ k=some (d,σ')) (o:Oper) (ho:o.op=.binOp b t x y u):fY P CR base g w B e (Act.mk tmps df).eval o d σ':=by
 unfold eqC at hk;split at hk
 case h_2=>cases hk
 rename_i ks hks;split at hk
 ·cases hk
 rename_i hg;have hg':P.eqGuardType P.depth t=false:=by simpa using hg
 split at hk
 ·obtain⟨ag,hag,rfl⟩:=ad.1 hk;exact apg hf hi hx hy hks hag hg' h o (by simpa using ho)
 ·obtain⟨ag,hag,rfl⟩:=ad.1 hk;exact apg hf hi hx hy hks hag hg' h o (by simpa using ho)
 ·cases hk
theorem ajO{ag:Bool}{sz:Nat}{X:bM}{r:D×SK}(h:bN e σ (.Vp ag sz X)=some r):bN e σ (.ld ag sz X)=some r:=by
 simp only[bN]at h ⊢;cases hx:bj e X<;>rw[hx]at h<;>try (cases h;done)
 simpa[HH]using h
theorem ajN{ag:Bool}{sz:Nat}{X:bM}{r:D×SK}(h:bN e σ (.Vo ag sz X)=some r):bN e σ (.ld ag sz X)=some r:=by
 simp only[bN]at h ⊢;cases hr:Vr σ (bj e X)with
 |none=>rw[hr]at h;cases h
 |some cs =>
  rw[hr]at h;have:HH σ (bj e X)=some cs:=by
   generalize bj e X=dx at hr;unfold Vr at hr;split at hr
   ·exact hr
   ·cases hr
  rw[this];exact h
theorem D3{w:World}(d:Nat){t el:TypeId}{a:Option Addr}(h:P.underlying t=some (.pointer el)):(Op.equalIn (d+1) t (.pointer a) (.pointer none)).run P w=.ok a.isNone w:=by
 cases a<;>simp[Op.equalIn,bq h]
theorem run_equalIn_slice_nil{w:World}(d:Nat){t el:TypeId}{a:Option Addr}{n c:Nat}(h:P.underlying t=some (.slice el)):(Op.equalIn (d+1) t (.slice a n c) (.slice none 0 0)).run P w=.ok a.isNone w:=by
 cases a<;>simp[Op.equalIn,bq h]
theorem ayZ(hi:Inv CR base g σ w){x y:Operand}{X:bM}{t u:TypeId}{b:BinOp}{ps bo:Bool}{cx cy:Value}(e1:(Act.mk tmps df).eval x=cx)(e2:(Act.mk tmps df).eval y=cy)
  (hg:∀b,(eqGuard b t x y cx cy).run P w=.ok () w) (hb:binOp .eql t cx cy=(do pure (.bool (← Op.equal t cx cy)))) (hb':binOp .neq t cx cy=(do pure (.bool (!(← Op.equal t cx cy)))))
  (heq:(Op.equal t cx cy).run P w=.ok bo w) (hn:Lc ps (bj e X)=some bo)
  (hk:isC ps b X=some k) (h:bN e σ k=some (d,σ')) (o:Oper) (ho:o.op=.binOp b t x y u):fY P CR base g w B e (Act.mk tmps df).eval o d σ':=by
 unfold isC at hk;split at hk
 ·cases hk;simp only[bN,hn,aU,ae,an]at h;obtain⟨rfl,rfl⟩:=h;refine .pure hi ?_ (cK.of (.bool _));simp[execOp,ho,e1,e2,hg,hb,heq]
 ·cases hk;simp only[bN,hn,aU,ae,an]at h;obtain⟨rfl,rfl⟩:=h;refine .pure hi ?_ (cK.of (.bool _));simp[execOp,ho,e1,e2,hg,hb',heq]
 ·cases hk
theorem OS{ps:Bool}{b:BinOp}{X:bM}(hk:isC ps b X=some k)(h:bN e σ k=some (d,σ')):∃bo,Lc ps (bj e X)=some bo:=by
 unfold isC at hk;split at hk<;>cases hk<;>simp only[bN,ad]at h<;>obtain⟨b,hb,_⟩:=h<;>exact⟨b,hb⟩
theorem ay0(hf:Fr fb V g w B e tmps)(hi:Inv CR base g σ w){x y:Operand}{X:bM}{t u el:TypeId}{b:BinOp}(hx:bH x=some X)(hy:bH y=some (.c .xH))(ht:P.underlying t=some (.pointer el))
  (hk:isC true b X=some k) (h:bN e σ k=some (d,σ')) (o:Oper) (ho:o.op=.binOp b t x y u):fY P CR base g w B e (Act.mk tmps df).eval o d σ':=by
 have hr:=hf.bj (df:=df) hx;have hr':=hf.bj (df:=df) hy;have e2:(Act.mk tmps df).eval y=.pointer none:=by
  generalize (Act.mk tmps df).eval y=c at hr';cases hr';rfl
 obtain⟨bo,hn⟩:=OS hk h;have:∃a,(Act.mk tmps df).eval x=.pointer a∧bo=a.isNone:=by
  generalize bj e X=dx at hr hn;generalize (Act.mk tmps df).eval x=cx at hr;cases hr<;>simp[Lc]at hn
  ·exact⟨none,rfl,by simp[← hn]⟩
  ·exact⟨_,rfl,by simp[← hn]⟩
  ·exact⟨_,rfl,by simp[← hn]⟩
 obtain⟨a,e1,rfl⟩:=this;refine ayZ hi e1 e2 (fun b=>by simp[eqGuard]) rfl rfl (D3 9999 ht) hn hk h o ho
theorem ay1(hf:Fr fb V g w B e tmps)(hi:Inv CR base g σ w){x y:Operand}{X:bM}{t u el:TypeId}{b:BinOp}(hx:bH x=some X)(hy:bH y=some (.c .aG))(ht:P.underlying t=some (.slice el))
  (hk:isC false b X=some k) (h:bN e σ k=some (d,σ')) (o:Oper) (ho:o.op=.binOp b t x y u):fY P CR base g w B e (Act.mk tmps df).eval o d σ':=by
 have hr:=hf.bj (df:=df) hx;have hr':=hf.bj (df:=df) hy;have e2:(Act.mk tmps df).eval y=.slice none 0 0:=by
  generalize (Act.mk tmps df).eval y=c at hr';cases hr';rfl
 obtain⟨bo,hn⟩:=OS hk h;have:∃a n c,(Act.mk tmps df).eval x=.slice a n c∧bo=a.isNone:=by
  generalize bj e X=dx at hr hn;generalize (Act.mk tmps df).eval x=cx at hr;cases hr<;>simp[Lc]at hn
  ·exact⟨none,_,_,rfl,by simp[← hn]⟩
  ·exact⟨_,_,_,rfl,by simp[← hn.2]⟩
  ·rename_i l i v off n w a cap L h1 h2 h3 h4 h5 h6 h7;refine⟨a,n,cap,rfl,?_⟩;cases a with
   |none=>have:=h4 rfl;omega
   |some a=>simp[← hn.2]
 obtain⟨a,n,c,e1,rfl⟩:=this;refine ayZ hi e1 e2 (fun b=>by simp[eqGuard]) rfl rfl (run_equalIn_slice_nil 9999 ht) hn hk h o ho
theorem ay9(hf:Fr fb V g w B e tmps)(hi:Inv CR base g σ w){x:Operand}{X:bM}(hx:bH x=some X)(h:bN e σ (.mA X)=some (d,σ'))(o:Oper)(ho:o.op=.nilCheck x):
  fY P CR base g w B e (Act.mk tmps df).eval o d σ':=by
 have hr:=hf.bj (df:=df) hx;simp only[bN]at h;generalize bj e X=dx at hr h;have key:(∃a,(Act.mk tmps df).eval x=.pointer (some a))∧d=dx∧σ'=σ:=by
  generalize (Act.mk tmps df).eval x=cx at hr;cases hr<;>simp at h
  ·exact⟨⟨_,rfl⟩,h.1.symm,h.2.symm⟩
  ·exact⟨⟨_,rfl⟩,h.1.symm,h.2.symm⟩
 obtain⟨⟨a,e1⟩,rfl,rfl⟩:=key;rw[e1]at hr;exact .pure hi (c:=.pointer (some a)) (by simp[execOp,ho,e1]) (cK.of hr)
theorem LO{x:Operand}(h:AM x=true):x=.const (.slice none 0 0):=by
 unfold AM at h;split at h
 ·rfl
 ·cases h
theorem auY(hf:Fr fb V g w B e tmps)(hi:Inv CR base g σ w){o:Oper}(hk:kC P a ops key o=some k)(h:bN e σ k=some (d,σ')):
  fY P CR base g w B e (Act.mk tmps df).eval o d σ':=by
 unfold kC at hk;split at hk
 ·rename_i x ho;obtain⟨X,hX,rfl⟩:=ad.1 hk;exact QI hf hi hX h o (.inl ho)
 ·rename_i x ho;split at hk
  ·rename_i hnil _ _;split at hk
   ·obtain⟨X,hX,rfl⟩:=ad.1 hk;exact auR hi h o (by rw[ho,LO hnil])
   ·obtain⟨X,hX,rfl⟩:=ad.1 hk;exact QI hf hi hX h o (.inr ho)
  ·obtain⟨X,hX,rfl⟩:=ad.1 hk;exact QI hf hi hX h o (.inr ho)
 ·rename_i c x y ho;split at hk
  ·rename_i c' x' y' h1 h2 h3;cases hk;exact auS hf hi h1 h2 h3 h o ho
  ·cases hk
 ·rename_i el ho;split at hk
  ·rename_i z d0 hz _;split at hk
   ·split at hk
    case h_2=>cases hk
    split at hk
    case h_2=>cases hk
    split at hk
    case h_2=>cases hk
    cases hk;exact ay4 hi hz h o ho
   cases hk;split at h
   ·cases h
   ·exact ayL hi hz h o ho
  ·cases hk
 ·rename_i t x ho;split at hk
  ·rename_i x' d0 hx _;cases hk;split at h
   ·cases h
   split at h
   ·split at h
    ·exact auI hf hi hx h o ho
    ·exact ayT hf hi hx h o ho
   ·exact auH hf hi hx h o ho
  ·cases hk
 ·rename_i t ps ho;split at hk
  ·rename_i fs z ht hz;split at hk
   ·rename_i hall;obtain⟨parts,hp,rfl⟩:=ad.1 hk;exact Nn hf hi ht hz hall hp h o ho
   ·cases hk
  ·rename_i n el z ht hz;split at hk
   ·rename_i wd hw;obtain⟨parts,hp,rfl⟩:=ad.1 hk;exact Pg hf hi ht hw hz hp h o ho
   ·cases hk
  ·cases hk
 ·rename_i t n ps ho;split at hk
  ·rename_i el ht;split at hk
   ·rename_i wd z d0 hw hz _;split at hk
    ·rename_i hc;obtain⟨parts,hp,rfl⟩:=ad.1 hk;dsimp only at h;split at h
     ·rename_i hn;simp only[af,au]at hn;obtain⟨⟨rfl,hpe⟩,_⟩:=hn;exact ayQ hf hi ht hw hz hc.1 hc.2.1 hc.2.2 hp (by simpa using hpe) h o ho
     split at h
     ·exact ayS hf hi ht hw hz hc.1 hc.2.1 hc.2.2 hp h o ho
     ·exact ayR hf hi ht hw hz hc.1 hc.2.1 hc.2.2 hp h o ho
    ·cases hk
   ·cases hk
  ·cases hk
 ·rename_i t x ho;split at hk
  ·rename_i ag sz n hag hsz hx;split at hk
   ·rename_i hc;simp only[af,au]at hc;cases hk;have hxe:x=.tmp n:=by
     cases x<;>simp only[bH,ae,bM.t.injEq,reduceCtorEq,ad,and_false,exists_false]at hx;rw[hx]
    split at h
    ·exact ay2 hf hi hag hsz hc.1 hc.2 h o (by rw[ho,hxe])
    ·split at h
     ·exact auN hf hi hx hag hsz hc.1 hc.2 (ajO h) o ho
     split at h
     ·exact auN hf hi hx hag hsz hc.1 hc.2 (ajN h) o ho
     ·exact auN hf hi hx hag hsz hc.1 hc.2 h o ho
   ·cases hk
  ·cases hk
 ·rename_i t x y ho;split at hk
  ·rename_i sz n y' hsz hx hy;cases hk;split at h
   ·cases h
   ·split at h
    ·exact aze hf hi hx hy hsz (TP h) o ho
    ·exact aze hf hi hx hy hsz h o ho
  ·cases hk
 ·rename_i b t x y u ho;split at hk
  ·rename_i hx hy;cases hk;exact ayP hf hi hx hy h o ho
  ·rename_i hx hy;exact Qe hf hi hx hy hk h o ho
  ·rename_i hx hy;exact Qe hf hi hx hy hk h o ho
  ·rename_i hx hy;exact Qe hf hi hx hy hk h o ho
  ·rename_i ht hx hy;split at hk
   ·cases hk;exact auT hf hi hx hy h o ho
   ·cases hk;exact apj hf hi hx hy h o ho
   ·cases hk;exact apj hf hi hx hy h o ho
   ·cases hk
  ·rename_i ht hx hy;exact ay0 hf hi hx hy ht hk h o ho
  ·rename_i ht hx hy;split at hk
   ·rename_i hsz;split at hk
    ·cases hk;exact api (neg:=false) hf hi hx hy ht hsz h o ho
    ·cases hk;exact api (neg:=true) hf hi hx hy ht hsz h o ho
    ·cases hk
   ·cases hk
  ·rename_i ht hx hy;exact ay1 hf hi hx hy ht hk h o ho
  ·rename_i ht hx hy;split at hk
   ·cases hk;exact aph (neg:=false) hf hi hx ht h o ho
   ·cases hk;exact aph (neg:=true) hf hi hx ht h o ho
   ·cases hk
  ·cases hk
 ·rename_i x ho;obtain⟨X,hX,rfl⟩:=ad.1 hk;exact ay9 hf hi hX h o ho
 ·rename_i b t x ho;obtain⟨X,hX,rfl⟩:=ad.1 hk;exact aBA hf hi hX h o ho
 ·rename_i s t x ho;split at hk
  ·rename_i hs ht hx;cases hk;exact ayV hf hi hx hs ht h o ho
  ·rename_i hs ht hx;split at hk
   ·rename_i he hw;cases hk;exact ayO hf hi hx hs he ht h o ho
   ·cases hk
  ·rename_i hs ht hx;split at hk
   ·rename_i he hw;cases hk;exact azc hf hi hx hs he ht h o ho
   ·cases hk
  ·cases hk
 ·rename_i t x ho;split at hk
  ·rename_i ht hx;obtain⟨wd,hw,rfl⟩:=ad.1 hk;exact azb hf hi hx ht h o ho
  ·cases hk
 ·rename_i f xs ys ho;split at hk
  ·rename_i hx hy;cases hk;exact ay5 hf hi hx hy h o ho
  ·cases hk
 ·rename_i t x y ho;split at hk
  ·rename_i el ht;split at hk
   ·rename_i hw hb hz hx hy;split at hk
    ·rename_i hc;cases hk;exact ay8 hf hi hx hy ht hw hb hz hc.1 hc.2 h o ho
    ·cases hk
   ·cases hk
  ·cases hk
 ·rename_i t x lo hh mx ho;split at hk
  ·rename_i ht hx hlo hhi hmx;obtain⟨wd,hw,rfl⟩:=ad.1 hk;exact azd hf hi hx ht hw hlo hhi hmx h o ho
  ·rename_i ht hx hlo hhi hmx;obtain⟨wd,hw,rfl⟩:=ad.1 hk;have hm:mx=none:=by
    cases mx with
    |none=>rfl
    |some m=>simp[xJ,ad]at hmx
   subst hm;exact auV hf hi hx ht hw hlo hhi h o ho
  ·rename_i ht hx hlo hhi hmx;cases hk;have hm:mx=none:=by
    cases mx with
    |none=>rfl
    |some m=>simp[xJ,ad]at hmx
   subst hm;exact auX hf hi hx ht hlo hhi h o ho
  ·cases hk
 ·rename_i s x i ho;split at hk
  ·rename_i fs x' hs hx;split at hk
   ·rename_i off sz hfc;split at hk
    ·rename_i hpos;cases hk;exact auJ hf hi hx hs hfc hpos h o ho
    ·cases hk
   ·cases hk
  ·cases hk
 ·rename_i s x i ho;split at hk
  ·rename_i fs x' hs hx;split at hk
   ·rename_i f hfi;split at hk
    ·rename_i hag hsz;split at hk
     ·cases hk;exact ayY hf hi hx hs hfi hag hsz h o ho
     ·cases hk
    ·cases hk
   ·cases hk
  ·cases hk
 ·rename_i t x y ho;split at hk
  ·rename_i ht hx hy;obtain⟨wd,hw,rfl⟩:=ad.1 hk;exact auK hf hi hx hy ht hw h o ho
  ·rename_i ht hx hy;obtain⟨wd,hw,rfl⟩:=ad.1 hk;exact auL hf hi hx hy ht hw h o ho
  ·cases hk
 ·rename_i t x y ho;split at hk
  ·rename_i ht hx hy;split at hk
   ·rename_i hag hsz;split at hk
    ·cases hk;exact auM hf hi hx hy ht hag hsz h o ho
    ·cases hk
   ·cases hk
  ·rename_i ht hx hy;cases hk;exact auU hf hi hx hy ht h o ho
  ·cases hk
 ·rename_i x i ho;obtain⟨X,hX,rfl⟩:=ad.1 hk;exact ayX hf hi hX h o ho
 ·rename_i c ho;obtain⟨callee,args,ts⟩:=c;dsimp only at hk;split at hk
  ·rename_i f;split at hk
   ·cases hk;cases h
   ·cases hk
  ·split at hk
   ·rename_i t tr x r hts ha;split at hk
    ·rename_i ht hx;cases hk;exact ay3 hf hi hx ht ha hts h o ho
    ·rename_i ht hx;cases hk;exact auW hf hi hx ht ha hts h o ho
    ·rename_i ht hx;cases hk;exact auQ hf hi hx ht ha hts h o ho
    ·rename_i ht;cases hk;exact ahI hi (.inl ⟨_,ht⟩) ha hts h o ho
    ·rename_i ht;split at hk
     ·rename_i hr;cases hk;exact ahI hi (.inr ⟨_,_,ht,hr⟩) ha hts h o ho
     ·cases hk
    ·cases hk
   ·cases hk
  ·cases hk;cases h
  ·split at hk
   ·rename_i ha;split at hk
    ·rename_i hx hy;cases hk;exact aBy hf hi hx hy ha h o ho
    ·cases hk
   ·cases hk
  ·split at hk
   ·rename_i ha;split at hk
    ·rename_i hx hy;cases hk;exact aBz hf hi hx hy ha h o ho
    ·cases hk
   ·cases hk
  ·split at hk
   ·rename_i t u x y hts ha;split at hk
    ·rename_i uu x' y' ht hu0 hx hy;split at hk
     case isFalse=>cases hk
     rename_i huu;have hu:P.underlying u=some .string∨∃e2,P.underlying u=some (.slice e2):=by
      cases uu<;>simp[ahB]at huu
      ·exact .inl hu0
      ·exact .inr ⟨_,hu0⟩
     split at hk
     ·rename_i hw hb hz;split at hk
      ·rename_i hc;cases hk;split at h
       ·rename_i hn;simp only[af]at hn;exact ayU hf hi (LO hn.1) hy ha hts ht hu hw hb hz hc.2.2.2 hc.2.1 hc.2.2.1 h o ho
       ·split at h
        ·rename_i hn;simp only[af]at hn;obtain⟨v,rfl⟩:∃v,x=.tmp v:=by
          have:=hn.2;cases x<;>simp[ah1]at this;exact⟨_,rfl⟩
         exact ayM hf hi rfl hy ha hts ht hu hw hb hz hc.2.2.2 hc.2.1 hc.2.2.1 h o ho
        split at h
        ·exact ayN hf hi hx hy ha hts ht hu hw hb hz hc.2.2.2 hc.2.1 hc.2.2.1 h o ho
        split at h
        ·exact ahH hf hi hx hy ha hts ht hu hw hb hz hc.2.2.2 hc.2.1 hc.2.2.1 (TO h) o ho
        ·exact ahH hf hi hx hy ha hts ht hu hw hb hz hc.2.2.2 hc.2.1 hc.2.2.1 h o ho
      ·cases hk
     ·cases hk
    ·cases hk
   ·cases hk
  ·cases hk
 ·rename_i t x ho;split at hk
  ·rename_i hc;obtain⟨X,hX,rfl⟩:=ad.1 hk;exact ay6 hf hi hX hc h o ho
  ·cases hk
 ·rename_i x xt t ok ho;split at hk
  ·cases hk
  ·rename_i dsc x' hnot ht hx;split at hk
   ·rename_i hok;subst hok;obtain⟨z,hz,rfl⟩:=ad.1 hk;exact apk hf hi hx ht (fun ms hms=>by subst hms;exact hnot _ rfl) (by simpa using hz) h o ho
   ·rename_i hok;cases hk;exact apk hf hi hx ht (fun ms hms=>by subst hms;exact hnot _ rfl) (by simp[hok]) h o ho
  ·cases hk
 ·rename_i x ho;obtain⟨X,hX,rfl⟩:=ad.1 hk;cases h
 ·rename_i t ho;cases hk;exact ay7 hi h o ho
 ·rename_i t k n ho;split at hk
  ·rename_i ht;cases hk;exact auP hi h ht o ho
  ·cases hk
 ·rename_i t x ho;split at hk
  ·rename_i ht hx;cases hk;exact aza hf hi hx ht h o ho
  ·cases hk
 ·rename_i x ho;split at hk
  ·rename_i hx;cases hk;exact ayW hf hi hx h o ho
  ·cases hk
 ·rename_i t x y ok ho;split at hk
  ·rename_i ht hx hy;split at hk
   ·rename_i hky hz;cases hk;exact auO hf hi hx hy ht hky hz h o ho
   ·cases hk
  ·cases hk
 ·rename_i t m x y ho;split at hk
  ·rename_i ht hm hx hy;split at hk
   ·rename_i hky;cases hk;exact ahJ hf hi hm hx hy ht hky h o (.inl ho)
   ·cases hk
  ·cases hk
 ·rename_i t m x y ho;split at hk
  ·rename_i ht hm hx hy;split at hk
   ·rename_i hky;cases hk;exact ahJ hf hi hm hx hy ht hky h o (.inr ho)
   ·cases hk
  ·cases hk
 ·cases hk
end
mutual
def D.low(n:Nat):D→Bool
 |.ref l .. => decide (l<n)
 |.sl l .. => decide (l<n)
 |.mB l _=>decide (l<n)
 |.vr .. => true
 |.emp=>true
 |.own _ cs=>D.mJ n cs
 |.agg cs=>D.mJ n cs
 |.dM cs=>D.mJ n cs
 |.bI cs=>D.mJ n cs
 |.aI _ cs=>D.mJ n cs
 |.fn _ a b=>D.mJ n a && D.mJ n b
 |.undef=>true
 |.bool _=>true
 |.int _ _=>true
 |.str _=>true
 |.xH=>true
 |.aG=>true
 |.iS=>true
 |.ud _ d=>D.low n d
 |.pg=>true
def D.mJ(n:Nat):List D→Bool
 |[]=>true
 |d::ds=>D.low n d && D.mJ n ds
end
theorem CI{n:Nat}{ds:List D}:D.mJ n ds=true↔∀d∈ds,d.low n=true:=by
 induction ds with
 |nil=>simp[D.mJ]
 |cons d ds ih=>simp[D.mJ,ih]
mutual
theorem uW{n:Nat}:∀{d:D},d.clean=true→d.low n=true
 |.ref ..,h=>by simp[D.clean]at h
 |.sl ..,h=>by simp[D.clean]at h
 |.mB ..,h=>by simp[D.clean]at h
 |.vr ..,_=>rfl
 |.emp,_=>rfl
 |.own _ cs,h=>qU (ds:=cs) (by simpa[D.clean]using h)
 |.agg cs,h=>qU (ds:=cs) (by simpa[D.clean]using h)
 |.dM cs,h=>qU (ds:=cs) (by simpa[D.clean]using h)
 |.bI cs,h=>qU (ds:=cs) (by simpa[D.clean]using h)
 |.aI _ cs,h=>qU (ds:=cs) (by simpa[D.clean]using h)
 |.fn _ a b,h=>by
  simp only[D.clean,af]at h;simp only[D.low,af];exact⟨qU h.1,qU h.2⟩
 |.undef,_=>rfl
 |.bool _,_=>rfl
 |.int _ _,_=>rfl
 |.str _,_=>rfl
 |.xH,_=>rfl
 |.aG,_=>rfl
 |.iS,_=>rfl
 |.ud _ d,h=>uW (d:=d) (by simpa[D.clean]using h)
 |.pg,_=>rfl
theorem qU{n:Nat}:∀{ds:List D},D.bC ds=true→D.mJ n ds=true
 |[],_=>rfl
 |d::ds,h=>by
  simp only[D.bC,af]at h;simp only[D.mJ,af];exact⟨uW h.1,qU h.2⟩
end
mutual
theorem bK.low{g:G}{n:Nat}(hn:∀l i L,g.loc l i=some L→l<n):∀{d:D} {c:Value},bK g d c→d.low n=true
 |_,_,.undef c=>rfl
 |_,_,.bool b=>rfl
 |_,_,.int k n=>rfl
 |_,_,.str s=>rfl
 |_,_,.agg ds cs hr h1=>bF.low hn hr
 |_,_,.dM ds cs hr=>bF.low hn hr
 |_,_,.xH=>rfl
 |_,_,.ref l i v off b o L e hv hc hn'=>by simp only[D.low,au];exact hn l i L e
 |_,_,.bI ds b o vs hr hl=>bF.low hn hl
 |_,_,.aG=>rfl
 |_,_,.xD=>rfl
 |_,_,.aI n' ds a cap vs hn' hr hs hl=>bF.low hn hl
 |_,_,.sl l i v off n' w a cap L e hv hn' ha hs hc hc'=>by simp only[D.low,au];exact hn l i L e
 |_,_,.fn f fs cs fs' cs' h1 h2=>by simp only[D.low,af];exact⟨bF.low hn h1,bF.low hn h2⟩
 |_,_,.iS=>rfl
 |_,_,.mB l i b e=>by simp only[D.low,au];exact hn l i _ e
 |_,_,.Tw l i b e=>by simp only[D.low,au];exact hn l i _ e
 |_,_,.itv l i b L e hc=>by simp only[D.low,au];exact hn l i _ e
 |_,_,.Um l i b L e hc=>by simp only[D.low,au];exact hn l i _ e
 |_,_,.ud t d c h1=>by rw[D.low];exact bK.low hn h1
 |_,_,.pg=>rfl
theorem bF.low{g:G}{n:Nat}(hn:∀l i L,g.loc l i=some L→l<n):∀{ds:List D} {cs:List Value},bF g ds cs→D.mJ n ds=true
 |_,_,.nil=>rfl
 |_,_,.cons d c ds cs h1 h2=>by simp only[D.mJ,af];exact⟨bK.low hn h1,bF.low hn h2⟩
end
def G.cut(g:G)(n:Nat):G:=⟨fun l i=>if l<n then g.loc l i else none,g.rk⟩
theorem G.tH{g:G}{n l i:Nat}(h:l<n):(g.cut n).loc l i=g.loc l i:=by simp[G.cut,h]
theorem G.xp{g:G}{n l i:Nat}{L:Loc}(h:(g.cut n).loc l i=some L):l<n∧g.loc l i=some L:=by
 simp only[G.cut]at h;split at h
 ·exact⟨by assumption,h⟩
 ·cases h
mutual
theorem bK.cut{g:G}{n:Nat}:∀{d:D} {c:Value},bK g d c→d.low n=true→bK (g.cut n) d c
 |_,_,.undef c,_ => .undef c
 |_,_,.bool b,_ => .bool b
 |_,_,.int k n,_ => .int k n
 |_,_,.str s,_ => .str s
 |_,_,.agg ds cs hr h1,h => .agg ds cs (bF.cut hr h) h1
 |_,_,.dM ds cs hr,h => .dM ds cs (bF.cut hr h)
 |_,_,.xH,_ => .xH
 |_,_,.ref l i v off b o L e hv hc hn',h => .ref l i v off b o L ((G.tH (by simpa[D.low]using h)).trans e) hv hc hn'
 |_,_,.bI ds b o vs hr hl,h => .bI ds b o vs hr (bF.cut hl h)
 |_,_,.aG,_ => .aG
 |_,_,.xD,_ => .xD
 |_,_,.aI n' ds a cap vs hn' hr hs hl,h => .aI n' ds a cap vs hn' hr hs (bF.cut hl h)
 |_,_,.sl l i v off n' w a cap L e hv hn' ha hs hc hc',h => .sl l i v off n' w a cap L ((G.tH (by simpa[D.low]using h)).trans e) hv hn' ha hs hc hc'
 |_,_,.fn f fs cs fs' cs' h1 h2,h=>by
  simp only[D.low,af]at h;exact .fn f fs cs fs' cs' (bF.cut h1 h.1) (bF.cut h2 h.2)
 |_,_,.iS,_ => .iS
 |_,_,.mB l i b e,h => .mB l i b ((G.tH (by simpa[D.low]using h)).trans e)
 |_,_,.Tw l i b e,h => .Tw l i b ((G.tH (by simpa[D.low]using h)).trans e)
 |_,_,.itv l i b L e hc,h => .itv l i b L ((G.tH (by simpa[D.low]using h)).trans e) hc
 |_,_,.Um l i b L e hc,h => .Um l i b L ((G.tH (by simpa[D.low]using h)).trans e) hc
 |_,_,.ud t d c h1,h => .ud t d c (bK.cut h1 h)
 |_,_,.pg,_ => .pg
theorem bF.cut{g:G}{n:Nat}:∀{ds:List D} {cs:List Value},bF g ds cs→D.mJ n ds=true→bF (g.cut n) ds cs
 |_,_,.nil,_ => .nil
 |_,_,.cons d c ds cs h1 h2,h=>by
  simp only[D.mJ,af]at h;exact .cons d c ds cs (bK.cut h1 h.1) (bF.cut h2 h.2)
end
mutual
theorem CJ{n m:Nat}(hm:n≤m):∀{d:D},d.low n=true→d.low m=true
 |.ref l ..,h=>by simp only[D.low,au]at h ⊢;omega
 |.sl l ..,h=>by simp only[D.low,au]at h ⊢;omega
 |.mB l _,h=>by simp only[D.low,au]at h ⊢;omega
 |.vr ..,_=>rfl
 |.emp,_=>rfl
 |.own _ cs,h=>rN (ds:=cs) hm h
 |.agg cs,h=>rN (ds:=cs) hm h
 |.dM cs,h=>rN (ds:=cs) hm h
 |.bI cs,h=>rN (ds:=cs) hm h
 |.aI _ cs,h=>rN (ds:=cs) hm h
 |.fn _ a b,h=>by
  simp only[D.low,af]at h ⊢;exact⟨rN hm h.1,rN hm h.2⟩
 |.undef,_=>rfl
 |.bool _,_=>rfl
 |.int _ _,_=>rfl
 |.str _,_=>rfl
 |.xH,_=>rfl
 |.aG,_=>rfl
 |.iS,_=>rfl
 |.ud _ d,h=>CJ (d:=d) hm h
 |.pg,_=>rfl
theorem rN{n m:Nat}(hm:n≤m):∀{ds:List D},D.mJ n ds=true→D.mJ m ds=true
 |[],_=>rfl
 |d::ds,h=>by
  simp only[D.mJ,af]at h ⊢;exact⟨CJ hm h.1,rN hm h.2⟩
end
def aF.low(n:Nat):aF→Prop
 |.cells _ cs=>D.mJ n cs=true
 |.dead=>True
 |.loop lp=>∀t,(get lp.env t).low n=true
def rU(σ:SK):Prop:=∀l i b,ej σ l i=some b→l+1<σ.length→b.low (l+1)
theorem rU.set{σ:SK}(h:rU σ){l i:Nat}{b:aF}(hb:l+1<σ.length→b.low (l+1)):rU (aW σ l i b):=by
 intro l' i' b' h1 h2;rw[dF]at h2;by_cases hc:l'=l∧i'=i
 ·obtain⟨rfl,rfl⟩:=hc;cases h0:ej σ l' i' with
  |none =>
   have:ej (aW σ l' i' b) l' i'=none:=by
    unfold aW;cases hs:gr σ l' with
    |none=>exact h0
    |some s =>
     simp only[ej,ti (AX hs),Option.bind_some];simp only[ej,hs,Option.bind_some]at h0;rw[List.getElem?_eq_none_iff]at h0 ⊢;simpa using h0
   rw[this]at h1;cases h1
  |some b0=>rw[qT h0]at h1;cases h1;exact hb h2
 ·rw[gl hc]at h1;exact h l' i' b' h1 h2
theorem rU.new{σ σ':SK}(h:rU σ){l i:Nat}{b:aF}(hn:ij σ b=some (l,i,σ')):rU σ':=by
 obtain⟨h1,h2,h3,h4,h5⟩:=j7 hn;intro l' i' b' e hl;by_cases hc:l'=l∧i'=i
 ·omega
 ·rw[h3 l' i' hc]at e;exact h l' i' b' e (by omega)
structure gN(σ σ':SK):Prop where
 len:σ'.length=σ.length
 low:rU σ→rU σ'
theorem gN.refl(σ:SK):gN σ σ:=⟨rfl,id⟩
theorem gN.trans{a b c:SK}(h:gN a b)(h':gN b c):gN a c:=⟨h'.len.trans h.len,fun x=>h'.low (h.low x)⟩
theorem gN.new{σ σ':SK}{l i:Nat}{b:aF}(hn:ij σ b=some (l,i,σ')):gN σ σ':=⟨(j7 hn).2.2.2.1,fun h=>h.new hn⟩
theorem gN.set{σ:SK}{l i:Nat}{b:aF}(hb:l+1<σ.length→b.low (l+1)):gN σ (aW σ l i b):=⟨dF,fun h=>h.set hb⟩
theorem sW:∀(nb:List (Nat×Nat)) (cs cs':List D) (σ σ':SK),kV nb cs σ=some (cs',σ')→gN σ σ'
 |[],cs,cs',σ,σ',h=>by simp only[kV,ae,an]at h;obtain⟨rfl,rfl⟩:=h;exact .refl _
 |(p,w)::r,cs,cs',σ,σ',h=>by
  simp only[kV]at h;split at h
  ·simp only[aR,ah]at h;obtain⟨⟨l,i,σ1⟩,hn,h⟩:=h;exact(gN.new hn).trans (sW r _ _ _ _ h)
  ·exact sW r _ _ _ _ h
theorem zS(l:Nat):∀(n:Nat) (d:D) (σ:SK),(cG l n d σ).1.low (l+1)=true∧gN σ (cG l n d σ).2
 |0,d,σ=>⟨rfl,.refl _⟩
 |n+1,d,σ=>by
  have ih:∀(ds:List D) (σ:SK),D.mJ (l+1) (cG.frzL (cG l n) ds σ).1=true∧gN σ (cG.frzL (cG l n) ds σ).2:=by
   intro ds;induction ds with
   |nil=>intro σ;exact⟨rfl,.refl _⟩
   |cons d ds ihd =>
    intro σ;obtain⟨h1,h2⟩:=zS l n d σ;obtain⟨h3,h4⟩:=ihd (cG l n d σ).2;simp only[cG.frzL,D.mJ,af];exact⟨⟨h1,h3⟩,h2.trans h4⟩
  simp only[cG];split
  ·rename_i hc;exact⟨uW hc,.refl _⟩
  cases d with
  |agg cs=>exact ih cs σ
  |dM cs=>exact ih cs σ
  |bI cs=>exact ih cs σ
  |aI m cs=>exact ih cs σ
  |own s cs=>exact ih cs σ
  |fn f a b =>
   obtain⟨h1,h2⟩:=ih a σ;obtain⟨h3,h4⟩:=ih b (cG.frzL (cG l n) a σ).2;refine⟨?_,h2.trans h4⟩;simp only[D.low,af];exact⟨h1,h3⟩
  |ref l' i v off =>
   dsimp only;split
   ·refine⟨?_,.refl _⟩;simp only[D.low,au];omega
   ·exact⟨rfl,.refl _⟩
  |mB l' i =>
   dsimp only;split
   ·refine⟨?_,.refl _⟩;simp only[D.low,au];omega
   ·exact⟨rfl,.refl _⟩
  |sl l' i v off m w =>
   dsimp only;split
   ·refine⟨?_,.refl _⟩;simp only[D.low,au];omega
   ·split
    ·rename_i cs hcs;obtain⟨h1,h2⟩:=ih ((cs.drop off).take (m*w)) (aW σ l' i .dead);exact⟨h1,(gN.set (b:=.dead) fun _=>trivial).trans h2⟩
    ·exact⟨rfl,.refl _⟩
  |_=>exact⟨rfl,.refl _⟩
theorem C9(l n:Nat)(ds:List D):∀(σ:SK),D.mJ (l+1) (cG.frzL (cG l n) ds σ).1=true∧gN σ (cG.frzL (cG l n) ds σ).2:=by
 induction ds with
 |nil=>intro σ;exact⟨rfl,.refl _⟩
 |cons d ds ihd =>
  intro σ;obtain⟨h1,h2⟩:=zS l n d σ;obtain⟨h3,h4⟩:=ihd (cG l n d σ).2;simp only[cG.frzL,D.mJ,af];exact⟨⟨h1,h3⟩,h2.trans h4⟩
theorem LI(l:Nat):∀(e:Env) (σ:SK),(∀p∈(sR l e σ).1,p.2.low (l+1)=true)∧gN σ (sR l e σ).2
 |[],σ=>⟨by simp[sR],.refl _⟩
 |(t,d)::e,σ=>by
  obtain⟨h1,h2⟩:=zS l deep d σ;obtain⟨h3,h4⟩:=LI l e (cG l deep d σ).2;simp only[sR];refine⟨?_,h2.trans h4⟩;intro p hp;rcases bf.1 hp with rfl | hp
  ·exact h1
  ·exact h3 p hp
theorem AA{σ:SK}(h:rU σ){l i v:Nat}{cs:List D}(hc:cells? σ l i v=some cs)(hl:l+1<σ.length):D.mJ (l+1) cs=true:=by
 unfold cells? at hc;split at hc
 case h_2=>cases hc
 rename_i v' cs' hb;split at hc
 case isFalse=>cases hc
 cases hc;exact h l i _ hb hl
theorem yE{n:Nat}{a b:List D}:D.mJ n (a++b)=true↔D.mJ n a=true∧D.mJ n b=true:=by
 simp only[CI,bg];exact⟨fun h=>⟨fun d hd=>h d (.inl hd),fun d hd=>h d (.inr hd)⟩,fun h d hd=>hd.elim (h.1 d) (h.2 d)⟩
theorem HA{n k:Nat}{a:List D}(h:D.mJ n a=true):D.mJ n (a.take k)=true:=by
 rw[CI]at h ⊢;exact fun d hd=>h d (cV hd)
theorem Hz{n k:Nat}{a:List D}(h:D.mJ n a=true):D.mJ n (a.drop k)=true:=by
 rw[CI]at h ⊢;exact fun d hd=>h d (ea hd)
theorem ahj{σ σ':SK}{d:D}{o:Mo}{ds:List D}(h:BO σ o ds=some (d,σ'))(hk:o.calm=true):σ'=σ:=by
 unfold BO at h;split at h
 ·simp[Mo.calm]at hk
 ·simp[Mo.calm]at hk
 ·split at h
  ·split at h
   ·split at h<;>first | (cases h;done) | (cases h;rfl)
   ·cases h
  ·cases h
 ·simp[Mo.calm]at hk
 ·simp only[ad,an]at h;obtain⟨_,_,_,rfl⟩:=h;rfl
 ·simp[Mo.calm]at hk
 ·split at h
  ·split at h
   ·split at h
    ·split at h
     ·cases h;rfl
     ·cases h
    ·cases h
   ·cases h
  ·cases h
 ·cases h
theorem ahd{σ σ':SK}{d:D}{o:Me}{ds:List D}(h:meD σ o ds=some (d,σ')):σ'=σ:=by
 unfold meD at h;split at h
 ·cases h
 ·simp only[ah,ad,an]at h;obtain⟨_,_,_,_,_,rfl⟩:=h;rfl
 ·cases h;rfl
 ·split at h<;>cases h;rfl
 ·split at h<;>cases h;rfl
 ·cases h
theorem Pl{e:Env}{σ σ':SK}{d:D}{k:K}(h:bN e σ k=some (d,σ'))(hk:k.calm=true):σ'=σ:=by
 by_cases hm:∃o xs,k=.mp o xs
 ·obtain⟨o,xs,rfl⟩:=hm;exact ahj h hk
 by_cases hm':∃o xs,k=.me o xs
 ·obtain⟨o,xs,rfl⟩:=hm';exact ahd h
 cases k<;>(try (exact absurd ⟨_,_,rfl⟩ hm))<;>(try (exact absurd ⟨_,_,rfl⟩ hm'))<;>clear hm hm'<;>simp only[K.calm,az]at hk<;>simp only[bN,aR,reduceCtorEq]at h<;>(repeat' split at h)<;>
  simp only[ad,ah,ae,an,Prod.exists,reduceCtorEq,exists_eq_left,and_false,exists_false]at h<;>(try split at h)<;>
  simp_all<;>(try (obtain⟨_,_,h⟩:=h;simp_all))<;>(try grind)
theorem Tj{e:Env}{σ σ':SK}{d:D}{nb:List (Nat×Nat)}{sz:Nat}{a x:bM}(h:bN e σ (.st nb sz a x)=some (d,σ')):gN σ σ':=by
 simp only[bN]at h;split at h
 case h_2=>cases h
 split at h
 case h_2=>cases h
 rename_i l i v off hX _ cs hcs;split at h
 case h_2=>cases h
 rename_i p hcells;split at h
 case isFalse=>cases h
 rename_i hc;split at h
 ·rename_i htop;split at h
  ·rename_i p' σ1 hnb;cases h;have hg:=sW _ _ _ _ _ hnb;exact hg.trans (gN.set fun hl=>by have:=hg.len;omega)
  ·cases h
 ·rename_i htop;cases h;obtain⟨h1,h2⟩:=C9 l deep p σ;refine⟨dF.trans h2.len,fun hl=>(h2.low hl).set fun hlt=>?_⟩;have hcl:=AA hl hcs (by have:=h2.len;omega);simp only[aF.low,yE];exact⟨⟨HA hcl,h1⟩,Hz hcl⟩
theorem J5{e:Env}{σ σ':SK}{d:D}{w bytes:Nat}{s x:bM}(h:bN e σ (.app w bytes s x)=some (d,σ')):gN σ σ':=by
 simp only[bN,aR,ah]at h;obtain⟨⟨m,xs⟩,he,h⟩:=h;dsimp only at h;split at h
 ·split at h
  case isFalse=>cases h
  split at h
  ·cases h;exact .refl _
  ·simp only[ah]at h;obtain⟨⟨l,i,σ1⟩,hn,h⟩:=h;cases h;exact .new hn
 ·split at h
  case h_2=>cases h
  rename_i l i v off n w' hX _ cs hcs;split at h
  case isFalse=>cases h
  split at h
  ·cases h;exact .set fun hl=>by omega
  ·cases h;obtain⟨h1,h2⟩:=C9 l deep xs σ;refine⟨dF.trans h2.len,fun hl=>(h2.low hl).set fun hlt=>?_⟩;have hcl:=AA hl hcs (by have:=h2.len;omega);simp only[aF.low,yE];exact⟨HA (Hz hcl),h1⟩
 ·cases h
theorem ahb{n j:Nat}{a:List D}{x:D}(h:D.mJ n a=true)(hx:x.low n=true):D.mJ n (a.set j x)=true:=by
 rw[CI]at h ⊢;intro d hd;rcases List.mem_or_eq_of_mem_set hd with h1 | rfl
 ·exact h d h1
 ·exact hx
theorem ajc{σ σ':SK}{d:D}{o:Mo}{ds:List D}(h:BO σ o ds=some (d,σ')):gN σ σ':=by
 unfold BO at h;split at h
 ·simp only[ad,an,Prod.exists]at h;obtain⟨l,i,σ1,hn,_,rfl⟩:=h;exact .new hn
 ·simp only[ad,an,Prod.exists]at h;obtain⟨l,i,σ1,hn,_,rfl⟩:=h;exact .new hn
 ·split at h
  ·split at h
   ·split at h<;>first | (cases h;done) | (cases h;exact .refl _)
   ·cases h
  ·cases h
 ·rename_i ky m k v;split at h
  ·rename_i l i es hm;obtain⟨rfl,hcs⟩:=O3 hm;split at h
   case isFalse=>cases h
   rename_i hc;have hlow:l+1<σ.length→k.low (l+1)=true∧v.low (l+1)=true:=fun hl=>by
    rcases hc.2 with h1 | ⟨h1,h2⟩
    ·omega
    ·exact⟨uW h1,uW h2⟩
   split at h
   ·cases h;refine⟨dF,fun hS=>hS.set fun hl=>?_⟩;have hcl:=AA hS hcs hl;obtain⟨h1,h2⟩:=hlow hl;simp only[aF.low];exact ahb hcl (by simp[D.low,D.mJ,h1,h2])
   ·cases h;refine⟨dF,fun hS=>hS.set fun hl=>?_⟩;have hcl:=AA hS hcs hl;obtain⟨h1,h2⟩:=hlow hl;simp only[aF.low,yE];exact⟨hcl,by simp[D.low,D.mJ,h1,h2]⟩
   ·cases h
  ·cases h
 ·simp only[ad,an]at h;obtain⟨_,_,_,rfl⟩:=h;exact .refl _
 ·split at h
  ·simp only[ad,an,Prod.exists]at h;obtain⟨l,i,σ1,hn,_,rfl⟩:=h;exact .new hn
  ·cases h
 ·split at h
  ·split at h
   ·split at h
    ·split at h
     ·cases h;exact .refl _
     ·cases h
    ·cases h
   ·cases h
  ·cases h
 ·cases h
theorem ahN{e:Env}{σ σ':SK}{d:D}:∀{k:K},bN e σ k=some (d,σ')→gN σ σ'
 |.st ..,h=>Tj h
 |.app ..,h=>J5 h
 |.Uj ..,h=>J5 (TO h)
 |.apz w bytes s x,h=>by
  simp only[bN,ad,Prod.exists]at h;obtain⟨d1,σ1,h1,h2⟩:=h;obtain⟨h3,h4⟩:=zS 0 deep d1 σ1;rw[h2]at h4;exact(J5 (by rw[Nt];exact h1)).trans h4
 |.K5 nb cs,h=>by
  simp only[bN,aR,ah]at h;obtain⟨⟨cs',σ1⟩,hnb,⟨l,i,σ2⟩,hn,h⟩:=h;cases h;exact(sW _ _ _ _ _ hnb).trans (.new hn)
 |.pB w,h=>by
  simp only[bN,aR,ah]at h;obtain⟨⟨l,i,σ2⟩,hn,h⟩:=h;cases h;exact .new hn
 |.bxn nb x,h=>by
  simp only[bN,aR,ah]at h;obtain⟨cs,_,⟨cs',σ1⟩,hnb,⟨l,i,σ2⟩,hn,h⟩:=h;cases h;exact(sW _ _ _ _ _ hnb).trans (.new hn)
 |.K7 x,h=>by
  simp only[bN,aR,ah]at h;obtain⟨cs,_,⟨l,i,σ2⟩,hn,h⟩:=h;cases h;exact .new hn
 |.Oa ..,h=>by
  simp only[bN,aR,ah]at h;obtain⟨cs,_,⟨l,i,σ2⟩,hn,h⟩:=h;cases h;exact .new hn
 |.mks ..,h=>by
  simp only[bN]at h;split at h
  ·split at h
   ·simp only[aR,ah]at h;obtain⟨⟨l,i,σ2⟩,hn,h⟩:=h;cases h;exact .new hn
   ·cases h
  ·cases h
 |.mv _,h=>same h rfl
 |.pick ..,h=>same h rfl
 |.eJ ..,h=>by simp[bN]at h
 |.K6 _,h=>same h rfl
 |.Hj _,h=>by simp[bN]at h
 |.lK ..,h=>same h rfl
 |.uH ..,h=>same h rfl
 |.ld ..,h=>same h rfl
 |.Vp ..,h=>same h rfl
 |.Vo ..,h=>same h rfl
 |.QP os sz a x,h=>Tj (TP h)
 |.Vn ..,h=>same h rfl
 |.mA ..,h=>same h rfl
 |.Vq ..,h=>same h rfl
 |.IN ..,h=>by simp[bN]at h
 |.bin ..,h=>same h rfl
 |.eqv ..,h=>same h rfl
 |.un ..,h=>same h rfl
 |.Oj ..,h=>same h rfl
 |.yF ..,h=>same h rfl
 |.Md ..,h=>same h rfl
 |.QL ..,h=>same h rfl
 |.K9 ..,h=>same h rfl
 |.fld ..,h=>same h rfl
 |.BM ..,h=>same h rfl
 |.fh ..,h=>same h rfl
 |.MZ ..,h=>same h rfl
 |.Ld ..,h=>same h rfl
 |.Qp ..,h=>same h rfl
 |.mn ..,h=>same h rfl
 |.mx ..,h=>same h rfl
 |.cpi ..,h=>same h rfl
 |.bse,h=>same h rfl
 |.ape ..,h=>same h rfl
 |.ext ..,h=>same h rfl
 |.rl ..,h=>same h rfl
 |.mp ..,h=>ajc h
 |.me ..,h=>same h rfl
 |.mki ..,h=>same h rfl
 |.tas ..,h=>same h rfl
 |.isi ..,h=>same h rfl
 |.PC _,h=>by simp[bN]at h
 |.PD,h=>by simp[bN]at h
 |.call ..,h=>by simp[bN]at h
where
 same {e:Env} {σ σ':SK} {d:D} {k:K} (h:bN e σ k=some (d,σ')) (hk:k.calm=true):gN σ σ':=by
  rw[Pl h hk];exact .refl _
end Go.Abs
